import PyProof.Rows.All
import Wide.All
import OpenK.AllK
import Wide.FinOn
import HandS.ForMost
import HandS.Flow
import KE.DataEq
import KE.DataCmp
import HandS.CallSlots
import HandS.TryOnly
import HandS.TupAny
import HandS.Style
import HandS.Star
import HandS.Wide
import KE.DataAny
import KE.DataMinMax
import KE.DataFind
import KE.SortData
import PyProof.ReprRoads
import HandS.Text
import KE.GoesZip
import KE.GoesMore
import HandS.Zip
import HandS.Conv
import HandS.RaiseMore
import PyProof.ReprLen
import PyProof.Claim2Refuses
import HandS.Ends
import HandS.Words
import HandS.List
import HandS.SetFor
import HandS.Strs
import HandS.TupSets
import HandS.Gcd
import HandS.Exc
import HandS.TryMany
import HandS.ExcIs
import HandS.ExcField
import HandS.ExcCtx
import HandS.ExcSuper
import KE.KSuper
import KE.KExcSuper
import HandS.Deep
import PySem.Challenge.RW_hiddenandsought_k70_whole_keys_locked_in
set_option Elab.async false
set_option linter.all false
set_option maxRecDepth 100000
set_option maxHeartbeats 4000000
set_option autoImplicit false
/-! Plain data: every def of the text as a plain function over PyData. Part 1: results, relations, environments, readings. -/
namespace PD
open PySem PySem.Spec PyProof.Rows L2

/-! ### results -/
inductive Rs (α : Type) where
  | ok (a : α)
  | er (c : Str) (a : Int)
  | no
namespace Rs
variable {α β γ : Type}
def bind (r : Rs α) (k : α → Rs β) : Rs β := match r with
  | .ok a => k a
  | .er c n => .er c n
  | .no => .no
def quiet (r : Rs α) : Rs α := match r with
  | .ok a => .ok a
  | _ => .no
def ofO (o : Option α) : Rs α := match o with
  | some a => .ok a
  | none => .no
@[simp] theorem bind_ok (a : α) (k : α → Rs β) : (Rs.ok a).bind k = k a := rfl
@[simp] theorem bind_er (c : Str) (n : Int) (k : α → Rs β) : (Rs.er c n : Rs α).bind k = .er c n := rfl
@[simp] theorem bind_no (k : α → Rs β) : (Rs.no : Rs α).bind k = .no := rfl
theorem bind_assoc (r : Rs α) (k : α → Rs β) (l : β → Rs γ) : (r.bind k).bind l = r.bind fun a => (k a).bind l := by cases r <;> rfl
@[simp] theorem ofO_some (a : α) : ofO (some a) = .ok a := rfl
@[simp] theorem ofO_none : ofO (none : Option α) = .no := rfl
@[simp] theorem quiet_ok (a : α) : (Rs.ok a).quiet = .ok a := rfl
end Rs

abbrev D := PyData

/-! ### values that stand for data -/
mutual
inductive Rp (K : PySem.W.Frag) (H : Hp) : V → D → Prop
  | non : Rp K H .non .none
  | bl (b : Bool) : Rp K H (.bl b) (.bool b)
  | int (i : Int) : Rp K H (.int i) (.int i)
  | str (x : Str) : Rp K H (.str x) (.str x)
  | lst {a : Addr} {xs : List V} {ds : List D} : H a = some (.lst xs) → RpAll K H xs ds → Rp K H (.ref a) (.list ds)
  | tup {a : Addr} {xs : List V} {ds : List D} : SqT K H a xs → RpAll K H xs ds → Rp K H (.ref a) (.tuple ds)
inductive RpAll (K : PySem.W.Frag) (H : Hp) : List V → List D → Prop
  | nil : RpAll K H [] []
  | cons {v : V} {vs : List V} {d : D} {ds : List D} : Rp K H v d → RpAll K H vs ds → RpAll K H (v :: vs) (d :: ds)
end

theorem Same.sqt {K : PySem.W.Frag} {H H' : Hp} {a : Addr} {xs : List V} (e : Same H H') (h : SqT K H a xs) : SqT K H' a xs := by
  rcases h with (h | ⟨o, h⟩) | h
  · exact .inl (.inl (e _ _ h))
  · exact .inl (.inr ⟨o, e _ _ h⟩)
  · exact .inr h

section
variable {K : PySem.W.Frag} {H H' : Hp}
mutual
theorem Rp.mono (s : Same H H') : ∀ (d : D) (v : V), Rp K H v d → Rp K H' v d
  | .none, _, h => by cases h; exact .non
  | .bool _, _, h => by cases h; exact .bl _
  | .int _, _, h => by cases h; exact .int _
  | .str _, _, h => by cases h; exact .str _
  | .list ds, _, h => by
    cases h with
    | lst e r => exact .lst (s _ _ e) (RpAll.mono s ds _ r)
  | .tuple ds, _, h => by
    cases h with
    | tup e r => exact .tup (Same.sqt s e) (RpAll.mono s ds _ r)
  | .dict _, _, h => by cases h
theorem RpAll.mono (s : Same H H') : ∀ (ds : List D) (vs : List V), RpAll K H vs ds → RpAll K H' vs ds
  | [], _, h => by cases h; exact .nil
  | d :: ds, _, h => by
    cases h with
    | cons a b => exact .cons (Rp.mono s d _ a) (RpAll.mono s ds _ b)
end
mutual
theorem Rp.dp : ∀ (d : D) (v : V), Rp K H v d → Dp K H v d
  | .none, _, h => by cases h; exact .non
  | .bool _, _, h => by cases h; exact .bl _
  | .int _, _, h => by cases h; exact .int _
  | .str _, _, h => by cases h; exact .str _
  | .list ds, _, h => by
    cases h with
    | lst e r => exact .lst (SqL.of e) (RpAll.dp ds _ r)
  | .tuple ds, _, h => by
    cases h with
    | tup e r => exact .tup e (RpAll.dp ds _ r)
  | .dict _, _, h => by cases h
theorem RpAll.dp : ∀ (ds : List D) (vs : List V), RpAll K H vs ds → DpAll K H vs ds
  | [], _, h => by cases h; exact .nil
  | d :: ds, _, h => by
    cases h with
    | cons a b => exact .cons (Rp.dp d _ a) (RpAll.dp ds _ b)
end
theorem RpAll.length : ∀ {ds : List D} {vs : List V}, RpAll K H vs ds → vs.length = ds.length
  | [], _, h => by cases h; rfl
  | _ :: _, _, h => by
    cases h with
    | cons a b => simp [b.length]
theorem RpAll.get : ∀ {ds : List D} {vs : List V} {i : Nat} {d : D}, RpAll K H vs ds → ds[i]? = some d → ∃ v, vs[i]? = some v ∧ Rp K H v d
  | [], _, _, _, _, e => by simp at e
  | _ :: _, _, 0, _, h, e => by
    cases h with
    | cons a b => simp at e; subst e; exact ⟨_, rfl, a⟩
  | _ :: _, _, i + 1, _, h, e => by
    cases h with
    | cons a b =>
      obtain ⟨v, h1, h2⟩ := b.get (i := i) (by simpa using e)
      exact ⟨v, by simpa using h1, h2⟩
theorem RpAll.append : ∀ {ds es : List D} {vs ws : List V}, RpAll K H vs ds → RpAll K H ws es → RpAll K H (vs ++ ws) (ds ++ es)
  | [], _, _, _, h, k => by cases h; exact k
  | _ :: _, _, _, _, h, k => by
    cases h with
    | cons a b => exact .cons a (b.append k)
theorem RpAll.take : ∀ {ds : List D} {vs : List V} (n : Nat), RpAll K H vs ds → RpAll K H (vs.take n) (ds.take n)
  | _, _, 0, _ => by simpa using RpAll.nil
  | [], _, n + 1, h => by cases h; exact .nil
  | _ :: _, _, n + 1, h => by
    cases h with
    | cons a b => exact .cons a (b.take n)
theorem RpAll.drop : ∀ {ds : List D} {vs : List V} (n : Nat), RpAll K H vs ds → RpAll K H (vs.drop n) (ds.drop n)
  | _, _, 0, h => h
  | [], _, n + 1, h => by cases h; exact .nil
  | _ :: _, _, n + 1, h => by
    cases h with
    | cons a b => exact b.drop n
theorem RpAll.reverse : ∀ {ds : List D} {vs : List V}, RpAll K H vs ds → RpAll K H vs.reverse ds.reverse
  | [], _, h => by cases h; exact .nil
  | _ :: _, _, h => by
    cases h with
    | cons a b =>
      rw [List.reverse_cons, List.reverse_cons]
      exact b.reverse.append (.cons a .nil)
theorem RpAll.set : ∀ {ds : List D} {vs : List V} (i : Nat) {v : V} {d : D}, Rp K H v d → RpAll K H vs ds → RpAll K H (vs.set i v) (ds.set i d)
  | [], _, _, _, _, _, h => by cases h; exact .nil
  | _ :: _, _, 0, _, _, r, h => by
    cases h with
    | cons a b => exact .cons r b
  | _ :: _, _, i + 1, _, _, r, h => by
    cases h with
    | cons a b => exact .cons a (b.set i r)
theorem RpAll.eraseIdx : ∀ {ds : List D} {vs : List V} (i : Nat), RpAll K H vs ds → RpAll K H (vs.eraseIdx i) (ds.eraseIdx i)
  | [], _, _, h => by cases h; exact .nil
  | _ :: _, _, 0, h => by
    cases h with
    | cons a b => exact b
  | _ :: _, _, i + 1, h => by
    cases h with
    | cons a b => exact .cons a (b.eraseIdx i)
theorem RpAll.dropLast {ds : List D} {vs : List V} (h : RpAll K H vs ds) : RpAll K H vs.dropLast ds.dropLast := by
  rw [List.dropLast_eq_take, List.dropLast_eq_take, h.length]
  exact h.take _
theorem RpAll.rep {ds : List D} {vs : List V} (h : RpAll K H vs ds) : ∀ k : Nat, RpAll K H (List.replicate k vs).flatten (List.replicate k ds).flatten
  | 0 => .nil
  | k + 1 => by
    rw [List.replicate_succ, List.replicate_succ, List.flatten_cons, List.flatten_cons]
    exact h.append (h.rep k)
theorem RpAll.mem : ∀ {ds : List D} {vs : List V} {v : V}, RpAll K H vs ds → v ∈ vs → ∃ d, d ∈ ds ∧ Rp K H v d
  | [], _, _, h, m => by cases h; cases m
  | _ :: _, _, _, h, m => by
    cases h with
    | cons a b =>
      rcases List.mem_cons.mp m with e | m
      · subst e; exact ⟨_, List.mem_cons_self, a⟩
      · obtain ⟨d, h1, h2⟩ := b.mem m
        exact ⟨d, List.mem_cons_of_mem _ h1, h2⟩
end

/-! ### the heap grows -/
structure Ext (F H F' H' : Hp) : Prop where
  f : Same F F'
  h : Same H H'
  s : Same F' H'
  n : ∀ a o, F' a = some o → F a = some o ∨ H a = none
section
variable {F H F1 H1 F2 H2 : Hp}
theorem Ext.refl (s : Same F H) : Ext F H F H := ⟨Same.refl _, Same.refl _, s, fun _ _ e => .inl e⟩
theorem Ext.trans (a : Ext F H F1 H1) (b : Ext F1 H1 F2 H2) : Ext F H F2 H2 :=
  ⟨a.f.trans b.f, a.h.trans b.h, b.s, fun c o e => by
    rcases b.n c o e with h | h
    · exact a.n c o h
    · exact .inr (a.h.free h)⟩
/-- a new object, frozen -/
theorem same_upd {p : Addr} {o : HO} (h : H p = none) : Same H (upd H p o) := fun b x e => by
  rw [upd_ne (ne_of_none e h)]
  exact e
theorem Ext.new {p : Addr} {o : HO} (s : Same F H) (h : H p = none) : Ext F H (upd F p o) (upd H p o) := by
  refine ⟨same_upd (s.free h), same_upd h, fun b x e => ?_, fun a x e => ?_⟩
  · by_cases q : b = p
    · subst q; rw [upd_same] at e; rw [upd_same]; exact e
    · rw [upd_ne q] at e; rw [upd_ne q]; exact s _ _ e
  · by_cases q : a = p
    · subst q; exact .inr h
    · rw [upd_ne q] at e; exact .inl e
/-- .. not frozen -/
theorem Ext.laid {p : Addr} {o : HO} (s : Same F H) (h : H p = none) : Ext F H F (upd H p o) :=
  ⟨Same.refl _, same_upd h, s.trans (same_upd h), fun _ _ e => .inl e⟩
end

/-! ### environments -/
inductive Sl where
  | un
  | sh (d : D)
  | own (l : List D)
  | scr (ns : List Int)

structure Ct where
  G : Hp
  H : Hp
  E : L2.St → XK
abbrev Ct.nox (C : Ct) : Ct := { C with E := fun _ => E0 }

def SlR (K : PySem.W.Frag) (C : Ct) (F H : Hp) (v : Option (Option V)) : Sl → Prop
  | .un => True
  | .sh d => ∃ x, v = some (some x) ∧ Rp K F x d
  | .own l => ∃ a xs, v = some (some (.ref a)) ∧ H a = some (.lst xs) ∧ F a = none ∧ C.H a = none ∧ RpAll K F xs l
  | .scr ns => ∃ a, v = some (some (.ref a)) ∧ SqL K C.H a (ns.map V.int)

structure REnv (K : PySem.W.Frag) (C : Ct) (F : Hp) (σ : L2.St) (H : Hp) (env : List Sl) : Prop where
  ext : Ext C.G C.H F H
  len : σ.length = env.length
  get : ∀ (i : Nat) (s : Sl), env[i]? = some s → SlR K C F H σ[i]? s
  apart : ∀ (i j : Nat) (l m : List D), i ≠ j → env[i]? = some (.own l) → env[j]? = some (.own m) → σ[i]? ≠ σ[j]?

section
variable {K : PySem.W.Frag} {C : Ct} {F H F' H' : Hp} {σ : L2.St} {env : List Sl}
theorem SlR.ext {v : Option (Option V)} {s : Sl} (e : Ext F H F' H') (h : SlR K C F H v s) : SlR K C F' H' v s := by
  cases s with
  | un => trivial
  | sh d => obtain ⟨x, h1, h2⟩ := h; exact ⟨x, h1, Rp.mono e.f _ _ h2⟩
  | own l =>
    obtain ⟨a, xs, h1, h2, h3, h4, h5⟩ := h
    refine ⟨a, xs, h1, e.h _ _ h2, ?_, h4, RpAll.mono e.f _ _ h5⟩
    cases q : F' a with
    | none => rfl
    | some o =>
      rcases e.n _ _ q with z | z
      · rw [h3] at z; cases z
      · rw [h2] at z; cases z
  | scr ns => exact h
theorem REnv.go (r : REnv K C F σ H env) (e : Ext F H F' H') : REnv K C F' σ H' env :=
  ⟨r.ext.trans e, r.len, fun i s h => (r.get i s h).ext e, r.apart⟩
theorem REnv.same (r : REnv K C F σ H env) : Same F H := r.ext.s
theorem REnv.sh {i : Nat} {d : D} (r : REnv K C F σ H env) (h : env[i]? = some (.sh d)) : ∃ x, σ[i]? = some (some x) ∧ Rp K F x d := r.get i _ h
theorem REnv.own {i : Nat} {l : List D} (r : REnv K C F σ H env) (h : env[i]? = some (.own l)) : ∃ a xs, σ[i]? = some (some (.ref a)) ∧ H a = some (.lst xs) ∧ F a = none ∧ C.H a = none ∧ RpAll K F xs l := r.get i _ h
/-- a name is stored -/
theorem REnv.set {i : Nat} {v : V} {s : Sl} (r : REnv K C F σ H env) (h : SlR K C F H (some (some v)) s) (ho : ∀ (l : List D), s = .own l → ∀ (j : Nat), σ[j]? = some (some v) → ∀ (m : List D), env[j]? ≠ some (.own m)) : REnv K C F (σ.set i (some v)) H (env.set i s) := by
  refine ⟨r.ext, by rw [List.length_set, List.length_set]; exact r.len, fun j t e => ?_, fun j k l m ne e1 e2 => ?_⟩
  · by_cases q : i = j
    · subst q
      have hi : i < env.length := by
        rcases Nat.lt_or_ge i env.length with z | z
        · exact z
        · rw [List.getElem?_eq_none (by rw [List.length_set]; exact z)] at e; cases e
      rw [List.getElem?_set_self hi] at e
      cases e
      rw [List.getElem?_set_self (by rw [r.len]; exact hi)]
      exact h
    · rw [List.getElem?_set_ne q] at e ⊢
      exact r.get j t e
  · have key : ∀ (j k : Nat) (l m : List D), i = j → i ≠ k → (env.set i s)[j]? = some (.own l) → (env.set i s)[k]? = some (.own m) → (σ.set i (some v))[j]? ≠ (σ.set i (some v))[k]? := by
      intro j k l m e ne e1 e2
      subst e
      rw [List.getElem?_set_ne ne] at e2 ⊢
      have hi : i < env.length := by
        rcases Nat.lt_or_ge i env.length with z | z
        · exact z
        · rw [List.getElem?_eq_none (by rw [List.length_set]; exact z)] at e1; cases e1
      rw [List.getElem?_set_self hi] at e1
      rw [List.getElem?_set_self (by rw [r.len]; exact hi)]
      intro z
      exact ho l (Option.some.inj e1) k z.symm m e2
    by_cases q : i = j
    · exact key j k l m q (fun z => ne (q.symm.trans z)) e1 e2
    · by_cases q2 : i = k
      · exact fun z => key k j m l q2 q e2 e1 z.symm
      · rw [List.getElem?_set_ne q] at e1 ⊢
        rw [List.getElem?_set_ne q2] at e2 ⊢
        exact r.apart j k l m ne e1 e2
theorem REnv.setSh {i : Nat} {v : V} {d : D} (r : REnv K C F σ H env) (h : Rp K F v d) : REnv K C F (σ.set i (some v)) H (env.set i (.sh d)) :=
  r.set ⟨v, rfl, h⟩ fun l e => by cases e
/-- a new list is stored -/
theorem REnv.setOwn {i : Nat} {p : Addr} {xs : List V} {l : List D} (r : REnv K C F σ H env) (h : H p = some (.lst xs)) (hf : F p = none) (hc : C.H p = none) (ha : RpAll K F xs l)
    (ho : ∀ (j : Nat) (m : List D), σ[j]? = some (some (.ref p)) → env[j]? ≠ some (.own m)) : REnv K C F (σ.set i (some (.ref p))) H (env.set i (.own l)) :=
  r.set ⟨p, xs, rfl, h, hf, hc, ha⟩ fun _ _ j e m => ho j m e
end

/-! ### readings -/
abbrev Rel (β α : Type) := Hp → Hp → Hp → Hp → β → α → Prop
def RMono {β α : Type} (R : Rel β α) : Prop := ∀ F H F1 H1 F' H' b a, Ext F H F1 H1 → Ext F1 H1 F' H' → R F1 H1 F' H' b a → R F H F' H' b a
/-- what is wanted of an exception -/
def XW (mg : Str → Option Value) (C : Ct) (σ : L2.St) (H : Hp) (c : Str) (n : Int) : Prop := ∀ u H' dx, mg c = some u → Same H H' → H dx = none → H' dx = some (.xd [("at", .int n)]) → C.E σ u (some dx) H'
def Sat {α β : Type} (mg : Str → Option Value) (C : Ct) (R : Rel β α) (r : Rs α) (σ : L2.St) (F H : Hp) (Q : β → Hp → Prop) : Prop := match r with
  | .ok a => ∀ b H' F', Ext F H F' H' → R F H F' H' b a → Q b H'
  | .er c n => XW mg C σ H c n
  | .no => False
def RD (K : PySem.W.Frag) : Rel V D := fun _ _ F' _ v d => Rp K F' v d
def RDs (K : PySem.W.Frag) : Rel (List V) (List D) := fun _ _ F' _ v d => RpAll K F' v d
def RB : Rel Bool Bool := fun _ _ _ _ b c => b = c
/-- a new list -/
def RN (K : PySem.W.Frag) : Rel V D := fun _ H F' H' v d => ∃ p xs l, v = .ref p ∧ d = .list l ∧ H' p = some (.lst xs) ∧ F' p = none ∧ H p = none ∧ RpAll K F' xs l
theorem RD.mono {K : PySem.W.Frag} : RMono (RD K) := fun _ _ _ _ _ _ _ _ _ _ h => h
theorem RDs.mono {K : PySem.W.Frag} : RMono (RDs K) := fun _ _ _ _ _ _ _ _ _ _ h => h
theorem RB.mono : RMono RB := fun _ _ _ _ _ _ _ _ _ _ h => h
theorem RN.mono {K : PySem.W.Frag} : RMono (RN K) := fun _ _ _ _ _ _ _ _ e _ ⟨p, xs, l, a, b, c, d, f, g⟩ => ⟨p, xs, l, a, b, c, d, e.h.free f, g⟩

section
variable {mg : Str → Option Value} {K : PySem.W.Frag} {C : Ct} {F H F' H' : Hp} {σ : L2.St} {env : List Sl} {α β γ δ : Type}
theorem XW.mono {c : Str} {n : Int} (s : Same H H') (h : XW mg C σ H c n) : XW mg C σ H' c n := fun u H2 dx m s2 e x => h u H2 dx m (s.trans s2) (s.free e) x
theorem Sat.imp {R : Rel β α} {r : Rs α} {Q Q' : β → Hp → Prop} (h : Sat mg C R r σ F H Q) (i : ∀ b H', Q b H' → Q' b H') : Sat mg C R r σ F H Q' := by
  cases r with
  | ok a => exact fun b H' F' e q => i _ _ (h b H' F' e q)
  | er c n => exact h
  | no => exact h
theorem Sat.go {R : Rel β α} {r : Rs α} {Q : β → Hp → Prop} (m : RMono R) (h : Sat mg C R r σ F H Q) (e : Ext F H F' H') : Sat mg C R r σ F' H' Q := by
  cases r with
  | ok a => exact fun b H2 F2 e2 q => h b H2 F2 (e.trans e2) (m _ _ _ _ _ _ _ _ e e2 q)
  | er c n => exact XW.mono e.h h
  | no => exact h
theorem Sat.bind {R : Rel β α} {R' : Rel δ γ} {r : Rs α} {k : α → Rs γ} {P : β → Hp → Prop} {Q : δ → Hp → Prop} (m : RMono R') (h : Sat mg C R' (r.bind k) σ F H Q)
    (hk : ∀ a b F1 H1, Ext F H F1 H1 → R F H F1 H1 b a → Sat mg C R' (k a) σ F1 H1 Q → P b H1) : Sat mg C R r σ F H P := by
  cases r with
  | ok a => exact fun b H1 F1 e q => hk a b F1 H1 e q (Sat.go m h e)
  | er c n => exact h
  | no => exact h
theorem Sat.ofO {R : Rel β α} {o : Option α} {Q : β → Hp → Prop} (h : Sat mg C R (Rs.ofO o) σ F H Q) : ∃ a, o = some a ∧ ∀ b H' F', Ext F H F' H' → R F H F' H' b a → Q b H' := by
  cases o with
  | none => exact h.elim
  | some a => exact ⟨a, rfl, h⟩
end

abbrev FE := List Sl → Rs D
abbrev FB := List Sl → Rs Bool
abbrev FA := List Sl → Rs (List D)
section
variable (K : PySem.W.Frag) (mg : Str → Option Value) (C : Ct)
def T (f : FE) : TE := fun σ H Q => ∃ F env, REnv K C F σ H env ∧ Sat mg C (RD K) (f env) σ F H Q
def TN (f : FE) : TE := fun σ H Q => ∃ F env, REnv K C F σ H env ∧ Sat mg C (RN K) (f env) σ F H Q
def TB (f : FB) : TT := fun σ H Q => ∃ F env, REnv K C F σ H env ∧ Sat mg C RB (f env) σ F H Q
def TL (f : FA) : TA := fun σ H Q => ∃ F env, REnv K C F σ H env ∧ Sat mg C (RDs K) (f env) σ F H Q
end
abbrev VE (X : Cx) (C : Ct) (e : Expr) (f : FE) : Prop := PE X e (T X.K X.mg C f)
abbrev VN (X : Cx) (C : Ct) (e : Expr) (f : FE) : Prop := PE X e (TN X.K X.mg C f)
abbrev VB (X : Cx) (C : Ct) (e : Expr) (f : FB) : Prop := PT X e (TB X.K X.mg C f)
abbrev VA (X : Cx) (C : Ct) (es : List Expr) (f : FA) : Prop := PA X es (TL X.K X.mg C f)

section
variable {X : Cx} {C : Ct} {e : Expr} {es : List Expr}
/-- another reading, a stronger one -/
theorem PE.of {t u : TE} (h : PE X e t) (i : ∀ σ H Q, u σ H Q → t σ H Q) : PE X e u := ⟨fun pins s σ H Q I q => h.run pins s σ H Q I (i _ _ _ q)⟩
theorem PT.of {t u : TT} (h : PT X e t) (i : ∀ σ H Q, u σ H Q → t σ H Q) : PT X e u := ⟨fun pins s σ H Q I q => h.run pins s σ H Q I (i _ _ _ q)⟩
theorem PA.of {t u : TA} (h : PA X es t) (i : ∀ σ H Q, u σ H Q → t σ H Q) : PA X es u := ⟨fun pos pins s σ H Q I q => h.run pos pins s σ H Q I (i _ _ _ q)⟩
/-- a new list, frozen -/
theorem VN.ve {f : FE} (h : VN X C e f) : VE X C e f := PE.of h fun σ H Q ⟨F, env, r, q⟩ => ⟨F, env, r, by
  revert q
  cases f env with
  | ok d =>
    intro q b H' F' x ⟨p, xs, l, e1, e2, e3, e4, e5, e6⟩
    subst e1 e2
    have x2 : Ext F H (upd F' p (.lst xs)) H' := by
      refine ⟨fun b o z => ?_, x.h, fun b o z => ?_, fun b o z => ?_⟩
      · rw [upd_ne (ne_of_none (x.f _ _ z) e4)]
        exact x.f _ _ z
      · by_cases q : b = p
        · subst q; rw [upd_same] at z; rw [← z]; exact e3
        · rw [upd_ne q] at z; exact x.s _ _ z
      · by_cases q : b = p
        · subst q; exact .inr e5
        · rw [upd_ne q] at z; exact x.n _ _ z
    refine q _ H' _ x2 (.lst (a := p) (xs := xs) upd_same (RpAll.mono (same_upd e4) _ _ e6))
  | er c n => exact fun q => q
  | no => exact fun q => q⟩
end
end PD

/-! Part 2: expressions -/
namespace PD
open PySem PySem.Spec PyProof.Rows L2

/-- what a body stands on -/
structure Am (X : Cx) : Prop where
  g : X.A.guards = some []
  r : Room 0 X.A
  c : X.calm = true
  n : X.N.Nodup

def LINE : Nat := 16777216
theorem line_eq : sizeLine = LINE := sizeLine_eq

/-! ### names, constants -/
def fVar (i : Nat) : FE := fun env => match env[i]? with
  | some (.sh d) => .ok d
  | _ => .no
def fC (d : D) : FE := fun _ => .ok d
section
variable {X : Cx} {C : Ct} {x : Str} {pos : Pos}
theorem ve_var (i : Nat) (hN : X.N[i]? = some x := by rfl) (hv : Vis X.env.scope x := by first | exact Or.inl rfl | exact Or.inr (Or.inl rfl) | exact Or.inr (Or.inr rfl)) (hd : (x == ("__debug__" : Str)) = false := by decide)
    (hcd : (x == ("__classdict__" : Str)) = false := by decide) : VE X C (.Name x pos) (fVar i) := PE.of (pe_var hN hv hd hcd) fun σ H Q ⟨F, env, r, q⟩ => by
  unfold fVar at q
  split at q
  · rename_i d e
    obtain ⟨v, h1, h2⟩ := r.sh e
    exact ⟨v, h1, q v H F (Ext.refl r.same) h2⟩
  · exact q.elim
theorem ve_c {e : Expr} {v : V} {d : D} (h : PE X e (tC v)) (hv : ∀ H, Rp X.K H v d) : VE X C e (fC d) := PE.of h fun σ H Q ⟨F, env, r, q⟩ => q v H F (Ext.refl r.same) (hv F)
theorem ve_int {i : Int} {j : Nat} : VE X C (.Constant (.int i) j pos) (fC (.int i)) := ve_c pe_int fun _ => .int i
theorem ve_bl {b : Bool} {j : Nat} : VE X C (.Constant (.bool b) j pos) (fC (.bool b)) := ve_c pe_bl fun _ => .bl b
theorem ve_non {j : Nat} : VE X C (.Constant .none j pos) (fC .none) := ve_c pe_non fun _ => .non
theorem ve_str {s : Str} {j : Nat} : VE X C (.Constant (.str s) j pos) (fC (.str s)) := ve_c pe_str fun _ => .str s
theorem ve_glob {v : V} {u : Value} {d : D} (hg : Gl X x) (hm : X.mg x = some u) (r : RelV v u) (hv : ∀ H, Rp X.K H v d) (hd : (x == ("__debug__" : Str)) = false := by decide) : VE X C (.Name x pos) (fC d) := ve_c (pe_glob hg hm r hd) hv
end

/-! ### operations on two values -/
def V2 (K : PySem.W.Frag) (r : R2) (g : D → D → Option D) : Prop := ∀ (F H : Hp) (x y : V) (d e c : D) (Q : VK), Same F H → Rp K F x d → Rp K F y e → g d e = some c → (∀ v H' F', Ext F H F' H' → Rp K F' v c → Q v H') → r x y H Q
def f2 (g : D → D → Option D) (f f' : FE) : FE := fun env => (f env).bind fun a => (f' env).bind fun b => Rs.ofO (g a b)
section
variable {X : Cx} {C : Ct} {K : PySem.W.Frag} {mg : Str → Option Value} {σ : L2.St} {H : Hp} {Q : VK} {f f' : FE} {r : R2} {g : D → D → Option D} {a b : Expr} {pos : Pos}
theorem t_op2 (hv : V2 K r g) : T K mg C (f2 g f f') σ H Q → tOp r (T K mg C f) (T K mg C f') σ H Q := fun ⟨F, env, re, q⟩ =>
  ⟨F, env, re, Sat.bind RD.mono q fun d v F1 H1 x1 r1 q1 => ⟨F1, env, re.go x1, Sat.bind RD.mono q1 fun e w F2 H2 x2 r2 q2 => by
    obtain ⟨c, hc, q3⟩ := Sat.ofO q2
    exact hv F2 H2 v w d e c Q (re.go (x1.trans x2)).same (Rp.mono x2.f _ _ r1) r2 hc q3⟩⟩
theorem ve_op {op : Operator} (ho : OpR X (binaryOp op) r) (hv : V2 X.K r g) (ha : VE X C a f) (hb : VE X C b f') : VE X C (.BinOp a op b pos) (f2 g f f') := PE.of (pe_op ho ha hb) fun _ _ _ => t_op2 hv
theorem ve_cmp {op : CmpOp} (ho : OpR X (compareOp op) r) (hv : V2 X.K r g) (ha : VE X C a f) (hb : VE X C b f') (hm : behindInMarks op b = false := by first | exact nomark _ | with_unfolding_all rfl) : VE X C (.Compare a [op] [b] pos) (f2 g f f') := PE.of (pe_cmpR ho ha hb hm) fun _ _ _ => t_op2 hv
end

/-! ### tests -/
def asB : D → Rs Bool
  | .bool b => .ok b
  | _ => .no
def fB (f : FE) : FB := fun env => (f env).bind asB
def truD : D → Option Bool
  | .none => some false
  | .bool b => some b
  | .int i => some (i != 0)
  | .str x => if x.length ≤ LINE then some ((x.length : Int) != 0) else none
  | .list l => some (!l.isEmpty)
  | .tuple l => some (!l.isEmpty)
  | .dict _ => none
def fTru (f : FE) : FB := fun env => (f env).bind fun d => Rs.ofO (truD d)
section
variable {X : Cx} {C : Ct} {K : PySem.W.Frag} {mg : Str → Option Value} {σ : L2.St} {H : Hp} {f f' : FE} {g g' : FB} {r r' : R2} {a b c : Expr} {rest : List Expr} {pos : Pos}
theorem Rp.isB {F : Hp} {v : V} {b : Bool} (h : Rp K F v (.bool b)) : v = .bl b := by cases h; rfl
theorem t_test {Q : Bool → Hp → Prop} : TB K mg C (fB f) σ H Q → T K mg C f σ H fun x H' => ∃ k, x = .bl k ∧ Q k H' := fun ⟨F, env, re, q⟩ =>
  ⟨F, env, re, Sat.bind RB.mono q fun d v F1 H1 x1 r1 q1 => by
    cases d with
    | bool b => exact ⟨b, Rp.isB r1, q1 b H1 F1 (Ext.refl (re.go x1).same) rfl⟩
    | _ => exact q1.elim⟩
theorem truV_of {F H : Hp} {v : V} {d : D} {k : Bool} (s : Same F H) (h : Rp K F v d) (e : truD d = some k) : TruV K v H k := by
  cases d with
  | none => cases h; cases e; exact rfl
  | bool b => cases h; cases e; exact rfl
  | int i => cases h; cases e; exact rfl
  | str x =>
    cases h
    simp only [truD] at e
    split at e
    · rename_i hl
      cases e
      exact ⟨by rw [line_eq]; exact hl, rfl⟩
    · cases e
  | list l =>
    cases h with
    | lst h1 h2 =>
      cases e
      refine .inl ⟨_, SqL.of (s _ _ h1), ?_⟩
      cases h2 <;> rfl
  | tuple l =>
    cases h with
    | tup h1 h2 =>
      cases e
      refine .inr (.inl ⟨_, Same.sqt s h1, ?_⟩)
      cases h2 <;> rfl
  | dict _ => cases e
theorem t_tru {Q : Bool → Hp → Prop} : TB K mg C (fTru f) σ H Q → T K mg C f σ H fun x H' => ∃ k, TruV K x H' k ∧ Q k H' := fun ⟨F, env, re, q⟩ =>
  ⟨F, env, re, Sat.bind RB.mono q fun d v F1 H1 x1 r1 q1 => by
    obtain ⟨k, hk, q2⟩ := Sat.ofO q1
    exact ⟨k, truV_of (re.go x1).same r1 hk, q2 k H1 F1 (Ext.refl (re.go x1).same) rfl⟩⟩
theorem vb_tru (h : VE X C a f) (he : ∀ whole, isTrue a X.env whole = (do let v ← whole; standAt a.pos; holding [v] (truthy v)) := by intro _; rfl) : VB X C a (fTru f) := PT.of (pt_truth h he) fun _ _ _ => t_tru
theorem vb_cmp {op : CmpOp} {k : D → D → Option D} (ho : OpR X (compareOp op) r) (hv : V2 X.K r k) (ha : VE X C a f) (hb : VE X C b f') (hm : behindInMarks op b = false := by first | exact nomark _ | with_unfolding_all rfl) : VB X C (.Compare a [op] [b] pos) (fB (f2 k f f')) :=
  PT.of (pt_cmpR ho ha hb hm) fun σ H Q h => t_op2 hv (t_test h)
/-- a op1 b op2 c -/
def f3 (k k' : D → D → Option D) (f f' f'' : FE) : FE := fun env => (f env).bind fun a => (f' env).bind fun b => (Rs.ofO (k a b)).bind fun t => (asB t).bind fun t => if t = true then (f'' env).bind fun c => Rs.ofO (k' b c) else .ok (.bool false)
theorem t_chain {k k' : D → D → Option D} {f'' : FE} {Q : VK} (hv : V2 K r k) (hv' : V2 K r' k') : T K mg C (f3 k k' f f' f'') σ H Q → tChain r r' (T K mg C f) (T K mg C f') (T K mg C f'') σ H Q := fun ⟨F, env, re, q⟩ =>
  ⟨F, env, re, Sat.bind RD.mono q fun d v F1 H1 x1 r1 q1 => ⟨F1, env, re.go x1, Sat.bind RD.mono q1 fun e w F2 H2 x2 r2 q2 => by
    have re2 := re.go (x1.trans x2)
    cases hk : k d e with
    | none => rw [hk] at q2; exact q2.elim
    | some t =>
      rw [hk] at q2
      cases t with
      | bool t =>
        refine hv F2 H2 v w d e _ _ re2.same (Rp.mono x2.f _ _ r1) r2 hk fun u H3 F3 x3 r3 => ⟨t, Rp.isB r3, ?_⟩
        have q2 : Sat mg C (RD K) (if t = true then (f'' env).bind fun c => Rs.ofO (k' e c) else .ok (.bool false)) σ F2 H2 Q := q2
        cases t with
        | false =>
          rw [if_neg Bool.false_ne_true] at q2 ⊢
          exact q2 _ H3 F3 x3 (.bl false)
        | true =>
          rw [if_pos rfl] at q2 ⊢
          refine ⟨F3, env, re2.go x3, Sat.bind RD.mono (Sat.go RD.mono q2 x3) fun c z F4 H4 x4 r4 q4 => ?_⟩
          obtain ⟨m, hm, q5⟩ := Sat.ofO q4
          exact hv' F4 H4 w z e c m Q (re2.go (x3.trans x4)).same (Rp.mono (x3.trans x4).f _ _ r2) r4 hm q5
      | _ => exact q2.elim⟩⟩
theorem ve_chain {op op' : CmpOp} {k k' : D → D → Option D} {f'' : FE} (ho : OpR X (compareOp op) r) (hv : V2 X.K r k) (ho' : OpR X (compareOp op') r') (hv' : V2 X.K r' k') (ha : VE X C a f) (hb : VE X C b f') (hc : VE X C c f'')
    (hm : lastMarks [op, op'] [b, c] = false := by with_unfolding_all rfl) : VE X C (.Compare a [op, op'] [b, c] pos) (f3 k k' f f' f'') := PE.of (pe_chain ho ho' ha hb hc hm) fun _ _ _ => t_chain hv hv'
theorem vb_chain {op op' : CmpOp} {k k' : D → D → Option D} {f'' : FE} (ho : OpR X (compareOp op) r) (hv : V2 X.K r k) (ho' : OpR X (compareOp op') r') (hv' : V2 X.K r' k') (ha : VE X C a f) (hb : VE X C b f') (hc : VE X C c f'')
    (hm : lastMarks [op, op'] [b, c] = false := by with_unfolding_all rfl) : VB X C (.Compare a [op, op'] [b, c] pos) (fB (f3 k k' f f' f'')) := PT.of (pt_chain ho ho' ha hb hc hm) fun σ H Q h => t_chain hv hv' (t_test h)
/-- and, or, not as tests -/
def fAnd (g g' : FB) : FB := fun env => (g env).bind fun t => if t = true then g' env else .ok false
def fOr (g g' : FB) : FB := fun env => (g env).bind fun t => if t = true then .ok true else g' env
def fNot (g : FB) : FB := fun env => (g env).bind fun t => .ok (!t)
abbrev VW (X : Cx) (C : Ct) (e : Expr) (f : FB) : Prop := PW X e (TB X.K X.mg C f)
theorem PW.of {e : Expr} {t u : TT} (h : PW X e t) (i : ∀ σ H Q, u σ H Q → t σ H Q) : PW X e u := ⟨fun wh pins s σ H Q I q => h.run wh pins s σ H Q I (i _ _ _ q)⟩
theorem vw_and1 (h : VB X C a g) : VW X C (.BoolOp .And [a] pos) g := pw_and1 h
theorem vw_or1 (h : VB X C a g) : VW X C (.BoolOp .Or [a] pos) g := pw_or1 h
theorem t_and {Q : Bool → Hp → Prop} : TB K mg C (fAnd g g') σ H Q → tAnd (TB K mg C g) (TB K mg C g') σ H Q := fun ⟨F, env, re, q⟩ =>
  ⟨F, env, re, Sat.bind RB.mono q fun t b F1 H1 x1 r1 q1 => by
    have e : b = t := r1
    subst e
    cases b with
    | true => rw [if_pos rfl] at q1 ⊢; exact ⟨F1, env, re.go x1, q1⟩
    | false => rw [if_neg Bool.false_ne_true] at q1 ⊢; exact q1 false H1 F1 (Ext.refl (re.go x1).same) rfl⟩
theorem t_or {Q : Bool → Hp → Prop} : TB K mg C (fOr g g') σ H Q → tOr (TB K mg C g) (TB K mg C g') σ H Q := fun ⟨F, env, re, q⟩ =>
  ⟨F, env, re, Sat.bind RB.mono q fun t b F1 H1 x1 r1 q1 => by
    have e : b = t := r1
    subst e
    cases b with
    | true => rw [if_pos rfl] at q1 ⊢; exact q1 true H1 F1 (Ext.refl (re.go x1).same) rfl
    | false => rw [if_neg Bool.false_ne_true] at q1 ⊢; exact ⟨F1, env, re.go x1, q1⟩⟩
theorem vw_and (h : VB X C a g) (h' : VW X C (.BoolOp .And (b :: rest) pos) g') : VW X C (.BoolOp .And (a :: b :: rest) pos) (fAnd g g') := PW.of (pw_and h h') fun _ _ _ => t_and
theorem vw_or (h : VB X C a g) (h' : VW X C (.BoolOp .Or (b :: rest) pos) g') : VW X C (.BoolOp .Or (a :: b :: rest) pos) (fOr g g') := PW.of (pw_or h h') fun _ _ _ => t_or
theorem vb_w (h : VW X C a g) : VB X C a g := PW.pt h
theorem t_not {Q : Bool → Hp → Prop} : TB K mg C (fNot g) σ H Q → tNot (TB K mg C g) σ H Q := fun ⟨F, env, re, q⟩ =>
  ⟨F, env, re, Sat.bind RB.mono q fun t b F1 H1 x1 r1 q1 => by
    have e : b = t := r1
    subst e
    exact q1 (!b) H1 F1 (Ext.refl (re.go x1).same) rfl⟩
theorem vb_not (h : VB X C a g) : VB X C (.UnaryOp .Not a pos) (fNot g) := PT.of (pt_not h) fun _ _ _ => t_not
/-- .. as values -/
def fOrV (f f' : FE) : FE := fun env => (f env).bind fun d => (Rs.ofO (truD d)).bind fun t => if t = true then .ok d else f' env
def fAndV (f f' : FE) : FE := fun env => (f env).bind fun d => (Rs.ofO (truD d)).bind fun t => if t = true then f' env else .ok d
theorem ve_orV (ha : VE X C a f) (hb : VE X C (.BoolOp .Or (b :: rest) pos) f') : VE X C (.BoolOp .Or (a :: b :: rest) pos) (fOrV f f') := PE.of (pe_orT ha hb) fun σ H Q ⟨F, env, re, q⟩ =>
  ⟨F, env, re, Sat.bind RD.mono q fun d v F1 H1 x1 r1 q1 => by
    cases hk : truD d with
    | none => rw [hk] at q1; exact q1.elim
    | some k =>
      rw [hk] at q1
      refine ⟨k, truV_of (re.go x1).same r1 hk, ?_⟩
      have q1 : Sat X.mg C (RD X.K) (if k = true then .ok d else f' env) σ F1 H1 Q := q1
      cases k with
      | true => rw [if_pos rfl] at q1 ⊢; exact q1 v H1 F1 (Ext.refl (re.go x1).same) r1
      | false => rw [if_neg Bool.false_ne_true] at q1 ⊢; exact ⟨F1, env, re.go x1, q1⟩⟩
theorem ve_andV (ha : VE X C a f) (hb : VE X C (.BoolOp .And (b :: rest) pos) f') : VE X C (.BoolOp .And (a :: b :: rest) pos) (fAndV f f') := PE.of (pe_andT ha hb) fun σ H Q ⟨F, env, re, q⟩ =>
  ⟨F, env, re, Sat.bind RD.mono q fun d v F1 H1 x1 r1 q1 => by
    cases hk : truD d with
    | none => rw [hk] at q1; exact q1.elim
    | some k =>
      rw [hk] at q1
      refine ⟨k, truV_of (re.go x1).same r1 hk, ?_⟩
      have q1 : Sat X.mg C (RD X.K) (if k = true then f' env else .ok d) σ F1 H1 Q := q1
      cases k with
      | true => rw [if_pos rfl] at q1 ⊢; exact ⟨F1, env, re.go x1, q1⟩
      | false => rw [if_neg Bool.false_ne_true] at q1 ⊢; exact q1 v H1 F1 (Ext.refl (re.go x1).same) r1⟩
theorem ve_one {op : BoolOp} (h : VE X C a f) : VE X C (.BoolOp op [a] pos) f := pe_one h
def fNotV (f : FE) : FE := fun env => (f env).bind fun d => (asB d).bind fun t => .ok (.bool (!t))
theorem ve_notV (ha : VE X C a f) : VE X C (.UnaryOp .Not a pos) (fNotV f) := PE.of (pe_not ha) fun σ H Q ⟨F, env, re, q⟩ =>
  ⟨F, env, re, Sat.bind RD.mono q fun d v F1 H1 x1 r1 q1 => by
    cases d with
    | bool t => exact ⟨t, Rp.isB r1, q1 _ H1 F1 (Ext.refl (re.go x1).same) (.bl _)⟩
    | _ => exact q1.elim⟩
/-- a if c else b -/
def fIf (g : FB) (f f' : FE) : FE := fun env => (g env).bind fun t => if t = true then f env else f' env
theorem ve_if (hc : VB X C c g) (ha : VE X C a f) (hb : VE X C b f') : VE X C (.IfExp c a b pos) (fIf g f f') := PE.of (pe_ifExp hc ha hb) fun σ H Q ⟨F, env, re, q⟩ =>
  ⟨F, env, re, Sat.bind RD.mono q fun t b F1 H1 x1 r1 q1 => by
    have e : b = t := r1
    subst e
    cases b with
    | true => rw [if_pos rfl] at q1 ⊢; exact ⟨F1, env, re.go x1, q1⟩
    | false => rw [if_neg Bool.false_ne_true] at q1 ⊢; exact ⟨F1, env, re.go x1, q1⟩⟩
/-- one operand -/
def V1 (K : PySem.W.Frag) (r : V → Hp → VK → Prop) (g : D → Option D) : Prop := ∀ (F H : Hp) (x : V) (d c : D) (Q : VK), Same F H → Rp K F x d → g d = some c → (∀ v H' F', Ext F H F' H' → Rp K F' v c → Q v H') → r x H Q
def f1 (g : D → Option D) (f : FE) : FE := fun env => (f env).bind fun a => Rs.ofO (g a)
theorem ve_un {op : UnaryOp} {r : V → Hp → VK → Prop} {k : D → Option D} (ho : UnR X (unaryOp op) r) (hv : V1 X.K r k) (ha : VE X C a f) : VE X C (.UnaryOp op a pos) (f1 k f) := PE.of (pe_un ho ha) fun σ H Q ⟨F, env, re, q⟩ =>
  ⟨F, env, re, Sat.bind RD.mono q fun d v F1 H1 x1 r1 q1 => by
    obtain ⟨c, hc, q3⟩ := Sat.ofO q1
    exact hv F1 H1 v d c Q (re.go x1).same r1 hc q3⟩
end

/-! ### argument lists, displays -/
def aNil : FA := fun _ => .ok []
def aCons (f : FE) (fa : FA) : FA := fun env => (f env).bind fun d => (fa env).bind fun ds => .ok (d :: ds)
def fLst (fa : FA) : FE := fun env => (fa env).bind fun ds => if ds.length ≤ LINE then .ok (.list ds) else .no
def fTup (fa : FA) : FE := fun env => (fa env).bind fun ds => if ds.length ≤ LINE then .ok (.tuple ds) else .no
section
variable {X : Cx} {C : Ct} {f : FE} {fa : FA} {e : Expr} {es : List Expr} {pos : Pos}
theorem va_nil : VA X C [] aNil := PA.of pa_nil fun σ H Q ⟨F, env, re, q⟩ => q [] H F (Ext.refl re.same) .nil
theorem va_cons (h : VE X C e f) (h' : VA X C es fa) (hs : starEach (e :: es) X.env = (false, eval e X.env) :: starEach es X.env := by rfl) : VA X C (e :: es) (aCons f fa) := PA.of (pa_cons h h' hs) fun σ H Q ⟨F, env, re, q⟩ =>
  ⟨F, env, re, Sat.bind RDs.mono q fun d v F1 H1 x1 r1 q1 => ⟨F1, env, re.go x1, Sat.bind RDs.mono q1 fun ds vs F2 H2 x2 r2 q2 =>
    q2 (v :: vs) H2 F2 (Ext.refl (re.go (x1.trans x2)).same) (.cons (Rp.mono x2.f _ _ r1) r2)⟩⟩
theorem vn_lst (h : VA X C es fa) : VN X C (.List es pos) (fLst fa) := PE.of (pe_lst h) fun σ H Q ⟨F, env, re, q⟩ =>
  ⟨F, env, re, Sat.bind RN.mono q fun ds vs F1 H1 x1 r1 q1 => by
    by_cases hl : ds.length ≤ LINE
    · rw [if_pos hl] at q1
      refine ⟨by rw [r1.length, line_eq]; exact hl, fun p hp => ?_⟩
      exact q1 _ _ F1 (Ext.laid (re.go x1).same hp) ⟨p, vs, ds, rfl, rfl, upd_same, (re.go x1).same.free hp, hp, r1⟩
    · rw [if_neg hl] at q1; exact q1.elim⟩
theorem ve_lst (h : VA X C es fa) : VE X C (.List es pos) (fLst fa) := VN.ve (vn_lst h)
theorem ve_tup {k : Nat} (h : VA X C es fa) : VE X C (.Tuple es k pos) (fTup fa) := PE.of (pe_tup h) fun σ H Q ⟨F, env, re, q⟩ =>
  ⟨F, env, re, Sat.bind RD.mono q fun ds vs F1 H1 x1 r1 q1 => by
    by_cases hl : ds.length ≤ LINE
    · rw [if_pos hl] at q1
      refine ⟨by rw [r1.length, line_eq]; exact hl, fun p hp => ?_⟩
      have s := (re.go x1).same
      exact q1 _ _ _ (Ext.new s hp) (.tup (SqT.of upd_same) (RpAll.mono (same_upd (s.free hp)) _ _ r1))
    · rw [if_neg hl] at q1; exact q1.elim⟩
end

/-! ### calls of built-ins -/
def VL (K : PySem.W.Frag) (r : List V → Hp → VK → Prop) (g : List D → Option D) : Prop := ∀ (F H : Hp) (xs : List V) (ds : List D) (c : D) (Q : VK), Same F H → RpAll K F xs ds → g ds = some c → (∀ v H' F', Ext F H F' H' → Rp K F' v c → Q v H') → r xs H Q
/-- .. that hand back a new list -/
def VLN (K : PySem.W.Frag) (r : List V → Hp → VK → Prop) (g : List D → Option D) : Prop := ∀ (F H : Hp) (xs : List V) (ds : List D) (c : D) (Q : VK), Same F H → RpAll K F xs ds → g ds = some c → (∀ v H' F', Ext F H F' H' → RN K F H F' H' v c → Q v H') → r xs H Q
def fCB (g : List D → Option D) (fa : FA) : FE := fun env => (fa env).bind fun ds => Rs.ofO (g ds)
section
variable {X : Cx} {C : Ct} {K : PySem.W.Frag} {mg : Str → Option Value} {fa : FA} {x : Str} {e : Expr} {es : List Expr} {p pos : Pos} {id T : String} {r : List V → Hp → VK → Prop} {g : List D → Option D}
theorem t_cb (hv : VL K r g) {σ : L2.St} {H : Hp} {Q : VK} : PD.T K mg C (fCB g fa) σ H Q → tCB r (TL K mg C fa) σ H Q := fun ⟨F, env, re, q⟩ =>
  ⟨F, env, re, Sat.bind RD.mono q fun ds vs F1 H1 x1 r1 q1 => by
    obtain ⟨c, hc, q3⟩ := Sat.ofO q1
    exact hv F1 H1 vs ds c Q (re.go x1).same r1 hc q3⟩
theorem t_cbN (hv : VLN K r g) {σ : L2.St} {H : Hp} {Q : VK} : TN K mg C (fCB g fa) σ H Q → tCB r (TL K mg C fa) σ H Q := fun ⟨F, env, re, q⟩ =>
  ⟨F, env, re, Sat.bind RN.mono q fun ds vs F1 H1 x1 r1 q1 => by
    obtain ⟨c, hc, q3⟩ := Sat.ofO q1
    exact hv F1 H1 vs ds c Q (re.go x1).same r1 hc q3⟩
theorem ve_callB (hc : CallR X (.builtin id) r) (hv : VL X.K r g) (hg : Gl X x) (hm : X.mg x = none) (hb : bootBuiltins x = some (.builtin id)) (ha : VA X C (e :: es) fa) (hn : x ≠ "__name__" := by decide) (hdb : (x == ("__debug__" : Str)) = false := by decide)
    (he : starEach (e :: es) X.env = (false, eval e X.env) :: starEach es X.env := by rfl) (hpl : (backTo pos (starEach es X.env)).any (·.1) = false := by rfl) : VE X C (.Call (.Name x p) (e :: es) [] pos) (fCB g fa) := PE.of (pe_callB hc hg hm hb ha hn hdb he hpl) fun _ _ _ => t_cb hv
theorem ve_callT (hc : CallR X (.type T) r) (hv : VL X.K r g) (hg : Gl X x) (hm : X.mg x = none) (hb : bootBuiltins x = some (.type T)) (ha : VA X C (e :: es) fa) (hn : x ≠ "__name__" := by decide) (hdb : (x == ("__debug__" : Str)) = false := by decide)
    (he : starEach (e :: es) X.env = (false, eval e X.env) :: starEach es X.env := by rfl) (hpl : (backTo pos (starEach es X.env)).any (·.1) = false := by rfl) : VE X C (.Call (.Name x p) (e :: es) [] pos) (fCB g fa) := PE.of (pe_callTy hc hg hm hb ha hn hdb he hpl) fun _ _ _ => t_cb hv
theorem vn_callB (hc : CallR X (.builtin id) r) (hv : VLN X.K r g) (hg : Gl X x) (hm : X.mg x = none) (hb : bootBuiltins x = some (.builtin id)) (ha : VA X C (e :: es) fa) (hn : x ≠ "__name__" := by decide) (hdb : (x == ("__debug__" : Str)) = false := by decide)
    (he : starEach (e :: es) X.env = (false, eval e X.env) :: starEach es X.env := by rfl) (hpl : (backTo pos (starEach es X.env)).any (·.1) = false := by rfl) : VN X C (.Call (.Name x p) (e :: es) [] pos) (fCB g fa) := PE.of (pe_callB hc hg hm hb ha hn hdb he hpl) fun _ _ _ => t_cbN hv
theorem vn_callT (hc : CallR X (.type T) r) (hv : VLN X.K r g) (hg : Gl X x) (hm : X.mg x = none) (hb : bootBuiltins x = some (.type T)) (ha : VA X C (e :: es) fa) (hn : x ≠ "__name__" := by decide) (hdb : (x == ("__debug__" : Str)) = false := by decide)
    (he : starEach (e :: es) X.env = (false, eval e X.env) :: starEach es X.env := by rfl) (hpl : (backTo pos (starEach es X.env)).any (·.1) = false := by rfl) : VN X C (.Call (.Name x p) (e :: es) [] pos) (fCB g fa) := PE.of (pe_callTy hc hg hm hb ha hn hdb he hpl) fun _ _ _ => t_cbN hv
end

/-! ### defs -/
structure FnG (P : Program) (w : World) (K : PySem.W.Frag) (mg : Str → Option Value) (base : Heap) (CX : CXT) (k : Nat) (f : Addr) (fd : FuncData) (ps : List Str) (sp : Sp) : Prop where
  len : ∀ vs H Q E, sp vs H Q E → vs.length = ps.length
  run : ∀ (A : Around) (outer : List Env) (s : Shared) (H : Hp) (args : Args) (us : List Value) (vs : List V) (Q : VK) (E : XK), A.guards = some [] → Room k A → Env0 P w K mg base A outer s H → BindsTo s fd args (ps.zip us) → Vals vs us → sp vs H Q E →
    codeAny (model P w) A (.call (.ref f) args) (CR CX outer P w H s Q E) s
theorem FnG.of {P : Program} {w : World} {K : PySem.W.Frag} {mg : Str → Option Value} {base : Heap} {CX : CXT} {k : Nat} {f : Addr} {fd : FuncData} {ps : List Str} {sp : Sp} (F : FnOk P w K mg base CX k f fd ps sp) : FnG P w K mg base CX k f fd ps sp :=
  ⟨F.len, fun A outer s H args us vs Q E _ => F.run A outer s H args us vs Q E⟩
theorem FnG.mono {P : Program} {w : World} {K : PySem.W.Frag} {mg : Str → Option Value} {base : Heap} {CX : CXT} {j k : Nat} {f : Addr} {fd : FuncData} {ps : List Str} {sp : Sp} (F : FnG P w K mg base CX j f fd ps sp) (h : j ≤ k) : FnG P w K mg base CX k f fd ps sp :=
  ⟨F.len, fun A outer s H args us vs Q E hg hr => F.run A outer s H args us vs Q E hg (hr.mono h)⟩
theorem FnG.imp {P : Program} {w : World} {K : PySem.W.Frag} {mg : Str → Option Value} {base : Heap} {CX : CXT} {k : Nat} {f : Addr} {fd : FuncData} {ps : List Str} {sp sp' : Sp} (F : FnG P w K mg base CX k f fd ps sp)
    (h : ∀ vs H Q E, sp' vs H Q E → sp vs H Q E) : FnG P w K mg base CX k f fd ps sp' :=
  ⟨fun vs H Q E q => F.len vs H Q E (h _ _ _ _ q), fun A outer s H args us vs Q E hg hr he hb hv hs => F.run A outer s H args us vs Q E hg hr he hb hv (h _ _ _ _ hs)⟩
/-- a def's promise, by its function on data -/
def spD (K : PySem.W.Frag) (mg : Str → Option Value) (Fn : List D → Rs D) : Sp := fun vs H Q E => ∃ G ds, Same G H ∧ RpAll K G vs ds ∧ Sat mg ⟨G, H, fun _ => E⟩ (RD K) (Fn ds) [] G H Q
/-- .. that hands back a new list -/
def spN (K : PySem.W.Frag) (mg : Str → Option Value) (Fn : List D → Rs D) : Sp := fun vs H Q E => ∃ G ds, Same G H ∧ RpAll K G vs ds ∧ Sat mg ⟨G, H, fun _ => E⟩ (RN K) (Fn ds) [] G H Q
def fCall (Fn : List D → Rs D) (fa : FA) : FE := fun env => (fa env).bind Fn
section
variable {X : Cx} {C : Ct} {K : PySem.W.Frag} {mg : Str → Option Value} {fa : FA} {x : Str} {e : Expr} {es : List Expr} {p pos : Pos} {k n : Nat} {f : Addr} {fd : FuncData} {ps : List Str} {CX : CXT} {sp : Sp} {Fn : List D → Rs D}
def tCallG (sp : Sp) (E : L2.St → XK) (t : TA) : TE := fun σ H Q => t σ H fun vs H1 => sp vs H1 Q (E σ)
theorem run_fnG {pins : List (Addr × Obj)} {σ : L2.St} {H : Hp} {s : Shared} {Q : VK} {us : List Value} {vs : List V} {E : XK} (F : FnG X.prog X.w X.K X.mg X.base CX k f fd ps sp) (hg : X.A.guards = some []) (hr : Room k X.A) (hb : Binds X.K fd ps []) (hx : PassesAt CX X σ E)
    (I : Inv X pins σ H s) (r : Vals vs us) (h : sp vs H Q E) : wpAny (model X.prog X.w) X.A (call (.ref f) us) (EP X pins σ Q) X.xe s := by
  have hl : (us ++ []).length = ps.length := by rw [List.append_nil, ← r.length]; exact F.len _ _ _ _ h
  have hb' : BindsTo s fd ⟨us, []⟩ (ps.zip us) := by have z := hb s us I.kIn hl; rw [List.append_nil] at z; exact z
  refine wpAny_call (codeAny_mono (F.run X.A X.stack s H ⟨us, []⟩ us vs Q E hg hr I.env0 hb' r h) fun r s' hq => ?_)
  cases r with
  | error e => exact hx pins H s e s' I hq
  | ok fl =>
    cases fl with
    | ret u => exact I.after hq
    | next => exact False.elim hq
    | brk => exact False.elim hq
    | cont => exact False.elim hq
theorem pe_callG {t : TA} {E : L2.St → XK} (F : FnG X.prog X.w X.K X.mg X.base CX k f fd ps sp) (hgd : X.A.guards = some []) (hr : Room k X.A) (hg : Gl X x) (hm : X.mg x = some (.ref f)) (hk : PySem.W.keepIn X.K (.ref f) = true) (hb : Binds X.K fd ps []) (hx : ∀ σ, PassesAt CX X σ (E σ))
    (ha : PA X (e :: es) t) (hdb : (x == ("__debug__" : Str)) = false := by decide) (he : starEach (e :: es) X.env = (false, eval e X.env) :: starEach es X.env := by rfl) (hpl : (backTo pos (starEach es X.env)).any (·.1) = false := by rfl) :
    PE X (.Call (.Name x p) (e :: es) [] pos) (tCallG sp E t) := by
  refine ⟨fun pins s σ H Q I h => ?_⟩
  refine wpAny_Call_Name_kw (ld_glob I hg hm ?_ hdb)
  refine PySem.W.callWith_K (h₀ := X.base) I.ok.mod.kin hk (thn (ha.run pos pins s σ H _ I h) fun us s1 ⟨vs, H1, I1, r, q⟩ => ⟨I1.kIn, ?_⟩) he hpl
  exact run_fnG F hgd hr hb (hx σ) I1 r q
theorem Sat.call {R : Rel V D} {σ : L2.St} {F H : Hp} {r : Rs D} {Q : VK} (q : Sat mg C R r σ F H Q) : Sat mg ⟨F, H, fun _ => C.E σ⟩ R r [] F H Q := by
  cases r with
  | ok a => exact q
  | er c m => exact q
  | no => exact q
theorem t_call {σ : L2.St} {H : Hp} {Q : VK} : T K mg C (fCall Fn fa) σ H Q → tCallG (spD K mg Fn) C.E (TL K mg C fa) σ H Q := fun ⟨F, env, re, q⟩ =>
  ⟨F, env, re, Sat.bind RD.mono q fun ds vs F1 H1 x1 r1 q1 => ⟨F1, ds, (re.go x1).same, r1, Sat.call q1⟩⟩
theorem t_callN {σ : L2.St} {H : Hp} {Q : VK} : TN K mg C (fCall Fn fa) σ H Q → tCallG (spN K mg Fn) C.E (TL K mg C fa) σ H Q := fun ⟨F, env, re, q⟩ =>
  ⟨F, env, re, Sat.bind RN.mono q fun ds vs F1 H1 x1 r1 q1 => ⟨F1, ds, (re.go x1).same, r1, Sat.call q1⟩⟩
theorem ve_call (F : FnG X.prog X.w X.K X.mg X.base CX k f fd ps (spD X.K X.mg Fn)) (am : Am X) (hr : Room k X.A) (hg : Gl X x) (hm : X.mg x = some (.ref f)) (hk : PySem.W.keepIn X.K (.ref f) = true) (hb : Binds X.K fd ps []) (hx : ∀ σ, PassesAt CX X σ (C.E σ))
    (ha : VA X C (e :: es) fa) (hdb : (x == ("__debug__" : Str)) = false := by decide) (he : starEach (e :: es) X.env = (false, eval e X.env) :: starEach es X.env := by rfl) (hpl : (backTo pos (starEach es X.env)).any (·.1) = false := by rfl) :
    VE X C (.Call (.Name x p) (e :: es) [] pos) (fCall Fn fa) := PE.of (pe_callG F am.g hr hg hm hk hb hx ha hdb he hpl) fun _ _ _ => t_call
theorem vn_call (F : FnG X.prog X.w X.K X.mg X.base CX k f fd ps (spN X.K X.mg Fn)) (am : Am X) (hr : Room k X.A) (hg : Gl X x) (hm : X.mg x = some (.ref f)) (hk : PySem.W.keepIn X.K (.ref f) = true) (hb : Binds X.K fd ps []) (hx : ∀ σ, PassesAt CX X σ (C.E σ))
    (ha : VA X C (e :: es) fa) (hdb : (x == ("__debug__" : Str)) = false := by decide) (he : starEach (e :: es) X.env = (false, eval e X.env) :: starEach es X.env := by rfl) (hpl : (backTo pos (starEach es X.env)).any (·.1) = false := by rfl) :
    VN X C (.Call (.Name x p) (e :: es) [] pos) (fCall Fn fa) := PE.of (pe_callG F am.g hr hg hm hk hb hx ha hdb he hpl) fun _ _ _ => t_callN
end
end PD

/-! Part 3: statements, loops, comprehensions, bodies -/
namespace PD
open PySem PySem.Spec PyProof.Rows L2

inductive Out where
  | nx (e : List Sl)
  | rt (d : D)
  | rn (d : D)
  | bk (e : List Sl)
  | ct (e : List Sl)
  | er (c : Str) (a : Int)
  | no
def bindO {α : Type} (r : Rs α) (k : α → Out) : Out := match r with
  | .ok a => k a
  | .er c n => .er c n
  | .no => .no
@[simp] theorem bindO_ok {α : Type} (a : α) (k : α → Out) : bindO (.ok a) k = k a := rfl
@[simp] theorem bindO_er {α : Type} (c : Str) (n : Int) (k : α → Out) : bindO (.er c n) k = .er c n := rfl
@[simp] theorem bindO_no {α : Type} (k : α → Out) : bindO .no k = .no := rfl
def Out.seq (o : Out) (k : List Sl → Out) : Out := match o with
  | .nx e => k e
  | o => o
@[simp] theorem seq_nx (e : List Sl) (k : List Sl → Out) : (Out.nx e).seq k = k e := rfl
@[simp] theorem seq_rt (d : D) (k : List Sl → Out) : (Out.rt d).seq k = .rt d := rfl
@[simp] theorem seq_rn (d : D) (k : List Sl → Out) : (Out.rn d).seq k = .rn d := rfl

abbrev FS := List Sl → Out
def RNe (K : PySem.W.Frag) (C : Ct) (F' H' : Hp) (v : V) (d : D) : Prop := ∃ p xs l, v = .ref p ∧ d = .list l ∧ H' p = some (.lst xs) ∧ F' p = none ∧ C.H p = none ∧ RpAll K F' xs l
def SatS (K : PySem.W.Frag) (mg : Str → Option Value) (C : Ct) (o : Out) (F : Hp) (D : Ends) : Prop := match o with
  | .nx e => ∀ σ' H' F', Same F F' → REnv K C F' σ' H' e → D.nx σ' H'
  | .bk e => ∀ σ' H' F', Same F F' → REnv K C F' σ' H' e → D.bk σ' H'
  | .ct e => ∀ σ' H' F', Same F F' → REnv K C F' σ' H' e → D.ct σ' H'
  | .rt d => ∀ v H' F', Ext C.G C.H F' H' → Rp K F' v d → D.rt v H'
  | .rn d => ∀ v H' F', Ext C.G C.H F' H' → RNe K C F' H' v d → D.rt v H'
  | .er c n => ∀ σ', XW mg C σ' C.H c n
  | .no => False
def TSt (K : PySem.W.Frag) (mg : Str → Option Value) (C : Ct) (g : FS) : TS := fun D σ H => ∃ F env, REnv K C F σ H env ∧ SatS K mg C (g env) F D
abbrev VS (X : Cx) (C : Ct) (st : Stmt) (g : FS) : Prop := PS X st (TSt X.K X.mg C g)
abbrev VSs (X : Cx) (C : Ct) (st : List Stmt) (g : FS) : Prop := PSs X st (TSt X.K X.mg C g)

section
variable {K : PySem.W.Frag} {mg : Str → Option Value} {C : Ct} {F F' H : Hp} {σ : L2.St} {env : List Sl} {D D' : Ends}
theorem SatS.go {o : Out} (h : SatS K mg C o F D) (s : Same F F') : SatS K mg C o F' D := by
  cases o with
  | nx e => exact fun σ' H' F2 s2 r => h σ' H' F2 (s.trans s2) r
  | bk e => exact fun σ' H' F2 s2 r => h σ' H' F2 (s.trans s2) r
  | ct e => exact fun σ' H' F2 s2 r => h σ' H' F2 (s.trans s2) r
  | rt d => exact h
  | rn d => exact h
  | er c n => exact h
  | no => exact h
theorem SatS.bind {α β : Type} {R : Rel β α} {r : Rs α} {k : α → Out} {P : β → Hp → Prop} (re : REnv K C F σ H env) (h : SatS K mg C (bindO r k) F D)
    (hk : ∀ a b F1 H1, Ext F H F1 H1 → R F H F1 H1 b a → SatS K mg C (k a) F1 D → P b H1) : Sat mg C R r σ F H P := by
  cases r with
  | ok a => exact fun b H1 F1 e q => hk a b F1 H1 e q (SatS.go h e.f)
  | er c n => exact XW.mono re.ext.h (h σ)
  | no => exact h
theorem PS.of {X : Cx} {st : Stmt} {t u : TS} (h : PS X st t) (i : ∀ D σ H, u D σ H → t D σ H) : PS X st u := ⟨fun pins s σ H D I q => h.run pins s σ H D I (i _ _ _ q)⟩
theorem PSs.of {X : Cx} {st : List Stmt} {t u : TS} (h : PSs X st t) (i : ∀ D σ H, u D σ H → t D σ H) : PSs X st u := ⟨fun pins s σ H D I q => h.run pins s σ H D I (i _ _ _ q)⟩
end

/-! ### small statements -/
def sNext : FS := fun env => .nx env
def sSeq (g g' : FS) : FS := fun env => (g env).seq g'
def sSet (i : Nat) (f : FE) : FS := fun env => bindO (f env) fun d => .nx (env.set i (.sh d))
def ownD : D → Option Sl
  | .list l => some (.own l)
  | _ => none
def sSetN (i : Nat) (f : FE) : FS := fun env => bindO (f env) fun d => match ownD d with
  | some s => .nx (env.set i s)
  | none => .no
def sDrop (f : FE) : FS := fun env => bindO (f env) fun _ => .nx env
def sIf (c : FB) (g g' : FS) : FS := fun env => bindO (c env) fun b => if b = true then g env else g' env
def sRet (f : FE) : FS := fun env => bindO (f env) .rt
def sRetN (f : FE) : FS := fun env => bindO (f env) .rn
def sRetO (i : Nat) : FS := fun env => match env[i]? with
  | some (.own l) => .rn (.list l)
  | _ => .no
def sNone : FS := fun _ => .rt .none
def sBrk : FS := fun env => .bk env
def sCnt : FS := fun env => .ct env
def sNo : FS := fun _ => .no
/-- from now on the list in slot i is not changed -/
def frz1 (i : Nat) (env : List Sl) : List Sl := match env[i]? with
  | some (.own l) => env.set i (.sh (.list l))
  | _ => env
def sFrz (i : Nat) (g : FS) : FS := fun env => match env[i]? with
  | some .un => .no
  | _ => g (frz1 i env)
section
variable {X : Cx} {C : Ct} {st : Stmt} {rest a b : List Stmt} {g g' : FS} {f : FE} {c : FB} {e : Expr} {x : Str} {pos pos' : Pos}
theorem vss_nil : VSs X C [] sNext := PSs.of pss_nil fun D σ H ⟨F, env, re, q⟩ => q σ H F (Same.refl _) re
theorem vss_cons (h1 : VS X C st g) (h2 : VSs X C rest g') : VSs X C (st :: rest) (sSeq g g') := PSs.of (pss_cons h1 h2) fun D σ H ⟨F, env, re, q⟩ => ⟨F, env, re, by
  have q' : SatS X.K X.mg C ((g env).seq g') F D := q
  cases hg : g env with
  | nx e' =>
    rw [hg] at q'
    exact fun σ' H' F' s r => ⟨F', e', r, SatS.go q' s⟩
  | rt d => rw [hg] at q'; exact q'
  | rn d => rw [hg] at q'; exact q'
  | bk d => rw [hg] at q'; exact q'
  | ct d => rw [hg] at q'; exact q'
  | er d n => rw [hg] at q'; exact q'
  | no => rw [hg] at q'; exact q'⟩
theorem vss_one (h1 : VS X C st g) : VSs X C [st] g := pss_one h1
theorem vs_pass : VS X C (.Pass pos) sNext := PS.of ps_pass fun D σ H ⟨F, env, re, q⟩ => q σ H F (Same.refl _) re
theorem vs_break : VS X C (.Break pos) sBrk := PS.of ps_break fun D σ H ⟨F, env, re, q⟩ => q σ H F (Same.refl _) re
theorem vs_continue : VS X C (.Continue pos) sCnt := PS.of ps_continue fun D σ H ⟨F, env, re, q⟩ => q σ H F (Same.refl _) re
theorem vs_never : VS X C st sNo := PS.of ps_never fun D σ H ⟨F, env, re, q⟩ => q
theorem vss_never {sts : List Stmt} : VSs X C sts sNo := PSs.of pss_never fun D σ H ⟨F, env, re, q⟩ => q
theorem vs_expr (h : VE X C e f) (hs : swapsWith e none pos.line X.env = pure false := by rfl) : VS X C (.Expr e pos) (sDrop f) := PS.of (ps_expr h hs) fun D σ H ⟨F, env, re, q⟩ =>
  ⟨F, env, re, SatS.bind re q fun d v F1 H1 x1 r1 q1 => q1 σ H1 F1 (Same.refl _) (re.go x1)⟩
theorem vs_ret (h : VE X C e f) : VS X C (.Return (some e) pos) (sRet f) := PS.of (ps_ret h) fun D σ H ⟨F, env, re, q⟩ =>
  ⟨F, env, re, SatS.bind re q fun d v F1 H1 x1 r1 q1 => q1 v H1 F1 (re.go x1).ext r1⟩
theorem vs_retN (h : VN X C e f) : VS X C (.Return (some e) pos) (sRetN f) := PS.of (ps_ret h) fun D σ H ⟨F, env, re, q⟩ =>
  ⟨F, env, re, SatS.bind (R := RN X.K) re q fun d v F1 H1 x1 ⟨p, xs, l, e1, e2, e3, e4, e5, e6⟩ q1 => q1 v H1 F1 (re.go x1).ext ⟨p, xs, l, e1, e2, e3, e4, re.ext.h.free e5, e6⟩⟩
theorem vs_none : VS X C (.Return none pos) sNone := PS.of ps_retN fun D σ H ⟨F, env, re, q⟩ => q .non H F re.ext .non
theorem vs_retO (i : Nat) (hN : X.N[i]? = some x := by rfl) (hv : Vis X.env.scope x := by first | exact Or.inl rfl | exact Or.inr (Or.inl rfl) | exact Or.inr (Or.inr rfl)) (hd : (x == ("__debug__" : Str)) = false := by decide)
    (hcd : (x == ("__classdict__" : Str)) = false := by decide) : VS X C (.Return (some (.Name x pos')) pos) (sRetO i) := PS.of (ps_ret (pe_var hN hv hd hcd)) fun D σ H ⟨F, env, re, q⟩ => by
  unfold sRetO at q
  split at q
  · rename_i l e
    obtain ⟨p, xs, h1, h2, h3, h4, h5⟩ := re.own e
    exact ⟨.ref p, h1, q _ H F re.ext ⟨p, xs, l, rfl, rfl, h2, h3, h4, h5⟩⟩
  · exact q.elim
theorem vs_if (hc : VB X C e c) (ha : VSs X C a g) (hb : VSs X C b g') : VS X C (.If e a b pos) (sIf c g g') := PS.of (ps_if hc ha hb) fun D σ H ⟨F, env, re, q⟩ =>
  ⟨F, env, re, SatS.bind (R := RB) re q fun t k F1 H1 x1 r1 q1 => by
    have e : k = t := r1
    subst e
    cases k with
    | true => rw [if_pos rfl] at q1 ⊢; exact ⟨F1, env, re.go x1, q1⟩
    | false => rw [if_neg Bool.false_ne_true] at q1 ⊢; exact ⟨F1, env, re.go x1, q1⟩⟩
theorem vs_set (i : Nat) (h : VE X C e f) (hN : X.N.Nodup) (hi : X.N[i]? = some x := by rfl) (hx : Loc X.env.scope x := by first | exact Or.inl rfl | exact Or.inr rfl) (hs : swapsWith e (some (.Name x pos')) pos.line X.env = pure false := by rfl) (hf : X.fn x = true ∨ X.env.scope.names.lookup x = some .local := by first | exact .inl rfl | exact .inr rfl | assumption) :
    VS X C (.Assign [.Name x pos'] e pos) (sSet i f) := PS.of (ps_set hN hi hx h hs hf) fun D σ H ⟨F, env, re, q⟩ =>
  ⟨F, env, re, SatS.bind re q fun d v F1 H1 x1 r1 q1 => q1 _ H1 F1 (Same.refl _) ((re.go x1).setSh r1)⟩
/-- a new list at a free place is in no slot that is owned -/
theorem REnv.newSlot {K : PySem.W.Frag} {F H : Hp} {σ : L2.St} {env : List Sl} {p : Addr} (re : REnv K C F σ H env) (hp : H p = none) (j : Nat) (m : List D) (h : σ[j]? = some (some (.ref p))) : env[j]? ≠ some (.own m) := fun e => by
  obtain ⟨a, xs, h1, h2, _⟩ := re.own e
  rw [h] at h1
  cases h1
  rw [hp] at h2
  cases h2
theorem t_setN {K : PySem.W.Frag} {mg : Str → Option Value} {i : Nat} {D : Ends} {σ : L2.St} {H : Hp} : TSt K mg C (sSetN i f) D σ H → TN K mg C f σ H (fun x H1 => gName i x σ H1 D.nx) := fun ⟨F, env, re, q⟩ =>
  ⟨F, env, re, SatS.bind (R := RN K) re q fun d v F1 H1 x1 ⟨p, xs, l, e1, e2, e3, e4, e5, e6⟩ q1 => by
    subst e1 e2
    refine q1 _ H1 F1 (Same.refl _) ((re.go x1).setOwn e3 e4 (re.ext.h.free e5) e6 fun j m h e => ?_)
    exact re.newSlot e5 j m h e⟩
theorem vs_setN (i : Nat) (h : VN X C e f) (hN : X.N.Nodup) (hi : X.N[i]? = some x := by rfl) (hx : Loc X.env.scope x := by first | exact Or.inl rfl | exact Or.inr rfl) (hs : swapsWith e (some (.Name x pos')) pos.line X.env = pure false := by rfl) (hf : X.fn x = true ∨ X.env.scope.names.lookup x = some .local := by first | exact .inl rfl | exact .inr rfl | assumption) :
    VS X C (.Assign [.Name x pos'] e pos) (sSetN i f) := PS.of (ps_set hN hi hx h hs hf) fun D σ H h => t_setN h
end

/-! ### freezing -/
section
variable {K : PySem.W.Frag} {mg : Str → Option Value} {C : Ct} {F H : Hp} {σ : L2.St} {env : List Sl}
/-- an owned list is written -/
theorem REnv.write {i : Nat} {l l' : List D} {a : Addr} {xs' : List V} (re : REnv K C F σ H env) (e : env[i]? = some (.own l)) (ha : σ[i]? = some (some (.ref a))) (hF : F a = none) (hC : C.H a = none) (r : RpAll K F xs' l') :
    REnv K C F σ (upd H a (.lst xs')) (env.set i (.own l')) := by
  have hi : i < env.length := (List.getElem?_eq_some_iff.mp e).1
  refine ⟨⟨re.ext.f, fun b o h => ?_, fun b o h => ?_, re.ext.n⟩, by rw [List.length_set]; exact re.len, fun j s h => ?_, fun j k m n ne h1 h2 => ?_⟩
  · rw [upd_ne (ne_of_none h hC)]; exact re.ext.h _ _ h
  · rw [upd_ne (ne_of_none h hF)]; exact re.ext.s _ _ h
  · by_cases q : i = j
    · subst q
      rw [List.getElem?_set_self hi] at h
      cases h
      exact ⟨a, xs', ha, upd_same, hF, hC, r⟩
    · rw [List.getElem?_set_ne q] at h
      have z := re.get j s h
      cases s with
      | un => trivial
      | sh d => exact z
      | own m =>
        obtain ⟨b, ys, h1, h2, h3, h4, h5⟩ := z
        refine ⟨b, ys, h1, ?_, h3, h4, h5⟩
        have nb : b ≠ a := fun z => re.apart i j l m q e h (by rw [ha, h1, z])
        rw [upd_ne nb]; exact h2
      | scr ns => exact z
  · by_cases q1 : i = j
    · by_cases q2 : i = k
      · exact absurd (q1.symm.trans q2) ne
      · subst q1
        rw [List.getElem?_set_ne q2] at h2
        exact re.apart i k l n ne e h2
    · rw [List.getElem?_set_ne q1] at h1
      by_cases q2 : i = k
      · subst q2
        exact fun z => re.apart i j l m q1 e h1 z.symm
      · rw [List.getElem?_set_ne q2] at h2
        exact re.apart j k m n ne h1 h2
theorem REnv.frz1 (re : REnv K C F σ H env) (i : Nat) : ∃ F', Same F F' ∧ REnv K C F' σ H (frz1 i env) := by
  unfold PD.frz1
  split
  · rename_i l e
    obtain ⟨a, xs, h1, h2, h3, h4, h5⟩ := re.own e
    have hi : i < env.length := (List.getElem?_eq_some_iff.mp e).1
    have sF : Same F (upd F a (.lst xs)) := same_upd h3
    refine ⟨upd F a (.lst xs), sF, ⟨re.ext.f.trans sF, re.ext.h, fun b o h => ?_, fun b o h => ?_⟩, by rw [List.length_set]; exact re.len, fun j s h => ?_, fun j k m n ne e1 e2 => ?_⟩
    · by_cases q : b = a
      · subst q; rw [upd_same] at h; rw [← h]; exact h2
      · rw [upd_ne q] at h; exact re.ext.s _ _ h
    · by_cases q : b = a
      · subst q; exact .inr h4
      · rw [upd_ne q] at h; exact re.ext.n _ _ h
    · by_cases q : i = j
      · subst q
        rw [List.getElem?_set_self hi] at h
        cases h
        exact ⟨.ref a, h1, .lst (a := a) (xs := xs) upd_same (RpAll.mono sF _ _ h5)⟩
      · rw [List.getElem?_set_ne q] at h
        have z := re.get j s h
        cases s with
        | un => trivial
        | sh d => obtain ⟨x, y1, y2⟩ := z; exact ⟨x, y1, Rp.mono sF _ _ y2⟩
        | own m =>
          obtain ⟨b, ys, y1, y2, y3, y4, y5⟩ := z
          have nb : b ≠ a := fun z => re.apart i j l m q e h (by rw [h1, y1, z])
          exact ⟨b, ys, y1, y2, by rw [upd_ne nb]; exact y3, y4, RpAll.mono sF _ _ y5⟩
        | scr ns => exact z
    · by_cases q1 : i = j
      · subst q1; rw [List.getElem?_set_self hi] at e1; cases e1
      · by_cases q2 : i = k
        · subst q2; rw [List.getElem?_set_self hi] at e2; cases e2
        · rw [List.getElem?_set_ne q1] at e1
          rw [List.getElem?_set_ne q2] at e2
          exact re.apart j k m n ne e1 e2
  · exact ⟨F, Same.refl _, re⟩
theorem t_frz (i : Nat) {g : FS} {D : Ends} : TSt K mg C (sFrz i g) D σ H → TSt K mg C g D σ H := fun ⟨F, env, re, q⟩ => by
  unfold sFrz at q
  split at q
  · exact q.elim
  · obtain ⟨F', s, re'⟩ := re.frz1 i
    exact ⟨F', _, re', SatS.go q s⟩
theorem vs_frz {X : Cx} {st : Stmt} {g : FS} (i : Nat) (h : VS X C st g) : VS X C st (sFrz i g) := PS.of h fun _ _ _ q => t_frz i q
theorem vss_frz {X : Cx} {st : List Stmt} {g : FS} (i : Nat) (h : VSs X C st g) : VSs X C st (sFrz i g) := PSs.of h fun _ _ _ q => t_frz i q
/-- all lists frozen, for an expression whose value bears no object -/
def thaw : List Sl → List Sl
  | [] => []
  | .own l :: r => .sh (.list l) :: thaw r
  | s :: r => s :: thaw r
def scalD : D → Bool
  | .none => true
  | .bool _ => true
  | .int _ => true
  | .str _ => true
  | _ => false
def fScal (f : FE) : FE := fun env => (f (thaw env)).bind fun d => if scalD d = true then .ok d else .no
def fThB (f : FB) : FB := fun env => f (thaw env)
theorem thaw_get : ∀ (env : List Sl) (i : Nat), (thaw env)[i]? = (env[i]?).map fun s => match s with | .own l => .sh (.list l) | s => s
  | [], i => by simp [thaw]
  | .own l :: r, 0 => rfl
  | .un :: r, 0 => rfl
  | .sh d :: r, 0 => rfl
  | .scr d :: r, 0 => rfl
  | .own l :: r, i + 1 => thaw_get r i
  | .un :: r, i + 1 => thaw_get r i
  | .sh d :: r, i + 1 => thaw_get r i
  | .scr d :: r, i + 1 => thaw_get r i
theorem thaw_len : ∀ env : List Sl, (thaw env).length = env.length
  | [] => rfl
  | .own l :: r => congrArg (· + 1) (thaw_len r)
  | .un :: r => congrArg (· + 1) (thaw_len r)
  | .sh d :: r => congrArg (· + 1) (thaw_len r)
  | .scr d :: r => congrArg (· + 1) (thaw_len r)
open Classical in
theorem REnv.thaw (re : REnv K C F σ H env) : ∃ F', Same F F' ∧ REnv K C F' σ H (thaw env) := by
  have hs : Same F (fun a => if (∃ (i : Nat) (l : List D), env[i]? = some (Sl.own l) ∧ σ[i]? = some (some (V.ref a))) then H a else F a) := fun b o h => by
    show (if (∃ (i : Nat) (l : List D), env[i]? = some (Sl.own l) ∧ σ[i]? = some (some (V.ref b))) then H b else F b) = some o
    split
    · exact re.ext.s _ _ h
    · exact h
  refine ⟨_, hs, ⟨re.ext.f.trans hs, re.ext.h, fun b o h => ?_, fun b o h => ?_⟩, by rw [thaw_len]; exact re.len, fun j s h => ?_, fun j k m n ne e1 e2 => ?_⟩
  · have h : (if (∃ (i : Nat) (l : List D), env[i]? = some (Sl.own l) ∧ σ[i]? = some (some (V.ref b))) then H b else F b) = some o := h
    split at h
    · exact h
    · exact re.ext.s _ _ h
  · have h : (if (∃ (i : Nat) (l : List D), env[i]? = some (Sl.own l) ∧ σ[i]? = some (some (V.ref b))) then H b else F b) = some o := h
    split at h
    · rename_i q
      obtain ⟨i, l, q1, q2⟩ := q
      obtain ⟨a, xs, z1, z2, z3, z4, z5⟩ := re.own q1
      rw [q2] at z1; cases z1
      exact .inr z4
    · exact re.ext.n _ _ h
  · rw [thaw_get] at h
    cases e : env[j]? with
    | none => rw [e] at h; cases h
    | some t =>
      rw [e] at h
      have z := re.get j t e
      cases t with
      | un => cases h; trivial
      | sh d => cases h; obtain ⟨x, y1, y2⟩ := z; exact ⟨x, y1, Rp.mono hs _ _ y2⟩
      | own l =>
        cases h
        obtain ⟨a, xs, z1, z2, z3, z4, z5⟩ := z
        refine ⟨.ref a, z1, .lst (a := a) (xs := xs) ?_ (RpAll.mono hs _ _ z5)⟩
        show (if (∃ (i : Nat) (l : List D), env[i]? = some (Sl.own l) ∧ σ[i]? = some (some (V.ref a))) then H a else F a) = _
        rw [if_pos ⟨j, l, e, z1⟩]
        exact z2
      | scr ns => cases h; exact z
  · rw [thaw_get] at e1
    cases e : env[j]? with
    | none => rw [e] at e1; cases e1
    | some t => rw [e] at e1; cases t <;> cases e1
theorem Rp.scal {F F' : Hp} {v : V} {d : D} (s : scalD d = true) (h : Rp K F' v d) : Rp K F v d := by
  cases d with
  | none => cases h; exact .non
  | bool b => cases h; exact .bl _
  | int b => cases h; exact .int _
  | str b => cases h; exact .str _
  | _ => cases s
theorem ve_scal {X : Cx} {e : Expr} {f : FE} (h : VE X C e f) : VE X C e (fScal f) := PE.of h fun σ H Q ⟨F, env, re, q⟩ => by
  obtain ⟨F', s, re'⟩ := re.thaw
  refine ⟨F', _, re', ?_⟩
  have q : Sat X.mg C (RD X.K) ((f (thaw env)).bind fun d => if scalD d = true then .ok d else .no) σ F H Q := q
  cases hf : f (thaw env) with
  | ok d =>
    rw [hf] at q
    have q : Sat X.mg C (RD X.K) (if scalD d = true then .ok d else .no) σ F H Q := q
    by_cases hd : scalD d = true
    · rw [if_pos hd] at q
      exact fun v H1 F1 x1 r1 => q v H1 F ⟨Same.refl _, x1.h, re.same.trans x1.h, fun _ _ z => .inl z⟩ (Rp.scal hd r1)
    · rw [if_neg hd] at q; exact q.elim
  | er c n => rw [hf] at q; exact q
  | no => rw [hf] at q; exact q
theorem vb_th {X : Cx} {e : Expr} {f : FB} (h : VB X C e f) : VB X C e (fThB f) := PT.of h fun σ H Q ⟨F, env, re, q⟩ => by
  obtain ⟨F', s, re'⟩ := re.thaw
  refine ⟨F', _, re', ?_⟩
  have q : Sat X.mg C RB (f (thaw env)) σ F H Q := q
  cases hf : f (thaw env) with
  | ok d =>
    rw [hf] at q
    exact fun v H1 F1 x1 r1 => q v H1 F ⟨Same.refl _, x1.h, re.same.trans x1.h, fun _ _ z => .inl z⟩ r1
  | er c n => rw [hf] at q; exact q
  | no => rw [hf] at q; exact q
end

/-! ### owned lists by their methods -/
def sApp (i : Nat) (f : FE) : FS := fun env => match env[i]? with
  | some (.own l) => bindO (f env) fun d => if l.length < LINE then .nx (env.set i (.own (l ++ [d]))) else .no
  | _ => .no
section
variable {X : Cx} {C : Ct} {e : Expr} {f : FE} {x : Str} {pos p1 p2 p3 : Pos}
theorem vs_append (i : Nat) (h : VE X C e f) (hN : X.N[i]? = some x := by rfl) (hv : Vis X.env.scope x := by first | exact Or.inl rfl | exact Or.inr (Or.inl rfl) | exact Or.inr (Or.inr rfl)) (hd : (x == ("__debug__" : Str)) = false := by decide)
    (hcd : (x == ("__classdict__" : Str)) = false := by decide) (he : starEach [e] X.env = (false, eval e X.env) :: starEach [] X.env := by rfl)
    (ht : ∀ {to : TE} {t : TA}, PE X (.Name x p3) to → PA X [e] t → PE X (.Call (.Attribute (.Name x p3) "append" p1) [e] [] p2) (tBM X.K "list" rAppend to t) := by
      intro to t ho ha; exact pe_bm PySem.F.plainAttrs_list PySem.F.slot_list_append PySem.F.type_list_append mt_append ho ha)
    (hs : swapsWith (.Call (.Attribute (.Name x p3) "append" p1) [e] [] p2) none pos.line X.env = pure false := by rfl) :
    VS X C (.Expr (.Call (.Attribute (.Name x p3) "append" p1) [e] [] p2) pos) (sApp i f) := PS.of (ps_expr (ht (pe_var hN hv hd hcd) (pa_cons h pa_nil he)) hs) fun D σ H ⟨F, env, re, q⟩ => by
  unfold sApp at q
  split at q
  · rename_i l e1
    obtain ⟨a, xs, h1, h2, h3, h4, h5⟩ := re.own e1
    refine ⟨.ref a, h1, .inl ⟨rfl, _, SqL.of h2⟩, F, env, re, SatS.bind re q fun d v F1 H1 x1 r1 q1 => ?_⟩
    by_cases hl : l.length < LINE
    · rw [if_pos hl] at q1
      obtain ⟨a', xs', g1, g2, g3, g4, g5⟩ := (re.go x1).own e1
      rw [h1] at g1; cases g1
      refine ⟨a, xs', v, rfl, rfl, g2, by rw [g5.length, line_eq]; exact hl, ?_⟩
      exact q1 σ _ F1 (Same.refl _) ((re.go x1).write e1 h1 g3 g4 (g5.append (.cons r1 .nil)))
    · rw [if_neg hl] at q1; exact q1.elim
  · exact q.elim
end
end PD

/-! Part 4: targets, loops, comprehensions, bodies -/
namespace PD
open PySem PySem.Spec PyProof.Rows L2

/-! ### targets -/
inductive Tgt where
  | nm (i : Nat)
  | tp (is : List Nat)
  | np (i : Nat) (is : List Nat)
def setE : List Nat → List D → List Sl → List Sl
  | i :: is, d :: ds, env => setE is ds (env.set i (.sh d))
  | _, _, env => env
def setV : List Nat → List V → L2.St → L2.St
  | i :: is, v :: vs, σ => setV is vs (σ.set i (some v))
  | _, _, σ => σ
def Tgt.slots : Tgt → List Nat
  | .nm i => [i]
  | .tp is => is
  | .np i is => i :: is
def npD : D → Option (D × List D)
  | .tuple [a, .tuple l] => some (a, l)
  | _ => none
theorem npD_some {d a : D} {l : List D} (h : npD d = some (a, l)) : d = .tuple [a, .tuple l] := by
  unfold npD at h
  split at h
  · cases h; rfl
  · cases h
def Tgt.put (t : Tgt) (d : D) (env : List Sl) : Option (List Sl) := match t with
  | .nm i => some (env.set i (.sh d))
  | .tp is => match d with
    | .tuple l => if l.length = is.length then some (setE is l env) else none
    | .list l => if l.length = is.length then some (setE is l env) else none
    | _ => none
  | .np i is => match npD d with
    | some (a, l) => if l.length = is.length then some (setE is l (env.set i (.sh a))) else none
    | none => none
/-- the target's reading: Q at the slots set -/
def Tgt.g (K : PySem.W.Frag) (t : Tgt) : TG := fun v σ H Q => match t with
  | .nm i => Q (σ.set i (some v)) H
  | .tp is => ∃ a xs, v = .ref a ∧ (SqT K H a xs ∨ SqL K H a xs) ∧ xs.length = is.length ∧ Q (setV is xs σ) H
  | .np i is => ∃ a x b xs, v = .ref a ∧ SqT K H a [x, .ref b] ∧ SqT K H b xs ∧ xs.length = is.length ∧ Q (setV (i :: is) (x :: xs) σ) H
section
variable {K : PySem.W.Frag} {C : Ct} {F H : Hp} {σ : L2.St} {env : List Sl}
theorem REnv.setAll : ∀ (is : List Nat) (ds : List D) (vs : List V) (σ : L2.St) (env : List Sl), RpAll K F vs ds → REnv K C F σ H env → REnv K C F (setV is vs σ) H (setE is ds env)
  | [], [], _, _, _, h, r => by cases h; exact r
  | [], _ :: _, _, _, _, h, r => by cases h; exact r
  | _ :: _, [], _, _, _, h, r => by cases h; exact r
  | i :: is, d :: ds, _, σ, env, h, r => by
    cases h with
    | cons a b => exact REnv.setAll is ds _ _ _ b (r.setSh a)
theorem Tgt.go {t : Tgt} {d : D} {v : V} {e : List Sl} {Q : L2.St → Hp → Prop} (re : REnv K C F σ H env) (r : Rp K F v d) (h : t.put d env = some e)
    (q : ∀ vs : List V, REnv K C F (setV t.slots vs σ) H e → Q (setV t.slots vs σ) H) : t.g K v σ H Q := by
  cases t with
  | nm i =>
    have e' : env.set i (.sh d) = e := Option.some.inj h
    subst e'
    exact q [v] (re.setSh r)
  | tp is =>
    cases d with
    | tuple l =>
      have h : (if l.length = is.length then some (setE is l env) else none) = some e := h
      by_cases hl : l.length = is.length
      · rw [if_pos hl] at h
        cases h
        cases r with
        | @tup a xs _ h1 h2 => exact ⟨a, xs, rfl, .inl (Same.sqt re.same h1), by rw [h2.length, hl], q xs (REnv.setAll is l xs σ env h2 re)⟩
      · rw [if_neg hl] at h; cases h
    | list l =>
      have h : (if l.length = is.length then some (setE is l env) else none) = some e := h
      by_cases hl : l.length = is.length
      · rw [if_pos hl] at h
        cases h
        cases r with
        | @lst a xs _ h1 h2 => exact ⟨a, xs, rfl, .inr (SqL.of (re.same _ _ h1)), by rw [h2.length, hl], q xs (REnv.setAll is l xs σ env h2 re)⟩
      · rw [if_neg hl] at h; cases h
    | _ => cases h
  | np i is =>
    unfold Tgt.put at h
    cases hn : npD d with
    | none => simp only [hn] at h; cases h
    | some p =>
      obtain ⟨c, l⟩ := p
      simp only [hn] at h
      have hd := npD_some hn
      subst hd
      by_cases hl : l.length = is.length
      · rw [if_pos hl] at h
        cases h
        cases r with
        | @tup a xs _ h1 h2 =>
          cases h2 with
          | cons hx ht =>
            cases ht with
            | cons hy hn =>
              cases hn
              cases hy with
              | @tup b ys _ g1 g2 => exact ⟨a, _, b, ys, rfl, Same.sqt re.same h1, Same.sqt re.same g1, by rw [g2.length, hl], q _ (REnv.setAll is l ys _ _ g2 (re.setSh hx))⟩
      · rw [if_neg hl] at h; cases h
/-- the slots of a block's own names forgotten -/
def wipeE (env : List Sl) : List Nat → List Sl
  | [] => env
  | v :: vs => (wipeE env vs).set v .un
theorem REnv.unset {i : Nat} (re : REnv K C F σ H env) : REnv K C F (σ.set i none) H (env.set i .un) := by
  refine ⟨re.ext, by rw [List.length_set, List.length_set]; exact re.len, fun j s h => ?_, fun j k m n ne e1 e2 => ?_⟩
  · by_cases q : i = j
    · subst q
      have hi : i < env.length := by
        rcases Nat.lt_or_ge i env.length with z | z
        · exact z
        · rw [List.getElem?_eq_none (by rw [List.length_set]; exact z)] at h; cases h
      rw [List.getElem?_set_self hi] at h
      cases h
      trivial
    · rw [List.getElem?_set_ne q] at h ⊢
      exact re.get j s h
  · have no : ∀ (k : Nat) (m : List D), (env.set i .un)[k]? = some (.own m) → i ≠ k := fun k m e q => by
      subst q
      have hi : i < env.length := by
        rcases Nat.lt_or_ge i env.length with z | z
        · exact z
        · rw [List.getElem?_eq_none (by rw [List.length_set]; exact z)] at e; cases e
      rw [List.getElem?_set_self hi] at e
      cases e
    have n1 := no j m e1
    have n2 := no k n e2
    rw [List.getElem?_set_ne n1] at e1 ⊢
    rw [List.getElem?_set_ne n2] at e2 ⊢
    exact re.apart j k m n ne e1 e2
theorem REnv.wipe (re : REnv K C F σ H env) : ∀ vs : List Nat, REnv K C F (L2.wipe σ vs) H (wipeE env vs)
  | [] => re
  | v :: vs => (re.wipe vs).unset
theorem wipe_set (σ : L2.St) {i : Nat} (x : Option V) : ∀ {vs : List Nat}, i ∈ vs → L2.wipe (σ.set i x) vs = L2.wipe σ vs
  | v :: vs, h => by
    show (L2.wipe (σ.set i x) vs).set v none = (L2.wipe σ vs).set v none
    by_cases q : i ∈ vs
    · rw [wipe_set σ x q]
    · have e : v = i := by
        rcases List.mem_cons.mp h with e | e
        · exact e.symm
        · exact absurd e q
      subst e
      have z : ∀ (vs : List Nat), v ∉ vs → L2.wipe (σ.set v x) vs = (L2.wipe σ vs).set v x := by
        intro vs
        induction vs with
        | nil => intro _; rfl
        | cons u us ih =>
          intro hn
          have h1 : v ≠ u := fun z => hn (by rw [z]; exact List.mem_cons_self)
          have h2 : v ∉ us := fun z => hn (List.mem_cons_of_mem _ z)
          show (L2.wipe (σ.set v x) us).set u none = ((L2.wipe σ us).set u none).set v x
          rw [ih h2, List.set_comm _ _ h1]
      rw [z vs q, List.set_set]
theorem wipe_setV (vs : List Nat) : ∀ (is : List Nat) (xs : List V) (σ : L2.St), (∀ i ∈ is, i ∈ vs) → L2.wipe (setV is xs σ) vs = L2.wipe σ vs
  | [], _, _, _ => rfl
  | _ :: _, [], _, _ => rfl
  | i :: is, x :: xs, σ, h => by
    show L2.wipe (setV is xs (σ.set i (some x))) vs = _
    rw [wipe_setV vs is xs _ fun j hj => h j (List.mem_cons_of_mem _ hj), wipe_set σ _ (h i List.mem_cons_self)]
end
section
variable {X : Cx}
theorem pg_nm (i : Nat) {x : Str} {pos : Pos} (hN : X.N.Nodup) (hi : X.N[i]? = some x := by rfl) (hx : Loc X.env.scope x := by first | exact Or.inl rfl | exact Or.inr rfl) (hf : X.fn x = true ∨ X.env.scope.names.lookup x = some .local := by first | exact .inl rfl | exact .inr rfl | assumption) :
    PG X (.Name x pos) (Tgt.g X.K (.nm i)) := pg_name hN hi hx hf
/-- several names, one behind the other -/
structure PNs (X : Cx) (ts : List Expr) (is : List Nat) : Prop where
  run : PGs X ts (fun vs σ H Q => vs.length = is.length ∧ Q (setV is vs σ) H)
theorem pns_nil : PNs X [] [] := ⟨⟨fun pins s σ H vs us Q I r h => pgs_nil.run pins s σ H vs us Q I r ⟨List.eq_nil_of_length_eq_zero h.1, by
  have e := List.eq_nil_of_length_eq_zero h.1
  subst e
  exact h.2⟩⟩⟩
theorem pns_cons (i : Nat) {x : Str} {pos : Pos} {ts : List Expr} {is : List Nat} (h : PNs X ts is) (hN : X.N.Nodup) (hi : X.N[i]? = some x := by rfl) (hx : Loc X.env.scope x := by first | exact Or.inl rfl | exact Or.inr rfl) (hf : X.fn x = true ∨ X.env.scope.names.lookup x = some .local := by first | exact .inl rfl | exact .inr rfl | assumption)
    (hs : (assignEach (.Name x pos :: ts) X.env).map (·.2) = assign (.Name x pos) X.env :: (assignEach ts X.env).map (·.2) := by rfl) : PNs X (.Name x pos :: ts) (i :: is) := ⟨⟨fun pins s σ H vs us Q I r hq => by
  cases vs with
  | nil => exact absurd hq.1 (by simp)
  | cons v vs =>
    refine (pgs_cons (pg_name (pos := pos) hN hi hx hf) h.run hs).run pins s σ H _ us Q I r ⟨v, vs, rfl, ?_⟩
    exact ⟨by simpa using hq.1, hq.2⟩⟩⟩
theorem pg_tp {es : List Expr} {k : Nat} {pos : Pos} {is : List Nat} (hc : X.calm = true) (h : PNs X es is) (hn : (assignEach es X.env).length = is.length := by rfl) (hst : (assignEach es X.env).findIdx? (·.1) = none := by rfl) : PG X (.Tuple es k pos) (Tgt.g X.K (.tp is)) :=
  ⟨fun pins s σ H v u Q I r hq => by
    obtain ⟨a, xs, e1, e2 | e2, e3, e4⟩ := hq
    · exact (pg_tup hc h.run hn hst).run pins s σ H v u Q I r ⟨a, xs, e1, e2, e3, e3, e4⟩
    · exact (pg_lst hc h.run hn hst).run pins s σ H v u Q I r ⟨a, xs, e1, e2, e3, e3, e4⟩⟩
end

section
variable {X : Cx}
theorem pg_np (i : Nat) {x : Str} {p1 : Pos} {es : List Expr} {k k2 : Nat} {pos pos2 : Pos} {is : List Nat} (hc : X.calm = true) (hN : X.N.Nodup) (h : PNs X es is) (hi : X.N[i]? = some x := by rfl) (hx : Loc X.env.scope x := by first | exact Or.inl rfl | exact Or.inr rfl) (hf : X.fn x = true ∨ X.env.scope.names.lookup x = some .local := by first | exact .inl rfl | exact .inr rfl | assumption)
    (hn : (assignEach es X.env).length = is.length := by rfl) (hst : (assignEach es X.env).findIdx? (·.1) = none := by rfl)
    (hs1 : (assignEach [.Tuple es k pos] X.env).map (·.2) = assign (.Tuple es k pos) X.env :: (assignEach [] X.env).map (·.2) := by rfl)
    (hs2 : (assignEach [.Name x p1, .Tuple es k pos] X.env).map (·.2) = assign (.Name x p1) X.env :: (assignEach [.Tuple es k pos] X.env).map (·.2) := by rfl)
    (hn2 : (assignEach [.Name x p1, .Tuple es k pos] X.env).length = 2 := by rfl) (hst2 : (assignEach [.Name x p1, .Tuple es k pos] X.env).findIdx? (·.1) = none := by rfl) : PG X (.Tuple [.Name x p1, .Tuple es k pos] k2 pos2) (Tgt.g X.K (.np i is)) :=
  ⟨fun pins s σ H v u Q I r hq => (pg_tup hc (pgs_cons (pg_name hN hi hx hf) (pgs_cons (pg_tup hc h.run hn hst) pgs_nil hs1) hs2) hn2 hst2).run pins s σ H v u Q I r (by
    obtain ⟨a, y, b, xs, e1, e2, e3, e4, e5⟩ := hq
    exact ⟨a, _, e1, e2, rfl, y, _, rfl, .ref b, [], rfl, b, xs, rfl, e3, e4, e4, rfl, e5⟩)⟩
end

/-! ### assignment to a tuple of names -/
def sAsg (t : Tgt) (f : FE) : FS := fun env => bindO (f env) fun d => match t.put d env with
  | some e => .nx e
  | none => .no
theorem vs_asg {X : Cx} {C : Ct} {t : Tgt} {f : FE} {tg e : Expr} {pos : Pos} (h : VE X C e f) (hg : PG X tg (t.g X.K)) (hs : swapsWithSole [tg] e pos.line X.env = pure false := by rfl) (hw : swappedStores [tg] e X.env = pure none := by rfl)
    (h1 : (assignEach [tg] X.env).map (·.2) = [assign tg X.env] := by rfl) : VS X C (.Assign [tg] e pos) (sAsg t f) := PS.of (ps_asg h hg hs hw h1) fun D σ H ⟨F, env, re, q⟩ =>
  ⟨F, env, re, SatS.bind re q fun d v F1 H1 x1 r1 q1 => by
    cases hp : t.put d env with
    | none => rw [hp] at q1; exact q1.elim
    | some e' =>
      rw [hp] at q1
      exact Tgt.go (re.go x1) r1 hp fun vs re2 => q1 _ H1 F1 (Same.refl _) re2⟩

/-! ### what is walked -/
structure ItD (K : PySem.W.Frag) (F : Hp) (J : It) (ds : List D) : Prop where
  go : ∀ F' H' (i : Nat) (d : D), Same F F' → Same F' H' → ds[i]? = some d → J.go i H' ∧ ∀ x H2, J.yld i H' x H2 → ∃ F2, Ext F' H' F2 H2 ∧ Rp K F2 x d
  stop : ∀ F' H' (i : Nat), Same F F' → Same F' H' → ds.length = i → J.stop i H'
theorem ItD.mono {K : PySem.W.Frag} {F F' : Hp} {J : It} {ds : List D} (h : ItD K F J ds) (s : Same F F') : ItD K F' J ds :=
  ⟨fun F2 H2 i d s2 => h.go F2 H2 i d (s.trans s2), fun F2 H2 i s2 => h.stop F2 H2 i (s.trans s2)⟩
def RI (K : PySem.W.Frag) : Rel It (List D) := fun _ _ F' _ J ds => ItD K F' J ds
theorem RI.mono {K : PySem.W.Frag} : RMono (RI K) := fun _ _ _ _ _ _ _ _ _ _ h => h
def TIt (K : PySem.W.Frag) (mg : Str → Option Value) (C : Ct) (g : FA) : TI := fun σ H R => ∃ F env, REnv K C F σ H env ∧ Sat mg C (RI K) (g env) σ F H R
abbrev VI (X : Cx) (C : Ct) (tg e : Expr) (g : FA) : Prop := PI X tg e (TIt X.K X.mg C g)
theorem PI.of {X : Cx} {tg e : Expr} {t u : TI} (h : PI X tg e t) (i : ∀ σ H R, u σ H R → t σ H R) : PI X tg e u := ⟨fun pins s σ H R I q => h.run pins s σ H R I (i _ _ _ q)⟩
section
variable {K : PySem.W.Frag}
theorem itd_list {F : Hp} {a : Addr} {xs : List V} {ds : List D} (h : F a = some (.lst xs)) (r : RpAll K F xs ds) : ItD K F (Itl K a) ds := by
  have q : ∀ {F' H' : Hp}, Same F F' → Same F' H' → SqL K H' a xs := fun s s' => SqL.of (s' _ _ (s _ _ h))
  refine ⟨fun F' H' i d s s' e => ?_, fun F' H' i s s' e => ⟨xs, q s s', by rw [r.length]; exact Nat.le_of_eq e⟩⟩
  obtain ⟨v, h1, h2⟩ := r.get e
  refine ⟨⟨xs, v, q s s', h1⟩, fun x H2 y => ?_⟩
  obtain ⟨e1, e2⟩ := y
  subst e1
  have e3 := e2 xs (q s s')
  rw [h1] at e3
  cases e3
  exact ⟨F', Ext.refl s', Rp.mono s _ _ h2⟩
theorem itd_tup {F : Hp} {a : Addr} {xs : List V} {ds : List D} (h : SqT K F a xs) (r : RpAll K F xs ds) : ItD K F (Itt K a) ds := by
  have q : ∀ {F' H' : Hp}, Same F F' → Same F' H' → SqT K H' a xs := fun s s' => Same.sqt (s.trans s') h
  refine ⟨fun F' H' i d s s' e => ?_, fun F' H' i s s' e => ⟨xs, q s s', by rw [r.length]; exact Nat.le_of_eq e⟩⟩
  obtain ⟨v, h1, h2⟩ := r.get e
  refine ⟨⟨xs, v, q s s', h1⟩, fun x H2 y => ?_⟩
  obtain ⟨e1, e2⟩ := y
  subst e1
  have e3 := e2 xs (q s s')
  rw [h1] at e3
  cases e3
  exact ⟨F', Ext.refl s', Rp.mono s _ _ h2⟩
theorem itd_range {F : Hp} (lo : Int) (n : Nat) : ItD K F (Itr lo n) ((List.range n).map fun i => .int (lo + (i : Nat))) := by
  refine ⟨fun F' H' i d s s' e => ?_, fun F' H' i s s' e => ?_⟩
  · rw [List.getElem?_map] at e
    have hi : i < n := by
      rcases Nat.lt_or_ge i n with h | h
      · exact h
      · rw [List.getElem?_eq_none (by simpa using h)] at e; cases e
    rw [List.getElem?_range hi] at e
    cases e
    refine ⟨hi, fun x H2 y => ?_⟩
    obtain ⟨e1, e2⟩ := y
    subst e1 e2
    exact ⟨F', Ext.refl s', .int _⟩
  · rw [List.length_map, List.length_range] at e
    exact Nat.le_of_eq e
def oneS (c : Nat) : D := .str ⟨#[c]⟩
theorem itd_str {F : Hp} (x : Str) : ItD K F (Its x) (x.cps.toList.map oneS) := by
  refine ⟨fun F' H' i d s s' e => ?_, fun F' H' i s s' e => ?_⟩
  · rw [List.getElem?_map] at e
    cases h : x.cps.toList[i]? with
    | none => rw [h] at e; cases e
    | some c =>
      rw [h] at e
      cases e
      have h' : x.cps[i]? = some c := by rw [← Array.getElem?_toList]; exact h
      refine ⟨(Array.getElem?_eq_some_iff.mp h').1, fun y H2 z => ?_⟩
      obtain ⟨e1, c', e2, e3⟩ := z
      subst e1 e3
      rw [h'] at e2
      cases e2
      exact ⟨F', Ext.refl s', .str _⟩
  · rw [List.length_map, Array.length_toList] at e
    exact Nat.le_of_eq e
end
/-- a list, a tuple, a text, walked -/
def seqD : D → Option (List D)
  | .list l => some l
  | .tuple l => some l
  | .str x => some (x.cps.toList.map oneS)
  | _ => none
def iSeq (f : FE) : FA := fun env => (f env).bind fun d => Rs.ofO (seqD d)
def iSeqT (K : PySem.W.Frag) (tl : TE) : TI := fun σ H R => tl σ H fun x H1 => (∃ a, x = .ref a ∧ (∃ xs, SqL K H1 a xs) ∧ R (Itl K a) H1) ∨ (∃ a, x = .ref a ∧ (∃ xs, SqT K H1 a xs) ∧ R (Itt K a) H1) ∨ (∃ z, x = .str z ∧ R (Its z) H1)
section
variable {X : Cx} {C : Ct} {tg l : Expr}
theorem pi_seq {tl : TE} (hl : PE X l tl) : PI X tg l (iSeqT X.K tl) := by
  refine ⟨fun pins s σ H R I h => ?_⟩
  refine thn (hl.run pins s σ H _ I h) fun v s1 ⟨x, H1, I1, r1, q1⟩ => ?_
  rcases q1 with ⟨a, e, ⟨xs, hq⟩, q⟩ | ⟨a, e, ⟨xs, hq⟩, q⟩ | ⟨z, e, q⟩
  · subst e
    cases r1
    obtain ⟨its, rv, p, hz⟩ := I1.list hq
    refine wpAny_pyIter_list p.isList ?_
    exact pi_one (tk := s1.toks) I1 _ (turn_list a _) ⟨_, Heap.get?_push_size _ rfl, rfl, rfl⟩ q
  · subst e
    cases r1
    obtain ⟨its, rv, p, hz⟩ := I1.tuple hq
    refine wpAny_pyIter_tuple (show s1.heap.IsTuple a its.toArray from p) ?_
    exact pi_one (tk := s1.toks) I1 _ (turn_tuple a _) ⟨_, Heap.get?_push_size _ rfl, rfl, rfl⟩ q
  · subst e
    obtain ⟨t, rfl⟩ := r1
    cases ha : z.cps.all (· < 128)
    · exact wpAny_pyIter_wide ha (pi_one (tk := s1.toks) I1 _ (turn_str _ z t "str_iterator" (.inr rfl)) ⟨_, Heap.get?_push_size _ rfl, rfl, rfl⟩ q)
    · exact wpAny_pyIter_ascii ha (pi_one (tk := s1.toks) I1 _ (turn_str _ z t "str_ascii_iterator" (.inl rfl)) ⟨_, Heap.get?_push_size _ rfl, rfl, rfl⟩ q)
theorem vi_seq {f : FE} (h : VE X C l f) : VI X C tg l (iSeq f) := PI.of (pi_seq h) fun σ H R ⟨F, env, re, q⟩ =>
  ⟨F, env, re, Sat.bind RI.mono q fun d v F1 H1 x1 r1 q1 => by
    have s1 := (re.go x1).same
    cases d with
    | list ds =>
      cases r1 with
      | @lst a xs _ h1 h2 => exact .inl ⟨a, rfl, ⟨xs, SqL.of (s1 _ _ h1)⟩, q1 _ H1 F1 (Ext.refl s1) (itd_list h1 h2)⟩
    | tuple ds =>
      cases r1 with
      | @tup a xs _ h1 h2 => exact .inr (.inl ⟨a, rfl, ⟨xs, Same.sqt s1 h1⟩, q1 _ H1 F1 (Ext.refl s1) (itd_tup h1 h2)⟩)
    | str x =>
      cases r1
      exact .inr (.inr ⟨x, rfl, q1 _ H1 F1 (Ext.refl s1) (itd_str x)⟩)
    | _ => exact q1.elim⟩
/-- range(n), range(a, b) -/
def rng (lo : Int) (n : Nat) : List D := (List.range n).map fun i => .int (lo + (i : Nat))
def BIG : Nat := 1000000
def iRng1D : List D → Option (List D)
  | [.int j] => if j.natAbs ≤ BIG then some (rng 0 j.toNat) else none
  | _ => none
def iRng2D : List D → Option (List D)
  | [.int i, .int j] => if i.natAbs ≤ BIG ∧ j.natAbs ≤ BIG then some (rng i (j - i).toNat) else none
  | _ => none
def iRng1F (fa : FA) : FA := fun env => (fa env).bind fun ds => Rs.ofO (iRng1D ds)
def iRng2F (fa : FA) : FA := fun env => (fa env).bind fun ds => Rs.ofO (iRng2D ds)
theorem RpAll.ints1 {K : PySem.W.Frag} {F : Hp} {vs : List V} {j : Int} (h : RpAll K F vs [.int j]) : vs = [.int j] := by
  cases h with
  | cons a b => cases a; cases b; rfl
theorem RpAll.ints2 {K : PySem.W.Frag} {F : Hp} {vs : List V} {i j : Int} (h : RpAll K F vs [.int i, .int j]) : vs = [.int i, .int j] := by
  cases h with
  | cons a b => cases a; rw [b.ints1]
theorem vi_range1 {a : Expr} {fa : FA} {p pos : Pos} (hg : Gl X "range") (hm : X.mg "range" = none) (ha : VA X C [a] fa) (hs : starEach [a] X.env = [(false, eval a X.env)] := by rfl) : VI X C tg (.Call (.Name "range" p) [a] [] pos) (iRng1F fa) :=
  PI.of (pi_range1 hg hm ha hs) fun σ H R ⟨F, env, re, q⟩ => ⟨F, env, re, Sat.bind RI.mono q fun ds vs F1 H1 x1 r1 q1 => by
    obtain ⟨c, hc, q2⟩ := Sat.ofO q1
    unfold iRng1D at hc
    split at hc
    · rename_i j
      split at hc
      · rename_i hb
        cases hc
        have e := r1.ints1
        subst e
        refine ⟨j, rfl, by unfold BIG at hb; omega, by unfold BIG at hb; omega, q2 _ H1 F1 (Ext.refl (re.go x1).same) ?_⟩
        exact itd_range 0 j.toNat
      · cases hc
    · cases hc⟩
theorem vi_range2 {a b : Expr} {fa : FA} {p pos : Pos} (hg : Gl X "range") (hm : X.mg "range" = none) (ha : VA X C [a, b] fa) (hs : starEach [a, b] X.env = [(false, eval a X.env), (false, eval b X.env)] := by rfl) (hs2 : starEach [b] X.env = [(false, eval b X.env)] := by rfl) : VI X C tg (.Call (.Name "range" p) [a, b] [] pos) (iRng2F fa) :=
  PI.of (pi_range2 hg hm ha hs hs2) fun σ H R ⟨F, env, re, q⟩ => ⟨F, env, re, Sat.bind RI.mono q fun ds vs F1 H1 x1 r1 q1 => by
    obtain ⟨c, hc, q2⟩ := Sat.ofO q1
    unfold iRng2D at hc
    split at hc
    · rename_i i j
      split at hc
      · rename_i hb
        cases hc
        have e := r1.ints2
        subst e
        refine ⟨i, j, rfl, by unfold BIG at hb; omega, q2 _ H1 F1 (Ext.refl (re.go x1).same) ?_⟩
        exact itd_range i (j - i).toNat
      · cases hc
    · cases hc⟩
end

/-! ### for -/
def loopF (t : Tgt) (body : FS) : List D → List Sl → Out
  | [], env => .nx env
  | d :: ds, env => match t.put d env with
    | none => .no
    | some e => match body e with
      | .nx e' => loopF t body ds e'
      | .ct e' => loopF t body ds e'
      | .bk e' => .nx e'
      | o => o
def sFor (t : Tgt) (gi : FA) (body : FS) : FS := fun env => bindO (gi env) fun ds => loopF t body ds env
section
variable {X : Cx} {C : Ct}
theorem vs_for {t : Tgt} {tg iter : Expr} {gi : FA} {g : FS} {body : List Stmt} {pos : Pos} (hp : PassesOwn (model X.prog X.w) X.A X.env X.xe) (hc : X.calm = true) (hi : VI X C tg iter gi) (hg : PG X tg (t.g X.K)) (hb : VSs X C body g)
    (hs : ∀ x, foldedSetIterable iter X.env x = pure x := by intro _; rfl) : VS X C (.For tg iter body [] pos) (sFor t gi g) := PS.of (ps_for hp hc hi hg hb hs) fun D σ H ⟨F, env, re, q⟩ =>
  ⟨F, env, re, SatS.bind (R := RI X.K) re q fun ds J F1 H1 x1 r1 q1 => by
    refine ⟨fun i m σ H => m + i = ds.length ∧ ∃ F env, Same F1 F ∧ REnv X.K C F σ H env ∧ SatS X.K X.mg C (loopF t g (ds.drop i) env) F D, ⟨ds.length, by omega, F1, env, Same.refl _, re.go x1, q1⟩, ?_⟩
    rintro i m σ2 H2 ⟨hm, F2, env2, sF, re2, q2⟩
    by_cases hlt : i < ds.length
    · have hd : ds[i]? = some ds[i] := List.getElem?_eq_getElem hlt
      obtain ⟨g1, g2⟩ := r1.go F2 H2 i ds[i] sF re2.same hd
      refine .inr ⟨g1, fun σ' H' => ∃ F env, Same F1 F ∧ REnv X.K C F σ' H' env ∧ SatS X.K X.mg C (loopF t g (ds.drop (i + 1)) env) F D, fun σ' H' n => ⟨m - 1, by omega, by omega, n⟩, fun x H3 y => ?_⟩
      obtain ⟨F3, x3, r3⟩ := g2 x H3 y
      have re3 := re2.go x3
      rw [List.drop_eq_getElem_cons hlt] at q2
      cases hp : t.put ds[i] env2 with
      | none => simp only [loopF, hp] at q2; exact q2.elim
      | some e =>
        refine Tgt.go re3 r3 hp fun vs re4 => ⟨F3, e, re4, ?_⟩
        simp only [loopF, hp] at q2
        have q3 := SatS.go q2 x3.f
        cases hb : g e with
        | nx e' => rw [hb] at q3; exact fun σ' H' F' s r => ⟨F', e', (sF.trans x3.f).trans s, r, SatS.go q3 s⟩
        | ct e' => rw [hb] at q3; exact fun σ' H' F' s r => ⟨F', e', (sF.trans x3.f).trans s, r, SatS.go q3 s⟩
        | bk e' => rw [hb] at q3; exact q3
        | rt d => rw [hb] at q3; exact q3
        | rn d => rw [hb] at q3; exact q3
        | er c n => rw [hb] at q3; exact q3
        | no => rw [hb] at q3; exact q3
    · have e : ds.drop i = [] := List.drop_eq_nil_of_le (by omega)
      rw [e] at q2
      exact .inl ⟨r1.stop F2 H2 i sF re2.same (by omega), q2 σ2 H2 F2 (Same.refl _) re2⟩⟩

/-! ### while -/
def loopW (c : FB) (body : FS) : Nat → List Sl → Out
  | 0, _ => .no
  | n + 1, env => bindO (c env) fun b => if b = true then (match body env with
      | .nx e => loopW c body n e
      | .ct e => loopW c body n e
      | .bk e => .nx e
      | o => o) else .nx env
def sWhile (n : Nat) (c : FB) (body : FS) : FS := fun env => loopW c body n env
theorem vs_while (n : Nat) {c : Expr} {fc : FB} {g : FS} {body : List Stmt} {pos : Pos} (hp : PassesOwn (model X.prog X.w) X.A X.env X.xe) (hc : VB X C c fc) (hb : VSs X C body g) : VS X C (.While c body [] pos) (sWhile n fc g) := PS.of (ps_while hp hc hb) fun D σ H ⟨F, env, re, q⟩ => by
  refine ⟨fun m σ H => ∃ F env, REnv X.K C F σ H env ∧ SatS X.K X.mg C (loopW fc g m env) F D, ⟨n, F, env, re, q⟩, ?_⟩
  rintro m σ2 H2 ⟨F2, env2, re2, q2⟩
  cases m with
  | zero => exact q2.elim
  | succ m =>
    refine ⟨F2, env2, re2, SatS.bind (R := RB) re2 q2 fun t k F3 H3 x3 r3 q3 => ?_⟩
    have e : k = t := r3
    subst e
    have re3 := re2.go x3
    cases k with
    | false => rw [if_neg Bool.false_ne_true] at q3 ⊢; exact q3 σ2 H3 F3 (Same.refl _) re3
    | true =>
      rw [if_pos rfl] at q3 ⊢
      refine ⟨fun σ' H' => ∃ F env, REnv X.K C F σ' H' env ∧ SatS X.K X.mg C (loopW fc g m env) F D, fun σ' H' w => ⟨m, Nat.lt_succ_self _, w⟩, F3, env2, re3, ?_⟩
      cases hb : g env2 with
      | nx e' => rw [hb] at q3; exact fun σ' H' F' s r => ⟨F', e', r, SatS.go q3 s⟩
      | ct e' => rw [hb] at q3; exact fun σ' H' F' s r => ⟨F', e', r, SatS.go q3 s⟩
      | bk e' => rw [hb] at q3; exact q3
      | rt d => rw [hb] at q3; exact q3
      | rn d => rw [hb] at q3; exact q3
      | er c n => rw [hb] at q3; exact q3
      | no => rw [hb] at q3; exact q3
end

/-! ### comprehensions -/
/-- what the turns make -/
def lcGo (t : Tgt) (tt : FB) (k : List Sl → Rs (List D)) (env : List Sl) : List D → Rs (List D)
  | [] => .ok []
  | d :: ds => match t.put d env with
    | none => .no
    | some e => (tt e).bind fun b => if b = true then (k e).bind fun ys => (lcGo t tt k env ds).bind fun r => .ok (ys ++ r) else lcGo t tt k env ds
def one (f : FE) : List Sl → Rs (List D) := fun e => (f e).bind fun y => .ok [y]
def fLc (gi : FA) (t : Tgt) (tt : FB) (f : FE) (vs : List Nat) : FE := fun env => (gi env).bind fun ds => (lcGo t tt (one f) (wipeE env vs) ds).quiet.bind fun out => if out.length ≤ LINE then .ok (.list out) else .no
def bYes : FB := fun _ => .ok true
abbrev VT (X : Cx) (C : Ct) (ifs : List Expr) (g : FB) : Prop := PTs X ifs (TB X.K X.mg C g)
theorem vt_nil {X : Cx} {C : Ct} : VT X C [] bYes := ⟨fun pins s σ H Q I ⟨F, env, re, q⟩ => pts_nil.run pins s σ H Q I (q true H F (Ext.refl re.same) rfl)⟩
theorem vt_one {X : Cx} {C : Ct} {c : Expr} {g : FB} (h : VB X C c g) : VT X C [c] g := pts_one h
section
variable {X : Cx} {C : Ct}
theorem lcGo_cons_yes {t : Tgt} {tt : FB} {k : List Sl → Rs (List D)} {env e : List Sl} {d : D} {ds out : List D} (hp : t.put d env = some e) (h : lcGo t tt k env (d :: ds) = .ok out) :
    ∃ b, tt e = .ok b ∧ if b = true then ∃ ys r, k e = .ok ys ∧ lcGo t tt k env ds = .ok r ∧ out = ys ++ r else lcGo t tt k env ds = .ok out := by
  unfold lcGo at h
  rw [hp] at h
  have h : ((tt e).bind fun b => if b = true then (k e).bind fun ys => (lcGo t tt k env ds).bind fun r => .ok (ys ++ r) else lcGo t tt k env ds) = .ok out := h
  cases hb : tt e with
  | ok b =>
    rw [hb] at h
    refine ⟨b, rfl, ?_⟩
    have h : (if b = true then (k e).bind fun ys => (lcGo t tt k env ds).bind fun r => .ok (ys ++ r) else lcGo t tt k env ds) = .ok out := h
    cases b with
    | false => rw [if_neg Bool.false_ne_true] at h ⊢; exact h
    | true =>
      rw [if_pos rfl] at h ⊢
      cases hk : k e with
      | ok ys =>
        rw [hk] at h
        cases hr : lcGo t tt k env ds with
        | ok r =>
          rw [hr] at h
          have h : Rs.ok (ys ++ r) = .ok out := h
          cases h
          exact ⟨ys, r, rfl, rfl, rfl⟩
        | er c n => rw [hr] at h; cases h
        | no => rw [hr] at h; cases h
      | er c n => rw [hk] at h; cases h
      | no => rw [hk] at h; cases h
  | er c n => rw [hb] at h; cases h
  | no => rw [hb] at h; cases h
theorem REnv.nox {K : PySem.W.Frag} {F H : Hp} {σ : L2.St} {env : List Sl} (re : REnv K C F σ H env) : REnv K C.nox F σ H env := ⟨re.ext, re.len, fun i s h => by
  have z := re.get i s h
  cases s <;> exact z, re.apart⟩
theorem t_lc {K : PySem.W.Frag} {mg : Str → Option Value} {gi : FA} {t : Tgt} {tt : FB} {f : FE} {vs : List Nat} (hv : ∀ i ∈ t.slots, i ∈ vs) {σ : L2.St} {H : Hp} {Q : VK} :
    TN K mg C (fLc gi t tt f vs) σ H Q → tLc (TIt K mg C gi) (t.g K) (TB K mg C.nox tt) (T K mg C.nox f) vs σ H Q := fun ⟨F, env, re, q⟩ =>
  ⟨F, env, re, Sat.bind (R := RI K) RN.mono q fun ds J F1 H1 x1 r1 q1 Dd hD => by
    have re1 := re.go x1
    cases hout : lcGo t tt (one f) (wipeE env vs) ds with
    | er c n => rw [hout] at q1; exact q1.elim
    | no => rw [hout] at q1; exact q1.elim
    | ok out =>
      rw [hout] at q1
      have q1 : Sat mg C (RN K) (if out.length ≤ LINE then .ok (.list out) else .no) σ F1 H1 Q := q1
      by_cases hl : out.length ≤ LINE
      · rw [if_pos hl] at q1
        have fD : F1 Dd = none := re1.same.free hD
        have cD : C.H Dd = none := re1.ext.h.free hD
        -- behind i turns
        refine ⟨fun i m H => m + i = ds.length ∧ ∃ F acc xs, Ext F1 H1 F H ∧ H Dd = some (.lst xs) ∧ F Dd = none ∧ RpAll K F xs acc ∧ ∃ r, lcGo t tt (one f) (wipeE env vs) (ds.drop i) = .ok r ∧ acc ++ r = out,
          ⟨ds.length, by omega, F1, [], [], Ext.laid re1.same hD, upd_same, fD, .nil, out, hout, rfl⟩, ?_⟩
        rintro i m H2 ⟨hm, F2, acc, xs, x2, hH, hF, ra, r, hr, er⟩
        have re2 := re1.go x2
        by_cases hlt : i < ds.length
        · have hd : ds[i]? = some ds[i] := List.getElem?_eq_getElem hlt
          obtain ⟨g1, g2⟩ := r1.go F2 H2 i ds[i] x2.f re2.same hd
          refine .inr ⟨g1, fun H' => ∃ F acc xs, Ext F1 H1 F H' ∧ H' Dd = some (.lst xs) ∧ F Dd = none ∧ RpAll K F xs acc ∧ ∃ r, lcGo t tt (one f) (wipeE env vs) (ds.drop (i + 1)) = .ok r ∧ acc ++ r = out, fun H' n => ⟨m - 1, by omega, by omega, n⟩, fun x H3 y => ?_⟩
          obtain ⟨F3, x3, r3⟩ := g2 x H3 y
          have re3 := (re2.go x3).wipe vs
          rw [List.drop_eq_getElem_cons hlt] at hr
          cases hp : t.put ds[i] (wipeE env vs) with
          | none => unfold lcGo at hr; rw [hp] at hr; cases hr
          | some e =>
            obtain ⟨b, hb, hr⟩ := lcGo_cons_yes hp hr
            refine Tgt.go re3 r3 hp fun ws re4 => ⟨(wipe_setV vs _ _ _ hv).trans (by
              have z : ∀ (vs : List Nat) (σ : L2.St), L2.wipe (L2.wipe σ vs) vs = L2.wipe σ vs := fun vs σ => by
                refine List.ext_getElem? fun j => ?_
                by_cases hj : j ∈ vs
                · have w : ∀ (σ : L2.St) (us : List Nat), j ∈ us → (L2.wipe σ us)[j]? = if j < σ.length then some none else none := by
                    intro σ us
                    induction us with
                    | nil => intro h; cases h
                    | cons u us ih =>
                      intro h
                      show ((L2.wipe σ us).set u none)[j]? = _
                      by_cases q : u = j
                      · subst q
                        by_cases hlen : u < σ.length
                        · rw [List.getElem?_set_self (by rw [L2.wipe_length]; exact hlen), if_pos hlen]
                        · rw [List.getElem?_eq_none (by rw [List.length_set, L2.wipe_length]; omega), if_neg hlen]
                      · rw [List.getElem?_set_ne q]
                        exact ih (by
                          rcases List.mem_cons.mp h with e | e
                          · exact absurd e.symm q
                          · exact e)
                  rw [w _ vs hj, w _ vs hj, L2.wipe_length]
                · rw [wipe_out hj, wipe_out hj]
              exact z vs σ), F3, e, re4.nox, ?_⟩
            rw [hb]
            refine fun b' H4 F4 x4 eb => ?_
            have eb : b' = b := eb
            subst eb
            dsimp only
            have re5 := re4.go x4
            have hD4 : H4 Dd = some (.lst xs) := x4.h _ _ (x3.h _ _ hH)
            have keepF : ∀ {F5 H5 : Hp}, Ext F3 H3 F5 H5 → F5 Dd = none := fun {F5 H5} x5 => by
              cases z : F5 Dd with
              | none => rfl
              | some o =>
                rcases (x3.trans x5).n _ _ z with w | w
                · rw [hF] at w; cases w
                · rw [hH] at w; cases w
            cases b' with
            | false =>
              rw [if_neg Bool.false_ne_true] at hr ⊢
              exact ⟨F4, acc, xs, x2.trans (x3.trans x4), hD4, keepF x4, RpAll.mono (x3.trans x4).f _ _ ra, r, hr, er⟩
            | true =>
              rw [if_pos rfl] at hr ⊢
              obtain ⟨ys, r', hk, hr', eo⟩ := hr
              subst eo
              unfold one at hk
              cases hf : f e with
              | ok yd =>
                rw [hf] at hk
                have hk : Rs.ok [yd] = .ok ys := hk
                cases hk
                refine ⟨F4, e, re5.nox, ?_⟩
                rw [hf]
                refine fun yv H5 F5 x5 ry => ⟨xs, x5.h _ _ hD4, ?_, F5, acc ++ [yd], xs ++ [yv], ?_, upd_same, keepF (x4.trans x5), ?_, r', hr', by rw [List.append_assoc]; exact er⟩
                · have z := congrArg List.length er
                  rw [List.length_append, List.length_append, List.length_singleton] at z
                  rw [ra.length, line_eq]
                  omega
                · have x6 := x2.trans (x3.trans (x4.trans x5))
                  refine ⟨x6.f, fun c o h => ?_, fun c o h => ?_, x6.n⟩
                  · rw [upd_ne (ne_of_none h hD)]; exact x6.h _ _ h
                  · rw [upd_ne (ne_of_none h (keepF (x4.trans x5)))]; exact x6.s _ _ h
                · exact (RpAll.mono (x3.trans (x4.trans x5)).f _ _ ra).append (.cons ry .nil)
              | er c n => rw [hf] at hk; cases hk
              | no => rw [hf] at hk; cases hk
        · have e : ds.drop i = [] := List.drop_eq_nil_of_le (by omega)
          rw [e] at hr
          cases hr
          rw [List.append_nil] at er
          subst er
          exact .inl ⟨r1.stop F2 H2 i x2.f re2.same (by omega), q1 _ H2 F2 x2 ⟨Dd, xs, acc, rfl, rfl, hH, hF, hD, ra⟩⟩
      · rw [if_neg hl] at q1; exact q1.elim⟩
theorem vn_lc {elt tg iter : Expr} {ifs : List Expr} {scope : Scope} {own : List (Str × Nat)} {pos : Pos} {gi : FA} {t : Tgt} {tt : FB} {f : FE} (am : Am X) (hi : VI X C tg iter gi) (ok : BlkOk X.N X.env.scope scope own)
    (hg : ∀ (s : Shared) (H : Hp) (Cc : Addr) (cl : List (Str × Addr)) (fp : List Addr), PG (X.blk s H scope (compEnvC scope cl Cc X.env) fp) tg (t.g X.K)) (ht : ∀ (s : Shared) (H : Hp) (Cc : Addr) (cl : List (Str × Addr)) (fp : List Addr), VT (X.blk s H scope (compEnvC scope cl Cc X.env) fp) C.nox ifs tt)
    (he : ∀ (s : Shared) (H : Hp) (Cc : Addr) (cl : List (Str × Addr)) (fp : List Addr), VE (X.blk s H scope (compEnvC scope cl Cc X.env) fp) C.nox elt f) (hv : ∀ i ∈ t.slots, i ∈ own.map (·.2)) (hs : ∀ x, foldedSetIterable iter X.env x = pure x := by intro _; rfl) :
    VN X C (.ListComp elt [⟨tg, iter, ifs, 0⟩] scope pos) (fLc gi t tt f (own.map (·.2))) := PE.of (pe_lc am.c am.n hi ok hg ht he hs) fun σ H Q h => t_lc hv h
end
end PD

/-! Part 5: bodies; operations by values -/
namespace PD
open PySem PySem.Spec PyProof.Rows L2

/-! ### a def's body -/
section
variable {P : Program} {w : World} {K : PySem.W.Frag} {mg : Str → Option Value} {base : Heap}
theorem fn_ofG {CX : CXT} {k : Nat} {f : Addr} {name qual : Str} {params : Arguments} {body : List Stmt} {scope : Scope} {dV kV doc pm cdv ct oc : Value} {an od : Option Addr}
    {osl : Array (Option Value)} {N ps : List Str} {sp : Sp} (lk : K.lookup f = some ⟨oc, od, .func (PySem.W.fnOf name qual params body scope dV kV doc pm an cdv ct), osl⟩) (hcd : PySem.W.codeIn K cdv qual = true) (S : FnScope N ps scope)
    (len : ∀ vs H Q E, sp vs H Q E → vs.length = ps.length)
    (hbody : ∀ (A : Around) (outer : List Env) (s : Shared) (H : Hp) (vs : List V) (Q : VK) (E : XK), A.guards = some [] → Room k (A.deeper (envOfC qual scope s.heap.objs.size f cdv)) → sp vs H Q E →
      ∃ t, PSs (cxOf CX P w K mg base N qual scope f cdv A outer s H E) body t ∧ t { nx := fun _ H' => Q .non H', rt := Q } (L2.start N vs) H) :
    FnG P w K mg base CX (k + 1) f (PySem.W.fnOf name qual params body scope dV kV doc pm an cdv ct) ps sp := by
  refine ⟨len, fun A outer s H args us vs Q E hg hr e0 hb r hsp => ?_⟩
  have hl := len _ _ _ _ hsp
  have KX : K.In s.heap := e0.mod.kin.keeps fun b o e => (e0.bs b o e).1
  have lim : s.heap.NoLimit := e0.mod.nolimit.keeps fun b o e => (e0.bs b o e).1
  have hkind : ∀ y ∈ ps.zip us, scope.names.lookup y.1 = some .local ∨ (scope.names.lookup y.1 = some .cell ∧ ((cellsFrom (s.heap.objs.size + 1) scope.names []).lookup y.1).isSome = true) := fun ⟨n, v⟩ hy => by
    rcases S.par n (List.of_mem_zip hy).1 with q | q
    · exact .inl q
    · exact .inr ⟨q, PySem.W.cellsFrom_some _ _ _ (.inl q)⟩
  refine codeAny_call_function hr.depth (KX _ _ lk) rfl S.co S.gen rfl (PySem.W.codeRec_of KX hcd) (hb _ _ _ _ ?_)
  refine wpAny_newFunctionEnv_cells S.kind hkind fun env he s1 x => ?_
  subst he
  refine ⟨lim.keeps x.toInCall.keep, codeAny_func ?_⟩
  obtain ⟨t, ht, hq⟩ := hbody A outer s H vs Q E hg (hr.deeper _) hsp
  have I : Inv (cxOf CX P w K mg base N qual scope f cdv A outer s H E) [] (L2.start N vs) H s1 := inv_start S hr.hd e0 hl r x
  refine wpAny_mono (ht.run [] s1 (L2.start N vs) H _ I hq) (fun fl s' hs => ?_) fun e s' hs => hs
  have fin : ∀ {σ' : L2.St} {H' : Hp} {v : V} {u : Value}, Inv (cxOf CX P w K mg base N qual scope f cdv A outer s H E) [] σ' H' s' → RelV v u → Q v H' → CE outer P w H s Q u s' :=
    fun {σ' H' v u} J rv q => ⟨v, H', J.os, J.bare, J.base, J.hok, rv, q⟩
  cases fl with
  | ret u =>
    obtain ⟨v, σ', H', J, rv, q⟩ := hs
    exact fin J rv q
  | next =>
    obtain ⟨σ', H', J, q⟩ := hs
    exact fin (v := V.non) (u := Value.none) J rfl q
  | brk =>
    obtain ⟨_, _, _, q⟩ := hs
    exact False.elim q
  | cont =>
    obtain ⟨_, _, _, q⟩ := hs
    exact False.elim q

/-- the def as a function on data: m slots, n parameters -/
def env0 (m : Nat) (ds : List D) : List Sl := ds.map Sl.sh ++ List.replicate (m - ds.length) .un
def outD : Out → Rs D
  | .nx _ => .ok .none
  | .rt d => .ok d
  | .rn d => .ok d
  | .er c n => .er c n
  | _ => .no
def outN : Out → Rs D
  | .rn d => .ok d
  | .er c n => .er c n
  | _ => .no
def dfn (m n : Nat) (g : FS) : List D → Rs D := fun ds => if ds.length = n then outD (g (env0 m ds)) else .no
def dfnN (m n : Nat) (g : FS) : List D → Rs D := fun ds => if ds.length = n then outN (g (env0 m ds)) else .no
/-- .. of a def that raises nothing -/
def dfn0 (m n : Nat) (g : FS) : List D → Rs D := fun ds => if ds.length = n then (outD (g (env0 m ds))).quiet else .no
def dfn0N (m n : Nat) (g : FS) : List D → Rs D := fun ds => if ds.length = n then (outN (g (env0 m ds))).quiet else .no
theorem start_sh {K : PySem.W.Frag} {F : Hp} {vs : List V} {ds : List D} (h : RpAll K F vs ds) : ∀ (i : Nat) (s : Sl), (ds.map Sl.sh)[i]? = some s → ∃ d v, s = .sh d ∧ vs[i]? = some v ∧ Rp K F v d := fun i s e => by
  rw [List.getElem?_map] at e
  cases h' : ds[i]? with
  | none => rw [h'] at e; cases e
  | some d =>
    rw [h'] at e
    cases e
    obtain ⟨v, h1, h2⟩ := h.get h'
    exact ⟨d, v, rfl, h1, h2⟩
theorem renv0 {G H : Hp} {E : L2.St → XK} {vs : List V} {ds : List D} {N : List Str} (s : Same G H) (h : RpAll K G vs ds) (hl : ds.length ≤ N.length) : REnv K ⟨G, H, E⟩ G (L2.start N vs) H (env0 N.length ds) := by
  have hlen := h.length
  refine ⟨Ext.refl s, ?_, fun i t e => ?_, fun i j l m _ e _ => ?_⟩
  · unfold L2.start env0
    simp only [List.length_append, List.length_map, List.length_replicate]
    omega
  · unfold env0 at e
    by_cases hi : i < ds.length
    · rw [List.getElem?_append_left (by simpa using hi)] at e
      obtain ⟨d, v, rfl, h1, h2⟩ := start_sh h i t e
      refine ⟨v, ?_, h2⟩
      unfold L2.start
      rw [List.getElem?_append_left (by rw [List.length_map, hlen]; exact hi), List.getElem?_map, h1]
      rfl
    · rw [List.getElem?_append_right (by simpa using hi)] at e
      rw [List.getElem?_replicate] at e
      split at e
      · cases e; trivial
      · cases e
  · unfold env0 at e
    by_cases hi : i < ds.length
    · rw [List.getElem?_append_left (by simpa using hi)] at e
      obtain ⟨d, v, e', _⟩ := start_sh h i _ e
      cases e'
    · rw [List.getElem?_append_right (by simpa using hi)] at e
      rw [List.getElem?_replicate] at e
      split at e
      · cases e
      · cases e
/-- what a body's end gives -/
theorem satS_of {o : Out} {G H : Hp} {E : XK} {Q : VK} (s : Same G H) (q : Sat mg ⟨G, H, fun _ => E⟩ (RD K) (outD o) [] G H Q) : SatS K mg ⟨G, H, fun _ => E⟩ o G { nx := fun _ H' => Q .non H', rt := Q } := by
  cases o with
  | nx e => exact fun σ' H' F' _ r => q .non H' F' r.ext .non
  | rt d => exact fun v H' F' x r => q v H' F' x r
  | rn d =>
    refine fun v H' F' x ⟨p, xs, l, e1, e2, e3, e4, e5, e6⟩ => ?_
    subst e1 e2
    have e5 : H p = none := e5
    have x : Ext G H F' H' := x
    refine q _ H' (upd F' p (.lst xs)) ⟨fun b o z => ?_, x.h, fun b o z => ?_, fun b o z => ?_⟩ (.lst (a := p) (xs := xs) upd_same (RpAll.mono (same_upd e4) _ _ e6))
    · rw [upd_ne (ne_of_none (x.f _ _ z) e4)]; exact x.f _ _ z
    · by_cases w : b = p
      · subst w; rw [upd_same] at z; rw [← z]; exact e3
      · rw [upd_ne w] at z; exact x.s _ _ z
    · by_cases w : b = p
      · subst w; exact .inr e5
      · rw [upd_ne w] at z; exact x.n _ _ z
  | er c n => exact fun σ' => q
  | bk e => exact q.elim
  | ct e => exact q.elim
  | no => exact q.elim
theorem satSN_of {o : Out} {G H : Hp} {E : XK} {Q : VK} (s : Same G H) (q : Sat mg ⟨G, H, fun _ => E⟩ (RN K) (outN o) [] G H Q) : SatS K mg ⟨G, H, fun _ => E⟩ o G { nx := fun _ H' => Q .non H', rt := Q } := by
  cases o with
  | rn d => exact fun v H' F' x r => q v H' F' x r
  | er c n => exact fun σ' => q
  | _ => exact q.elim
theorem sat_len {ds : List D} {n : Nat} {R : Rel V D} {o : Rs D} {C : Ct} {σ : L2.St} {F H : Hp} {Q : VK} (q : Sat mg C R (if ds.length = n then o else .no) σ F H Q) : ds.length = n ∧ Sat mg C R o σ F H Q := by
  by_cases h : ds.length = n
  · rw [if_pos h] at q; exact ⟨h, q⟩
  · rw [if_neg h] at q; exact q.elim
theorem sat_quiet {R : Rel V D} {o : Rs D} {C C' : Ct} {σ σ' : L2.St} {F H : Hp} {Q : VK} (q : Sat mg C R o.quiet σ F H Q) : Sat mg C' R o σ' F H Q := by
  cases o with
  | ok d => exact q
  | er c n => exact q.elim
  | no => exact q
/-- a def that raises nothing -/
theorem def0 {x qual : Str} {st : Stmt} {f : Addr} {fd : FuncData} {N ps : List Str} {k : Nat} {g : FS} (F : Fun K x qual st f fd) (S : FnScope N ps (defScope st)) (hl : ps.length ≤ N.length)
    (hb : ∀ (cdv : Value) (A : Around) (outer : List Env) (s : Shared) (H G : Hp), Am (cxOf CX0 P w K mg base N qual (defScope st) f cdv A outer s H E0).nox → Room k (cxOf CX0 P w K mg base N qual (defScope st) f cdv A outer s H E0).nox.A →
      VSs (cxOf CX0 P w K mg base N qual (defScope st) f cdv A outer s H E0).nox ⟨G, H, fun _ => E0⟩ (defBody st) g) : FnG P w K mg base CX0 (k + 1) f fd ps (spD K mg (dfn0 N.length ps.length g)) := by
  obtain ⟨oc, od, kV, doc, pm, an, cdv, ct, osl, rfl, lk, hcd⟩ := F.ex
  refine fn_ofG lk hcd S (fun vs H Q E h => ?_) fun A outer s H vs Q E hg hr h => ?_
  · obtain ⟨G, ds, _, h2, q⟩ := h
    rw [h2.length]
    exact (sat_len q).1
  · obtain ⟨G, ds, s1, h2, q⟩ := h
    obtain ⟨hn, q⟩ := sat_len q
    have hb' := hb cdv A outer s H G ⟨hg, hr.mono (Nat.zero_le _), rfl, S.nd⟩ hr
    exact ⟨_, PSs.nox hb', G, _, renv0 s1 h2 (by omega), satS_of s1 (sat_quiet q)⟩
theorem def0N {x qual : Str} {st : Stmt} {f : Addr} {fd : FuncData} {N ps : List Str} {k : Nat} {g : FS} (F : Fun K x qual st f fd) (S : FnScope N ps (defScope st)) (hl : ps.length ≤ N.length)
    (hb : ∀ (cdv : Value) (A : Around) (outer : List Env) (s : Shared) (H G : Hp), Am (cxOf CX0 P w K mg base N qual (defScope st) f cdv A outer s H E0).nox → Room k (cxOf CX0 P w K mg base N qual (defScope st) f cdv A outer s H E0).nox.A →
      VSs (cxOf CX0 P w K mg base N qual (defScope st) f cdv A outer s H E0).nox ⟨G, H, fun _ => E0⟩ (defBody st) g) : FnG P w K mg base CX0 (k + 1) f fd ps (spN K mg (dfn0N N.length ps.length g)) := by
  obtain ⟨oc, od, kV, doc, pm, an, cdv, ct, osl, rfl, lk, hcd⟩ := F.ex
  refine fn_ofG lk hcd S (fun vs H Q E h => ?_) fun A outer s H vs Q E hg hr h => ?_
  · obtain ⟨G, ds, _, h2, q⟩ := h
    rw [h2.length]
    exact (sat_len q).1
  · obtain ⟨G, ds, s1, h2, q⟩ := h
    obtain ⟨hn, q⟩ := sat_len q
    have hb' := hb cdv A outer s H G ⟨hg, hr.mono (Nat.zero_le _), rfl, S.nd⟩ hr
    exact ⟨_, PSs.nox hb', G, _, renv0 s1 h2 (by omega), satSN_of s1 (sat_quiet q)⟩
/-- a new list may stand for a list -/
theorem spN_spD {Fn : List D → Rs D} : ∀ vs H Q E, spD K mg Fn vs H Q E → spN K mg Fn vs H Q E := fun vs H Q E ⟨G, ds, s, h, q⟩ => ⟨G, ds, s, h, by
  cases hf : Fn ds with
  | ok d =>
    rw [hf] at q
    refine fun v H' F' x ⟨p, xs, l, e1, e2, e3, e4, e5, e6⟩ => ?_
    subst e1 e2
    refine q _ H' (upd F' p (.lst xs)) ⟨fun b o z => ?_, x.h, fun b o z => ?_, fun b o z => ?_⟩ (.lst (a := p) (xs := xs) upd_same (RpAll.mono (same_upd e4) _ _ e6))
    · rw [upd_ne (ne_of_none (x.f _ _ z) e4)]; exact x.f _ _ z
    · by_cases w : b = p
      · subst w; rw [upd_same] at z; rw [← z]; exact e3
      · rw [upd_ne w] at z; exact x.s _ _ z
    · by_cases w : b = p
      · subst w; exact .inr e5
      · rw [upd_ne w] at z; exact x.n _ _ z
  | er c n => rw [hf] at q; exact q
  | no => rw [hf] at q; exact q⟩
theorem FnG.d {f : Addr} {fd : FuncData} {ps : List Str} {k : Nat} {CX : CXT} {Fn : List D → Rs D} (F : FnG P w K mg base CX k f fd ps (spN K mg Fn)) : FnG P w K mg base CX k f fd ps (spD K mg Fn) := F.imp spN_spD
end

/-! ### arithmetic -/
def BIT64 : Nat := 18446744073709551616
def dAdd : D → D → Option D
  | .int a, .int b => some (.int (a + b))
  | .str a, .str b => if a.length + b.length ≤ LINE then some (.str (a ++ b)) else none
  | .list a, .list b => if a.length + b.length ≤ LINE then some (.list (a ++ b)) else none
  | .tuple a, .tuple b => if a.length + b.length ≤ LINE then some (.tuple (a ++ b)) else none
  | _, _ => none
def dSub : D → D → Option D
  | .int a, .int b => some (.int (a - b))
  | _, _ => none
def dMul : D → D → Option D
  | .int a, .int b => if a.natAbs < BIT64 ∨ b.natAbs < BIT64 then some (.int (a * b)) else none
  | .list a, .int k => if k.natAbs ≤ 1000000 ∧ a.length * k.toNat ≤ LINE then some (.list (List.replicate k.toNat a).flatten) else none
  | .str a, .int k => if k.natAbs ≤ 1000 ∧ a.length ≤ 1000 then some (.str (Txt.mul a k)) else none
  | _, _ => none
def dDiv : D → D → Option D
  | .int a, .int b => if 0 < b ∧ b.natAbs < 1073741824 then some (.int (a / b)) else none
  | _, _ => none
def dMod : D → D → Option D
  | .int a, .int b => if 0 < b then some (.int (a % b)) else none
  | _, _ => none
def dPow : D → D → Option D
  | .int a, .int b => if 0 ≤ b ∧ b.natAbs ≤ 1000 ∧ a.natAbs < 18446744073709551616 then some (.int (a ^ b.toNat)) else none
  | _, _ => none
def dNeg : D → Option D
  | .int a => some (.int (-a))
  | _ => none
section
variable {K : PySem.W.Frag} {X : Cx}
def rAddU (K : PySem.W.Frag) : R2 := fun x y H Q => rI0 (fun i j => .int (i + j)) x y H Q ∨ (∃ i j, x = .str i ∧ y = .str j ∧ i.length + j.length ≤ sizeLine ∧ Q (.str (i ++ j)) H) ∨ rCat x y H Q ∨ rCatA K x y H Q
theorem o_add : OpR X (binaryOp .Add) (rAddU X.K) := op_add.or (op_add_str.or (op_cat.or op_catA))
theorem v_add : V2 K (rAddU K) dAdd := by
  intro F H x y d e c Q s rx ry h q
  cases d with
  | int i =>
    cases e with
    | int j => cases rx; cases ry; cases h; exact .inl ⟨i, j, rfl, rfl, q _ H F (Ext.refl s) (.int _)⟩
    | _ => cases h
  | str i =>
    cases e with
    | str j =>
      cases rx; cases ry
      simp only [dAdd] at h
      split at h
      · rename_i hl; cases h; exact .inr (.inl ⟨i, j, rfl, rfl, by rw [line_eq]; exact hl, q _ H F (Ext.refl s) (.str _)⟩)
      · cases h
    | _ => cases h
  | list i =>
    cases e with
    | list j =>
      simp only [dAdd] at h
      split at h
      · rename_i hl
        cases h
        cases rx with
        | @lst a xs _ a1 a2 =>
          cases ry with
          | @lst b ys _ b1 b2 =>
            refine .inr (.inr (.inl ⟨a, b, xs, ys, rfl, rfl, s _ _ a1, s _ _ b1, by rw [a2.length, b2.length, line_eq]; exact hl, fun p hp => ?_⟩))
            exact q _ _ _ (Ext.new s hp) (.lst upd_same (RpAll.mono (same_upd (s.free hp)) _ _ (a2.append b2)))
      · cases h
    | _ => cases h
  | tuple i =>
    cases e with
    | tuple j =>
      simp only [dAdd] at h
      split at h
      · rename_i hl
        cases h
        cases rx with
        | @tup a xs _ a1 a2 =>
          cases ry with
          | @tup b ys _ b1 b2 =>
            refine .inr (.inr (.inr ⟨a, b, xs, ys, rfl, rfl, Same.sqt s a1, Same.sqt s b1, by rw [a2.length, b2.length, line_eq]; exact hl, fun e => ?_, fun _ e => ?_, fun _ _ p hp => ?_⟩))
            · subst e
              cases a2
              exact q _ H F (Ext.refl s) (.tup b1 b2)
            · subst e
              cases b2
              rw [List.append_nil] at q
              exact q _ H F (Ext.refl s) (.tup a1 a2)
            · exact q _ _ _ (Ext.new s hp) (.tup (SqT.of upd_same) (RpAll.mono (same_upd (s.free hp)) _ _ (a2.append b2)))
      · cases h
    | _ => cases h
  | _ => cases h
/-- two whole numbers to one -/
theorem v_int {C : Int → Int → Prop} {g : Int → Int → Int} {k : D → D → Option D} (hk : ∀ d e c, k d e = some c → ∃ i j, d = .int i ∧ e = .int j ∧ C i j ∧ c = .int (g i j)) : V2 K (rI C fun i j => .int (g i j)) k := by
  intro F H x y d e c Q s rx ry h q
  obtain ⟨i, j, rfl, rfl, hc, rfl⟩ := hk d e c h
  cases rx; cases ry
  exact ⟨i, j, rfl, rfl, hc, q _ H F (Ext.refl s) (.int _)⟩
theorem v_int0 {g : Int → Int → Int} {k : D → D → Option D} (hk : ∀ d e c, k d e = some c → ∃ i j, d = .int i ∧ e = .int j ∧ c = .int (g i j)) : V2 K (rI0 fun i j => .int (g i j)) k := by
  intro F H x y d e c Q s rx ry h q
  obtain ⟨i, j, rfl, rfl, rfl⟩ := hk d e c h
  cases rx; cases ry
  exact ⟨i, j, rfl, rfl, q _ H F (Ext.refl s) (.int _)⟩
theorem v_sub : V2 K (rI0 fun i j => .int (i - j)) dSub := v_int0 fun d e c h => by
  unfold dSub at h
  split at h
  · cases h; exact ⟨_, _, rfl, rfl, rfl⟩
  · cases h
theorem v_div : V2 K (rI CDiv fun i j => .int (i / j)) dDiv := v_int fun d e c h => by
  unfold dDiv at h
  split at h
  · split at h
    · rename_i hc; cases h; exact ⟨_, _, rfl, rfl, ⟨hc.1, by have := hc.2; omega⟩, rfl⟩
    · cases h
  · cases h
theorem v_mod : V2 K (rI (fun _ j => 0 < j) fun i j => .int (i % j)) dMod := v_int fun d e c h => by
  unfold dMod at h
  split at h
  · split at h
    · rename_i hc; cases h; exact ⟨_, _, rfl, rfl, hc, rfl⟩
    · cases h
  · cases h
theorem v_pow : V2 K (rI CPow fun i j => .int (i ^ j.toNat)) dPow := v_int fun d e c h => by
  unfold dPow at h
  split at h
  · split at h
    · rename_i hc; cases h; exact ⟨_, _, rfl, rfl, ⟨hc.1, by have := hc.1; have := hc.2.1; omega, hc.2.2⟩, rfl⟩
    · cases h
  · cases h
theorem v_neg : V1 K (rU fun i => .int (-i)) dNeg := by
  intro F H x d c Q s rx h q
  unfold dNeg at h
  split at h
  · cases h; cases rx; exact ⟨_, rfl, q _ H F (Ext.refl s) (.int _)⟩
  · cases h
def rMulS : R2 := fun x y H Q => ∃ z i, x = .str z ∧ y = .int i ∧ MulOk z i ∧ Q (.str (Txt.mul z i)) H
theorem op_mulS : OpR X (binaryOp .Mult) rMulS := by
  intro pins s σ H x y v u Q I rx ry h
  obtain ⟨z, i, rfl, rfl, hc, q⟩ := h
  obtain ⟨t, rfl⟩ := rx
  obtain ⟨t', rfl⟩ := ry
  exact SB.mul hc fun t' k => ⟨.str _, H, I.tok _, ⟨_, rfl⟩, q⟩
def rMulU : R2 := fun x y H Q => rI CMul (fun i j => .int (i * j)) x y H Q ∨ rRep x y H Q ∨ rMulS x y H Q
theorem o_mul : OpR X (binaryOp .Mult) rMulU := op_mul.or (op_rep.or op_mulS)
theorem v_mul : V2 K rMulU dMul := by
  intro F H x y d e c Q s rx ry h q
  cases d with
  | int i =>
    cases e with
    | int j =>
      cases rx; cases ry
      simp only [dMul] at h
      split at h
      · rename_i hc; cases h; exact .inl ⟨i, j, rfl, rfl, by unfold BIT64 at hc; rcases hc with z | z; exact .inl (by omega); exact .inr (by omega), q _ H F (Ext.refl s) (.int _)⟩
      · cases h
    | _ => cases h
  | list i =>
    cases e with
    | int k =>
      cases ry
      simp only [dMul] at h
      split at h
      · rename_i hc
        cases h
        cases rx with
        | @lst a xs _ a1 a2 =>
          refine .inr (.inl ⟨a, k, xs, rfl, rfl, s _ _ a1, by omega, by omega, by rw [a2.length, line_eq]; exact hc.2, fun p hp => ?_⟩)
          exact q _ _ _ (Ext.new s hp) (.lst upd_same (RpAll.mono (same_upd (s.free hp)) _ _ (a2.rep _)))
      · cases h
    | _ => cases h
  | str i =>
    cases e with
    | int k =>
      cases rx; cases ry
      simp only [dMul] at h
      split at h
      · rename_i hc
        cases h
        exact .inr (.inr ⟨i, k, rfl, rfl, mulOk_of 1000 1000 hc.2 (by omega) (by omega) (by decide) (by decide), q _ H F (Ext.refl s) (.str _)⟩)
      · cases h
    | _ => cases h
  | _ => cases h
/-- list * int, the new list owned -/
theorem v_mulN : ∀ (F H : Hp) (x y : V) (d e c : D) (Q : VK), Same F H → Rp K F x d → Rp K F y e → (match d, e with | .list a, .int k => dMul (.list a) (.int k) | _, _ => none) = some c → (∀ v H' F', Ext F H F' H' → RN K F H F' H' v c → Q v H') → rMulU x y H Q := by
  intro F H x y d e c Q s rx ry h q
  cases d with
  | list i =>
    cases e with
    | int k =>
      cases ry
      simp only [dMul] at h
      split at h
      · rename_i hc
        cases h
        cases rx with
        | @lst a xs _ a1 a2 =>
          refine .inr (.inl ⟨a, k, xs, rfl, rfl, s _ _ a1, by omega, by omega, by rw [a2.length, line_eq]; exact hc.2, fun p hp => ?_⟩)
          exact q _ _ _ (Ext.laid s hp) ⟨p, _, _, rfl, rfl, upd_same, s.free hp, hp, a2.rep _⟩
      · cases h
    | _ => cases h
  | _ => cases h
end

/-! ### comparisons -/
theorem Rp.plain {K : PySem.W.Frag} {H : Hp} : ∀ (d : D) (v : V), Rp K H v d → d.plain = true
  | .none, _, _ => rfl
  | .bool _, _, _ => rfl
  | .int _, _, _ => rfl
  | .str _, _, _ => rfl
  | .list ds, _, h => by
    cases h with
    | lst _ r => exact all ds _ r
  | .tuple ds, _, h => by
    cases h with
    | tup _ r => exact all ds _ r
  | .dict _, _, h => by cases h
where all : ∀ (ds : List D) (vs : List V), RpAll K H vs ds → PyData.plainAll ds = true
  | [], _, _ => rfl
  | d :: ds, _, h => by
    cases h with
    | cons a b => simp only [PyData.plainAll, Rp.plain d _ a, all ds _ b, Bool.and_self]
def DEEP : Nat := 64
def shal (d : D) : Bool := decide (d.depth ≤ 64)
def dEq (d e : D) : Option D := if (shal d || shal e) = true then some (.bool (PyData.eqv d e)) else none
def dNe (d e : D) : Option D := if (shal d || shal e) = true then some (.bool (!PyData.eqv d e)) else none
def notNone : D → Bool
  | .none => false
  | _ => true
def dLtC (d e : D) : Bool := PySem.W.alike d e && notNone d && (shal d || shal e)
def dLt (d e : D) : Option D := if dLtC d e = true then some (.bool (PySem.W.dataLt d e)) else none
def dGt (d e : D) : Option D := if dLtC d e = true then some (.bool (PySem.W.dataLt e d)) else none
def dLe (d e : D) : Option D := if dLtC d e = true then some (.bool (!PySem.W.dataLt e d)) else none
def dGe (d e : D) : Option D := if dLtC d e = true then some (.bool (!PySem.W.dataLt d e)) else none
def dInL (d : D) (l : List D) : Bool := l.any fun y => PyData.eqv y d
/-- x in c: over a list, a tuple; one sign in a text -/
def dIn (d e : D) : Option D := match e with
  | .list l => if shal d = true then some (.bool (dInL d l)) else none
  | .tuple l => if shal d = true then some (.bool (dInL d l)) else none
  | .str z => match d with
    | .str x => some (.bool (!(Builtin.Str.occurrences z x 0 z.length 1).isEmpty))
    | _ => none
  | _ => none
def dNot : D → D
  | .bool b => .bool (!b)
  | d => d
def dNotIn (d e : D) : Option D := (dIn d e).map dNot
section
variable {K : PySem.W.Frag} {X : Cx}
/-- a rule of two values that read as data, the answer a truth value -/
def rDB (K : PySem.W.Frag) (ok : D → D → Bool) (g : D → D → Bool) : R2 := fun x y H Q => ∃ F d e, Same F H ∧ Rp K F x d ∧ Rp K F y e ∧ ok d e = true ∧ Q (.bl (g d e)) H
theorem Rp.reads {pins : List (Addr × Obj)} {σ : L2.St} {F H : Hp} {s : Shared} {d : D} {v : V} {u : Value} (I : Inv X pins σ H s) (sf : Same F H) (h : Rp X.K F v d) (r : RelV v u) : ∃ as, Reads s.heap u d as := Dp.reads I d v u (Rp.dp d v (Rp.mono sf d v h)) r
theorem min_shal {d e : D} (h : (shal d || shal e) = true) : min d.depth e.depth ≤ 64 := by
  rcases Bool.or_eq_true_iff.mp h with q | q
  · have := of_decide_eq_true (p := d.depth ≤ 64) q; omega
  · have := of_decide_eq_true (p := e.depth ≤ 64) q; omega
theorem Am.u (am : Am X) : X.A.units + 200 < cLine := by have := am.r.un; omega
theorem o_eq (am : Am X) : OpR X (compareOp .Eq) (rDB X.K (fun d e => shal d || shal e) PyData.eqv) := by
  intro pins s σ H x y v u Q I rx ry ⟨F, d, e, sf, hd, he, ok, q⟩
  obtain ⟨as, r1⟩ := hd.reads I sf rx
  obtain ⟨bs, r2⟩ := he.reads I sf ry
  have := am.u
  have := min_shal ok
  exact SeqAt.eq_plain r1 r2 (Rp.plain _ _ hd) (Rp.plain _ _ he) (by omega) ⟨.bl _, H, I, rfl, q⟩
theorem o_ne (am : Am X) : OpR X (compareOp .NotEq) (rDB X.K (fun d e => shal d || shal e) fun d e => !PyData.eqv d e) := by
  intro pins s σ H x y v u Q I rx ry ⟨F, d, e, sf, hd, he, ok, q⟩
  obtain ⟨as, r1⟩ := hd.reads I sf rx
  obtain ⟨bs, r2⟩ := he.reads I sf ry
  have := am.u
  have := min_shal ok
  exact SeqAt.ne_plain r1 r2 (Rp.plain _ _ hd) (Rp.plain _ _ he) (by omega) ⟨.bl _, H, I, rfl, q⟩
theorem ltC {d e : D} (h : dLtC d e = true) : PySem.W.alike d e = true ∧ d ≠ .none ∧ min d.depth e.depth ≤ 64 := by
  unfold dLtC at h
  simp only [Bool.and_eq_true] at h
  refine ⟨h.1.1, fun z => ?_, min_shal h.2⟩
  have := h.1.2
  rw [z] at this
  cases this
theorem o_lt (am : Am X) : OpR X (compareOp .Lt) (rDB X.K dLtC PySem.W.dataLt) := by
  intro pins s σ H x y v u Q I rx ry ⟨F, d, e, sf, hd, he, ok, q⟩
  obtain ⟨as, r1⟩ := hd.reads I sf rx
  obtain ⟨bs, r2⟩ := he.reads I sf ry
  obtain ⟨h1, h2, h3⟩ := ltC ok
  have := am.u
  exact PySem.W.lt_data r1 r2 h1 h2 (by omega) ⟨.bl _, H, I, rfl, q⟩
theorem o_gt (am : Am X) : OpR X (compareOp .Gt) (rDB X.K dLtC fun d e => PySem.W.dataLt e d) := by
  intro pins s σ H x y v u Q I rx ry ⟨F, d, e, sf, hd, he, ok, q⟩
  obtain ⟨as, r1⟩ := hd.reads I sf rx
  obtain ⟨bs, r2⟩ := he.reads I sf ry
  obtain ⟨h1, h2, h3⟩ := ltC ok
  have := am.u
  exact PySem.W.gt_data r1 r2 h1 h2 (by omega) ⟨.bl _, H, I, rfl, q⟩
theorem o_le (am : Am X) : OpR X (compareOp .LtE) (rDB X.K dLtC fun d e => !PySem.W.dataLt e d) := by
  intro pins s σ H x y v u Q I rx ry ⟨F, d, e, sf, hd, he, ok, q⟩
  obtain ⟨as, r1⟩ := hd.reads I sf rx
  obtain ⟨bs, r2⟩ := he.reads I sf ry
  obtain ⟨h1, h2, h3⟩ := ltC ok
  have := am.u
  exact PySem.W.le_data r1 r2 h1 h2 (by omega) ⟨.bl _, H, I, rfl, q⟩
theorem o_ge (am : Am X) : OpR X (compareOp .GtE) (rDB X.K dLtC fun d e => !PySem.W.dataLt d e) := by
  intro pins s σ H x y v u Q I rx ry ⟨F, d, e, sf, hd, he, ok, q⟩
  obtain ⟨as, r1⟩ := hd.reads I sf rx
  obtain ⟨bs, r2⟩ := he.reads I sf ry
  obtain ⟨h1, h2, h3⟩ := ltC ok
  have := am.u
  exact PySem.W.ge_data r1 r2 h1 h2 (by omega) ⟨.bl _, H, I, rfl, q⟩
theorem v_DB {ok g : D → D → Bool} : V2 K (rDB K ok g) fun d e => if ok d e = true then some (.bool (g d e)) else none := by
  intro F H x y d e c Q s rx ry h q
  by_cases hc : ok d e = true
  · simp only [if_pos hc] at h; cases h; exact ⟨F, d, e, s, rx, ry, hc, q _ H F (Ext.refl s) (.bl _)⟩
  · simp only [if_neg hc] at h; cases h
theorem v_eq : V2 K (rDB K (fun d e => shal d || shal e) PyData.eqv) dEq := v_DB
theorem v_ne : V2 K (rDB K (fun d e => shal d || shal e) fun d e => !PyData.eqv d e) dNe := v_DB
theorem v_lt : V2 K (rDB K dLtC PySem.W.dataLt) dLt := v_DB
theorem v_gt : V2 K (rDB K dLtC fun d e => PySem.W.dataLt e d) dGt := v_DB
theorem v_le : V2 K (rDB K dLtC fun d e => !PySem.W.dataLt e d) dLe := v_DB
theorem v_ge : V2 K (rDB K dLtC fun d e => !PySem.W.dataLt d e) dGe := v_DB
/-- in, not in -/
def inB (d e : D) : Bool := match dIn d e with
  | some (.bool b) => b
  | _ => false
def inOk (d e : D) : Bool := (dIn d e).isSome
theorem o_in (am : Am X) : OpR X (compareOp .In) (rDB X.K inOk inB) := by
  intro pins s σ H x y v u Q I rx ry ⟨F, d, e, sf, hd, he, ok, q⟩
  obtain ⟨as, r1⟩ := hd.reads I sf rx
  obtain ⟨bs, r2⟩ := he.reads I sf ry
  have hu := am.u
  cases e with
  | list l =>
    simp only [inOk, dIn] at ok
    by_cases hs : shal d = true
    · simp only [inB, dIn, if_pos hs] at q
      have hp : (PyData.list l).plain = true := Rp.plain _ _ he
      have := of_decide_eq_true (p := d.depth ≤ 64) hs
      exact SeqAt.in_list_data r2 r1 (by simpa [PyData.plain] using hp) (Rp.plain _ _ hd) (by omega) ⟨.bl _, H, I, rfl, q⟩
    · rw [if_neg hs] at ok; cases ok
  | tuple l =>
    simp only [inOk, dIn] at ok
    by_cases hs : shal d = true
    · simp only [inB, dIn, if_pos hs] at q
      have hp : (PyData.tuple l).plain = true := Rp.plain _ _ he
      have := of_decide_eq_true (p := d.depth ≤ 64) hs
      exact SeqAt.in_tuple_data r2 r1 (by simpa [PyData.plain] using hp) (Rp.plain _ _ hd) (by omega) ⟨.bl _, H, I, rfl, q⟩
    · rw [if_neg hs] at ok; cases ok
  | str z =>
    cases d with
    | str w =>
      cases hd
      cases he
      exact op_in_str pins s σ H _ _ v u Q I rx ry ⟨w, z, rfl, rfl, q⟩
    | _ => cases ok
  | _ => cases ok
theorem o_notIn (am : Am X) : OpR X (compareOp .NotIn) (rDB X.K inOk fun d e => !inB d e) := by
  intro pins s σ H x y v u Q I rx ry ⟨F, d, e, sf, hd, he, ok, q⟩
  obtain ⟨as, r1⟩ := hd.reads I sf rx
  obtain ⟨bs, r2⟩ := he.reads I sf ry
  have hu := am.u
  cases e with
  | list l =>
    simp only [inOk, dIn] at ok
    by_cases hs : shal d = true
    · simp only [inB, dIn, if_pos hs] at q
      have hp : (PyData.list l).plain = true := Rp.plain _ _ he
      have := of_decide_eq_true (p := d.depth ≤ 64) hs
      exact SeqAt.notIn_list_data r2 r1 (by simpa [PyData.plain] using hp) (Rp.plain _ _ hd) (by omega) ⟨.bl _, H, I, rfl, q⟩
    · rw [if_neg hs] at ok; cases ok
  | tuple l =>
    simp only [inOk, dIn] at ok
    by_cases hs : shal d = true
    · simp only [inB, dIn, if_pos hs] at q
      have hp : (PyData.tuple l).plain = true := Rp.plain _ _ he
      have := of_decide_eq_true (p := d.depth ≤ 64) hs
      exact SeqAt.notIn_tuple_data r2 r1 (by simpa [PyData.plain] using hp) (Rp.plain _ _ hd) (by omega) ⟨.bl _, H, I, rfl, q⟩
    · rw [if_neg hs] at ok; cases ok
  | str z =>
    cases d with
    | str w =>
      cases hd
      cases he
      exact L2.op_notin_str pins s σ H _ _ v u Q I rx ry ⟨w, z, rfl, rfl, q⟩
    | _ => cases ok
  | _ => cases ok
theorem dIn_bool {d e c : D} (h : dIn d e = some c) : ∃ b, c = .bool b := by
  unfold dIn at h
  split at h
  · split at h
    · cases h; exact ⟨_, rfl⟩
    · cases h
  · split at h
    · cases h; exact ⟨_, rfl⟩
    · cases h
  · split at h
    · cases h; exact ⟨_, rfl⟩
    · cases h
  · cases h
theorem v_in : V2 K (rDB K inOk inB) dIn := by
  intro F H x y d e c Q s rx ry h q
  obtain ⟨b, rfl⟩ := dIn_bool h
  exact ⟨F, d, e, s, rx, ry, by simp [inOk, h], by simp only [inB, h]; exact q _ H F (Ext.refl s) (.bl _)⟩
theorem v_notIn : V2 K (rDB K inOk fun d e => !inB d e) dNotIn := by
  intro F H x y d e c Q s rx ry h q
  unfold dNotIn at h
  cases h1 : dIn d e with
  | none => rw [h1] at h; cases h
  | some c' =>
    rw [h1] at h
    obtain ⟨b, rfl⟩ := dIn_bool h1
    cases h
    exact ⟨F, d, e, s, rx, ry, by simp [inOk, h1], by simp only [inB, h1]; exact q _ H F (Ext.refl s) (.bl _)⟩
/-- is, is not: None, True, False on the right -/
def isD : D → D → Option D
  | d, .none => some (.bool (!notNone d))
  | .bool a, .bool b => some (.bool (a == b))
  | .none, .bool _ => some (.bool false)
  | _, _ => none
def isNotD (d e : D) : Option D := (isD d e).map dNot
def rIsU : R2 := fun x y H Q => (y = .non ∧ Q (.bl (decide (x = .non))) H) ∨ (∃ a b, x = .bl a ∧ y = .bl b ∧ Q (.bl (a == b)) H) ∨ (∃ b, x = .non ∧ y = .bl b ∧ Q (.bl false) H)
theorem o_is : OpR X (compareOp .Is) rIsU := by
  intro pins s σ H x y v u Q I rx ry h
  rcases h with h | ⟨a, b, rfl, rfl, q⟩ | ⟨b, rfl, rfl, q⟩
  · exact op_isN pins s σ H x y v u Q I rx ry h
  · cases rx; cases ry
    refine wpAny_is_plain rfl ⟨.bl (a == b), H, I, ?_, q⟩
    show Value.bool _ = Value.bool _
    cases a <;> cases b <;> rfl
  · cases rx; cases ry
    exact wpAny_is_plain rfl ⟨.bl false, H, I, rfl, q⟩
end
end PD

/-! Part 6: is, subscripts, slices, built-ins, texts' methods -/
namespace PD
open PySem PySem.Spec PyProof.Rows L2

section
variable {K : PySem.W.Frag} {X : Cx}
theorem notNone_dec {F : Hp} {v : V} {d : D} (h : Rp K F v d) : decide (v = .non) = !notNone d := by
  cases h <;> simp [notNone]
theorem isD_cases {d e c : D} (h : isD d e = some c) : (e = .none ∧ c = .bool (!notNone d)) ∨ (∃ a b, d = .bool a ∧ e = .bool b ∧ c = .bool (a == b)) ∨ (∃ b, d = .none ∧ e = .bool b ∧ c = .bool false) := by
  unfold isD at h
  split at h
  · cases h; exact .inl ⟨rfl, rfl⟩
  · cases h; exact .inr (.inl ⟨_, _, rfl, rfl, rfl⟩)
  · cases h; exact .inr (.inr ⟨_, rfl, rfl, rfl⟩)
  · cases h
theorem v_is : V2 K rIsU isD := by
  intro F H x y d e c Q s rx ry h q
  rcases isD_cases h with ⟨rfl, rfl⟩ | ⟨a, b, rfl, rfl, rfl⟩ | ⟨b, rfl, rfl, rfl⟩
  · cases ry
    refine .inl ⟨rfl, ?_⟩
    rw [notNone_dec rx]
    exact q _ H F (Ext.refl s) (.bl _)
  · cases rx; cases ry
    exact .inr (.inl ⟨a, b, rfl, rfl, q _ H F (Ext.refl s) (.bl _)⟩)
  · cases rx; cases ry
    exact .inr (.inr ⟨b, rfl, rfl, q _ H F (Ext.refl s) (.bl _)⟩)
def rIsNotU : R2 := fun x y H Q => (y = .non ∧ Q (.bl (!decide (x = .non))) H) ∨ (∃ a b, x = .bl a ∧ y = .bl b ∧ Q (.bl (!(a == b))) H) ∨ (∃ b, x = .non ∧ y = .bl b ∧ Q (.bl true) H)
theorem o_isNot : OpR X (compareOp .IsNot) rIsNotU := by
  intro pins s σ H x y v u Q I rx ry h
  rcases h with h | ⟨a, b, rfl, rfl, q⟩ | ⟨b, rfl, rfl, q⟩
  · exact op_notN pins s σ H x y v u Q I rx ry h
  · cases rx; cases ry
    refine wpAny_isNot_plain rfl ⟨.bl (!(a == b)), H, I, ?_, q⟩
    show Value.bool _ = Value.bool _
    cases a <;> cases b <;> rfl
  · cases rx; cases ry
    exact wpAny_isNot_plain rfl ⟨.bl true, H, I, rfl, q⟩
theorem v_isNot : V2 K rIsNotU isNotD := by
  intro F H x y d e c Q s rx ry h q
  unfold isNotD at h
  cases h1 : isD d e with
  | none => rw [h1] at h; cases h
  | some c' =>
    rw [h1] at h
    cases h
    rcases isD_cases h1 with ⟨rfl, rfl⟩ | ⟨a, b, rfl, rfl, rfl⟩ | ⟨b, rfl, rfl, rfl⟩
    · cases ry
      refine .inl ⟨rfl, ?_⟩
      rw [notNone_dec rx]
      exact q _ H F (Ext.refl s) (.bl _)
    · cases rx; cases ry
      exact .inr (.inl ⟨a, b, rfl, rfl, q _ H F (Ext.refl s) (.bl _)⟩)
    · cases rx; cases ry
      exact .inr (.inr ⟨b, rfl, rfl, q _ H F (Ext.refl s) (.bl _)⟩)

/-! ### subscripts -/
def dIx (d e : D) : Option D := match e with
  | .int i => match d with
    | .list l => atI l i
    | .tuple l => atI l i
    | .str z => if z.length ≤ LINE then (atI z.cps.toList i).map oneS else none
    | _ => none
  | _ => none
theorem RpAll.atI {F : Hp} {vs : List V} {ds : List D} {i : Int} {d : D} (h : RpAll K F vs ds) (e : L2.atI ds i = some d) : ∃ v, L2.atI vs i = some v ∧ Rp K F v d := by
  unfold L2.atI at e ⊢
  rw [h.length]
  cases hj : ixN ds.length i with
  | none => rw [hj] at e; cases e
  | some j =>
    rw [hj] at e
    exact h.get e
theorem v_ix : V2 K (rIx K) dIx := by
  intro F H x y d e c Q s rx ry h q
  cases e with
  | int i =>
    cases ry
    cases d with
    | list l =>
      cases rx with
      | @lst a xs _ a1 a2 =>
        obtain ⟨v, h1, h2⟩ := a2.atI h
        exact .inl ⟨a, xs, i, v, rfl, rfl, SqL.of (s _ _ a1), h1, q v H F (Ext.refl s) h2⟩
    | tuple l =>
      cases rx with
      | @tup a xs _ a1 a2 =>
        obtain ⟨v, h1, h2⟩ := a2.atI h
        exact .inr (.inl ⟨a, xs, i, v, rfl, rfl, Same.sqt s a1, h1, q v H F (Ext.refl s) h2⟩)
    | str z =>
      cases rx
      simp only [dIx] at h
      split at h
      · rename_i hl
        cases hc : L2.atI z.cps.toList i with
        | none => rw [hc] at h; cases h
        | some cc =>
          rw [hc] at h
          cases h
          exact .inr (.inr ⟨z, i, cc, rfl, rfl, by rw [line_eq]; exact hl, hc, q _ H F (Ext.refl s) (.str _)⟩)
      · cases h
    | _ => cases h
  | _ => cases h
end
section
variable {X : Cx} {C : Ct} {f f' : FE} {a b : Expr} {x : Str} {pos p1 : Pos}
theorem ve_ix (ha : VE X C a f) (hb : VE X C b f') (hs : PlainIx b := by intro _ _; rfl) : VE X C (.Subscript a b pos) (f2 dIx f f') := PE.of (pe_ix ix_seq ha hb hs) fun _ _ _ => t_op2 v_ix
/-- an item of an owned list -/
def fIxO (i : Nat) (f' : FE) : FE := fun env => match env[i]? with
  | some (.own l) => (f' env).bind fun e => Rs.ofO (dIx (.list l) e)
  | _ => .no
theorem ve_ixO (i : Nat) (hb : VE X C b f') (hN : X.N[i]? = some x := by rfl) (hv : Vis X.env.scope x := by first | exact Or.inl rfl | exact Or.inr (Or.inl rfl) | exact Or.inr (Or.inr rfl)) (hd : (x == ("__debug__" : Str)) = false := by decide)
    (hcd : (x == ("__classdict__" : Str)) = false := by decide) (hs : PlainIx b := by intro _ _; rfl) : VE X C (.Subscript (.Name x p1) b pos) (fIxO i f') := PE.of (pe_ix ix_list (pe_var hN hv hd hcd) hb hs) fun σ H Q ⟨F, env, re, q⟩ => by
  unfold fIxO at q
  split at q
  · rename_i l e1
    obtain ⟨p, xs, h1, h2, h3, h4, h5⟩ := re.own e1
    refine ⟨.ref p, h1, F, env, re, Sat.bind RD.mono q fun d v F1 H1 x1 r1 q1 => ?_⟩
    obtain ⟨c, hc, q2⟩ := Sat.ofO q1
    obtain ⟨p', xs', g1, g2, g3, g4, g5⟩ := (re.go x1).own e1
    rw [h1] at g1
    cases g1
    cases d with
    | int k =>
      cases r1
      obtain ⟨w, w1, w2⟩ := g5.atI hc
      exact ⟨p, xs', k, w, rfl, rfl, SqL.of g2, w1, q2 w H1 F1 (Ext.refl (re.go x1).same) w2⟩
    | _ => cases hc
  · exact q.elim
end

/-! ### slices -/
abbrev FO := List Sl → Rs (Option Int)
def RO : Rel (Option Int) (Option Int) := fun _ _ _ _ b c => b = c
theorem RO.mono : RMono RO := fun _ _ _ _ _ _ _ _ _ _ h => h
def TOp (K : PySem.W.Frag) (mg : Str → Option Value) (C : Ct) (f : FO) : L2.TO := fun σ H Q => ∃ F env, REnv K C F σ H env ∧ Sat mg C RO (f env) σ F H Q
abbrev VO (X : Cx) (C : Ct) (e : Option Expr) (f : FO) : Prop := PO X e (TOp X.K X.mg C f)
theorem PO.of {X : Cx} {e : Option Expr} {t u : L2.TO} (h : PO X e t) (i : ∀ σ H Q, u σ H Q → t σ H Q) : PO X e u := ⟨fun pins s σ H Q I q => h.run pins s σ H Q I (i _ _ _ q)⟩
def oNone : FO := fun _ => .ok none
def asI : D → Rs Int
  | .int i => .ok i
  | _ => .no
def oSome (f : FE) : FO := fun env => (f env).bind fun d => (asI d).bind fun i => .ok (some i)
def cutD {α : Type} (xs : List α) (lo hi : Option Int) : List α := (xs.drop (HT.sIx xs.length 0 lo)).take (HT.sIx xs.length xs.length hi - HT.sIx xs.length 0 lo)
def dSl (d : D) (lo hi : Option Int) : Option D := match d with
  | .list l => some (.list (cutD l lo hi))
  | .tuple l => some (.tuple (cutD l lo hi))
  | .str z => if z.length ≤ LINE then some (.str (cutS z lo hi)) else none
  | _ => none
def fSl (f : FE) (g g' : FO) : FE := fun env => (f env).bind fun d => (g env).bind fun lo => (g' env).bind fun hi => Rs.ofO (dSl d lo hi)
def fSlN (f : FE) (g g' : FO) : FE := fun env => (f env).bind fun d => (g env).bind fun lo => (g' env).bind fun hi => match d with
  | .list l => .ok (.list (cutD l lo hi))
  | _ => .no
theorem RpAll.cut {K : PySem.W.Frag} {F : Hp} {vs : List V} {ds : List D} (h : RpAll K F vs ds) (lo hi : Option Int) : RpAll K F (cutV vs lo hi) (cutD ds lo hi) := by
  unfold cutV cutD
  rw [h.length]
  exact (h.drop _).take _
def rSlU (K : PySem.W.Frag) : V → Option Int → Option Int → Hp → VK → Prop := fun x lo hi H Q => rSlL K x lo hi H Q ∨ rSlA K x lo hi H Q ∨ rSlS x lo hi H Q
section
variable {X : Cx} {C : Ct} {f : FE} {g g' : FO} {a : Expr} {lo hi : Option Expr} {pos p2 : Pos}
theorem vo_none : VO X C none oNone := PO.of po_none fun σ H Q ⟨F, env, re, q⟩ => q none H F (Ext.refl re.same) rfl
theorem vo_some {e : Expr} (h : VE X C e f) : VO X C (some e) (oSome f) := PO.of (po_some h) fun σ H Q ⟨F, env, re, q⟩ =>
  ⟨F, env, re, Sat.bind RO.mono q fun d v F1 H1 x1 r1 q1 => by
    cases d with
    | int i => cases r1; exact ⟨i, rfl, q1 _ H1 F1 (Ext.refl (re.go x1).same) rfl⟩
    | _ => exact q1.elim⟩
theorem sl_u : L2.SlR X (rSlU X.K) := sl_list.or (sl_tupA.or sl_str)
theorem ve_sl (ha : VE X C a f) (hl : VO X C lo g) (hh : VO X C hi g') : VE X C (.Subscript a (.Slice lo hi none p2) pos) (fSl f g g') := PE.of (pe_slice sl_u ha hl hh) fun σ H Q ⟨F, env, re, q⟩ =>
  ⟨F, env, re, Sat.bind RD.mono q fun d v F1 H1 x1 r1 q1 => ⟨F1, env, re.go x1, Sat.bind RD.mono q1 fun l l' F2 H2 x2 r2 q2 => ⟨F2, env, (re.go x1).go x2, Sat.bind RD.mono q2 fun u u' F3 H3 x3 r3 q3 => by
    have e1 : l' = l := r2
    have e2 : u' = u := r3
    subst e1 e2
    obtain ⟨c, hc, q4⟩ := Sat.ofO q3
    have s3 := ((re.go x1).go x2).go x3 |>.same
    have r1' := Rp.mono (x2.trans x3).f _ _ r1
    cases d with
    | list ds =>
      cases hc
      cases r1' with
      | @lst a xs _ a1 a2 =>
        exact .inl ⟨a, xs, rfl, SqL.of (s3 _ _ a1), fun p hp => q4 _ _ _ (Ext.new s3 hp) (.lst upd_same (RpAll.mono (same_upd (s3.free hp)) _ _ (a2.cut _ _)))⟩
    | tuple ds =>
      cases hc
      cases r1' with
      | @tup a xs _ a1 a2 =>
        refine .inr (.inl ⟨a, xs, rfl, Same.sqt s3 a1, fun hw => ?_, fun _ p hp => q4 _ _ _ (Ext.new s3 hp) (.tup (SqT.of upd_same) (RpAll.mono (same_upd (s3.free hp)) _ _ (a2.cut _ _)))⟩)
        have e : cutD ds l' u' = ds := by
          unfold cutD
          rw [a2.length] at hw
          rw [hw.1, hw.2]
          simp
        rw [e] at q4
        exact q4 _ H3 F3 (Ext.refl s3) (.tup a1 a2)
    | str z =>
      cases r1'
      simp only [dSl] at hc
      split at hc
      · rename_i hl
        cases hc
        exact .inr (.inr ⟨z, rfl, by rw [line_eq]; exact hl, q4 _ H3 F3 (Ext.refl s3) (.str _)⟩)
      · cases hc
    | _ => cases hc⟩⟩⟩
theorem vn_sl (ha : VE X C a f) (hl : VO X C lo g) (hh : VO X C hi g') : VN X C (.Subscript a (.Slice lo hi none p2) pos) (fSlN f g g') := PE.of (pe_slice sl_list ha hl hh) fun σ H Q ⟨F, env, re, q⟩ =>
  ⟨F, env, re, Sat.bind RN.mono q fun d v F1 H1 x1 r1 q1 => ⟨F1, env, re.go x1, Sat.bind RN.mono q1 fun l l' F2 H2 x2 r2 q2 => ⟨F2, env, (re.go x1).go x2, Sat.bind RN.mono q2 fun u u' F3 H3 x3 r3 q3 => by
    have e1 : l' = l := r2
    have e2 : u' = u := r3
    subst e1 e2
    have s3 := ((re.go x1).go x2).go x3 |>.same
    have r1' := Rp.mono (x2.trans x3).f _ _ r1
    cases d with
    | list ds =>
      cases r1' with
      | @lst a xs _ a1 a2 =>
        exact ⟨a, xs, rfl, SqL.of (s3 _ _ a1), fun p hp => q3 _ _ _ (Ext.laid s3 hp) ⟨p, _, _, rfl, rfl, upd_same, s3.free hp, hp, a2.cut _ _⟩⟩
    | _ => exact q3.elim⟩⟩⟩
/-- xs[::-1] of a list -/
def dRev : D → Option D
  | .list l => some (.list l.reverse)
  | _ => none
def fRev (f : FE) : FE := f1 dRev f
theorem ve_revL {k : Nat} {p1 p2 p3 : Pos} (ha : VE X C a f) : VE X C (.Subscript a (.Slice none none (some (.UnaryOp .USub (.Constant (.int 1) k p1) p2)) p3) pos) (fRev f) := PE.of (pe_revL ha) fun σ H Q ⟨F, env, re, q⟩ =>
  ⟨F, env, re, Sat.bind RD.mono q fun d v F1 H1 x1 r1 q1 => by
    obtain ⟨c, hc, q2⟩ := Sat.ofO q1
    have s1 := (re.go x1).same
    cases d with
    | list ds =>
      cases hc
      cases r1 with
      | @lst a xs _ a1 a2 =>
        exact ⟨a, xs, rfl, SqL.of (s1 _ _ a1), fun p hp => q2 _ _ _ (Ext.new s1 hp) (.lst upd_same (RpAll.mono (same_upd (s1.free hp)) _ _ a2.reverse))⟩
    | _ => cases hc⟩
/-- an expression with a new list of scalars, all own lists thawed -/
def flatL : D → Bool
  | .list l => l.all scalD
  | _ => false
def fScalN (f : FE) : FE := fun env => (f (thaw env)).bind fun d => if flatL d = true then .ok d else .no
theorem RpAll.scal {K : PySem.W.Frag} {F F' : Hp} : ∀ (ds : List D) (vs : List V), ds.all scalD = true → RpAll K F' vs ds → RpAll K F vs ds
  | [], _, _, h => by cases h; exact .nil
  | d :: ds, _, s, h => by
    rw [List.all_cons, Bool.and_eq_true] at s
    cases h with
    | cons a b => exact .cons (Rp.scal s.1 a) (RpAll.scal ds _ s.2 b)
theorem vn_scal {e : Expr} (h : VN X C e f) : VN X C e (fScalN f) := PE.of h fun σ H Q ⟨F, env, re, q⟩ => by
  obtain ⟨F', s, re'⟩ := re.thaw
  refine ⟨F', _, re', ?_⟩
  have q : Sat X.mg C (RN X.K) ((f (thaw env)).bind fun d => if flatL d = true then .ok d else .no) σ F H Q := q
  cases hf : f (thaw env) with
  | ok d =>
    rw [hf] at q
    have q : Sat X.mg C (RN X.K) (if flatL d = true then .ok d else .no) σ F H Q := q
    by_cases hd : flatL d = true
    · rw [if_pos hd] at q
      intro v H1 F1 x1 ⟨p, xs, l, e1, e2, e3, e4, e5, e6⟩
      subst e1 e2
      exact q _ H1 F ⟨Same.refl _, x1.h, re.same.trans x1.h, fun _ _ z => .inl z⟩ ⟨p, xs, l, rfl, rfl, e3, re.same.free e5, e5, RpAll.scal l xs hd e6⟩
    · rw [if_neg hd] at q; exact q.elim
  | er c n => rw [hf] at q; exact q
  | no => rw [hf] at q; exact q
end

/-! ### built-ins -/
def dLen : List D → Option D
  | [.str z] => if z.length ≤ LINE then some (.int z.length) else none
  | [.list l] => some (.int l.length)
  | [.tuple l] => some (.int l.length)
  | _ => none
def dAbs : List D → Option D
  | [.int i] => some (.int (if i < 0 then -i else i))
  | _ => none
def dMin2 : List D → Option D
  | [.int i, .int j] => some (.int (if j < i then j else i))
  | _ => none
def dMax2 : List D → Option D
  | [.int i, .int j] => some (.int (if j > i then j else i))
  | _ => none
def dInt : List D → Option D
  | [.int i] => some (.int i)
  | [.bool b] => some (.int (if b then 1 else 0))
  | _ => none
def dList : List D → Option D
  | [.list l] => some (.list l)
  | [.tuple l] => some (.list l)
  | _ => none
def dTuple : List D → Option D
  | [.list l] => some (.tuple l)
  | [.tuple l] => some (.tuple l)
  | _ => none
def boolsD : List D → Option (List Bool)
  | [] => some []
  | .bool b :: r => (boolsD r).map (b :: ·)
  | _ => none
def intsD : List D → Option (List Int)
  | [] => some []
  | .int b :: r => (intsD r).map (b :: ·)
  | _ => none
def strsD : List D → Option (List Str)
  | [] => some []
  | .str b :: r => (strsD r).map (b :: ·)
  | _ => none
def dAll : List D → Option D
  | [.list l] => (boolsD l).map fun bs => .bool (bs.all id)
  | _ => none
def dAny : List D → Option D
  | [.list l] => (boolsD l).map fun bs => .bool (bs.any id)
  | _ => none
def dSum : List D → Option D
  | [.list l] => (intsD l).map fun bs => .int bs.sum
  | _ => none
section
variable {K : PySem.W.Frag} {X : Cx}
theorem RpAll.bools {F : Hp} : ∀ {ds : List D} {vs : List V} {bs : List Bool}, RpAll K F vs ds → boolsD ds = some bs → vs = bs.map V.bl
  | [], _, _, h, e => by cases h; cases e; rfl
  | .bool b :: r, _, _, h, e => by
    cases h with
    | cons a t =>
      cases a
      simp only [boolsD] at e
      cases hr : boolsD r with
      | none => rw [hr] at e; cases e
      | some bs => rw [hr] at e; cases e; rw [t.bools hr]; rfl
  | .int _ :: _, _, _, _, e | .str _ :: _, _, _, _, e | .none :: _, _, _, _, e | .list _ :: _, _, _, _, e | .tuple _ :: _, _, _, _, e | .dict _ :: _, _, _, _, e => by cases e
theorem RpAll.intsd {F : Hp} : ∀ {ds : List D} {vs : List V} {bs : List Int}, RpAll K F vs ds → intsD ds = some bs → vs = bs.map V.int
  | [], _, _, h, e => by cases h; cases e; rfl
  | .int b :: r, _, _, h, e => by
    cases h with
    | cons a t =>
      cases a
      simp only [intsD] at e
      cases hr : intsD r with
      | none => rw [hr] at e; cases e
      | some bs => rw [hr] at e; cases e; rw [t.intsd hr]; rfl
  | .bool _ :: _, _, _, _, e | .str _ :: _, _, _, _, e | .none :: _, _, _, _, e | .list _ :: _, _, _, _, e | .tuple _ :: _, _, _, _, e | .dict _ :: _, _, _, _, e => by cases e
theorem RpAll.strsd {F : Hp} : ∀ {ds : List D} {vs : List V} {bs : List Str}, RpAll K F vs ds → strsD ds = some bs → vs = bs.map V.str
  | [], _, _, h, e => by cases h; cases e; rfl
  | .str b :: r, _, _, h, e => by
    cases h with
    | cons a t =>
      cases a
      simp only [strsD] at e
      cases hr : strsD r with
      | none => rw [hr] at e; cases e
      | some bs => rw [hr] at e; cases e; rw [t.strsd hr]; rfl
  | .bool _ :: _, _, _, _, e | .int _ :: _, _, _, _, e | .none :: _, _, _, _, e | .list _ :: _, _, _, _, e | .tuple _ :: _, _, _, _, e | .dict _ :: _, _, _, _, e => by cases e
theorem RpAll.one' {F : Hp} {vs : List V} {d : D} (h : RpAll K F vs [d]) : ∃ v, vs = [v] ∧ Rp K F v d := by
  cases h with
  | cons a b => cases b; exact ⟨_, rfl, a⟩
theorem RpAll.two' {F : Hp} {vs : List V} {d e : D} (h : RpAll K F vs [d, e]) : ∃ v w, vs = [v, w] ∧ Rp K F v d ∧ Rp K F w e := by
  cases h with
  | cons a b =>
    obtain ⟨w, rfl, h⟩ := b.one'
    exact ⟨_, w, rfl, a, h⟩
abbrev rLen (K : PySem.W.Frag) : List V → Hp → VK → Prop := fun xs H Q => ∃ x n, xs = [x] ∧ LenV K x H n ∧ Q (.int n) H
theorem l_len : VL K (rLen K) dLen := by
  intro F H xs ds c Q s h e q
  unfold dLen at e
  split at e
  · split at e
    · rename_i hl
      cases e
      obtain ⟨v, rfl, r⟩ := h.one'
      cases r
      exact ⟨_, _, rfl, ⟨by rw [line_eq]; exact hl, rfl⟩, q _ H F (Ext.refl s) (.int _)⟩
    · cases e
  · cases e
    obtain ⟨v, rfl, r⟩ := h.one'
    cases r with
    | lst a b => exact ⟨_, _, rfl, .inl ⟨_, SqL.of (s _ _ a), b.length.symm⟩, q _ H F (Ext.refl s) (.int _)⟩
  · cases e
    obtain ⟨v, rfl, r⟩ := h.one'
    cases r with
    | tup a b => exact ⟨_, _, rfl, .inr ⟨_, Same.sqt s a, b.length.symm⟩, q _ H F (Ext.refl s) (.int _)⟩
  · cases e
abbrev rAbs : List V → Hp → VK → Prop := fun xs H Q => ∃ i, xs = [.int i] ∧ Q (.int (if i < 0 then -i else i)) H
theorem l_abs : VL K rAbs dAbs := by
  intro F H xs ds c Q s h e q
  unfold dAbs at e
  split at e
  · cases e
    obtain ⟨v, rfl, r⟩ := h.one'
    cases r
    exact ⟨_, rfl, q _ H F (Ext.refl s) (.int _)⟩
  · cases e
abbrev rMin2 : List V → Hp → VK → Prop := fun xs H Q => ∃ i j, xs = [.int i, .int j] ∧ Q (.int (if j < i then j else i)) H
abbrev rMax2 : List V → Hp → VK → Prop := fun xs H Q => ∃ i j, xs = [.int i, .int j] ∧ Q (.int (if j > i then j else i)) H
theorem l_min2 : VL K rMin2 dMin2 := by
  intro F H xs ds c Q s h e q
  unfold dMin2 at e
  split at e
  · cases e
    obtain ⟨v, w, rfl, r, r'⟩ := h.two'
    cases r; cases r'
    exact ⟨_, _, rfl, q _ H F (Ext.refl s) (.int _)⟩
  · cases e
theorem l_max2 : VL K rMax2 dMax2 := by
  intro F H xs ds c Q s h e q
  unfold dMax2 at e
  split at e
  · cases e
    obtain ⟨v, w, rfl, r, r'⟩ := h.two'
    cases r; cases r'
    exact ⟨_, _, rfl, q _ H F (Ext.refl s) (.int _)⟩
  · cases e
abbrev rInt1 : List V → Hp → VK → Prop := fun xs H Q => (∃ i, xs = [.int i] ∧ Q (.int i) H) ∨ ∃ k, xs = [.bl k] ∧ Q (.int (if k then 1 else 0)) H
theorem l_int : VL K rInt1 dInt := by
  intro F H xs ds c Q s h e q
  unfold dInt at e
  split at e
  · cases e
    obtain ⟨v, rfl, r⟩ := h.one'
    cases r
    exact .inl ⟨_, rfl, q _ H F (Ext.refl s) (.int _)⟩
  · cases e
    obtain ⟨v, rfl, r⟩ := h.one'
    cases r
    exact .inr ⟨_, rfl, q _ H F (Ext.refl s) (.int _)⟩
  · cases e
abbrev rListOf (K : PySem.W.Frag) : List V → Hp → VK → Prop := fun xs H Q => ∃ p ys, xs = [.ref p] ∧ (SqL K H p ys ∨ SqT K H p ys) ∧ ∀ l, H l = none → Q (.ref l) (upd H l (.lst ys))
theorem l_listN : VLN K (rListOf K) dList := by
  intro F H xs ds c Q s h e q
  unfold dList at e
  split at e
  · cases e
    obtain ⟨v, rfl, r⟩ := h.one'
    cases r with
    | @lst a ys _ a1 a2 => exact ⟨a, ys, rfl, .inl (SqL.of (s _ _ a1)), fun p hp => q _ _ _ (Ext.laid s hp) ⟨p, _, _, rfl, rfl, upd_same, s.free hp, hp, a2⟩⟩
  · cases e
    obtain ⟨v, rfl, r⟩ := h.one'
    cases r with
    | @tup a ys _ a1 a2 => exact ⟨a, ys, rfl, .inr (Same.sqt s a1), fun p hp => q _ _ _ (Ext.laid s hp) ⟨p, _, _, rfl, rfl, upd_same, s.free hp, hp, a2⟩⟩
  · cases e
theorem l_list : VL K (rListOf K) dList := by
  intro F H xs ds c Q s h e q
  unfold dList at e
  split at e
  · cases e
    obtain ⟨v, rfl, r⟩ := h.one'
    cases r with
    | @lst a ys _ a1 a2 => exact ⟨a, ys, rfl, .inl (SqL.of (s _ _ a1)), fun p hp => q _ _ _ (Ext.new s hp) (.lst upd_same (RpAll.mono (same_upd (s.free hp)) _ _ a2))⟩
  · cases e
    obtain ⟨v, rfl, r⟩ := h.one'
    cases r with
    | @tup a ys _ a1 a2 => exact ⟨a, ys, rfl, .inr (Same.sqt s a1), fun p hp => q _ _ _ (Ext.new s hp) (.lst upd_same (RpAll.mono (same_upd (s.free hp)) _ _ a2))⟩
  · cases e
abbrev rTupleOf (K : PySem.W.Frag) : List V → Hp → VK → Prop := fun xs H Q => ∃ p ys, xs = [.ref p] ∧ ((SqL K H p ys ∧ ∀ l, H l = none → Q (.ref l) (upd H l (.tup ys))) ∨ (SqT K H p ys ∧ Q (.ref p) H))
theorem l_tuple : VL K (rTupleOf K) dTuple := by
  intro F H xs ds c Q s h e q
  unfold dTuple at e
  split at e
  · cases e
    obtain ⟨v, rfl, r⟩ := h.one'
    cases r with
    | @lst a ys _ a1 a2 => exact ⟨a, ys, rfl, .inl ⟨SqL.of (s _ _ a1), fun p hp => q _ _ _ (Ext.new s hp) (.tup (SqT.of upd_same) (RpAll.mono (same_upd (s.free hp)) _ _ a2))⟩⟩
  · cases e
    obtain ⟨v, rfl, r⟩ := h.one'
    cases r with
    | @tup a ys _ a1 a2 => exact ⟨a, ys, rfl, .inr ⟨Same.sqt s a1, q _ H F (Ext.refl s) (.tup a1 a2)⟩⟩
  · cases e
theorem l_all : VL K (rAll K) dAll := by
  intro F H xs ds c Q s h e q
  unfold dAll at e
  split at e
  · rename_i l
    obtain ⟨v, rfl, r⟩ := h.one'
    cases hb : boolsD l with
    | none => rw [hb] at e; cases e
    | some bs =>
      rw [hb] at e
      cases e
      cases r with
      | @lst a ys _ a1 a2 =>
        have e := a2.bools hb
        subst e
        exact ⟨a, bs, rfl, SqL.of (s _ _ a1), q _ H F (Ext.refl s) (.bl _)⟩
  · cases e
theorem l_any : VL K (rAny K) dAny := by
  intro F H xs ds c Q s h e q
  unfold dAny at e
  split at e
  · rename_i l
    obtain ⟨v, rfl, r⟩ := h.one'
    cases hb : boolsD l with
    | none => rw [hb] at e; cases e
    | some bs =>
      rw [hb] at e
      cases e
      cases r with
      | @lst a ys _ a1 a2 =>
        have e := a2.bools hb
        subst e
        exact ⟨a, bs, rfl, SqL.of (s _ _ a1), q _ H F (Ext.refl s) (.bl _)⟩
  · cases e
theorem l_sum : VL K (rSum K) dSum := by
  intro F H xs ds c Q s h e q
  unfold dSum at e
  split at e
  · rename_i l
    obtain ⟨v, rfl, r⟩ := h.one'
    cases hb : intsD l with
    | none => rw [hb] at e; cases e
    | some bs =>
      rw [hb] at e
      cases e
      cases r with
      | @lst a ys _ a1 a2 =>
        have e := a2.intsd hb
        subst e
        exact ⟨a, bs, rfl, SqL.of (s _ _ a1), q _ H F (Ext.refl s) (.int _)⟩
  · cases e
end

/-! ### a text's join -/
def dJoin (d e : D) : Option D := match d, e with
  | .str a, .list l => (strsD l).bind fun ys => if (ys.map (·.length)).sum + ys.length * a.length ≤ LINE then some (.str (Txt.join a ys)) else none
  | .str a, .tuple l => (strsD l).bind fun ys => if (ys.map (·.length)).sum + ys.length * a.length ≤ LINE then some (.str (Txt.join a ys)) else none
  | _, _ => none
section
variable {X : Cx} {C : Ct} {f f' : FE} {o e : Expr} {apos pos : Pos}
def fJoin (f f' : FE) : FE := fun env => (f env).bind fun d => match d with
  | .str a => (f' env).bind fun l => Rs.ofO (dJoin (.str a) l)
  | _ => .no
theorem ve_join (ho : VE X C o f) (he : VE X C e f') (hs : starEach [e] X.env = [(false, eval e X.env)] := by rfl) (hbase : attributeBase o "join" X.env (eval o X.env) = eval o X.env := by rfl) (hline : (apos.endLine == pos.line) = true := by rfl) :
    VE X C (.Call (.Attribute o "join" apos) [e] [] pos) (fJoin f f') := PE.of (pe_join ho he hs hbase hline) fun σ H Q ⟨F, env, re, q⟩ =>
  ⟨F, env, re, Sat.bind RD.mono q fun d v F1 H1 x1 r1 q1 => by
    cases d with
    | str a =>
      cases r1
      refine ⟨⟨_, rfl⟩, F1, env, re.go x1, Sat.bind RD.mono q1 fun l w F2 H2 x2 r2 q2 => ?_⟩
      obtain ⟨c, hc, q3⟩ := Sat.ofO q2
      have s2 := ((re.go x1).go x2).same
      cases l with
      | list l =>
        simp only [dJoin] at hc
        cases hb : strsD l with
        | none => rw [hb] at hc; cases hc
        | some ys =>
          rw [hb] at hc
          have hc : (if (ys.map (·.length)).sum + ys.length * a.length ≤ LINE then some (PyData.str (Txt.join a ys)) else none) = some c := hc
          by_cases hl : (ys.map (·.length)).sum + ys.length * a.length ≤ LINE
          · rw [if_pos hl] at hc
            cases hc
            cases r2 with
            | @lst p xs _ a1 a2 =>
              have e := a2.strsd hb
              subst e
              exact ⟨a, p, ys, rfl, rfl, .inl (SqL.of (s2 _ _ a1)), hl, q3 _ H2 F2 (Ext.refl s2) (.str _)⟩
          · rw [if_neg hl] at hc; cases hc
      | tuple l =>
        simp only [dJoin] at hc
        cases hb : strsD l with
        | none => rw [hb] at hc; cases hc
        | some ys =>
          rw [hb] at hc
          have hc : (if (ys.map (·.length)).sum + ys.length * a.length ≤ LINE then some (PyData.str (Txt.join a ys)) else none) = some c := hc
          by_cases hl : (ys.map (·.length)).sum + ys.length * a.length ≤ LINE
          · rw [if_pos hl] at hc
            cases hc
            cases r2 with
            | @tup p xs _ a1 a2 =>
              have e := a2.strsd hb
              subst e
              exact ⟨a, p, ys, rfl, rfl, .inr (Same.sqt s2 a1), hl, q3 _ H2 F2 (Ext.refl s2) (.str _)⟩
          · rw [if_neg hl] at hc; cases hc
      | _ => cases hc
    | _ => exact q1.elim⟩
end
end PD

/-! Part 7: enumerate and zip over lists, tuples, texts -/
namespace PD
open PySem PySem.Spec PyProof.Rows L2

theorem ad_ne {n k m : Nat} (h : k ≠ m) : n + k ≠ n + m := by omega
theorem ad_lt {n k : Nat} (h : n + k < n) : False := by omega
theorem ad_le {n c : Nat} (h : c = n + 4 ∨ c = n + 2 ∨ c = n + 3 ∨ c = n ∨ c = n + 1) : n ≤ c := by omega
inductive Sk where
  | l (a : Addr)
  | t (a : Addr)
  | s (z : Str)
namespace Sk
def v : Sk → V
  | .l a => .ref a
  | .t a => .ref a
  | .s z => .str z
def adr : Sk → List Addr
  | .l a => [a]
  | .t a => [a]
  | .s _ => []
def seq (K : PySem.W.Frag) (H : Hp) (k : Sk) (xs : List V) : Prop := match k with
  | .l a => SqL K H a xs
  | .t a => SqT K H a xs
  | .s z => xs = z.cps.toList.map fun c => .str ⟨#[c]⟩
def at' (k : Sk) (it : Addr) (i : Nat) (h : Heap) : Prop := match k with
  | .l a => h.IsListIter it a i
  | .t a => h.IsTupleIter it a i
  | .s z => ∃ tk, h.IsStrIter it (strIterType z) z tk i
end Sk
section
variable {X : Cx} {pins : List (Addr × Obj)} {σ : L2.St} {H : Hp} {s : Shared} {k : Sk} {it : Addr} {xs ys : List V}
theorem Sk.at_obj {i : Nat} {h : Heap} (st : k.at' it i h) : ∃ o, h.get? it = some o ∧ ∀ v, o.data ≠ .cell v := by
  cases k with
  | l a => obtain ⟨o, e, _, d⟩ := st; exact ⟨o, e, fun v z => by rw [d] at z; cases z⟩
  | t a => obtain ⟨o, e, _, d⟩ := st; exact ⟨o, e, fun v z => by rw [d] at z; cases z⟩
  | s z => obtain ⟨tk, o, e, _, d⟩ := st; exact ⟨o, e, fun v z => by rw [d] at z; cases z⟩
theorem Sk.at_keep {i : Nat} {h h' : Heap} (st : k.at' it i h) (hk : ∀ o, h.get? it = some o → h'.get? it = some o) : k.at' it i h' := by
  cases k with
  | l a => obtain ⟨o, e, r⟩ := st; exact ⟨o, hk _ e, r⟩
  | t a => obtain ⟨o, e, r⟩ := st; exact ⟨o, hk _ e, r⟩
  | s z => obtain ⟨tk, o, e, r⟩ := st; exact ⟨tk, o, hk _ e, r⟩
theorem Sk.inj (I : Inv X pins σ H s) (h : k.seq X.K H xs) (h' : k.seq X.K H ys) : xs = ys := by
  cases k with
  | l a => exact I.list_inj h h'
  | t a => exact I.tuple_inj h h'
  | s z => exact Eq.trans h (Eq.symm h')
theorem Sk.draws (hh : X.A.in1.handled = none) (I : Inv X pins σ H s) (hq : k.seq X.K H xs) (hne : it ∉ k.adr) (i : Nat) (st : k.at' it i s.heap) :
    ∃ (n : Nat) (P : Nat → Value → Prop) (St : Nat → Heap → Prop), Draws X.prog X.w X.A.in1 it (it :: k.adr) n P St ∧ n = xs.length ∧ St i s.heap ∧ (∀ j h, St j h → k.at' it j h) ∧ ∀ j x, P j x → ∃ y, xs[j]? = some y ∧ RelV y x := by
  cases k with
  | l a =>
    obtain ⟨its, rv, p, _⟩ := I.list hq
    have ne : a ≠ it := fun z => hne (by rw [z]; exact List.mem_cons_self)
    refine ⟨_, _, _, Draws.list hh it a ne its.toArray, by rw [List.size_toArray]; exact rv.length.symm, ⟨st, p.isList⟩, fun j h q => q.1, fun j x q => ?_⟩
    have q : its[j]? = some x := by simpa using q
    have hj : j < xs.length := by rw [rv.length]; exact (List.getElem?_eq_some_iff.mp q).1
    obtain ⟨u, hu, ru⟩ := rv.get (List.getElem?_eq_getElem hj)
    rw [q] at hu
    cases hu
    exact ⟨_, List.getElem?_eq_getElem hj, ru⟩
  | t a =>
    obtain ⟨its, rv, p, _⟩ := I.tuple hq
    have ne : a ≠ it := fun z => hne (by rw [z]; exact List.mem_cons_self)
    refine ⟨_, _, _, Draws.tuple hh it a ne its.toArray, by rw [List.size_toArray]; exact rv.length.symm, ⟨st, show s.heap.IsTuple a its.toArray from p⟩, fun j h q => q.1, fun j x q => ?_⟩
    have q : its[j]? = some x := by simpa using q
    have hj : j < xs.length := by rw [rv.length]; exact (List.getElem?_eq_some_iff.mp q).1
    obtain ⟨u, hu, ru⟩ := rv.get (List.getElem?_eq_getElem hj)
    rw [q] at hu
    cases hu
    exact ⟨_, List.getElem?_eq_getElem hj, ru⟩
  | s z =>
    obtain ⟨tk, st⟩ := st
    have hq : xs = z.cps.toList.map fun c => .str ⟨#[c]⟩ := hq
    refine ⟨_, _, _, Draws.text hh it z tk, by rw [hq, List.length_map, Array.length_toList], st, fun j h q => ⟨tk, q⟩, fun j x ⟨c, u, q, e⟩ => ?_⟩
    subst e
    refine ⟨.str ⟨#[c]⟩, ?_, ⟨u, rfl⟩⟩
    rw [hq, List.getElem?_map, Array.getElem?_toList, q]
    rfl
end

/-! ### enumerate -/
def IteU (K : PySem.W.Frag) (k : Sk) : It :=
  ⟨fun i H => ∃ (xs : List V) (x : V), k.seq K H xs ∧ xs[i]? = some x, fun i H v H' => ∃ T x, v = .ref T ∧ H T = none ∧ H' = upd H T (.tup [.int (i : Nat), x]) ∧ ∀ xs, k.seq K H xs → xs[i]? = some x, fun i H => ∃ xs : List V, k.seq K H xs ∧ xs.length = i⟩
theorem turn_enumU {P : Program} {w : World} {K : PySem.W.Frag} {elts : List Expr} {kk : Nat} {tpos : Pos} (k : Sk) (e it : Addr) (hne : e ≠ it) (hea : e ∉ k.adr) (hia : it ∉ k.adr) :
    Turn P w K (.Tuple elts kk tpos) (IteU K k) [e, it] e (fun i h => (∃ old, IsEnum h e it ((i : Nat) : Int) old) ∧ k.at' it i h) where
  mem := by simp
  obj := fun i h st b hb => by
    obtain ⟨⟨old, he⟩, st⟩ := st
    have e' : b = e ∨ b = it := by simpa using hb
    rcases e' with z | z
    · rw [z]; exact ⟨_, he, fun v q => nomatch q⟩
    · rw [z]; exact Sk.at_obj st
  keep := fun i h h' st k' => let ⟨⟨old, he⟩, hi⟩ := st; ⟨⟨old, k' e (by simp) _ he⟩, Sk.at_keep hi fun o q => k' it (by simp) o q⟩
  item := by
    intro X hP hw hK hc i pins s σ H E I hf st hg
    subst hP hw hK
    obtain ⟨⟨old, he⟩, hit⟩ := st
    obtain ⟨xs, x, hq, hx⟩ := hg
    obtain ⟨n, P, St, D, hn, hst, hat, hP⟩ := Sk.draws (I.ok.hd hc) I hq hia i hit
    have hel : e < s.heap.objs.size := Heap.lt_size he
    have hil : it < s.heap.objs.size := by obtain ⟨_, q, _⟩ := Sk.at_obj hit; exact Heap.lt_size q
    have hlt : i < n := by rw [hn]; exact (List.getElem?_eq_some_iff.mp hx).1
    refine wpAny_pyNext_enum_itemD D he hst hlt hne (fun z => by
      rcases List.mem_cons.mp z with z | z
      · exact hne z
      · exact hea z) fun u h' tk hu ho hit' hT hsz hk => ?_
    obtain ⟨y, hy, ru⟩ := hP _ _ hu
    rw [hx] at hy
    cases hy
    refine ⟨_, rfl, wpAny_letOwnedTupleGo_enum (s := { s with heap := h', toks := tk + 1 }) ho fun h'' he' sb => ?_⟩
    have hT2 : h''.get? s.heap.objs.size = some { cls := .type "tuple", data := .seq #[.int i tk, u] } := (sb.2 _ (Nat.ne_of_gt hel)).trans hT
    have new : ObjOk X.prog X.w (upd H s.heap.objs.size (.tup [.int (i : Nat), x])) h'' s.heap.objs.size (.tup [.int (i : Nat), x]) :=
      ⟨by show 2 ≤ sizeLine; decide, [.int i tk, u], .cons ⟨_, rfl⟩ (.cons ru .nil), ⟨_, hT2, rfl, _, rfl⟩⟩
    have I1 : Inv X pins σ (upd H s.heap.objs.size (.tup [.int (i : Nat), x])) { s with heap := h'', toks := tk + 1 } :=
      I.turnedNew (ch := [e, it]) (fun b ob hb q => (sb.2 b (fun z => hb (by simp [z]))).trans (hk b ob (fun z => hb (by simp [z])) (fun z => hb (by simp [z])) q)) hf (Nat.le_refl _) new
    refine ⟨.ref s.heap.objs.size, _, I1, rfl, ⟨_, x, rfl, I.hok.fresh (Nat.le_refl _), rfl, fun ys hy => by rw [Sk.inj I hy hq]; exact hx⟩, ⟨⟨u, ?_⟩, Sk.at_keep (hat _ _ hit') fun o q => (sb.2 it (Ne.symm hne)).trans q⟩, fun b hb => ?_⟩
    · have e1 : ((i + 1 : Nat) : Int) = (i : Int) + 1 := by omega
      rw [e1]; exact he'
    · have hb' : b < s.heap.objs.size := by
        have e' : b = e ∨ b = it := by simpa using hb
        rcases e' with z | z
        · rw [z]; exact hel
        · rw [z]; exact hil
      rw [upd_ne (Nat.ne_of_lt hb')]
      exact (hf b hb).1
  done := by
    intro X hP hw hK hc i pins s σ H E I hf st hg
    subst hP hw hK
    obtain ⟨⟨old, he⟩, hit⟩ := st
    obtain ⟨xs, hq, hx⟩ := hg
    obtain ⟨n, P, St, D, hn, hst, hat, hP⟩ := Sk.draws (I.ok.hd hc) I hq hia i hit
    obtain ⟨f0, f1, f2, f3, f4, f5⟩ := hf it (by simp)
    have e : i = n := by rw [hn, hx]
    subst e
    exact wpAny_pyNext_enum_endD D he hst fun h' eb => ⟨rfl, I.turned (t' := s.toks) (fun b o hb q => eb b o hb q) f0 f1 f3 f4 f5⟩
  self := fun A i s Q E st h => let ⟨⟨_, he⟩, _⟩ := st; wpAny_pyIter_enum he h

theorem meets_enumerate_newB {v : Value} {o : Obj} {Hh : Heap → Prop} (B : Begins v o Hh) :
    Meets (Builtin.«enumerate.__new__» ⟨[.type "enumerate", v], []⟩) (fun _ R s => Hh s.heap ∧
      R (.ok (.ret (.ref (s.heap.push o).objs.size)))
        { s with heap := (s.heap.push o).push { cls := .type "enumerate", data := .fields #[.none, .bool false, .ref s.heap.objs.size, rawInt 0, .none, .none] } }) :=
  .of_wp fun prog w A R s h => by
    obtain ⟨hp, g, d, tk, os⟩ := s; obtain ⟨hl, h⟩ := h
    have hsub := sub_enumerate
    have q1 : ∀ {A' : Around} {E : Value → Shared → Prop} {Q : Value → Shared → Prop}, Q (.ref hp.objs.size) ⟨(hp.push o), g, d, tk, os⟩ → wpAny (model prog w) A' (pyIter v) Q E ⟨hp, g, d, tk, os⟩ :=
      fun q => B.iter prog w _ _ ⟨hp, g, d, tk, os⟩ _ (B.keeps _ _ hl fun b o' e => e) q
    wp_walk
    refine wpAny_stack_any fun st => wpAny_pure ?_
    split
    · rename_i c _ _ _ _ _
      cases (c == Value.type "enumerate")
      · wp_walk using q1
        exact ⟨_, rfl, h⟩
      · wp_walk using q1
        exact ⟨_, rfl, h⟩
    · wp_walk using q1
      exact ⟨_, rfl, h⟩
theorem enum_begins {prog : Program} {w : World} {A : Around} {E : Value → Shared → Prop} {s : Shared} {v : Value} {o : Obj} {Hh : Heap → Prop} {Q : Value → Shared → Prop} (B : Begins v o Hh) (h1 : Hh s.heap)
    (h : ∀ h', IsEnum h' (s.heap.objs.size + 1) s.heap.objs.size 0 .none → h'.get? s.heap.objs.size = some o → h'.objs.size = s.heap.objs.size + 2 →
      (∀ b o, s.heap.get? b = some o → h'.get? b = some o) → Q (.ref (s.heap.objs.size + 1)) { s with heap := h' }) :
    wpAny (model prog w) A (call (.type "enumerate") [v]) Q E s := by
  refine callType_new F.called_enumerate (by decide) (F.typeCall_enumerate_1 _) (F.newCall_enumerate_1 _) (fun obj => F.args_object_init_2 obj _) F.entry_enumerate_new
    (meets_enumerate_newB B) ⟨h1, ?_⟩
  have hz : (s.heap.push o).objs.size = s.heap.objs.size + 1 := Heap.size_push ..
  show _ ∧ _
  rw [hz]
  have he : IsEnum ((s.heap.push o).push
      { cls := .type "enumerate", data := .fields #[.none, .bool false, .ref s.heap.objs.size, rawInt 0, .none, .none] }) (s.heap.objs.size + 1) s.heap.objs.size 0 .none := by
    have := Heap.get?_push_size (s.heap.push o)
      (o := { cls := .type "enumerate", data := .fields #[.none, .bool false, .ref s.heap.objs.size, rawInt 0, .none, .none] }) rfl
    rw [hz] at this; exact this
  refine ⟨⟨_, he, rfl⟩, h _ he (Heap.get?_push_of_some _ (Heap.get?_push_size _ B.free)) (by rw [Heap.size_push, hz]) fun b o x => Heap.get?_push_of_some _ (Heap.get?_push_of_some _ x)⟩

/-- the iterator's object of a source -/
def Sk.ob (k : Sk) (tk : Tok) : Obj := match k with
  | .l a => { cls := .type "list_iterator", data := .fields #[.ref a, .int 0 0] }
  | .t a => { cls := .type "tuple_iterator", data := .fields #[.ref a, .int 0 0] }
  | .s z => { cls := .type (strIterType z), data := .fields #[.str z tk, .int 0 0] }
theorem Sk.at_new {k : Sk} {tk : Tok} {h : Heap} {it : Addr} (e : h.get? it = some (k.ob tk)) : k.at' it 0 h := by
  cases k with
  | l a => exact ⟨_, e, rfl, rfl⟩
  | t a => exact ⟨_, e, rfl, rfl⟩
  | s z => exact ⟨tk, _, e, rfl, rfl⟩
theorem Sk.begins {X : Cx} {pins : List (Addr × Obj)} {σ : L2.St} {H : Hp} {s : Shared} {k : Sk} {xs : List V} {u : Value} (I : Inv X pins σ H s) (hq : k.seq X.K H xs) (r : RelV k.v u) :
    ∃ (tk : Tok) (Hh : Heap → Prop), Begins u (k.ob tk) Hh ∧ Hh s.heap ∧ ∀ a ∈ k.adr, a < s.heap.objs.size := by
  cases k with
  | l a =>
    cases r
    obtain ⟨its, rv, p, _⟩ := I.list hq
    exact ⟨0, _, begins_list a its.toArray, p.isList, fun b hb => by rw [List.mem_singleton.mp hb]; exact p.lt⟩
  | t a =>
    cases r
    obtain ⟨its, rv, p, _⟩ := I.tuple hq
    exact ⟨0, _, begins_tuple a its.toArray, (show s.heap.IsTuple a its.toArray from p), fun b hb => by rw [List.mem_singleton.mp hb]; exact p.lt⟩
  | s z =>
    obtain ⟨t, rfl⟩ := r
    exact ⟨t, _, begins_text z t, trivial, fun b hb => by cases hb⟩
def iEnumU (K : PySem.W.Frag) (ta : TA) : TI := fun σ H R => ta σ H fun vs H1 => ∃ k xs, vs = [Sk.v k] ∧ k.seq K H1 xs ∧ R (IteU K k) H1
theorem pi_enumU {X : Cx} {e : Expr} {ta : TA} {p pos tpos : Pos} {elts : List Expr} {kk : Nat} (hg : Gl X "enumerate") (hm : X.mg "enumerate" = none) (ha : PA X [e] ta) (hs : starEach [e] X.env = [(false, eval e X.env)] := by rfl) :
    PI X (.Tuple elts kk tpos) (.Call (.Name "enumerate" p) [e] [] pos) (iEnumU X.K ta) := by
  refine ⟨fun pins s σ H R I h => ?_⟩
  refine Call_ (ld_blt I hg hm boot_enumerate (PyProof.Rows.callWith_type1 (thn (ha.run pos pins s σ H _ I h) fun us s1 ⟨vs, H1, I1, r1, q1⟩ => ?_) hs rfl))
  obtain ⟨k, xs, ex, hq, q⟩ := q1
  subst ex
  cases r1 with
  | cons r rr =>
    cases rr
    obtain ⟨tk, Hh, B, hB, hlt⟩ := Sk.begins I1 hq r
    refine enum_begins B hB fun h' he hit hsz hk => wpAny_pyIter_enum he ?_
    have I2 : Inv X pins σ H1 { s1 with heap := h' } := I1.kept (t' := s1.toks) hk
    refine ⟨s1.heap.objs.size + 1, [s1.heap.objs.size + 1, s1.heap.objs.size], _, _, H1, rfl, I2, turn_enumU k (s1.heap.objs.size + 1) s1.heap.objs.size (Nat.succ_ne_self _) (fun z => ad_lt (hlt _ z)) (fun z => ad_lt (k := 0) (hlt _ z)), ⟨⟨.none, he⟩, Sk.at_new hit⟩, fun b hb => ?_, q⟩
    have e' : b = s1.heap.objs.size + 1 ∨ b = s1.heap.objs.size := by simpa using hb
    have hle : s1.heap.objs.size ≤ b := by
      rcases e' with z | z
      · rw [z]; exact Nat.le_add_right _ _
      · rw [z]; exact Nat.le_refl _
    exact I1.fpOk hle (I1.hok.fresh hle)

/-! ### zip -/
def ItzU (K : PySem.W.Frag) (a b : Sk) : It :=
  ⟨fun i H => ∃ (xs ys : List V) (x y : V), a.seq K H xs ∧ b.seq K H ys ∧ xs[i]? = some x ∧ ys[i]? = some y,
    fun i H v H' => ∃ T x y, v = .ref T ∧ H T = none ∧ H' = upd H T (.tup [x, y]) ∧ (∀ xs, a.seq K H xs → xs[i]? = some x) ∧ ∀ ys, b.seq K H ys → ys[i]? = some y,
    fun i H => ∃ xs ys : List V, a.seq K H xs ∧ b.seq K H ys ∧ min xs.length ys.length = i⟩
theorem turn_zipU {P : Program} {w : World} {K : PySem.W.Frag} {elts : List Expr} {kk : Nat} {tpos : Pos} {a b : Sk} {z TI TO i1 i2 : Addr} (S : ZipSep2 z TI TO i1 i2 (i1 :: a.adr) (i2 :: b.adr)) (n1 : i1 ∉ a.adr) (n2 : i2 ∉ b.adr) :
    Turn P w K (.Tuple elts kk tpos) (ItzU K a b) [z, TI, TO, i1, i2] z (fun i h => IsZip h z TI TO .none ∧ IsTupOf2 h TI (.ref i1) (.ref i2) ∧ (∃ x y, IsTupOf2 h TO x y) ∧ a.at' i1 i h ∧ b.at' i2 i h) where
  mem := by simp
  obj := fun i h st c hc => by
    obtain ⟨hz, hTI, ⟨x, y, hTO⟩, h1, h2⟩ := st
    have e' : c = z ∨ c = TI ∨ c = TO ∨ c = i1 ∨ c = i2 := by simpa using hc
    rcases e' with q | q | q | q | q
    · rw [q]; exact ⟨_, hz, fun v q => nomatch q⟩
    · rw [q]; exact ⟨_, hTI, fun v q => nomatch q⟩
    · rw [q]; exact ⟨_, hTO, fun v q => nomatch q⟩
    · rw [q]; exact Sk.at_obj h1
    · rw [q]; exact Sk.at_obj h2
  keep := fun i h h' st k => by
    obtain ⟨hz, hTI, ⟨x, y, hTO⟩, h1, h2⟩ := st
    exact ⟨k z (by simp) _ hz, k TI (by simp) _ hTI, ⟨x, y, k TO (by simp) _ hTO⟩, Sk.at_keep h1 fun o q => k i1 (by simp) o q, Sk.at_keep h2 fun o q => k i2 (by simp) o q⟩
  item := by
    intro X hP hw hK hc i pins s σ H E I hf st hg
    subst hP hw hK
    obtain ⟨hz, hTI, ⟨x0, y0, hTO⟩, h1, h2⟩ := st
    obtain ⟨xs, ys, x, y, hqx, hqy, hx, hy⟩ := hg
    obtain ⟨m1, P1, St1, D1, hn1, hst1, hat1, hP1⟩ := Sk.draws (I.ok.hd hc) I hqx n1 i h1
    obtain ⟨m2, P2, St2, D2, hn2, hst2, hat2, hP2⟩ := Sk.draws (I.ok.hd hc) I hqy n2 i h2
    have hzl : z < s.heap.objs.size := Heap.lt_size hz
    refine wpAny_pyNext_zipD2_item S D1 D2 hz hTI hTO hst1 hst2 (by rw [hn1]; exact (List.getElem?_eq_some_iff.mp hx).1) (by rw [hn2]; exact (List.getElem?_eq_some_iff.mp hy).1) fun u u2 h' tk p1 p2 z' TO' h1' h2' hT hsz hk => ?_
    obtain ⟨w1, hw1, ru⟩ := hP1 _ _ p1
    obtain ⟨w2, hw2, ru2⟩ := hP2 _ _ p2
    rw [hx] at hw1
    rw [hy] at hw2
    cases hw1
    cases hw2
    refine ⟨_, rfl, wpAny_letOwnedTupleGo_zip (s := { s with heap := h', toks := tk }) z' fun h'' z'' sb => ?_⟩
    have hT2 : h''.get? s.heap.objs.size = some { cls := .type "tuple", data := .seq #[u, u2] } := (sb.2 _ (Nat.ne_of_gt hzl)).trans hT
    have new : ObjOk X.prog X.w (upd H s.heap.objs.size (.tup [x, y])) h'' s.heap.objs.size (.tup [x, y]) :=
      ⟨by show 2 ≤ sizeLine; decide, [u, u2], .cons ru (.cons ru2 .nil), ⟨_, hT2, rfl, _, rfl⟩⟩
    have I1 : Inv X pins σ (upd H s.heap.objs.size (.tup [x, y])) { s with heap := h'', toks := tk } :=
      I.turnedNew (ch := [z, TI, TO, i1, i2]) (fun c o hb q => (sb.2 c (fun q' => hb (by simp [q']))).trans (hk c o (fun q' => hb (by simp [q'])) (fun q' => hb (by simp [q'])) (fun q' => hb (by simp [q'])) (fun q' => hb (by simp [q'])) q)) hf (Nat.le_refl _) new
    refine ⟨.ref s.heap.objs.size, _, I1, rfl, ⟨_, x, y, rfl, I.hok.fresh (Nat.le_refl _), rfl, fun l hl => by rw [Sk.inj I hl hqx]; exact hx, fun l hl => by rw [Sk.inj I hl hqy]; exact hy⟩, ⟨z'', ?_, ⟨u, u2, ?_⟩, ?_, ?_⟩, fun c hcm => ?_⟩
    · exact (sb.2 _ S.TIz).trans (hk _ _ S.TIz S.TITO S.TIi1 S.TIi2 hTI)
    · exact (sb.2 _ S.TOz).trans TO'
    · exact Sk.at_keep (hat1 _ _ h1') fun o q => (sb.2 _ (Ne.symm S.zi1)).trans q
    · exact Sk.at_keep (hat2 _ _ h2') fun o q => (sb.2 _ (Ne.symm S.zi2)).trans q
    · have hlt : c < s.heap.objs.size := by
        have e' : c = z ∨ c = TI ∨ c = TO ∨ c = i1 ∨ c = i2 := by simpa using hcm
        rcases e' with q | q | q | q | q
        · rw [q]; exact hzl
        · rw [q]; exact Heap.lt_size hTI
        · rw [q]; exact Heap.lt_size hTO
        · rw [q]; obtain ⟨_, e1, _⟩ := Sk.at_obj h1; exact Heap.lt_size e1
        · rw [q]; obtain ⟨_, e2, _⟩ := Sk.at_obj h2; exact Heap.lt_size e2
      rw [upd_ne (Nat.ne_of_lt hlt)]
      exact (hf c hcm).1
  done := by
    intro X hP hw hK hc i pins s σ H E I hf st hg
    subst hP hw hK
    obtain ⟨hz, hTI, ⟨x0, y0, hTO⟩, h1, h2⟩ := st
    obtain ⟨xs, ys, hqx, hqy, hend⟩ := hg
    obtain ⟨m1, P1, St1, D1, hn1, hst1, hat1, hP1⟩ := Sk.draws (I.ok.hd hc) I hqx n1 i h1
    obtain ⟨m2, P2, St2, D2, hn2, hst2, hat2, hP2⟩ := Sk.draws (I.ok.hd hc) I hqy n2 i h2
    exact wpAny_pyNext_zipD2_end S D1 D2 hz hTI hTO hst1 hst2 (by omega) (by omega) (by omega) fun h' tk hk => ⟨rfl, I.turnedL (ch := [z, TI, TO, i1, i2]) (fun c o hb q =>
      hk c o (fun q' => hb (by simp [q'])) (fun q' => hb (by simp [q'])) (fun q' => hb (by simp [q'])) (fun q' => hb (by simp [q'])) q) hf⟩
  self := fun A i s Q E st h => wpAny_pyIter_zip st.1 h
def iZipU (K : PySem.W.Frag) (ta : TA) : TI := fun σ H R => ta σ H fun vs H1 => ∃ a b xs ys, vs = [Sk.v a, Sk.v b] ∧ a.seq K H1 xs ∧ b.seq K H1 ys ∧ R (ItzU K a b) H1
theorem pi_zipU {X : Cx} {e e2 : Expr} {ta : TA} {p pos tpos : Pos} {elts : List Expr} {kk : Nat} (hg : Gl X "zip") (hm : X.mg "zip" = none) (ha : PA X [e, e2] ta)
    (hs : starEach [e, e2] X.env = (false, eval e X.env) :: starEach [e2] X.env := by rfl) (hpl : (backTo pos (starEach [e2] X.env)).any (·.1) = false := by rfl) :
    PI X (.Tuple elts kk tpos) (.Call (.Name "zip" p) [e, e2] [] pos) (iZipU X.K ta) := by
  refine ⟨fun pins s σ H R I h => ?_⟩
  refine Call_ (ld_blt I hg hm PyProof.Rows.boot_zip (PyProof.Rows.callWith_type1 (thn (ha.run pos pins s σ H _ I h) fun us s1 ⟨vs, H1, I1, r1, q1⟩ => ?_) hs hpl))
  obtain ⟨a, b, xs, ys, ex, hqx, hqy, q⟩ := q1
  subst ex
  cases r1 with
  | cons r rr =>
    cases rr with
    | cons r' rr =>
      cases rr
      obtain ⟨tk, Hh, B, hB, hlt⟩ := Sk.begins I1 hqx r
      obtain ⟨tk', Hh', B', hB', hlt'⟩ := Sk.begins I1 hqy r'
      refine zip_begins2 B B' hB hB' fun h' hz hTI hTO h1 h2 hsz hk => wpAny_pyIter_zip hz ?_
      have I2 : Inv X pins σ H1 { s1 with heap := h' } := I1.kept (t' := s1.toks) hk
      generalize hn : s1.heap.objs.size = n at hz hTI hTO h1 h2 hlt hlt' ⊢
      have ge : ∀ (k : Nat) (l : List Addr), (∀ c ∈ l, c < n) → n + k ∉ l := fun k l hl z => ad_lt (hl _ z)
      have gg : ∀ (k m : Nat) (l : List Addr), k ≠ m → (∀ c ∈ l, c < n) → n + k ∉ (n + m) :: l := fun k m l hm hl z => by
        rcases List.mem_cons.mp z with z | z
        · exact ad_ne hm z
        · exact ge k l hl z
      have S : ZipSep2 (n + 4) (n + 2) (n + 3) n (n + 1) (n :: a.adr) ((n + 1) :: b.adr) :=
        { TIz := ad_ne (by decide), TOz := ad_ne (by decide), TITO := ad_ne (by decide), TIi1 := ad_ne (m := 0) (by decide), mem1 := List.mem_cons_self, zf1 := gg 4 0 _ (by decide) hlt, Tf1 := gg 3 0 _ (by decide) hlt, TIi2 := ad_ne (by decide), mem2 := List.mem_cons_self, zf2 := gg 4 1 _ (by decide) hlt', Tf2 := gg 3 1 _ (by decide) hlt', sep1_2 := gg 0 1 _ (by decide) hlt', sep2_1 := gg 1 0 _ (by decide) hlt }
      refine ⟨n + 4, [n + 4, n + 2, n + 3, n, n + 1], _, _, H1, rfl, I2, turn_zipU S (ge 0 _ hlt) (ge 1 _ hlt'), ⟨hz, hTI, ⟨_, _, hTO⟩, Sk.at_new h1, Sk.at_new h2⟩, fun c hcm => ?_, q⟩
      have e' : c = n + 4 ∨ c = n + 2 ∨ c = n + 3 ∨ c = n ∨ c = n + 1 := by simpa using hcm
      have hle : s1.heap.objs.size ≤ c := by
        rw [hn]
        exact ad_le e'
      exact I1.fpOk hle (I1.hok.fresh hle)

/-! ### as data -/
def enumD : Nat → List D → List D
  | _, [] => []
  | i, d :: ds => .tuple [.int i, d] :: enumD (i + 1) ds
def zipD : List D → List D → List D
  | x :: xs, y :: ys => .tuple [x, y] :: zipD xs ys
  | _, _ => []
theorem enumD_get : ∀ (ds : List D) (n i : Nat) (d : D), (enumD n ds)[i]? = some d → ∃ c, ds[i]? = some c ∧ d = .tuple [.int ((n + i : Nat) : Int), c]
  | [], _, _, _, e => by simp [enumD] at e
  | c :: ds, n, 0, d, e => by
    simp [enumD] at e
    exact ⟨c, rfl, by simpa using e.symm⟩
  | c :: ds, n, i + 1, d, e => by
    obtain ⟨c', h1, h2⟩ := enumD_get ds (n + 1) i d (by simpa [enumD] using e)
    exact ⟨c', by simpa using h1, by rw [h2, show n + 1 + i = n + (i + 1) by omega]⟩
theorem enumD_len : ∀ (ds : List D) (n : Nat), (enumD n ds).length = ds.length
  | [], _ => rfl
  | _ :: ds, n => congrArg (· + 1) (enumD_len ds (n + 1))
theorem zipD_get : ∀ (xs ys : List D) (i : Nat) (d : D), (zipD xs ys)[i]? = some d → ∃ x y, xs[i]? = some x ∧ ys[i]? = some y ∧ d = .tuple [x, y]
  | [], _, _, _, e => by simp [zipD] at e
  | _ :: _, [], _, _, e => by simp [zipD] at e
  | x :: xs, y :: ys, 0, d, e => by
    simp [zipD] at e
    exact ⟨x, y, rfl, rfl, e.symm⟩
  | x :: xs, y :: ys, i + 1, d, e => by
    obtain ⟨a, b, h1, h2, h3⟩ := zipD_get xs ys i d (by simpa [zipD] using e)
    exact ⟨a, b, by simpa using h1, by simpa using h2, h3⟩
theorem zipD_len : ∀ (xs ys : List D), (zipD xs ys).length = min xs.length ys.length
  | [], _ => by simp [zipD]
  | _ :: _, [] => by simp [zipD]
  | _ :: xs, _ :: ys => by simp [zipD, zipD_len xs ys] <;> omega
section
variable {K : PySem.W.Frag}
/-- a value that is walked -/
theorem Rp.sk {F : Hp} {v : V} {d : D} {ds : List D} (h : Rp K F v d) (e : seqD d = some ds) : ∃ k xs, v = Sk.v k ∧ (∀ F' H', Same F F' → Same F' H' → k.seq K H' xs) ∧ RpAll K F xs ds := by
  cases d with
  | list l =>
    cases e
    cases h with
    | @lst a xs _ a1 a2 => exact ⟨.l a, xs, rfl, fun F' H' s s' => SqL.of (s' _ _ (s _ _ a1)), a2⟩
  | tuple l =>
    cases e
    cases h with
    | @tup a xs _ a1 a2 => exact ⟨.t a, xs, rfl, fun F' H' s s' => Same.sqt (s.trans s') a1, a2⟩
  | str z =>
    cases e
    cases h
    refine ⟨.s z, _, rfl, fun F' H' s s' => rfl, ?_⟩
    generalize z.cps.toList = cs
    induction cs with
    | nil => exact .nil
    | cons c cs ih => exact .cons (.str _) ih
  | _ => cases e
theorem itd_enum {F : Hp} {k : Sk} {xs : List V} {ds : List D} (h : ∀ F' H', Same F F' → Same F' H' → k.seq K H' xs) (r : RpAll K F xs ds) : ItD K F (IteU K k) (enumD 0 ds) := by
  refine ⟨fun F' H' i d s s' e => ?_, fun F' H' i s s' e => ?_⟩
  · obtain ⟨c, h1, h2⟩ := enumD_get ds 0 i d e
    subst h2
    rw [Nat.zero_add]
    obtain ⟨v, g1, g2⟩ := r.get h1
    refine ⟨⟨xs, v, h F' H' s s', g1⟩, fun x H2 ⟨Tt, w, e1, e2, e3, e4⟩ => ?_⟩
    subst e1 e3
    have e5 := e4 xs (h F' H' s s')
    rw [g1] at e5
    cases e5
    exact ⟨_, Ext.new s' e2, .tup (SqT.of upd_same) (.cons (.int _) (.cons (Rp.mono (s.trans (same_upd (s'.free e2))) _ _ g2) .nil))⟩
  · exact ⟨xs, h F' H' s s', by rw [r.length, ← enumD_len ds 0]; exact e⟩
theorem itd_zip {F : Hp} {k k' : Sk} {xs ys : List V} {ds es : List D} (h : ∀ F' H', Same F F' → Same F' H' → k.seq K H' xs) (h' : ∀ F' H', Same F F' → Same F' H' → k'.seq K H' ys) (r : RpAll K F xs ds) (r' : RpAll K F ys es) : ItD K F (ItzU K k k') (zipD ds es) := by
  refine ⟨fun F' H' i d s s' e => ?_, fun F' H' i s s' e => ?_⟩
  · obtain ⟨c, c', h1, h1', h2⟩ := zipD_get ds es i d e
    subst h2
    obtain ⟨v, g1, g2⟩ := r.get h1
    obtain ⟨v', g1', g2'⟩ := r'.get h1'
    refine ⟨⟨xs, ys, v, v', h F' H' s s', h' F' H' s s', g1, g1'⟩, fun x H2 ⟨Tt, w, w', e1, e2, e3, e4, e4'⟩ => ?_⟩
    subst e1 e3
    have e5 := e4 xs (h F' H' s s')
    have e6 := e4' ys (h' F' H' s s')
    rw [g1] at e5
    rw [g1'] at e6
    cases e5
    cases e6
    have sm := s.trans (same_upd (o := .tup [v, v']) (s'.free e2))
    exact ⟨_, Ext.new s' e2, .tup (SqT.of upd_same) (.cons (Rp.mono sm _ _ g2) (.cons (Rp.mono sm _ _ g2') .nil))⟩
  · exact ⟨xs, ys, h F' H' s s', h' F' H' s s', by rw [r.length, r'.length, ← zipD_len ds es]; exact e⟩
end
def iEnumF (f : FE) : FA := fun env => (f env).bind fun d => Rs.ofO ((seqD d).map (enumD 0))
def iZipF (f f' : FE) : FA := fun env => (f env).bind fun d => (f' env).bind fun e => Rs.ofO ((seqD d).bind fun xs => (seqD e).map (zipD xs))
section
variable {X : Cx} {C : Ct} {f f' : FE} {e e2 : Expr} {p pos tpos : Pos} {elts : List Expr} {kk : Nat}
theorem vi_enum (h : VE X C e f) (hg : Gl X "enumerate") (hm : X.mg "enumerate" = none) (hs : starEach [e] X.env = [(false, eval e X.env)] := by rfl) : VI X C (.Tuple elts kk tpos) (.Call (.Name "enumerate" p) [e] [] pos) (iEnumF f) :=
  PI.of (pi_enumU hg hm (pa_cons h pa_nil hs) hs) fun σ H R ⟨F, env, re, q⟩ => ⟨F, env, re, Sat.bind RI.mono q fun d v F1 H1 x1 r1 q1 => by
    obtain ⟨c, hc, q2⟩ := Sat.ofO q1
    cases hd : seqD d with
    | none => rw [hd] at hc; cases hc
    | some ds =>
      rw [hd] at hc
      cases hc
      obtain ⟨k, xs, rfl, h1, h2⟩ := r1.sk hd
      have s1 := (re.go x1).same
      exact ⟨k, xs, rfl, h1 F1 H1 (Same.refl _) s1, q2 _ H1 F1 (Ext.refl s1) (itd_enum h1 h2)⟩⟩
theorem vi_zip (h : VE X C e f) (h' : VE X C e2 f') (hg : Gl X "zip") (hm : X.mg "zip" = none) (hs : starEach [e, e2] X.env = (false, eval e X.env) :: starEach [e2] X.env := by rfl) (hs2 : starEach [e2] X.env = (false, eval e2 X.env) :: starEach [] X.env := by rfl)
    (hpl : (backTo pos (starEach [e2] X.env)).any (·.1) = false := by rfl) : VI X C (.Tuple elts kk tpos) (.Call (.Name "zip" p) [e, e2] [] pos) (iZipF f f') :=
  PI.of (pi_zipU hg hm (pa_cons h (pa_cons h' pa_nil hs2) hs) hs hpl) fun σ H R ⟨F, env, re, q⟩ => ⟨F, env, re, Sat.bind RI.mono q fun d v F1 H1 x1 r1 q1 => ⟨F1, env, re.go x1, Sat.bind RI.mono q1 fun d' v' F2 H2 x2 r2 q2 => by
    obtain ⟨c, hc, q3⟩ := Sat.ofO q2
    cases hd : seqD d with
    | none => rw [hd] at hc; cases hc
    | some ds =>
      rw [hd] at hc
      cases hd' : seqD d' with
      | none => rw [hd'] at hc; cases hc
      | some es =>
        rw [hd'] at hc
        cases hc
        obtain ⟨k, xs, rfl, h1, h2⟩ := (Rp.mono x2.f _ _ r1).sk hd
        obtain ⟨k', ys, rfl, h1', h2'⟩ := r2.sk hd'
        have s2 := ((re.go x1).go x2).same
        exact ⟨k, k', xs, ys, rfl, h1 F2 H2 (Same.refl _) s2, h1' F2 H2 (Same.refl _) s2, q3 _ H2 F2 (Ext.refl s2) (itd_zip h1 h1' h2 h2')⟩⟩⟩
end
end PD

/-! Part 8: comprehensions of two clauses, name = [..], parallel assignment -/
namespace PD
open PySem PySem.Spec PyProof.Rows L2

/-! ### the heap without one cell -/
def del (H : Hp) (D : Addr) : Hp := fun a => if a = D then none else H a
section
variable {K : PySem.W.Frag} {C : Ct} {F H F' H' : Hp} {D : Addr} {σ : L2.St} {env : List Sl}
theorem del_ne {a : Addr} (h : a ≠ D) : del H D a = H a := if_neg h
theorem del_self : del H D D = none := if_pos rfl
theorem del_sub : Same (del H D) H := fun a o e => by
  by_cases q : a = D
  · rw [q, del_self] at e; cases e
  · rw [del_ne q] at e; exact e
theorem del_upd {o : HO} : del (upd H D o) D = del H D := by
  funext a
  by_cases q : a = D
  · rw [q, del_self, del_self]
  · rw [del_ne q, del_ne q, upd_ne q]
theorem del_none (h : H D = none) : del H D = H := by
  funext a
  by_cases q : a = D
  · rw [q, del_self, h]
  · exact del_ne q
theorem same_del (s : Same F H) (h : F D = none) : Same F (del H D) := fun a o e => by
  rw [del_ne (ne_of_none e h)]; exact s _ _ e
theorem Ext.del {o : HO} (e : Ext F H F' H') (hF : F D = none) (hH : H D = some o) : F' D = none ∧ H' D = some o ∧ Ext F (del H D) F' (del H' D) := by
  have h1 : F' D = none := by
    cases q : F' D with
    | none => rfl
    | some u =>
      rcases e.n _ _ q with z | z
      · rw [hF] at z; cases z
      · rw [hH] at z; cases z
  refine ⟨h1, e.h _ _ hH, e.f, fun a u z => ?_, same_del e.s h1, fun a u z => ?_⟩
  · by_cases q : a = D
    · rw [q, del_self] at z; cases z
    · rw [del_ne q] at z ⊢; exact e.h _ _ z
  · by_cases q : a = D
    · exact .inr (by rw [q, del_self])
    · rw [del_ne q]; exact e.n _ _ z
theorem Ext.undel (e : Ext F H F' (PD.del H' D)) : Ext F H F' H' := ⟨e.f, e.h.trans del_sub, e.s.trans del_sub, e.n⟩
theorem REnv.undel (r : REnv K C F σ (del H D) env) : REnv K C F σ H env := by
  refine ⟨r.ext.undel, r.len, fun i s h => ?_, r.apart⟩
  have z := r.get i s h
  cases s with
  | own l => obtain ⟨a, xs, h1, h2, h3⟩ := z; exact ⟨a, xs, h1, del_sub _ _ h2, h3⟩
  | un => trivial
  | sh d => exact z
  | scr ns => exact z
end

theorem Same.sql {K : PySem.W.Frag} {H H' : Hp} {a : Addr} {xs : List V} (e : Same H H') (h : SqL K H a xs) : SqL K H' a xs := by
  rcases h with (h | ⟨o, h⟩) | h
  · exact .inl (.inl (e _ _ h))
  · exact .inl (.inr ⟨o, e _ _ h⟩)
  · exact .inr h
theorem Tgt.g_up {K : PySem.W.Frag} {t : Tgt} {v : V} {σ : L2.St} {H H' : Hp} {Q Q' : L2.St → Hp → Prop} (s : Same H H') (h : t.g K v σ H Q) (hq : ∀ σ', Q σ' H → Q' σ' H') : t.g K v σ H' Q' := by
  cases t with
  | nm i => exact hq _ h
  | tp is => obtain ⟨a, xs, e1, e2, e3, e4⟩ := h; exact ⟨a, xs, e1, e2.imp (Same.sqt s) (Same.sql s), e3, hq _ e4⟩
  | np i is => obtain ⟨a, x, b, xs, e1, e2, e3, e4, e5⟩ := h; exact ⟨a, x, b, xs, e1, Same.sqt s e2, Same.sqt s e3, e4, hq _ e5⟩
theorem Tgt.goD {K : PySem.W.Frag} {C : Ct} {F H : Hp} {Dd : Addr} {σ : L2.St} {env : List Sl} {t : Tgt} {d : D} {v : V} {e : List Sl} {Q : L2.St → Hp → Prop} (re : REnv K C F σ (del H Dd) env) (r : Rp K F v d) (h : t.put d env = some e)
    (q : ∀ vs : List V, REnv K C F (setV t.slots vs σ) (del H Dd) e → Q (setV t.slots vs σ) H) : t.g K v σ H Q := by
  refine Tgt.g_up (H := del H Dd) (Q := fun σ' H' => H' = del H Dd ∧ Q σ' H) del_sub ?_ fun σ' z => z.2
  exact Tgt.go re r h fun vs re' => ⟨rfl, q vs re'⟩

/-! ### two clauses -/
def two (gi1 : FA) (t1 : Tgt) (tt1 : FB) (f : FE) (vs1 : List Nat) : List Sl → Rs (List D) := fun e => (gi1 e).bind fun ds1 => lcGo t1 tt1 (one f) (wipeE e vs1) ds1
def fLc2 (gi : FA) (t : Tgt) (tt : FB) (gi1 : FA) (t1 : Tgt) (tt1 : FB) (f : FE) (vs vs1 : List Nat) : FE := fun env => (gi env).bind fun ds => (lcGo t tt (two gi1 t1 tt1 f vs1) (wipeE env vs) ds).quiet.bind fun out => if out.length ≤ LINE then .ok (.list out) else .no
theorem wipe_wipe (vs : List Nat) (σ : L2.St) : L2.wipe (L2.wipe σ vs) vs = L2.wipe σ vs := by
  refine List.ext_getElem? fun j => ?_
  by_cases hj : j ∈ vs
  · have w : ∀ (σ : L2.St) (us : List Nat), j ∈ us → (L2.wipe σ us)[j]? = if j < σ.length then some none else none := by
      intro σ us
      induction us with
      | nil => intro h; cases h
      | cons u us ih =>
        intro h
        show ((L2.wipe σ us).set u none)[j]? = _
        by_cases q : u = j
        · subst q
          by_cases hlen : u < σ.length
          · rw [List.getElem?_set_self (by rw [L2.wipe_length]; exact hlen), if_pos hlen]
          · rw [List.getElem?_eq_none (by rw [List.length_set, L2.wipe_length]; omega), if_neg hlen]
        · rw [List.getElem?_set_ne q]
          exact ih (by
            rcases List.mem_cons.mp h with e | e
            · exact absurd e.symm q
            · exact e)
    rw [w _ vs hj, w _ vs hj, L2.wipe_length]
  · rw [wipe_out hj, wipe_out hj]
/-- the list that a comprehension fills: what it holds, what is to come -/
structure Acc (K : PySem.W.Frag) (Dd : Addr) (out : List D) (F H : Hp) (rest : List D) : Prop where
  ex : ∃ acc xs, H Dd = some (.lst xs) ∧ F Dd = none ∧ RpAll K F xs acc ∧ acc ++ rest = out
section
variable {K : PySem.W.Frag} {mg : Str → Option Value} {C : Ct} {F H F' H' : Hp} {Dd : Addr} {out rest : List D}
theorem Acc.F0 (a : Acc K Dd out F H rest) : F Dd = none := let ⟨_, _, _, h, _⟩ := a.ex; h
theorem Acc.go (a : Acc K Dd out F H rest) (e : Ext F H F' H') : Acc K Dd out F' H' rest ∧ Ext F (del H Dd) F' (del H' Dd) := by
  obtain ⟨acc, xs, h1, h2, h3, h4⟩ := a.ex
  obtain ⟨g1, g2, g3⟩ := e.del h2 h1
  exact ⟨⟨acc, xs, g2, g1, RpAll.mono e.f _ _ h3, h4⟩, g3⟩
theorem Acc.push {y : D} {yv : V} (a : Acc K Dd out F H (y :: rest)) (r : Rp K F yv y) (hl : out.length ≤ LINE) : ∃ acc, H Dd = some (.lst acc) ∧ acc.length < sizeLine ∧ Acc K Dd out F (upd H Dd (.lst (acc ++ [yv]))) rest := by
  obtain ⟨acc, xs, h1, h2, h3, h4⟩ := a.ex
  refine ⟨xs, h1, ?_, acc ++ [y], xs ++ [yv], upd_same, h2, h3.append (.cons r .nil), by rw [List.append_assoc]; exact h4⟩
  have z := congrArg List.length h4
  rw [List.length_append, List.length_cons] at z
  rw [h3.length, line_eq]
  omega
theorem t_lc2 {gi gi1 : FA} {t t1 : Tgt} {tt tt1 : FB} {f : FE} {vs vs1 : List Nat} (hv : ∀ i ∈ t.slots, i ∈ vs) (hv1 : ∀ i ∈ t1.slots, i ∈ vs1) {σ : L2.St} {Q : VK} :
    TN K mg C (fLc2 gi t tt gi1 t1 tt1 f vs vs1) σ H Q → tLc2 (TIt K mg C gi) (t.g K) (TB K mg C.nox tt) (TIt K mg C.nox gi1) (t1.g K) (TB K mg C.nox tt1) (T K mg C.nox f) vs vs1 σ H Q := fun ⟨F, env, re, q⟩ =>
  ⟨F, env, re, Sat.bind (R := RI K) RN.mono q fun ds J F1 H1 x1 r1 q1 Dd hD => by
    have re1 := re.go x1
    cases hout : lcGo t tt (two gi1 t1 tt1 f vs1) (wipeE env vs) ds with
    | er c n => rw [hout] at q1; exact q1.elim
    | no => rw [hout] at q1; exact q1.elim
    | ok out =>
      rw [hout] at q1
      have q1 : Sat mg C (RN K) (if out.length ≤ LINE then .ok (.list out) else .no) σ F1 H1 Q := q1
      by_cases hl : out.length ≤ LINE
      · rw [if_pos hl] at q1
        have fD : F1 Dd = none := re1.same.free hD
        have cD : C.H Dd = none := re1.ext.h.free hD
        refine ⟨fun i m H => m + i = ds.length ∧ ∃ F r, Ext F1 H1 F (del H Dd) ∧ lcGo t tt (two gi1 t1 tt1 f vs1) (wipeE env vs) (ds.drop i) = .ok r ∧ Acc K Dd out F H r,
          ⟨ds.length, by omega, F1, out, by rw [del_upd, del_none hD]; exact Ext.refl re1.same, hout, ⟨[], [], upd_same, fD, .nil, rfl⟩⟩, ?_⟩
        rintro i m H2 ⟨hm, F2, r, x2, hr, ra⟩
        have re2 := (re1.go x2).undel
        by_cases hlt : i < ds.length
        · have hd : ds[i]? = some ds[i] := List.getElem?_eq_getElem hlt
          obtain ⟨g1, g2⟩ := r1.go F2 H2 i ds[i] x2.f re2.same hd
          refine .inr ⟨g1, fun H' => ∃ F r, Ext F1 H1 F (del H' Dd) ∧ lcGo t tt (two gi1 t1 tt1 f vs1) (wipeE env vs) (ds.drop (i + 1)) = .ok r ∧ Acc K Dd out F H' r, fun H' n => ⟨m - 1, by omega, by omega, n⟩, fun x H3 y => ?_⟩
          obtain ⟨F3, x3, r3⟩ := g2 x H3 y
          obtain ⟨ra3, x3d⟩ := ra.go x3
          have re3d := ((re1.go x2).go x3d).wipe vs
          rw [List.drop_eq_getElem_cons hlt] at hr
          cases hp : t.put ds[i] (wipeE env vs) with
          | none => unfold lcGo at hr; rw [hp] at hr; cases hr
          | some e =>
            obtain ⟨b, hb, hr⟩ := lcGo_cons_yes hp hr
            refine Tgt.goD re3d r3 hp fun ws re4d => ⟨(wipe_setV vs _ _ _ hv).trans (wipe_wipe vs σ), F3, e, re4d.nox.undel, ?_⟩
            rw [hb]
            refine fun b' H4 F4 x4 eb => ?_
            have eb : b' = b := eb
            subst eb
            dsimp only
            obtain ⟨ra4, x4d⟩ := ra3.go x4
            have re5d := re4d.nox.go x4d
            have x24 := (x2.trans x3d).trans x4d
            cases b' with
            | false =>
              rw [if_neg Bool.false_ne_true] at hr ⊢
              exact ⟨F4, r, x24, hr, ra4⟩
            | true =>
              rw [if_pos rfl] at hr ⊢
              obtain ⟨ys, r', hk, hr', eo⟩ := hr
              subst eo
              unfold two at hk
              cases hg1 : gi1 e with
              | er c n => rw [hg1] at hk; cases hk
              | no => rw [hg1] at hk; cases hk
              | ok ds1 =>
                rw [hg1] at hk
                have hk : lcGo t1 tt1 (one f) (wipeE e vs1) ds1 = .ok ys := hk
                refine ⟨F4, e, re5d.undel, ?_⟩
                rw [hg1]
                refine fun J1 H5 F5 x5 r5 => ?_
                obtain ⟨ra5, x5d⟩ := ra4.go x5
                have re6d := re5d.go x5d
                have x25 := x24.trans x5d
                refine ⟨fun j k H => k + j = ds1.length ∧ ∃ F r, Ext F5 (del H5 Dd) F (del H Dd) ∧ lcGo t1 tt1 (one f) (wipeE e vs1) (ds1.drop j) = .ok r ∧ Acc K Dd out F H (r ++ r'),
                  ⟨ds1.length, by omega, F5, ys, Ext.refl (same_del (re6d.undel).same ra5.F0), hk, ra5⟩, ?_⟩
                rintro j k H6 ⟨hk2, F6, rr, x6, hrr, ra6⟩
                have re7 := (re6d.go x6).undel
                by_cases hlt1 : j < ds1.length
                · have hd1 : ds1[j]? = some ds1[j] := List.getElem?_eq_getElem hlt1
                  obtain ⟨g3, g4⟩ := r5.go F6 H6 j ds1[j] x6.f re7.same hd1
                  refine .inr ⟨g3, fun H' => ∃ F r, Ext F5 (del H5 Dd) F (del H' Dd) ∧ lcGo t1 tt1 (one f) (wipeE e vs1) (ds1.drop (j + 1)) = .ok r ∧ Acc K Dd out F H' (r ++ r'), fun H' n => ⟨k - 1, by omega, by omega, n⟩, fun x H7 y => ?_⟩
                  obtain ⟨F7, x7, r7⟩ := g4 x H7 y
                  obtain ⟨ra7, x7d⟩ := ra6.go x7
                  have re8d := ((re6d.go x6).go x7d).wipe vs1
                  rw [List.drop_eq_getElem_cons hlt1] at hrr
                  cases hp1 : t1.put ds1[j] (wipeE e vs1) with
                  | none => unfold lcGo at hrr; rw [hp1] at hrr; cases hrr
                  | some e1 =>
                    obtain ⟨b1, hb1, hrr⟩ := lcGo_cons_yes hp1 hrr
                    refine Tgt.goD re8d r7 hp1 fun ws1 re9d => ⟨(wipe_setV vs1 _ _ _ hv1).trans (wipe_wipe vs1 _), F7, e1, re9d.nox.undel, ?_⟩
                    rw [hb1]
                    refine fun b2 H8 F8 x8 eb => ?_
                    have eb : b2 = b1 := eb
                    subst eb
                    dsimp only
                    obtain ⟨ra8, x8d⟩ := ra7.go x8
                    have re10d := re9d.nox.go x8d
                    have x68 := (x6.trans x7d).trans x8d
                    cases b2 with
                    | false =>
                      rw [if_neg Bool.false_ne_true] at hrr ⊢
                      exact ⟨F8, rr, x68, hrr, ra8⟩
                    | true =>
                      rw [if_pos rfl] at hrr ⊢
                      obtain ⟨ys1, rr', hk1, hrr', eo1⟩ := hrr
                      subst eo1
                      unfold one at hk1
                      cases hf : f e1 with
                      | ok yd =>
                        rw [hf] at hk1
                        have hk1 : Rs.ok [yd] = .ok ys1 := hk1
                        cases hk1
                        refine ⟨F8, e1, re10d.undel, ?_⟩
                        rw [hf]
                        refine fun yv H9 F9 x9 ry => ?_
                        obtain ⟨ra9, x9d⟩ := ra8.go x9
                        obtain ⟨ac, c1, c2, c3⟩ := Acc.push (rest := rr' ++ r') ra9 ry hl
                        exact ⟨ac, c1, c2, F9, rr', by rw [del_upd]; exact x68.trans x9d, hrr', c3⟩
                      | er c n => rw [hf] at hk1; cases hk1
                      | no => rw [hf] at hk1; cases hk1
                · have e0 : ds1.drop j = [] := List.drop_eq_nil_of_le (by omega)
                  rw [e0] at hrr
                  cases hrr
                  exact .inl ⟨r5.stop F6 H6 j x6.f re7.same (by omega), F6, r', x25.trans x6, hr', ra6⟩
        · have e : ds.drop i = [] := List.drop_eq_nil_of_le (by omega)
          rw [e] at hr
          cases hr
          obtain ⟨acc, xs, c1, c2, c3, c4⟩ := ra.ex
          rw [List.append_nil] at c4
          subst c4
          exact .inl ⟨r1.stop F2 H2 i x2.f re2.same (by omega), q1 _ H2 F2 x2.undel ⟨Dd, xs, acc, rfl, rfl, c1, c2, hD, c3⟩⟩
      · rw [if_neg hl] at q1; exact q1.elim⟩
end

section
variable {X : Cx} {C : Ct}
theorem vn_lc2 {elt tg iter tg1 iter1 : Expr} {ifs ifs1 : List Expr} {scope : Scope} {own : List (Str × Nat)} {pos : Pos} {gi gi1 : FA} {t t1 : Tgt} {tt tt1 : FB} {f : FE} (am : Am X) (hi : VI X C tg iter gi) (ok : BlkOk X.N X.env.scope scope own)
    (hg : ∀ (s : Shared) (H : Hp) (Cc : Addr) (cl : List (Str × Addr)) (fp : List Addr), PG (X.blk s H scope (compEnvC scope cl Cc X.env) fp) tg (t.g X.K)) (ht : ∀ (s : Shared) (H : Hp) (Cc : Addr) (cl : List (Str × Addr)) (fp : List Addr), VT (X.blk s H scope (compEnvC scope cl Cc X.env) fp) C.nox ifs tt)
    (hi1 : ∀ (s : Shared) (H : Hp) (Cc : Addr) (cl : List (Str × Addr)) (fp : List Addr), VI (X.blk s H scope (compEnvC scope cl Cc X.env) fp) C.nox tg1 iter1 gi1)
    (hg1 : ∀ (s : Shared) (H : Hp) (Cc : Addr) (cl : List (Str × Addr)) (fp : List Addr), PG (X.blk s H scope (compEnvC scope cl Cc X.env) fp) tg1 (t1.g X.K)) (ht1 : ∀ (s : Shared) (H : Hp) (Cc : Addr) (cl : List (Str × Addr)) (fp : List Addr), VT (X.blk s H scope (compEnvC scope cl Cc X.env) fp) C.nox ifs1 tt1)
    (he : ∀ (s : Shared) (H : Hp) (Cc : Addr) (cl : List (Str × Addr)) (fp : List Addr), VE (X.blk s H scope (compEnvC scope cl Cc X.env) fp) C.nox elt f) (hv : ∀ i ∈ t.slots, i ∈ own.map (·.2)) (hv1 : ∀ i ∈ t1.slots, i ∈ own.map (·.2)) (hs : ∀ x, foldedSetIterable iter X.env x = pure x := by intro _; rfl) (hs1 : ∀ env x, foldedSetIterable iter1 env x = pure x := by intro _ _; rfl) :
    VN X C (.ListComp elt [⟨tg, iter, ifs, 0⟩, ⟨tg1, iter1, ifs1, 0⟩] scope pos) (fLc2 gi t tt gi1 t1 tt1 f (own.map (·.2)) t1.slots) := PE.of (pe_lc2 am.c am.n hi ok hv1 hg ht hi1 hg1 ht1 he hs hs1) fun σ H Q h => t_lc2 hv (fun _ h => h) h

/-! ### name = [..] -/
/-- a new list to a name: shared -/
def sSetF (i : Nat) (f : FE) : FS := fun env => bindO (f env) fun d => match d with
  | .list l => .nx (env.set i (.sh (.list l)))
  | _ => .no
theorem t_setF {K : PySem.W.Frag} {mg : Str → Option Value} {f : FE} {i : Nat} {D : Ends} {σ : L2.St} {H : Hp} : TSt K mg C (sSetF i f) D σ H → TN K mg C f σ H (fun x H1 => gName i x σ H1 D.nx) := fun ⟨F, env, re, q⟩ =>
  ⟨F, env, re, SatS.bind (R := RN K) re q fun d v F1 H1 x1 ⟨p, xs, l, e1, e2, e3, e4, e5, e6⟩ q1 => by
    subst e1 e2
    have re1 := re.go x1
    have x2 : Ext F H (upd F1 p (.lst xs)) H1 := by
      refine ⟨x1.f.trans (same_upd e4), x1.h, fun b o z => ?_, fun b o z => ?_⟩
      · by_cases w : b = p
        · subst w; rw [upd_same] at z; rw [← z]; exact e3
        · rw [upd_ne w] at z; exact x1.s _ _ z
      · by_cases w : b = p
        · subst w; exact .inr e5
        · rw [upd_ne w] at z; exact x1.n _ _ z
    exact q1 _ H1 _ (same_upd e4) ((re.go x2).setSh (.lst (a := p) (xs := xs) upd_same (RpAll.mono (same_upd e4) _ _ e6)))⟩
theorem vs_setF (i : Nat) {x : Str} {e : Expr} {f : FE} {pos pos' : Pos} (h : VN X C e f) (hN : X.N.Nodup) (hi : X.N[i]? = some x := by rfl) (hx : Loc X.env.scope x := by first | exact Or.inl rfl | exact Or.inr rfl) (hs : swapsWith e (some (.Name x pos')) pos.line X.env = pure false := by rfl) (hf : X.fn x = true ∨ X.env.scope.names.lookup x = some .local := by first | exact .inl rfl | exact .inr rfl | assumption) :
    VS X C (.Assign [.Name x pos'] e pos) (sSetF i f) := PS.of (ps_set hN hi hx h hs hf) fun D σ H h => t_setF h
section
variable {y : Str} {py : Pos} {elt tg iter tg1 iter1 : Expr} {ifs ifs1 : List Expr} {scope : Scope} {own : List (Str × Nat)} {pos spos : Pos} {gi gi1 : FA} {t t1 : Tgt} {tt tt1 : FB} {f : FE}
theorem vs_lcN (i : Nat) (am : Am X) (hi : VI X C tg iter gi) (ok : BlkOk X.N X.env.scope scope own)
    (hg : ∀ (s : Shared) (H : Hp) (Cc : Addr) (cl : List (Str × Addr)) (fp : List Addr), PG (X.blk s H scope (compEnvC scope cl Cc X.env) fp) tg (t.g X.K)) (ht : ∀ (s : Shared) (H : Hp) (Cc : Addr) (cl : List (Str × Addr)) (fp : List Addr), VT (X.blk s H scope (compEnvC scope cl Cc X.env) fp) C.nox ifs tt)
    (he : ∀ (s : Shared) (H : Hp) (Cc : Addr) (cl : List (Str × Addr)) (fp : List Addr), VE (X.blk s H scope (compEnvC scope cl Cc X.env) fp) C.nox elt f) (hv : ∀ i ∈ t.slots, i ∈ own.map (·.2))
    (hy : X.N[i]? = some y := by rfl) (hyl : X.env.scope.names.lookup y = some .local := by rfl) (hsw : swapsWith (.ListComp elt [⟨tg, iter, ifs, 0⟩] scope pos) (some (.Name y py)) spos.line X.env = pure true := by rfl) (hs : ∀ x, foldedSetIterable iter X.env x = pure x := by intro _; rfl) :
    VS X C (.Assign [.Name y py] (.ListComp elt [⟨tg, iter, ifs, 0⟩] scope pos) spos) (sSetN i (fLc gi t tt f (own.map (·.2)))) := PS.of (ps_setLc am.c am.n hy hyl hsw hi ok hg ht he hs) fun D σ H h => t_lc hv (t_setN h)
theorem vs_lcF (i : Nat) (am : Am X) (hi : VI X C tg iter gi) (ok : BlkOk X.N X.env.scope scope own)
    (hg : ∀ (s : Shared) (H : Hp) (Cc : Addr) (cl : List (Str × Addr)) (fp : List Addr), PG (X.blk s H scope (compEnvC scope cl Cc X.env) fp) tg (t.g X.K)) (ht : ∀ (s : Shared) (H : Hp) (Cc : Addr) (cl : List (Str × Addr)) (fp : List Addr), VT (X.blk s H scope (compEnvC scope cl Cc X.env) fp) C.nox ifs tt)
    (he : ∀ (s : Shared) (H : Hp) (Cc : Addr) (cl : List (Str × Addr)) (fp : List Addr), VE (X.blk s H scope (compEnvC scope cl Cc X.env) fp) C.nox elt f) (hv : ∀ i ∈ t.slots, i ∈ own.map (·.2))
    (hy : X.N[i]? = some y := by rfl) (hyl : X.env.scope.names.lookup y = some .local := by rfl) (hsw : swapsWith (.ListComp elt [⟨tg, iter, ifs, 0⟩] scope pos) (some (.Name y py)) spos.line X.env = pure true := by rfl) (hs : ∀ x, foldedSetIterable iter X.env x = pure x := by intro _; rfl) :
    VS X C (.Assign [.Name y py] (.ListComp elt [⟨tg, iter, ifs, 0⟩] scope pos) spos) (sSetF i (fLc gi t tt f (own.map (·.2)))) := PS.of (ps_setLc am.c am.n hy hyl hsw hi ok hg ht he hs) fun D σ H h => t_lc hv (t_setF h)
theorem vs_lc2N (i : Nat) (am : Am X) (hi : VI X C tg iter gi) (ok : BlkOk X.N X.env.scope scope own)
    (hg : ∀ (s : Shared) (H : Hp) (Cc : Addr) (cl : List (Str × Addr)) (fp : List Addr), PG (X.blk s H scope (compEnvC scope cl Cc X.env) fp) tg (t.g X.K)) (ht : ∀ (s : Shared) (H : Hp) (Cc : Addr) (cl : List (Str × Addr)) (fp : List Addr), VT (X.blk s H scope (compEnvC scope cl Cc X.env) fp) C.nox ifs tt)
    (hi1 : ∀ (s : Shared) (H : Hp) (Cc : Addr) (cl : List (Str × Addr)) (fp : List Addr), VI (X.blk s H scope (compEnvC scope cl Cc X.env) fp) C.nox tg1 iter1 gi1)
    (hg1 : ∀ (s : Shared) (H : Hp) (Cc : Addr) (cl : List (Str × Addr)) (fp : List Addr), PG (X.blk s H scope (compEnvC scope cl Cc X.env) fp) tg1 (t1.g X.K)) (ht1 : ∀ (s : Shared) (H : Hp) (Cc : Addr) (cl : List (Str × Addr)) (fp : List Addr), VT (X.blk s H scope (compEnvC scope cl Cc X.env) fp) C.nox ifs1 tt1)
    (he : ∀ (s : Shared) (H : Hp) (Cc : Addr) (cl : List (Str × Addr)) (fp : List Addr), VE (X.blk s H scope (compEnvC scope cl Cc X.env) fp) C.nox elt f) (hv : ∀ i ∈ t.slots, i ∈ own.map (·.2)) (hv1 : ∀ i ∈ t1.slots, i ∈ own.map (·.2))
    (hy : X.N[i]? = some y := by rfl) (hyl : X.env.scope.names.lookup y = some .local := by rfl) (hsw : swapsWith (.ListComp elt [⟨tg, iter, ifs, 0⟩, ⟨tg1, iter1, ifs1, 0⟩] scope pos) (some (.Name y py)) spos.line X.env = pure true := by rfl) (hs : ∀ x, foldedSetIterable iter X.env x = pure x := by intro _; rfl) (hs1 : ∀ env x, foldedSetIterable iter1 env x = pure x := by intro _ _; rfl) :
    VS X C (.Assign [.Name y py] (.ListComp elt [⟨tg, iter, ifs, 0⟩, ⟨tg1, iter1, ifs1, 0⟩] scope pos) spos) (sSetN i (fLc2 gi t tt gi1 t1 tt1 f (own.map (·.2)) t1.slots)) := PS.of (ps_setLc2 am.c am.n hy hyl hsw hi ok hv1 hg ht hi1 hg1 ht1 he hs hs1) fun D σ H h => t_lc2 hv (fun _ h => h) (t_setN h)
theorem vs_lc2F (i : Nat) (am : Am X) (hi : VI X C tg iter gi) (ok : BlkOk X.N X.env.scope scope own)
    (hg : ∀ (s : Shared) (H : Hp) (Cc : Addr) (cl : List (Str × Addr)) (fp : List Addr), PG (X.blk s H scope (compEnvC scope cl Cc X.env) fp) tg (t.g X.K)) (ht : ∀ (s : Shared) (H : Hp) (Cc : Addr) (cl : List (Str × Addr)) (fp : List Addr), VT (X.blk s H scope (compEnvC scope cl Cc X.env) fp) C.nox ifs tt)
    (hi1 : ∀ (s : Shared) (H : Hp) (Cc : Addr) (cl : List (Str × Addr)) (fp : List Addr), VI (X.blk s H scope (compEnvC scope cl Cc X.env) fp) C.nox tg1 iter1 gi1)
    (hg1 : ∀ (s : Shared) (H : Hp) (Cc : Addr) (cl : List (Str × Addr)) (fp : List Addr), PG (X.blk s H scope (compEnvC scope cl Cc X.env) fp) tg1 (t1.g X.K)) (ht1 : ∀ (s : Shared) (H : Hp) (Cc : Addr) (cl : List (Str × Addr)) (fp : List Addr), VT (X.blk s H scope (compEnvC scope cl Cc X.env) fp) C.nox ifs1 tt1)
    (he : ∀ (s : Shared) (H : Hp) (Cc : Addr) (cl : List (Str × Addr)) (fp : List Addr), VE (X.blk s H scope (compEnvC scope cl Cc X.env) fp) C.nox elt f) (hv : ∀ i ∈ t.slots, i ∈ own.map (·.2)) (hv1 : ∀ i ∈ t1.slots, i ∈ own.map (·.2))
    (hy : X.N[i]? = some y := by rfl) (hyl : X.env.scope.names.lookup y = some .local := by rfl) (hsw : swapsWith (.ListComp elt [⟨tg, iter, ifs, 0⟩, ⟨tg1, iter1, ifs1, 0⟩] scope pos) (some (.Name y py)) spos.line X.env = pure true := by rfl) (hs : ∀ x, foldedSetIterable iter X.env x = pure x := by intro _; rfl) (hs1 : ∀ env x, foldedSetIterable iter1 env x = pure x := by intro _ _; rfl) :
    VS X C (.Assign [.Name y py] (.ListComp elt [⟨tg, iter, ifs, 0⟩, ⟨tg1, iter1, ifs1, 0⟩] scope pos) spos) (sSetF i (fLc2 gi t tt gi1 t1 tt1 f (own.map (·.2)) t1.slots)) := PS.of (ps_setLc2 am.c am.n hy hyl hsw hi ok hv1 hg ht hi1 hg1 ht1 he hs hs1) fun D σ H h => t_lc2 hv (fun _ h => h) (t_setF h)
end
end

/-! ### a, b = x, y -/
inductive Mv where
  | s (d : D)
  | n (l : List D)
def Mv.sl : Mv → Sl
  | .s d => .sh d
  | .n l => .own l
abbrev FM := List Sl → Rs Mv
def RMv (K : PySem.W.Frag) : Rel V Mv := fun _ H F' H' v m => match m with
  | .s d => Rp K F' v d
  | .n l => ∃ p xs, v = .ref p ∧ H' p = some (.lst xs) ∧ F' p = none ∧ H p = none ∧ RpAll K F' xs l
theorem RMv.mono {K : PySem.W.Frag} : RMono (RMv K) := fun _ _ _ _ _ _ _ m e _ h => by
  cases m with
  | s d => exact h
  | n l => obtain ⟨p, xs, a, b, c, d, g⟩ := h; exact ⟨p, xs, a, b, c, e.h.free d, g⟩
def TM (K : PySem.W.Frag) (mg : Str → Option Value) (C : Ct) (f : FM) : TE := fun σ H Q => ∃ F env, REnv K C F σ H env ∧ Sat mg C (RMv K) (f env) σ F H Q
abbrev VM (X : Cx) (C : Ct) (e : Expr) (f : FM) : Prop := PE X e (TM X.K X.mg C f)
def mS (f : FE) : FM := fun env => (f env).bind fun d => .ok (.s d)
def mN (f : FE) : FM := fun env => (f env).bind fun d => match d with
  | .list l => .ok (.n l)
  | _ => .no
def sPar (i j : Nat) (ma mb : FM) : FS := fun env => bindO (ma env) fun a => bindO (mb env) fun b => .nx ((env.set i a.sl).set j b.sl)
section
variable {X : Cx} {C : Ct} {e a b : Expr} {f : FE} {ma mb : FM}
theorem vm_s (h : VE X C e f) : VM X C e (mS f) := PE.of h fun σ H Q ⟨F, env, re, q⟩ => ⟨F, env, re, Sat.bind RMv.mono q fun d v F1 H1 x1 r1 q1 => q1 v H1 F1 (Ext.refl (re.go x1).same) r1⟩
theorem vm_n (h : VN X C e f) : VM X C e (mN f) := PE.of h fun σ H Q ⟨F, env, re, q⟩ => ⟨F, env, re, by
  have q : Sat X.mg C (RMv X.K) ((f env).bind fun d => match d with
    | .list l => .ok (.n l)
    | _ => .no) σ F H Q := q
  cases hf : f env with
  | ok d =>
    rw [hf] at q
    intro v H1 F1 x1 ⟨p, xs, l, e1, e2, e3, e4, e5, e6⟩
    subst e1 e2
    exact q _ H1 F1 x1 ⟨p, xs, rfl, e3, e4, e5, e6⟩
  | er c n => rw [hf] at q; exact q
  | no => rw [hf] at q; exact q⟩
theorem REnv.setM {K : PySem.W.Frag} {F H : Hp} {σ : L2.St} {env : List Sl} {i : Nat} {v : V} {m : Mv} (re : REnv K C F σ H env) (h : match m with
    | .s d => Rp K F v d
    | .n l => ∃ p xs, v = .ref p ∧ H p = some (.lst xs) ∧ F p = none ∧ C.H p = none ∧ RpAll K F xs l ∧ ∀ (j : Nat) (m : List D), σ[j]? = some (some (.ref p)) → env[j]? ≠ some (.own m)) : REnv K C F (σ.set i (some v)) H (env.set i m.sl) := by
  cases m with
  | s d => exact re.setSh h
  | n l => obtain ⟨p, xs, e, h1, h2, h3, h4, h5⟩ := h; subst e; exact re.setOwn h1 h2 h3 h4 h5
theorem t_par {K : PySem.W.Frag} {mg : Str → Option Value} {i j : Nat} {D : Ends} {σ : L2.St} {H : Hp} : TSt K mg C (sPar i j ma mb) D σ H →
    TM K mg C ma σ H fun v H1 => TM K mg C mb σ H1 fun w H2 => D.nx ((σ.set i (some v)).set j (some w)) H2 ∧ ∀ T, H2 T = none → D.nx ((σ.set i (some v)).set j (some w)) (upd H2 T (.tup [v, w])) := fun ⟨F, env, re, q⟩ =>
  ⟨F, env, re, SatS.bind (R := RMv K) re q fun m v F1 H1 x1 r1 q1 => ⟨F1, env, re.go x1, SatS.bind (R := RMv K) (re.go x1) q1 fun m' w F2 H2 x2 r2 q2 => by
    have re2 := (re.go x1).go x2
    have z1 : REnv K C F2 (σ.set i (some v)) H2 (env.set i m.sl) := re2.setM (by
      cases m with
      | s d => exact Rp.mono x2.f _ _ r1
      | n l =>
        obtain ⟨p, xs, e1, e2, e3, e4, e5⟩ := r1
        obtain ⟨g1, g2, _⟩ := x2.del e3 e2
        refine ⟨p, xs, e1, g2, g1, re.ext.h.free e4, RpAll.mono x2.f _ _ e5, fun j m h => re.newSlot e4 j m h⟩)
    have z2 : REnv K C F2 ((σ.set i (some v)).set j (some w)) H2 ((env.set i m.sl).set j m'.sl) := z1.setM (by
      cases m' with
      | s d => exact r2
      | n l =>
        obtain ⟨p, xs, e1, e2, e3, e4, e5⟩ := r2
        refine ⟨p, xs, e1, e2, e3, (re.go x1).ext.h.free e4, e5, fun k n h hk => ?_⟩
        obtain ⟨a', ys, w1, w2, _⟩ := z1.own hk
        rw [h] at w1
        cases w1
        by_cases ik : i = k
        · subst ik
          have hi : i < σ.length := by
            rcases Nat.lt_or_ge i σ.length with z | z
            · exact z
            · rw [List.getElem?_eq_none (by rw [List.length_set]; exact z)] at h; cases h
          rw [List.getElem?_set_self hi] at h
          cases h
          have hi' : i < env.length := by rw [← re.len]; exact hi
          rw [List.getElem?_set_self hi'] at hk
          cases m with
          | s d => cases hk
          | n l' =>
            obtain ⟨p', xs', u1, u2, u3, u4, u5⟩ := r1
            cases u1
            rw [u2] at e4
            cases e4
        · rw [List.getElem?_set_ne ik] at h hk
          exact (re.go x1).newSlot e4 k n h hk)
    refine ⟨q2 _ H2 F2 (Same.refl _) z2, fun T hT => q2 _ _ _ (same_upd (z2.same.free hT)) (z2.go (Ext.new z2.same hT))⟩⟩⟩
theorem vs_par (i j : Nat) {x y : Str} {px py pt pos : Pos} {kt k2 : Nat} {pt2 : Pos} (am : Am X) (ha : VM X C a ma) (hb : VM X C b mb) (hij : i ≠ j := by decide) (hi : X.N[i]? = some x := by rfl) (hj : X.N[j]? = some y := by rfl)
    (hx : X.env.scope.names.lookup x = some .local := by rfl) (hy : X.env.scope.names.lookup y = some .local := by rfl) (he : starEach [a, b] X.env = (false, eval a X.env) :: starEach [b] X.env := by rfl) (he2 : starEach [b] X.env = (false, eval b X.env) :: starEach [] X.env := by rfl)
    (hw : swappedStores [.Tuple [.Name x px, .Name y py] kt pt] (.Tuple [a, b] k2 pt2) X.env = pure (some [x, y]) := by rfl)
    (hs : swapsWithSole [.Tuple [.Name x px, .Name y py] kt pt] (.Tuple [a, b] k2 pt2) pos.line X.env = pure false := by rfl) :
    VS X C (.Assign [.Tuple [.Name x px, .Name y py] kt pt] (.Tuple [a, b] k2 pt2) pos) (sPar i j ma mb) := PS.of (ps_par am.c am.n hi hj hij hx hy (pa_cons ha (pa_cons hb pa_nil he2) he) hw hs) fun D σ H h => by
  have z := t_par h
  obtain ⟨F, env, re, q⟩ := z
  refine ⟨F, env, re, q.imp fun v H1 ⟨F1, env1, re1, q1⟩ => ⟨F1, env1, re1, q1.imp fun w H2 q2 => ?_⟩⟩
  exact ⟨v, w, rfl, q2.1⟩
/-- .. where a name is a cell: by a pair -/
theorem vs_parC (i j : Nat) {x y : Str} {px py pt pos : Pos} {kt k2 : Nat} {pt2 : Pos} (am : Am X) (ha : VM X C a ma) (hb : VM X C b mb) (hij : i ≠ j := by decide) (hi : X.N[i]? = some x := by rfl) (hj : X.N[j]? = some y := by rfl)
    (hx : Loc X.env.scope x := by first | exact Or.inl rfl | exact Or.inr rfl) (hy : Loc X.env.scope y := by first | exact Or.inl rfl | exact Or.inr rfl)
    (hfx : X.fn x = true ∨ X.env.scope.names.lookup x = some .local := by first | exact .inl rfl | exact .inr rfl | assumption) (hfy : X.fn y = true ∨ X.env.scope.names.lookup y = some .local := by first | exact .inl rfl | exact .inr rfl | assumption)
    (he : starEach [a, b] X.env = (false, eval a X.env) :: starEach [b] X.env := by rfl) (he2 : starEach [b] X.env = (false, eval b X.env) :: starEach [] X.env := by rfl)
    (hw : swappedStores [.Tuple [.Name x px, .Name y py] kt pt] (.Tuple [a, b] k2 pt2) X.env = pure none := by rfl)
    (hs : swapsWithSole [.Tuple [.Name x px, .Name y py] kt pt] (.Tuple [a, b] k2 pt2) pos.line X.env = pure false := by rfl) (h1 : (assignEach [.Tuple [.Name x px, .Name y py] kt pt] X.env).map (·.2) = [assign (.Tuple [.Name x px, .Name y py] kt pt) X.env] := by rfl)
    (hs1 : (assignEach [.Name y py] X.env).map (·.2) = assign (.Name y py) X.env :: (assignEach [] X.env).map (·.2) := by rfl) (hs2 : (assignEach [.Name x px, .Name y py] X.env).map (·.2) = assign (.Name x px) X.env :: (assignEach [.Name y py] X.env).map (·.2) := by rfl)
    (hn : (assignEach [.Name x px, .Name y py] X.env).length = 2 := by rfl) (hst : (assignEach [.Name x px, .Name y py] X.env).findIdx? (·.1) = none := by rfl) :
    VS X C (.Assign [.Tuple [.Name x px, .Name y py] kt pt] (.Tuple [a, b] k2 pt2) pos) (sPar i j ma mb) := PS.of (ps_asg (pe_tup (pa_cons ha (pa_cons hb pa_nil he2) he)) (pg_tup am.c (pgs_cons (pg_name am.n hi hx hfx) (pgs_cons (pg_name am.n hj hy hfy) pgs_nil hs1) hs2) hn hst) hs hw h1) fun D σ H h => by
  have z := t_par h
  obtain ⟨F, env, re, q⟩ := z
  refine ⟨F, env, re, q.imp fun v H1 ⟨F1, env1, re1, q1⟩ => ⟨F1, env1, re1, q1.imp fun w H2 q2 => ?_⟩⟩
  refine ⟨by show 2 ≤ sizeLine; decide, fun T hT => ⟨T, [v, w], rfl, SqT.of upd_same, rfl, v, _, rfl, w, _, rfl, rfl, q2.2 T hT⟩⟩
end
end PD

/-! Part 9: repr, list(range), max, min, index -/
namespace PD
open PySem PySem.Spec PyProof.Rows L2

/-! ### a mirror by another -/
def Rle {α : Type} (r r' : Rs α) : Prop := r = .no ∨ r = r'
section
variable {X : Cx} {C : Ct} {e : Expr} {f f' : FE} {g g' : FB}
theorem Sat.le {α β : Type} {mg : Str → Option Value} {R : Rel β α} {r r' : Rs α} {σ : L2.St} {F H : Hp} {Q : β → Hp → Prop} (l : Rle r r') (q : Sat mg C R r σ F H Q) : Sat mg C R r' σ F H Q := by
  rcases l with h | h
  · rw [h] at q; exact q.elim
  · rw [← h]; exact q
theorem VE.le (h : VE X C e f) (l : ∀ env, Rle (f' env) (f env)) : VE X C e f' := PE.of h fun σ H Q ⟨F, env, re, q⟩ => ⟨F, env, re, Sat.le (l env) q⟩
theorem VB.le (h : VB X C e g) (l : ∀ env, Rle (g' env) (g env)) : VB X C e g' := PT.of h fun σ H Q ⟨F, env, re, q⟩ => ⟨F, env, re, Sat.le (l env) q⟩
end

/-! ### repr -/
mutual
def rleaf : D → Bool
  | .none | .bool _ => true
  | .int i => decide (i.natAbs < 1000000000000)
  | .str x => x.cps.toList.all fun c => decide (c < 4294967296)
  | .list xs | .tuple xs => rleafAll xs
  | .dict _ => false
def rleafAll : List D → Bool
  | [] => true
  | x :: xs => rleaf x && rleafAll xs
end
def reprOk (d : D) : Bool := rleaf d && decide (d.weight ≤ 1048576) && shal d
mutual
theorem rleaf_ok : ∀ d : D, rleaf d = true → d.leavesShort 13 = true ∧ d.showable = true ∧ d.hasDict = false
  | .none, _ => ⟨rfl, rfl, rfl⟩
  | .bool _, _ => ⟨rfl, rfl, rfl⟩
  | .int i, h => by
    have h : i.natAbs < 1000000000000 := by simpa [rleaf] using h
    have hi := PyData.shown_int_le (i := i) (by omega)
    refine ⟨by simp only [PyData.leavesShort]; exact decide_eq_true hi, ?_, rfl⟩
    simp only [PyData.showable]
    refine decide_eq_true ?_
    by_cases z : i.natAbs = 0
    · rw [z]; decide
    · have := (Nat.log2_lt z (k := 40)).mpr (by omega)
      omega
  | .str x, h => by
    refine ⟨?_, rfl, rfl⟩
    have h : (x.cps.toList.all fun c => decide (c < 4294967296)) = true := h
    show (x.cps.toList.all fun c => decide (c < 16 ^ 8)) = true
    simpa using h
  | .list xs, h => by
    obtain ⟨h1, h2, h3⟩ := rleafAll_ok xs h
    exact ⟨h1, h2, h3⟩
  | .tuple xs, h => by
    obtain ⟨h1, h2, h3⟩ := rleafAll_ok xs h
    exact ⟨h1, h2, h3⟩
  | .dict _, h => by cases h
theorem rleafAll_ok : ∀ ds : List D, rleafAll ds = true → PyData.leavesShortAll 13 ds = true ∧ PyData.showableAll ds = true ∧ PyData.hasDictAll ds = false
  | [], _ => ⟨rfl, rfl, rfl⟩
  | d :: ds, h => by
    have h : (rleaf d && rleafAll ds) = true := h
    rw [Bool.and_eq_true] at h
    obtain ⟨a1, a2, a3⟩ := rleaf_ok d h.1
    obtain ⟨b1, b2, b3⟩ := rleafAll_ok ds h.2
    refine ⟨?_, ?_, ?_⟩
    · show (d.leavesShort 13 && PyData.leavesShortAll 13 ds) = true
      rw [a1, b1]; rfl
    · show (d.showable && PyData.showableAll ds) = true
      rw [a2, b2]; rfl
    · show (d.hasDict || PyData.hasDictAll ds) = false
      rw [a3, b3]; rfl
end
theorem reprOk_fits {d : D} (h : reprOk d = true) : d.showable = true ∧ d.hasDict = false ∧ d.shown.length ≤ sizeLine ∧ d.depth ≤ 64 := by
  unfold reprOk at h
  simp only [Bool.and_eq_true, decide_eq_true_eq] at h
  obtain ⟨⟨h1, h2⟩, h3⟩ := h
  obtain ⟨a, b, c⟩ := rleaf_ok d h1
  exact ⟨b, c, PyData.shown_fits (B := 13) (by decide) (by decide) a (by omega), of_decide_eq_true h3⟩
def dRepr : List D → Option D
  | [d] => if reprOk d = true then some (.str d.shown) else none
  | _ => none
def rRepr (K : PySem.W.Frag) : List V → Hp → VK → Prop := fun xs H Q => ∃ F v d, Same F H ∧ xs = [v] ∧ Rp K F v d ∧ reprOk d = true ∧ Q (.str d.shown) H
section
variable {K : PySem.W.Frag} {X : Cx} {C : Ct}
theorem call_reprD (am : Am X) : CallR X (.builtin "repr") (rRepr X.K) := by
  intro pins s σ H xs us Q I r ⟨F, v, d, sf, ex, hd, ok, q⟩
  subst ex
  obtain ⟨u, rfl, ru⟩ := vals1 r
  obtain ⟨as, hr⟩ := hd.reads I sf ru
  obtain ⟨o1, o2, o3, o4⟩ := reprOk_fits ok
  have hu := am.u
  have big : ∀ {a : Addr}, u = .ref a → wpAny (model X.prog X.w) X.A (call (.builtin "repr") [u]) (EP X pins σ Q) X.xe s := fun {a} e => by
    subst e
    exact repr_of_reads' hr o1 (fun z => by rw [o2] at z; cases z) am.g (by omega) (fun _ _ e => e) (fun h' u tk hk => ⟨.str _, H, I.kept hk, ⟨_, rfl⟩, q⟩) o3
  cases hd with
  | non => cases ru; exact PySem.P.repr_of_none ⟨.str _, H, I.tok _, ⟨_, rfl⟩, q⟩
  | bl b => cases ru; exact PySem.P.repr_of_bool ⟨.str _, H, I.tok _, ⟨_, rfl⟩, q⟩
  | int i =>
    obtain ⟨t, rfl⟩ := ru
    exact PySem.P.repr_of_int (of_decide_eq_true (by simpa only [PyData.showable] using o1)) ⟨.str _, H, I.tok _, ⟨_, rfl⟩, q⟩
  | str x =>
    obtain ⟨t, rfl⟩ := ru
    exact PySem.P.repr_of_str ⟨.str _, H, I.tok _, ⟨_, rfl⟩, q⟩ o3
  | lst _ _ => exact big ru
  | tup _ _ => exact big ru
theorem l_repr : VL K (rRepr K) dRepr := by
  intro F H xs ds c Q s h e q
  unfold dRepr at e
  split at e
  · split at e
    · rename_i ok
      cases e
      obtain ⟨v, rfl, r⟩ := h.one'
      exact ⟨F, v, _, s, rfl, r, ok, q _ H F (Ext.refl s) (.str _)⟩
    · cases e
  · cases e
end
/-! data that is the same -/
mutual
def eqD : D → D → Bool
  | .none, .none => true
  | .bool a, .bool b => a == b
  | .int a, .int b => decide (a = b)
  | .str a, .str b => decide (a.cps.toList = b.cps.toList)
  | .list a, .list b => eqDs a b
  | .tuple a, .tuple b => eqDs a b
  | _, _ => false
def eqDs : List D → List D → Bool
  | [], [] => true
  | a :: as, b :: bs => eqD a b && eqDs as bs
  | _, _ => false
end
mutual
theorem eqD_eq : ∀ a b : D, eqD a b = true → a = b
  | .none, b, h => by cases b <;> first | rfl | cases h
  | .bool x, b, h => by
    cases b with
    | bool y => rw [show x = y by simpa [eqD] using h]
    | _ => cases h
  | .int x, b, h => by
    cases b with
    | int y => rw [show x = y by simpa [eqD] using h]
    | _ => cases h
  | .str x, b, h => by
    cases b with
    | str y =>
      have e : x.cps.toList = y.cps.toList := by simpa [eqD] using h
      obtain ⟨⟨xs⟩⟩ := x
      obtain ⟨⟨ys⟩⟩ := y
      have e : xs = ys := e
      rw [e]
    | _ => cases h
  | .list xs, b, h => by
    cases b with
    | list ys => rw [eqDs_eq xs ys h]
    | _ => cases h
  | .tuple xs, b, h => by
    cases b with
    | tuple ys => rw [eqDs_eq xs ys h]
    | _ => cases h
  | .dict _, b, h => by cases b <;> cases h
theorem eqDs_eq : ∀ as bs : List D, eqDs as bs = true → as = bs
  | [], bs, h => by cases bs <;> first | rfl | cases h
  | a :: as, bs, h => by
    cases bs with
    | nil => cases h
    | cons b bs =>
      have h : (eqD a b && eqDs as bs) = true := h
      rw [Bool.and_eq_true] at h
      rw [eqD_eq a b h.1, eqDs_eq as bs h.2]
end
/-- repr(a) != repr(b), and ==, of data that is the same -/
def fRNe (f f' : FE) : FB := fun env => (f env).bind fun a => if reprOk a = true then (f' env).bind fun b => if eqD a b = true then .ok false else .no else .no
def fREq (f f' : FE) : FB := fun env => (f env).bind fun a => if reprOk a = true then (f' env).bind fun b => if eqD a b = true then .ok true else .no else .no
theorem str_eqv (x : Str) : PyData.eqv (.str x) (.str x) = true := by simp [PyData.eqv]
theorem shal_str (x : Str) : shal (.str x) = true := by simp [shal, PyData.depth]
section
variable {X : Cx} {C : Ct} {f f' : FE} {a b : Expr} {pos p p1 p2 p3 : Pos}
theorem vb_reprNe (am : Am X) (hg : Gl X "repr") (hm : X.mg "repr" = none) (ha : VE X C a f) (hb : VE X C b f') (h1 : starEach [a] X.env = (false, eval a X.env) :: starEach [] X.env := by rfl) (h2 : starEach [b] X.env = (false, eval b X.env) :: starEach [] X.env := by rfl)
    (hm2 : behindInMarks .NotEq (.Call (.Name "repr" p2) [b] [] p3) = false := by first | exact nomark _ | with_unfolding_all rfl) :
    VB X C (.Compare (.Call (.Name "repr" p) [a] [] p1) [.NotEq] [.Call (.Name "repr" p2) [b] [] p3] pos) (fRNe f f') :=
  VB.le (vb_cmp (o_ne am) v_ne (ve_callB (call_reprD am) l_repr hg hm rfl (va_cons ha va_nil h1) (he := h1) (hpl := by rfl)) (ve_callB (call_reprD am) l_repr hg hm rfl (va_cons hb va_nil h2) (he := h2) (hpl := by rfl)) hm2) fun env => by
    unfold fRNe
    cases hf : f env with
    | no => exact .inl rfl
    | er c n => exact .inr (by simp [fB, f2, fCB, aCons, hf])
    | ok d =>
      show Rle (if reprOk d = true then _ else _) _
      by_cases hd : reprOk d = true
      · rw [if_pos hd]
        cases hf' : f' env with
        | no => exact .inl rfl
        | er c n => exact .inr (by simp [fB, f2, fCB, aCons, aNil, hf, hf', dRepr, hd])
        | ok e =>
          show Rle (if eqD d e = true then _ else _) _
          by_cases he : eqD d e = true
          · rw [if_pos he]
            have := eqD_eq d e he
            subst this
            refine .inr ?_
            simp [fB, f2, fCB, aCons, aNil, hf, hf', dRepr, hd, dNe, shal_str, str_eqv, Rs.ofO]
            rfl
          · rw [if_neg he]; exact .inl rfl
      · rw [if_neg hd]; exact .inl rfl
theorem vb_reprEq (am : Am X) (hg : Gl X "repr") (hm : X.mg "repr" = none) (ha : VE X C a f) (hb : VE X C b f') (h1 : starEach [a] X.env = (false, eval a X.env) :: starEach [] X.env := by rfl) (h2 : starEach [b] X.env = (false, eval b X.env) :: starEach [] X.env := by rfl)
    (hm2 : behindInMarks .Eq (.Call (.Name "repr" p2) [b] [] p3) = false := by first | exact nomark _ | with_unfolding_all rfl) :
    VB X C (.Compare (.Call (.Name "repr" p) [a] [] p1) [.Eq] [.Call (.Name "repr" p2) [b] [] p3] pos) (fREq f f') :=
  VB.le (vb_cmp (o_eq am) v_eq (ve_callB (call_reprD am) l_repr hg hm rfl (va_cons ha va_nil h1) (he := h1) (hpl := by rfl)) (ve_callB (call_reprD am) l_repr hg hm rfl (va_cons hb va_nil h2) (he := h2) (hpl := by rfl)) hm2) fun env => by
    unfold fREq
    cases hf : f env with
    | no => exact .inl rfl
    | er c n => exact .inr (by simp [fB, f2, fCB, aCons, hf])
    | ok d =>
      show Rle (if reprOk d = true then _ else _) _
      by_cases hd : reprOk d = true
      · rw [if_pos hd]
        cases hf' : f' env with
        | no => exact .inl rfl
        | er c n => exact .inr (by simp [fB, f2, fCB, aCons, aNil, hf, hf', dRepr, hd])
        | ok e =>
          show Rle (if eqD d e = true then _ else _) _
          by_cases he : eqD d e = true
          · rw [if_pos he]
            have := eqD_eq d e he
            subst this
            refine .inr ?_
            simp [fB, f2, fCB, aCons, aNil, hf, hf', dRepr, hd, dEq, shal_str, str_eqv, Rs.ofO]
            rfl
          · rw [if_neg he]; exact .inl rfl
      · rw [if_neg hd]; exact .inl rfl
end

/-! ### list(range(..)) -/
def rgD (a b : Int) : List D := (List.range (b - a).toNat).map fun i => .int (a + (i : Nat))
def fRg1 (f : FE) (k : List D → D) : FE := fun env => (f env).bind fun d => match d with
  | .int n => if n.natAbs ≤ 1000000 then .ok (k (rgD 0 n)) else .no
  | _ => .no
def fRg2 (f f' : FE) (k : List D → D) : FE := fun env => (f env).bind fun d => (f' env).bind fun e => match d, e with
  | .int a, .int n => if a.natAbs ≤ 1000000 ∧ n.natAbs ≤ 1000000 then .ok (k (rgD a n)) else .no
  | _, _ => .no
theorem rp_rg {K : PySem.W.Frag} {F : Hp} (a b : Int) : RpAll K F (rgV a b) (rgD a b) := by
  unfold rgV rgD
  induction List.range (b - a).toNat with
  | nil => exact .nil
  | cons i l ih => exact .cons (.int _) ih
section
variable {X : Cx} {C : Ct} {f f' : FE} {a b : Expr} {p p2 pos pos2 : Pos}
theorem vn_listRg1 (am : Am X) (hg : Gl X "list") (hm : X.mg "list" = none) (hg' : Gl X "range") (hm' : X.mg "range" = none) (ha : VE X C a f) (na : starEach [a] X.env = (false, eval a X.env) :: starEach [] X.env := by rfl)
    (nb : starEach [.Call (.Name "range" p2) [a] [] pos2] X.env = (false, eval (.Call (.Name "range" p2) [a] [] pos2) X.env) :: starEach [] X.env := by rfl) :
    VN X C (.Call (.Name "list" p) [.Call (.Name "range" p2) [a] [] pos2] [] pos) (fRg1 f .list) := PE.of (pe_listRg am.c hg hm (prg_1 hg' hm' ha na) nb) fun σ H Q ⟨F, env, re, q⟩ =>
  ⟨F, env, re, Sat.bind RN.mono q fun d v F1 H1 x1 r1 q1 => by
    cases d with
    | int n =>
      cases r1
      have q1 : Sat X.mg C (RN X.K) (if n.natAbs ≤ 1000000 then .ok (.list (rgD 0 n)) else .no) σ F1 H1 Q := q1
      by_cases hn : n.natAbs ≤ 1000000
      · rw [if_pos hn] at q1
        refine ⟨n, rfl, ⟨by omega, by omega, by omega, by omega, by omega⟩, fun p hp => ?_⟩
        have s1 := (re.go x1).same
        exact q1 _ _ F1 (Ext.laid s1 hp) ⟨p, _, _, rfl, rfl, upd_same, s1.free hp, hp, rp_rg 0 n⟩
      · rw [if_neg hn] at q1; exact q1.elim
    | _ => exact q1.elim⟩
theorem vn_listRg2 (am : Am X) (hg : Gl X "list") (hm : X.mg "list" = none) (hg' : Gl X "range") (hm' : X.mg "range" = none) (ha : VE X C a f) (hb : VE X C b f') (na : starEach [a, b] X.env = (false, eval a X.env) :: starEach [b] X.env := by rfl) (nb' : starEach [b] X.env = (false, eval b X.env) :: starEach [] X.env := by rfl)
    (hp : (backTo pos2 (starEach [b] X.env)).any (·.1) = false := by rfl)
    (nb : starEach [.Call (.Name "range" p2) [a, b] [] pos2] X.env = (false, eval (.Call (.Name "range" p2) [a, b] [] pos2) X.env) :: starEach [] X.env := by rfl) :
    VN X C (.Call (.Name "list" p) [.Call (.Name "range" p2) [a, b] [] pos2] [] pos) (fRg2 f f' .list) := PE.of (pe_listRg am.c hg hm (prg_2 hg' hm' ha hb na nb' hp) nb) fun σ H Q ⟨F, env, re, q⟩ =>
  ⟨F, env, re, Sat.bind RN.mono q fun d v F1 H1 x1 r1 q1 => ⟨F1, env, re.go x1, Sat.bind RN.mono q1 fun e w F2 H2 x2 r2 q2 => by
    cases d with
    | int k =>
      cases r1
      cases e with
      | int n =>
        cases r2
        have q2 : Sat X.mg C (RN X.K) (if k.natAbs ≤ 1000000 ∧ n.natAbs ≤ 1000000 then .ok (.list (rgD k n)) else .no) σ F2 H2 Q := q2
        by_cases hn : k.natAbs ≤ 1000000 ∧ n.natAbs ≤ 1000000
        · rw [if_pos hn] at q2
          refine ⟨k, n, rfl, rfl, ⟨by omega, by omega, by omega, by omega, by omega⟩, fun p hp => ?_⟩
          have s2 := ((re.go x1).go x2).same
          exact q2 _ _ F2 (Ext.laid s2 hp) ⟨p, _, _, rfl, rfl, upd_same, s2.free hp, hp, rp_rg k n⟩
        · rw [if_neg hn] at q2; exact q2.elim
      | _ => exact q2.elim
    | _ => exact q2.elim⟩⟩
theorem ve_tupRg1 (am : Am X) (hg : Gl X "tuple") (hm : X.mg "tuple" = none) (hg' : Gl X "range") (hm' : X.mg "range" = none) (ha : VE X C a f) (na : starEach [a] X.env = (false, eval a X.env) :: starEach [] X.env := by rfl)
    (nb : starEach [.Call (.Name "range" p2) [a] [] pos2] X.env = (false, eval (.Call (.Name "range" p2) [a] [] pos2) X.env) :: starEach [] X.env := by rfl) :
    VE X C (.Call (.Name "tuple" p) [.Call (.Name "range" p2) [a] [] pos2] [] pos) (fRg1 f .tuple) := PE.of (pe_tupRg am.c hg hm (prg_1 hg' hm' ha na) nb) fun σ H Q ⟨F, env, re, q⟩ =>
  ⟨F, env, re, Sat.bind RD.mono q fun d v F1 H1 x1 r1 q1 => by
    cases d with
    | int n =>
      cases r1
      have q1 : Sat X.mg C (RD X.K) (if n.natAbs ≤ 1000000 then .ok (.tuple (rgD 0 n)) else .no) σ F1 H1 Q := q1
      by_cases hn : n.natAbs ≤ 1000000
      · rw [if_pos hn] at q1
        refine ⟨n, rfl, ⟨by omega, by omega, by omega, by omega, by omega⟩, fun p hp => ?_⟩
        have s1 := (re.go x1).same
        exact q1 _ _ _ (Ext.new s1 hp) (.tup (SqT.of upd_same) (rp_rg 0 n))
      · rw [if_neg hn] at q1; exact q1.elim
    | _ => exact q1.elim⟩
theorem ve_tupRg2 (am : Am X) (hg : Gl X "tuple") (hm : X.mg "tuple" = none) (hg' : Gl X "range") (hm' : X.mg "range" = none) (ha : VE X C a f) (hb : VE X C b f') (na : starEach [a, b] X.env = (false, eval a X.env) :: starEach [b] X.env := by rfl) (nb' : starEach [b] X.env = (false, eval b X.env) :: starEach [] X.env := by rfl)
    (hp : (backTo pos2 (starEach [b] X.env)).any (·.1) = false := by rfl)
    (nb : starEach [.Call (.Name "range" p2) [a, b] [] pos2] X.env = (false, eval (.Call (.Name "range" p2) [a, b] [] pos2) X.env) :: starEach [] X.env := by rfl) :
    VE X C (.Call (.Name "tuple" p) [.Call (.Name "range" p2) [a, b] [] pos2] [] pos) (fRg2 f f' .tuple) := PE.of (pe_tupRg am.c hg hm (prg_2 hg' hm' ha hb na nb' hp) nb) fun σ H Q ⟨F, env, re, q⟩ =>
  ⟨F, env, re, Sat.bind RD.mono q fun d v F1 H1 x1 r1 q1 => ⟨F1, env, re.go x1, Sat.bind RD.mono q1 fun e w F2 H2 x2 r2 q2 => by
    cases d with
    | int k =>
      cases r1
      cases e with
      | int n =>
        cases r2
        have q2 : Sat X.mg C (RD X.K) (if k.natAbs ≤ 1000000 ∧ n.natAbs ≤ 1000000 then .ok (.tuple (rgD k n)) else .no) σ F2 H2 Q := q2
        by_cases hn : k.natAbs ≤ 1000000 ∧ n.natAbs ≤ 1000000
        · rw [if_pos hn] at q2
          refine ⟨k, n, rfl, rfl, ⟨by omega, by omega, by omega, by omega, by omega⟩, fun p hp => ?_⟩
          have s2 := ((re.go x1).go x2).same
          exact q2 _ _ _ (Ext.new s2 hp) (.tup (SqT.of upd_same) (rp_rg k n))
        · rw [if_neg hn] at q2; exact q2.elim
      | _ => exact q2.elim
    | _ => exact q2.elim⟩⟩
end

/-! ### max, min of a list of ints; index -/
def dMaxL : List D → Option D
  | [.list l] => match intsD l with
    | some (n :: ns) => some (.int (ns.foldl (fun a y => if a < y then y else a) n))
    | _ => none
  | _ => none
def dMinL : List D → Option D
  | [.list l] => match intsD l with
    | some (n :: ns) => some (.int (ns.foldl (fun a y => if y < a then y else a) n))
    | _ => none
  | _ => none
theorem foldMax : ∀ (ns : List Int) (n : Int), (ns.foldl (fun a y => if a < y then y else a) n) ∈ n :: ns ∧ ∀ y ∈ n :: ns, y ≤ ns.foldl (fun a y => if a < y then y else a) n
  | [], n => ⟨List.mem_cons_self, fun y h => by rw [List.mem_singleton.mp h]; exact Int.le_refl _⟩
  | m :: ns, n => by
    obtain ⟨h1, h2⟩ := foldMax ns (if n < m then m else n)
    rw [List.foldl_cons]
    refine ⟨?_, fun y hy => ?_⟩
    · rcases List.mem_cons.mp h1 with e | e
      · rw [e]; split
        · exact List.mem_cons_of_mem _ List.mem_cons_self
        · exact List.mem_cons_self
      · exact List.mem_cons_of_mem _ (List.mem_cons_of_mem _ e)
    · have h0 := h2 _ List.mem_cons_self
      rcases List.mem_cons.mp hy with e | hy
      · rw [e]; split at h0 <;> rename_i q <;> simp only [q, if_true, if_false] at h0 ⊢ <;> omega
      · rcases List.mem_cons.mp hy with e | hy
        · rw [e]; split at h0 <;> rename_i q <;> simp only [q, if_true, if_false] at h0 ⊢ <;> omega
        · exact h2 y (List.mem_cons_of_mem _ hy)
theorem foldMin : ∀ (ns : List Int) (n : Int), (ns.foldl (fun a y => if y < a then y else a) n) ∈ n :: ns ∧ ∀ y ∈ n :: ns, ns.foldl (fun a y => if y < a then y else a) n ≤ y
  | [], n => ⟨List.mem_cons_self, fun y h => by rw [List.mem_singleton.mp h]; exact Int.le_refl _⟩
  | m :: ns, n => by
    obtain ⟨h1, h2⟩ := foldMin ns (if m < n then m else n)
    rw [List.foldl_cons]
    refine ⟨?_, fun y hy => ?_⟩
    · rcases List.mem_cons.mp h1 with e | e
      · rw [e]; split
        · exact List.mem_cons_of_mem _ List.mem_cons_self
        · exact List.mem_cons_self
      · exact List.mem_cons_of_mem _ (List.mem_cons_of_mem _ e)
    · have h0 := h2 _ List.mem_cons_self
      rcases List.mem_cons.mp hy with e | hy
      · rw [e]; split at h0 <;> rename_i q <;> simp only [q, if_true, if_false] at h0 ⊢ <;> omega
      · rcases List.mem_cons.mp hy with e | hy
        · rw [e]; split at h0 <;> rename_i q <;> simp only [q, if_true, if_false] at h0 ⊢ <;> omega
        · exact h2 y (List.mem_cons_of_mem _ hy)
section
variable {K : PySem.W.Frag}
theorem l_maxL : VL K (rMax K) dMaxL := by
  intro F H xs ds c Q s h e q
  unfold dMaxL at e
  split at e
  · rename_i l
    obtain ⟨v, rfl, r⟩ := h.one'
    split at e
    · rename_i n ns hi
      cases e
      cases r with
      | @lst a ys _ a1 a2 =>
        have e := a2.intsd hi
        subst e
        refine ⟨a, n :: ns, rfl, SqL.of (s _ _ a1), by simp, fun m hm hall => ?_⟩
        obtain ⟨h1, h2⟩ := foldMax ns n
        rw [show m = ns.foldl (fun a y => if a < y then y else a) n from Int.le_antisymm (h2 m hm) (hall _ h1)]
        exact q _ H F (Ext.refl s) (.int _)
    · cases e
  · cases e
theorem l_minL : VL K (rMin K) dMinL := by
  intro F H xs ds c Q s h e q
  unfold dMinL at e
  split at e
  · rename_i l
    obtain ⟨v, rfl, r⟩ := h.one'
    split at e
    · rename_i n ns hi
      cases e
      cases r with
      | @lst a ys _ a1 a2 =>
        have e := a2.intsd hi
        subst e
        refine ⟨a, n :: ns, rfl, SqL.of (s _ _ a1), by simp, fun m hm hall => ?_⟩
        obtain ⟨h1, h2⟩ := foldMin ns n
        rw [show m = ns.foldl (fun a y => if y < a then y else a) n from Int.le_antisymm (hall _ h1) (h2 m hm)]
        exact q _ H F (Ext.refl s) (.int _)
    · cases e
  · cases e
end
/-- the first place, texts or whole numbers -/
def placeS (x : Str) : List Str → Nat → Option Nat
  | [], _ => none
  | y :: r, i => if y == x then some i else placeS x r (i + 1)
def dIndex (d e : D) : Option D := match d, e with
  | .list l, .str x => (strsD l).bind fun ys => (placeS x ys 0).map fun j => .int (j : Nat)
  | _, _ => none
theorem placeS_at : ∀ (ys : List Str) (x : Str) (i j : Nat), placeS x ys i = some j → ∃ k, j = i + k ∧ (∃ y, ys[k]? = some y ∧ (y == x) = true) ∧ ∀ m y, m < k → ys[m]? = some y → (y == x) = false
  | [], _, _, _, h => by cases h
  | y :: r, x, i, j, h => by
    unfold placeS at h
    by_cases q : (y == x) = true
    · rw [if_pos q] at h
      cases h
      exact ⟨0, rfl, ⟨y, rfl, q⟩, fun m y hm => absurd hm (Nat.not_lt_zero _)⟩
    · rw [if_neg q] at h
      obtain ⟨k, h1, ⟨z, h2, h3⟩, h4⟩ := placeS_at r x (i + 1) j h
      refine ⟨k + 1, by omega, ⟨z, by simpa using h2, h3⟩, fun m w hm hw => ?_⟩
      cases m with
      | zero =>
        have e : y = w := by simpa using hw
        subst e
        exact Bool.eq_false_iff.mpr q
      | succ m => exact h4 m w (by omega) (by simpa using hw)
theorem flat_strs (ys : List Str) : (ys.map V.str).all flatV = true := by
  induction ys with
  | nil => rfl
  | cons y r ih => rw [List.map_cons, List.all_cons, ih]; rfl
section
variable {X : Cx} {C : Ct} {f f' : FE} {o e : Expr} {apos pos : Pos}
def fIndex (f f' : FE) : FE := fun env => (f env).bind fun d => match d with
  | .list l => (f' env).bind fun e => Rs.ofO (dIndex (.list l) e)
  | _ => .no
theorem ve_index (ho : VE X C o f) (he : VE X C e f') (hbase : attributeBase o "index" X.env (eval o X.env) = eval o X.env := by rfl) (hline : (apos.endLine == pos.line) = true := by rfl) (hs : starEach [e] X.env = (false, eval e X.env) :: starEach [] X.env := by rfl)
    (hfew : ((backTo pos (starEach [e] X.env)).all (fun x => !x.1) && (backToKw pos (keywordEach [] X.env)).all (fun x => x.1.isSome)
      && decide ([e].length + ([] : List Keyword).length + (if ([] : List Keyword).isEmpty then 0 else 1) < 30)) = true := by rfl) (hplain : (backTo pos (starEach [] X.env)).any (·.1) = false := by rfl) :
    VE X C (.Call (.Attribute o "index" apos) [e] [] pos) (fIndex f f') := PE.of (pe_bm PySem.F.plainAttrs_list PySem.F.slot_list_index PySem.F.type_list_index mt_index ho (va_cons he va_nil hs) hbase hfew hline hs hplain) fun σ H Q ⟨F, env, re, q⟩ =>
  ⟨F, env, re, Sat.bind RD.mono q fun d v F1 H1 x1 r1 q1 => by
    cases d with
    | list l =>
      cases r1 with
      | @lst a ys _ a1 a2 =>
        refine ⟨.inl ⟨rfl, ys, SqL.of ((re.go x1).same _ _ a1)⟩, F1, env, re.go x1, ?_⟩
        have q1 : Sat X.mg C (RD X.K) ((f' env).bind fun e => Rs.ofO (dIndex (.list l) e)) σ F1 H1 Q := q1
        unfold aCons aNil
        cases hf : f' env with
        | er c n => rw [hf] at q1; exact q1
        | no => rw [hf] at q1; exact q1
        | ok e =>
          rw [hf] at q1
          have q1 : Sat X.mg C (RD X.K) (Rs.ofO (dIndex (.list l) e)) σ F1 H1 Q := q1
          intro vs H2 F2 x2 r2
          obtain ⟨c, hc, q2⟩ := Sat.ofO (Sat.go RD.mono q1 x2)
          have s2 := ((re.go x1).go x2).same
          obtain ⟨w, rfl, rw'⟩ := RpAll.one' r2
          cases e with
          | str x =>
            cases rw'
            simp only [dIndex] at hc
            cases hb : strsD l with
            | none => rw [hb] at hc; cases hc
            | some zs =>
              rw [hb] at hc
              have hc : (placeS x zs 0).map (fun j : Nat => (PyData.int (j : Nat))) = some c := hc
              cases hp : placeS x zs 0 with
              | none => rw [hp] at hc; cases hc
              | some j =>
                rw [hp] at hc
                cases hc
                have e := a2.strsd hb
                subst e
                obtain ⟨k, k1, ⟨z, k2, k3⟩, k4⟩ := placeS_at zs x 0 j hp
                rw [Nat.zero_add] at k1
                subst k1
                refine ⟨a, _, .str x, j, .str z, rfl, rfl, SqL.of (s2 _ _ (x2.f _ _ a1)), rfl, flat_strs zs, by rw [List.getElem?_map, k2]; rfl, k3, fun m z' hm hz => ?_, q2 _ H2 F2 (Ext.refl s2) (.int _)⟩
                rw [List.getElem?_map] at hz
                cases hz' : zs[m]? with
                | none => rw [hz'] at hz; cases hz
                | some w => rw [hz'] at hz; cases hz; exact k4 m w hm hz'
          | _ => cases hc
    | _ => exact q1.elim⟩
end
end PD

/-! Part 10: the script; the ends -/
namespace PD
open PySem PySem.Spec PyProof.Rows L2

section
variable {X : Cx} {C : Ct} {f : FE} {b : Expr} {x : Str} {pos p1 p2 : Pos}
/-- script[k] -/
def fScrIx (i : Nat) (f : FE) : FE := fun env => match env[i]? with
  | some (.scr ns) => (f env).bind fun d => match d with
    | .int k => Rs.ofO ((atI ns k).map PyData.int)
    | _ => .no
  | _ => .no
theorem REnv.scr {K : PySem.W.Frag} {F H : Hp} {σ : L2.St} {env : List Sl} {i : Nat} {ns : List Int} (re : REnv K C F σ H env) (h : env[i]? = some (.scr ns)) : ∃ a, σ[i]? = some (some (.ref a)) ∧ SqL K H a (ns.map V.int) := by
  obtain ⟨a, h1, h2⟩ := re.get i _ h
  exact ⟨a, h1, Same.sql re.ext.h h2⟩
theorem atI_map {α β : Type} (g : α → β) (xs : List α) (i : Int) : atI (xs.map g) i = (atI xs i).map g := by
  unfold atI
  rw [List.length_map]
  cases ixN xs.length i with
  | none => rfl
  | some j => exact List.getElem?_map
theorem ve_scrIx (i : Nat) (hb : VE X C b f) (hN : X.N[i]? = some x := by rfl) (hv : Vis X.env.scope x := by first | exact Or.inl rfl | exact Or.inr (Or.inl rfl) | exact Or.inr (Or.inr rfl)) (hd : (x == ("__debug__" : Str)) = false := by decide)
    (hcd : (x == ("__classdict__" : Str)) = false := by decide) (hs : PlainIx b := by intro _ _; rfl) : VE X C (.Subscript (.Name x p1) b pos) (fScrIx i f) := PE.of (pe_ix ix_list (pe_var hN hv hd hcd) hb hs) fun σ H Q ⟨F, env, re, q⟩ => by
  unfold fScrIx at q
  split at q
  · rename_i ns e1
    obtain ⟨a, h1, h2⟩ := re.scr e1
    refine ⟨.ref a, h1, F, env, re, Sat.bind RD.mono q fun d v F1 H1 x1 r1 q1 => ?_⟩
    cases d with
    | int k =>
      cases r1
      obtain ⟨c, hc, q2⟩ := Sat.ofO q1
      cases ha : atI ns k with
      | none => rw [ha] at hc; cases hc
      | some m =>
        rw [ha] at hc
        cases hc
        exact ⟨a, _, k, .int m, rfl, rfl, Same.sql x1.h h2, by rw [atI_map, ha]; rfl, q2 _ H1 F1 (Ext.refl (re.go x1).same) (.int _)⟩
    | _ => exact q1.elim
  · exact q.elim
/-- len(script) -/
def fScrLen (i : Nat) : FE := fun env => match env[i]? with
  | some (.scr ns) => .ok (.int (ns.length : Nat))
  | _ => .no
theorem ve_scrLen (i : Nat) (hg : Gl X "len") (hm : X.mg "len" = none) (hN : X.N[i]? = some x := by rfl) (hv : Vis X.env.scope x := by first | exact Or.inl rfl | exact Or.inr (Or.inl rfl) | exact Or.inr (Or.inr rfl)) (hd : (x == ("__debug__" : Str)) = false := by decide)
    (hcd : (x == ("__classdict__" : Str)) = false := by decide) (he : starEach [.Name x p2] X.env = (false, eval (.Name x p2) X.env) :: starEach [] X.env := by rfl) (hpl : (backTo pos (starEach [] X.env)).any (·.1) = false := by rfl) :
    VE X C (.Call (.Name "len" p1) [.Name x p2] [] pos) (fScrLen i) := PE.of (pe_callB (call_len) hg hm rfl (pa_cons (pe_var hN hv hd hcd) pa_nil he) (by decide) (by decide) he hpl) fun σ H Q ⟨F, env, re, q⟩ => by
  unfold fScrLen at q
  split at q
  · rename_i ns e1
    obtain ⟨a, h1, h2⟩ := re.scr e1
    refine ⟨.ref a, h1, .ref a, ns.length, rfl, .inl ⟨_, h2, by rw [List.length_map]⟩, q _ H F (Ext.refl re.same) (.int _)⟩
  · exact q.elim
/-- a def of the script -/
def spScr (K : PySem.W.Frag) (mg : Str → Option Value) (Fn : List Int → Rs D) : Sp := fun vs H Q E => ∃ G a ns, Same G H ∧ vs = [.ref a] ∧ SqL K H a (ns.map V.int) ∧ Sat mg ⟨G, H, fun _ => E⟩ (RN K) (Fn ns) [] G H Q
def fScrCall (i : Nat) (Fn : List Int → Rs D) : FE := fun env => match env[i]? with
  | some (.scr ns) => Fn ns
  | _ => .no
theorem vn_callScr {Fn : List Int → Rs D} {CX : CXT} {k : Nat} {f : Addr} {fd : FuncData} {ps : List Str} {g : Str} (i : Nat) (F : FnG X.prog X.w X.K X.mg X.base CX k f fd ps (spScr X.K X.mg Fn)) (am : Am X) (hr : Room k X.A) (hg : Gl X g) (hm : X.mg g = some (.ref f)) (hk : PySem.W.keepIn X.K (.ref f) = true) (hb : Binds X.K fd ps []) (hx : ∀ σ, PassesAt CX X σ (C.E σ))
    (hN : X.N[i]? = some x := by rfl) (hv : Vis X.env.scope x := by first | exact Or.inl rfl | exact Or.inr (Or.inl rfl) | exact Or.inr (Or.inr rfl)) (hd : (x == ("__debug__" : Str)) = false := by decide)
    (hcd : (x == ("__classdict__" : Str)) = false := by decide) (hdb : (g == ("__debug__" : Str)) = false := by decide) (he : starEach [.Name x p2] X.env = (false, eval (.Name x p2) X.env) :: starEach [] X.env := by rfl) (hpl : (backTo pos (starEach [] X.env)).any (·.1) = false := by rfl) :
    VN X C (.Call (.Name g p1) [.Name x p2] [] pos) (fScrCall i Fn) := PE.of (pe_callG F am.g hr hg hm hk hb hx (pa_cons (pe_var hN hv hd hcd) pa_nil he) hdb he hpl) fun σ H Q ⟨F, env, re, q⟩ => by
  unfold fScrCall at q
  split at q
  · rename_i ns e1
    obtain ⟨a, h1, h2⟩ := re.scr e1
    exact ⟨.ref a, h1, F, a, ns, re.same, rfl, h2, Sat.call q⟩
  · exact q.elim
end

section
variable {P : Program} {w : World} {K : PySem.W.Frag} {mg : Str → Option Value} {base : Heap}
def envS (m : Nat) (ns : List Int) : List Sl := .scr ns :: List.replicate (m - 1) .un
def dfnS (m : Nat) (g : FS) : List Int → Rs D := fun ns => (outN (g (envS m ns))).quiet
theorem renvS {G H : Hp} {E : L2.St → XK} {a : Addr} {ns : List Int} {N : List Str} (s : Same G H) (h : SqL K H a (ns.map V.int)) (hl : 1 ≤ N.length) : REnv K ⟨G, H, E⟩ G (L2.start N [.ref a]) H (envS N.length ns) := by
  refine ⟨Ext.refl s, ?_, fun i t e => ?_, fun i j l m _ e _ => ?_⟩
  · unfold L2.start envS
    simp only [List.length_append, List.length_map, List.length_replicate, List.length_cons, List.length_nil]
    omega
  · cases i with
    | zero =>
      have e : Sl.scr ns = t := by simpa [envS] using e
      subst e
      exact ⟨a, rfl, h⟩
    | succ i =>
      unfold envS at e
      rw [List.getElem?_cons_succ, List.getElem?_replicate] at e
      split at e
      · cases e; trivial
      · cases e
  · cases i with
    | zero => have e : Sl.scr ns = .own l := by simpa [envS] using e
              cases e
    | succ i =>
      unfold envS at e
      rw [List.getElem?_cons_succ, List.getElem?_replicate] at e
      split at e
      · cases e
      · cases e
/-- a def of the script that hands back a new list -/
theorem defScr {x qual : Str} {st : Stmt} {f : Addr} {fd : FuncData} {N : List Str} {p : Str} {k : Nat} {g : FS} (F : Fun K x qual st f fd) (S : FnScope N [p] (defScope st)) (hl : 1 ≤ N.length)
    (hb : ∀ (cdv : Value) (A : Around) (outer : List Env) (s : Shared) (H G : Hp), Am (cxOf CX0 P w K mg base N qual (defScope st) f cdv A outer s H E0).nox → Room k (cxOf CX0 P w K mg base N qual (defScope st) f cdv A outer s H E0).nox.A →
      VSs (cxOf CX0 P w K mg base N qual (defScope st) f cdv A outer s H E0).nox ⟨G, H, fun _ => E0⟩ (defBody st) g) : FnG P w K mg base CX0 (k + 1) f fd [p] (spScr K mg (dfnS N.length g)) := by
  obtain ⟨oc, od, kV, doc, pm, an, cdv, ct, osl, rfl, lk, hcd⟩ := F.ex
  refine fn_ofG lk hcd S (fun vs H Q E h => ?_) fun A outer s H vs Q E hg hr h => ?_
  · obtain ⟨G, a, ns, _, h2, _⟩ := h
    rw [h2]; rfl
  · obtain ⟨G, a, ns, s1, h2, h3, q⟩ := h
    subst h2
    have hb' := hb cdv A outer s H G ⟨hg, hr.mono (Nat.zero_le _), rfl, S.nd⟩ hr
    exact ⟨_, PSs.nox hb', G, _, renvS s1 h3 hl, satSN_of s1 (sat_quiet q)⟩
/-- the law: True of every script -/
def spLaw (K : PySem.W.Frag) : Sp := fun vs H Q _ => ∃ (a : Addr) (ns : List Int), vs = [.ref a] ∧ SqL K H a (ns.map V.int) ∧ ns.length ≤ 63 ∧ ∀ H', Q (.bl true) H'
def isTrueOut : Out → Bool
  | .rt (.bool true) => true
  | _ => false
theorem defLaw {x qual : Str} {st : Stmt} {f : Addr} {fd : FuncData} {N : List Str} {p : Str} {k : Nat} {g : FS} (F : Fun K x qual st f fd) (S : FnScope N [p] (defScope st)) (hl : 1 ≤ N.length)
    (hb : ∀ (cdv : Value) (A : Around) (outer : List Env) (s : Shared) (H G : Hp), Am (cxOf CX0 P w K mg base N qual (defScope st) f cdv A outer s H E0).nox → Room k (cxOf CX0 P w K mg base N qual (defScope st) f cdv A outer s H E0).nox.A →
      VSs (cxOf CX0 P w K mg base N qual (defScope st) f cdv A outer s H E0).nox ⟨G, H, fun _ => E0⟩ (defBody st) g)
    (plain : ∀ ns : List Int, ns.length ≤ 63 → isTrueOut (g (envS N.length ns)) = true) : FnG P w K mg base CX0 (k + 1) f fd [p] (spLaw K) := by
  obtain ⟨oc, od, kV, doc, pm, an, cdv, ct, osl, rfl, lk, hcd⟩ := F.ex
  refine fn_ofG lk hcd S (fun vs H Q E h => ?_) fun A outer s H vs Q E hg hr h => ?_
  · obtain ⟨a, ns, h2, _⟩ := h
    rw [h2]; rfl
  · obtain ⟨a, ns, h2, h3, h4, q⟩ := h
    subst h2
    have hb' := hb cdv A outer s H (fun _ => none) ⟨hg, hr.mono (Nat.zero_le _), rfl, S.nd⟩ hr
    refine ⟨_, PSs.nox hb', fun _ => none, _, renvS (fun _ _ e => by cases e) h3 hl, ?_⟩
    have hp := plain ns h4
    cases ho : g (envS N.length ns) with
    | rt d =>
      rw [ho] at hp
      unfold isTrueOut at hp
      split at hp
      · rename_i e
        cases e
        intro v H' F' x r
        cases r
        exact q H'
      · cases hp
    | _ => rw [ho] at hp; cases hp
end
/-- the head: as HandS.Ends tells it, for FnG -/
theorem law_callG {P : Program} {w : World} {K : PySem.W.Frag} {mg mb : Str → Option Value} {CX : CXT} {k : Nat} {fa a : Addr} {fd : FuncData} {x : Str} {sp : Sp} {s₁ : Shared} {vs : List Value} {ns : List Int}
    (KX : K.In s₁.heap) (hns : s₁.heap.Ns mainGlobals mg) (hb : s₁.heap.Ns builtinsNs mb) (hbb : ∀ x : Str, x ≠ "__name__" → mb x = bootBuiltins x) (hlim : s₁.heap.NoLimit) (hg : s₁.gens = #[])
    (ha : s₁.heap.get? a = some { cls := .type "list", data := .seq vs.toArray }) (hi : IntsAre vs ns) (hl : ns.length ≤ sizeLine) (hr : Room k callerA)
    (F : ∀ base : Heap, K.In base → base.Ns mainGlobals mg → FnG P w K mg base CX k fa fd [x] sp) (hbind : ∀ (s : Shared) (u : Value), BindsTo s fd ⟨[u], []⟩ [(x, u)])
    (hsp : ∀ H : Hp, Only H → SqL K H a (ns.map V.int) → sp [.ref a] H (fun v _ => v = .bl true) fun _ _ _ => False)
    (hCX : ∀ H e s', CX [] H s₁ (fun _ _ _ => False) e s' → False) :
    codeAny (model P w) callerA (.call (.ref fa) ⟨[.ref a], []⟩) (fun r s' => r = .ok (.ret (.bool true)) ∧ OldK s₁.heap s'.heap ∧ s'.os = s₁.os ∧ AllBare s'.gens) s₁ := by
  have rv := vals_ints hi
  have lenV := hi.length
  have core : ∀ H : Hp, Only H → SqL K H a (ns.map V.int) → HOk P w H s₁.heap → (∀ b, H b ≠ none → b = a) → (H a ≠ none → K.lookup a = none) →
      codeAny (model P w) callerA (.call (.ref fa) ⟨[.ref a], []⟩) (fun r s' => r = .ok (.ret (.bool true)) ∧ OldK s₁.heap s'.heap ∧ s'.os = s₁.os ∧ AllBare s'.gens) s₁ := by
    intro H hO hS hok hA hK
    have base_of : ∀ {b : Addr} {o : Obj}, s₁.heap.get? b = some o → H b = none → (hidT s₁.heap H).get? b = some o := fun e n => hidT_get e n
    have noA : ∀ {b : Addr} {o : Obj} {es : Array DictEntry} {ep : Nat}, s₁.heap.get? b = some o → o.data = .dict es ep → H b = none := fun {b o es ep} e d => by
      cases q : H b with
      | none => rfl
      | some u =>
        have e' : b = a := hA b (by rw [q]; simp)
        subst e'
        rw [ha] at e; cases e
        have d' : Data.seq vs.toArray _ = Data.dict es ep := d
        cases d'
    have nsK : ∀ {b : Addr} {m : Str → Option Value}, s₁.heap.Ns b m → (hidT s₁.heap H).Ns b m := fun {b m} ⟨o, es, ep, e, d, r⟩ => ⟨o, es, ep, base_of e (noA e d), d, r⟩
    have hKb : K.In (hidT s₁.heap H) := fun b o e => base_of (KX b o e) (by
      cases q : H b with
      | none => rfl
      | some u =>
        have e' : b = a := hA b (by rw [q]; simp)
        subst e'
        rw [hK (by rw [q]; simp)] at e; cases e)
    have hM : Mod K mg (hidT s₁.heap H) := ⟨hKb, nsK hns, ⟨mb, nsK hb, hbb⟩, let ⟨mc, h1, h2⟩ := hlim; ⟨mc, nsK h1, h2⟩⟩
    have e0 : Env0 P w K mg (hidT s₁.heap H) callerA [] s₁ H := ⟨rfl, hM, fun b o e => of_hidT e, Nat.le_of_eq (hidT_size _ _), trivial, fun b hb => absurd (show b ∈ ([] : List Addr) from hb) (by simp), hok, .of_eq hg⟩
    refine codeAny_mono ((F _ hKb (nsK hns)).run callerA [] s₁ H ⟨[.ref a], []⟩ [.ref a] [.ref a] _ _ rfl hr e0 (hbind s₁ (.ref a)) (.cons rfl .nil) (hsp H hO hS)) fun r s' h => ?_
    cases r with
    | error e => exact (hCX H e s' h).elim
    | ok fl =>
      cases fl with
      | next => exact False.elim h
      | brk => exact False.elim h
      | cont => exact False.elim h
      | ret u =>
        obtain ⟨v, H', os, bare, un, hok', r', q⟩ := h
        have q' : v = .bl true := q
        subst q'
        obtain rfl : u = Value.bool true := r'
        refine ⟨rfl, OldK.of_keep fun b o e => ?_, os, bare⟩
        cases q : H b with
        | none => exact un.keep b o e q (by intro z; exact absurd (show b ∈ ([] : List Addr) from z) (by simp)) (by simp)
        | some u =>
          rcases hO b with z | ⟨ob, xs, z⟩
          · rw [q] at z; cases z
          · have z2 := un.frzs b ob _ z
            obtain ⟨e1, _⟩ := hok b _ z
            obtain ⟨e2, _⟩ := hok' b _ z2
            rw [e] at e1; cases e1
            exact e2
  cases hk : K.lookup a with
  | some o =>
    have e := KX a o hk
    rw [ha] at e
    cases e
    refine core (fun _ => none) (fun _ => .inl rfl) (.inr ⟨_, vs.toArray, _, hk, rfl, rfl, rfl, by rw [List.size_toArray, lenV]; exact hl, by simpa using rv⟩) (fun b u z => by have z' : (none : Option HO) = some u := z; cases z') (fun b z => absurd rfl z) fun z => absurd rfl z
  | none =>
    refine core (fun b => if b = a then some (.frz { cls := .type "list", data := .seq vs.toArray } (.lst (ns.map V.int))) else none) (fun b => ?_) (.inl (.inr ⟨{ cls := .type "list", data := .seq vs.toArray }, if_pos rfl⟩)) (fun b u z => ?_) (fun b z => ?_) fun _ => hk
    · by_cases hb : b = a
      · exact .inr ⟨_, _, if_pos hb⟩
      · exact .inl (if_neg hb)
    · by_cases hb : b = a
      · have z' := (if_pos hb).symm.trans z
        cases z'
        subst hb
        exact ⟨ha, by rw [List.length_map]; exact hl, vs, _, rv, ha⟩
      · have z' := (if_neg hb).symm.trans z
        cases z'
    · by_cases hb : b = a
      · exact hb
      · exact absurd (if_neg hb) z
theorem walkG {l : PySem.W.OpenLaw} {k : Nat} {q : Program} {loose : List Str} {XP : (Str → Option Value) → Heap → Prop} {YP : World → Heap → Prop} {d : DefRec} {K : Params → PySem.W.Frag}
    (hn : l.most = some 63) (hdf : d.params.defaults = []) (hr : Room k callerA)
    (hY : ∀ (w : World) (h : Heap), YP w h → (K w.params).In h)
    (F : ∀ (w : World) (mg : Str → Option Value) (fa : Addr) (h : Heap), (K w.params).In h → h.Ns mainGlobals mg → mg d.name = some (.ref fa) →
      ∃ fd : FuncData, (∀ (s : Shared) (u : Value), BindsTo s fd ⟨[u], []⟩ [("script", u)]) ∧
        ∀ base : Heap, (K w.params).In base → base.Ns mainGlobals mg → FnG l.prog w (K w.params) mg base CX0 k fa fd ["script"] (spLaw (K w.params))) :
    PySem.W.WalkO q loose XP YP l.row.toRowW d [] (fun f vs => PySem.call f vs) := by
  refine Att.attach_call hn hdf fun w s₀ s₁ mg mb fa o pm cd doc a vs ns G Y ho hd hcd hmg hobj hints hlen hg => ?_
  have KX := hY w _ Y
  obtain ⟨fd, hb, hF⟩ := F w mg fa _ KX G.T.g hmg
  exact law_callG KX G.T.g G.T.b G.T.builtins G.T.nolimit hg hobj hints (Nat.le_trans hlen (by decide)) hr hF hb (fun H hO hS => ⟨a, ns, rfl, hS, hlen, fun _ => rfl⟩) fun H e s' z => z
end PD

/-! Part 11: defs in bundles, for the printed derivations -/
namespace PD
open PySem PySem.Spec PyProof.Rows L2
abbrev CXo (P : Program) (w : World) (K : PySem.W.Frag) (mg : Str → Option Value) (base : Heap) (N : List Str) (qual : Str) (scope : Scope) (f : Addr) (cd : Value) (A : Around) (outer : List Env) (s : Shared) (H : Hp) : Cx := (cxOf CX0 P w K mg base N qual scope f cd A outer s H E0).nox
/-- the context of a body that raises nothing -/
abbrev Ct0 (G H : Hp) : Ct := ⟨G, H, fun _ => E0⟩
/-- a def as the top has left it -/
structure Def (K : PySem.W.Frag) (mg : Str → Option Value) (x : Str) (st : Stmt) (ps : List Str) : Prop where
  ex : ∃ f fd, Fun K x x st f fd ∧ mg x = some (.ref f) ∧ PySem.W.keepIn K (.ref f) = true ∧ ∀ us : List Value, us.length = ps.length → bindArgs fd ⟨us, []⟩ = pure (ps.zip us)
/-- a def with its promise -/
structure Cal (P : Program) (w : World) (K : PySem.W.Frag) (mg : Str → Option Value) (base : Heap) (k : Nat) (x : Str) (ps : List Str) (sp : Sp) : Prop where
  ex : ∃ f fd, FnG P w K mg base CX0 k f fd ps sp ∧ mg x = some (.ref f) ∧ PySem.W.keepIn K (.ref f) = true ∧ Binds K fd ps []
section
variable {P : Program} {w : World} {K : PySem.W.Frag} {mg : Str → Option Value} {base : Heap} {k : Nat} {x : Str} {ps N : List Str} {st : Stmt} {g : FS} {Fn : List D → Rs D}
theorem Cal.d (c : Cal P w K mg base k x ps (spN K mg Fn)) : Cal P w K mg base k x ps (spD K mg Fn) := let ⟨f, fd, F, r⟩ := c.ex; ⟨f, fd, F.d, r⟩
theorem Cal.mono {j : Nat} {sp : Sp} (c : Cal P w K mg base j x ps sp) (h : j ≤ k) : Cal P w K mg base k x ps sp := let ⟨f, fd, F, r⟩ := c.ex; ⟨f, fd, F.mono h, r⟩
theorem Def.d0 (d : Def K mg x st ps) (S : FnScope N ps (defScope st)) (hl : ps.length ≤ N.length)
    (hb : ∀ (f : Addr) (cdv : Value) (A : Around) (outer : List Env) (s : Shared) (H G : Hp), Am (CXo P w K mg base N x (defScope st) f cdv A outer s H) → Room k (CXo P w K mg base N x (defScope st) f cdv A outer s H).A →
      VSs (CXo P w K mg base N x (defScope st) f cdv A outer s H) (Ct0 G H) (defBody st) g) : Cal P w K mg base (k + 1) x ps (spD K mg (dfn0 N.length ps.length g)) :=
  let ⟨f, fd, F, h1, h2, h3⟩ := d.ex; ⟨f, fd, def0 F S hl fun cdv A outer s H G => hb f cdv A outer s H G, h1, h2, Binds.all h3⟩
theorem Def.d0N (d : Def K mg x st ps) (S : FnScope N ps (defScope st)) (hl : ps.length ≤ N.length)
    (hb : ∀ (f : Addr) (cdv : Value) (A : Around) (outer : List Env) (s : Shared) (H G : Hp), Am (CXo P w K mg base N x (defScope st) f cdv A outer s H) → Room k (CXo P w K mg base N x (defScope st) f cdv A outer s H).A →
      VSs (CXo P w K mg base N x (defScope st) f cdv A outer s H) (Ct0 G H) (defBody st) g) : Cal P w K mg base (k + 1) x ps (spN K mg (dfn0N N.length ps.length g)) :=
  let ⟨f, fd, F, h1, h2, h3⟩ := d.ex; ⟨f, fd, def0N F S hl fun cdv A outer s H G => hb f cdv A outer s H G, h1, h2, Binds.all h3⟩
theorem Def.scr {p : Str} (d : Def K mg x st [p]) (S : FnScope N [p] (defScope st)) (hl : 1 ≤ N.length)
    (hb : ∀ (f : Addr) (cdv : Value) (A : Around) (outer : List Env) (s : Shared) (H G : Hp), Am (CXo P w K mg base N x (defScope st) f cdv A outer s H) → Room k (CXo P w K mg base N x (defScope st) f cdv A outer s H).A →
      VSs (CXo P w K mg base N x (defScope st) f cdv A outer s H) (Ct0 G H) (defBody st) g) : Cal P w K mg base (k + 1) x [p] (spScr K mg (dfnS N.length g)) :=
  let ⟨f, fd, F, h1, h2, h3⟩ := d.ex; ⟨f, fd, defScr F S hl fun cdv A outer s H G => hb f cdv A outer s H G, h1, h2, Binds.all h3⟩
theorem fs (h1 : (defScope st).kind = .function) (h2 : (defScope st).isCoroutine = false) (h3 : (defScope st).isGenerator = false) (h4 : N.Nodup) (h5 : N.take ps.length = ps) (h6 : (ps.all fun x => (defScope st).names.lookup x == some .local || (defScope st).names.lookup x == some .cell) = true)
    (h7 : ((defScope st).names.all fun y => match y.2 with | .free => false | _ => true) = true) : FnScope N ps (defScope st) := by
  refine ⟨h1, h2, h3, h4, h5, fun x hx => ?_, fun y hy e => ?_⟩
  · have q := List.all_eq_true.mp h6 x hx
    have bq : ∀ (a b : Option NameKind), (a == b) = true → a = b := fun a b h => by
      cases a with
      | none => cases b with
        | none => rfl
        | some _ => cases h
      | some a => cases b with
        | none => cases h
        | some b => cases a <;> cases b <;> first | rfl | cases h
    rcases Bool.or_eq_true_iff.mp q with z | z
    · exact .inl (bq _ _ z)
    · exact .inr (bq _ _ z)
  · have q := List.all_eq_true.mp h7 y hy
    rw [e] at q
    cases q
end
section
variable {X : Cx} {C : Ct}
theorem Am.blk {s : Shared} {H : Hp} {scope : Scope} {ce : Env} {fp : List Addr} (am : Am X) : Am (X.blk s H scope ce fp) := ⟨am.g, am.r, am.c, am.n⟩
theorem pa0 {E : L2.St → XK} : ∀ σ, PassesAt CX0 X σ (E σ) := fun _ _ _ _ _ _ _ h => h.elim
variable {k : Nat} {x : Str} {ps : List Str} {Fn : List D → Rs D} {fa : FA} {e : Expr} {es : List Expr} {p pos : Pos} {j : Nat}
theorem ve_calC (c : Cal X.prog X.w X.K X.mg X.base j x ps (spD X.K X.mg Fn)) (am : Am X) (hr : Room k X.A) (ha : VA X C (e :: es) fa) (hj : j ≤ k := by first | decide | omega) (hg : Gl X x := by rfl)
    (hdb : (x == ("__debug__" : Str)) = false := by decide) (he : starEach (e :: es) X.env = (false, eval e X.env) :: starEach es X.env := by rfl) (hpl : (backTo pos (starEach es X.env)).any (·.1) = false := by rfl) :
    VE X C (.Call (.Name x p) (e :: es) [] pos) (fCall Fn fa) := let ⟨f, fd, F, hm, hk, hb⟩ := c.ex; ve_call F am (hr.mono hj) hg hm hk hb pa0 ha hdb he hpl
theorem vn_calC (c : Cal X.prog X.w X.K X.mg X.base j x ps (spN X.K X.mg Fn)) (am : Am X) (hr : Room k X.A) (ha : VA X C (e :: es) fa) (hj : j ≤ k := by first | decide | omega) (hg : Gl X x := by rfl)
    (hdb : (x == ("__debug__" : Str)) = false := by decide) (he : starEach (e :: es) X.env = (false, eval e X.env) :: starEach es X.env := by rfl) (hpl : (backTo pos (starEach es X.env)).any (·.1) = false := by rfl) :
    VN X C (.Call (.Name x p) (e :: es) [] pos) (fCall Fn fa) := let ⟨f, fd, F, hm, hk, hb⟩ := c.ex; vn_call F am (hr.mono hj) hg hm hk hb pa0 ha hdb he hpl
theorem vn_calS {Fn : List Int → Rs D} {y : Str} {p2 : Pos} (i : Nat) (c : Cal X.prog X.w X.K X.mg X.base j x ps (spScr X.K X.mg Fn)) (am : Am X) (hr : Room k X.A) (hj : j ≤ k := by first | decide | omega) (hg : Gl X x := by rfl) (hN : X.N[i]? = some y := by rfl) (hv : Vis X.env.scope y := by first | exact Or.inl rfl | exact Or.inr (Or.inl rfl) | exact Or.inr (Or.inr rfl)) (hd : (y == ("__debug__" : Str)) = false := by decide)
    (hcd : (y == ("__classdict__" : Str)) = false := by decide) (hdb : (x == ("__debug__" : Str)) = false := by decide) (he : starEach [.Name y p2] X.env = (false, eval (.Name y p2) X.env) :: starEach [] X.env := by rfl) (hpl : (backTo pos (starEach [] X.env)).any (·.1) = false := by rfl) :
    VN X C (.Call (.Name x p) [.Name y p2] [] pos) (fScrCall i Fn) := let ⟨f, fd, F, hm, hk, hb⟩ := c.ex; vn_callScr i F am (hr.mono hj) hg hm hk hb pa0 hN hv hd hcd hdb he hpl
/-- a tuple of the module -/
theorem tupG {K : PySem.W.Frag} {a : Addr} {od : Option Addr} {its : Array Value} {n : Nat} {sl : Array (Option Value)} {vs : List V} {ds : List D} (h : K.lookup a = some ⟨.type "tuple", od, .seq its n, sl⟩) (hv : Vals vs its.toList) (hl : vs.length ≤ LINE) (r : ∀ H, RpAll K H vs ds) (H : Hp) : Rp K H (.ref a) (.tuple ds) :=
  .tup (.inr ⟨_, its, n, h, rfl, rfl, by
    have e : vs.length = its.size := by rw [hv.length, Array.length_toList]
    rw [← e, line_eq]
    exact hl, hv⟩) (r H)
end
/-- a constant of the module -/
structure GlobV (K : PySem.W.Frag) (mg : Str → Option Value) (x : Str) (d : D) : Prop where
  ex : ∃ v u, mg x = some u ∧ L2.RelV v u ∧ ∀ H, Rp K H v d
theorem ve_globC {X : Cx} {C : Ct} {x : Str} {d : D} {pos : Pos} (h : GlobV X.K X.mg x d) (hg : Gl X x := by rfl) (hd : (x == ("__debug__" : Str)) = false := by decide) : VE X C (.Name x pos) (fC d) := let ⟨_, _, h1, h2, h3⟩ := h.ex; ve_glob hg h1 h2 h3 hd
theorem GlobV.int {K : PySem.W.Frag} {mg : Str → Option Value} {h : Heap} {x : Str} {i : Int} {t : Tok} (X : K.In h) (G : h.Ns mainGlobals mg) (e : PySem.W.nsIn K mainGlobals x = some (some (.int i t))) : GlobV K mg x (.int i) := ⟨.int i, _, PySem.W.mg_of X G e, ⟨t, rfl⟩, fun _ => .int i⟩
theorem GlobV.str {K : PySem.W.Frag} {mg : Str → Option Value} {h : Heap} {x : Str} {i : Str} {t : Tok} (X : K.In h) (G : h.Ns mainGlobals mg) (e : PySem.W.nsIn K mainGlobals x = some (some (.str i t))) : GlobV K mg x (.str i) := ⟨.str i, _, PySem.W.mg_of X G e, ⟨t, rfl⟩, fun _ => .str i⟩
theorem GlobV.tup {K : PySem.W.Frag} {mg : Str → Option Value} {h : Heap} {x : Str} {a : Addr} {od : Option Addr} {its : Array Value} {n : Nat} {sl : Array (Option Value)} {vs : List V} {ds : List D} (X : K.In h) (G : h.Ns mainGlobals mg) (e : PySem.W.nsIn K mainGlobals x = some (some (.ref a)))
    (l : K.lookup a = some ⟨.type "tuple", od, .seq its n, sl⟩) (hv : Vals vs its.toList) (hl : vs.length ≤ LINE) (r : ∀ H, RpAll K H vs ds) : GlobV K mg x (.tuple ds) := ⟨.ref a, _, PySem.W.mg_of X G e, rfl, tupG l hv hl r⟩
theorem Def.mk' {K : PySem.W.Frag} {mg : Str → Option Value} {h : Heap} {x : Str} {st : Stmt} {ps : List Str} {f : Addr} {od an : Option Addr} {oc kV dc pm cd ct : Value} {sl : Array (Option Value)} (X : K.In h) (G : h.Ns mainGlobals mg)
    (a : PySem.W.nsIn K mainGlobals x = some (some (.ref f))) (l : K.lookup f = some ⟨oc, od, .func (PySem.W.fnOf x x (defArgs st) (defBody st) (defScope st) .none kV dc pm an cd ct), sl⟩) (c : PySem.W.codeIn K cd x = true) (k : PySem.W.keepIn K (.ref f) = true)
    (hb : ∀ us : List Value, us.length = ps.length → bindArgs (PySem.W.fnOf x x (defArgs st) (defBody st) (defScope st) .none kV dc pm an cd ct) ⟨us, []⟩ = pure (ps.zip us)) : Def K mg x st ps :=
  ⟨f, _, fun_mk l c k, PySem.W.mg_of X G a, k, hb⟩
/-- what the head asks -/
theorem lawHead {P : Program} {w : World} {K : PySem.W.Frag} {mg : Str → Option Value} {k : Nat} {st : Stmt} {fa : Addr} (d : Def K mg "law" st ["script"]) (hfa : mg "law" = some (.ref fa))
    (h : ∀ (f : Addr) (fd : FuncData) (base : Heap), Fun K "law" "law" st f fd → FnG P w K mg base CX0 k f fd ["script"] (spLaw K)) :
    ∃ fd : FuncData, (∀ (s : Shared) (v : Value), BindsTo s fd ⟨[v], []⟩ [("script", v)]) ∧ ∀ base : Heap, K.In base → base.Ns mainGlobals mg → FnG P w K mg base CX0 k fa fd ["script"] (spLaw K) := by
  obtain ⟨f, fd, F, h1, h2, h3⟩ := d.ex
  have e := h1.symm.trans hfa
  cases e
  exact ⟨fd, fun s v => .of_eq (h3 [v] rfl), fun base _ _ => h _ fd base F⟩
end PD

/-! Part 12: the plain side: how mirrors are reckoned -/
namespace PD
open PySem PySem.Spec PyProof.Rows L2

/-! ### data told by a test -/
def okD (r : Rs D) (d : D) : Bool := match r with
  | .ok e => eqD e d
  | _ => false
theorem okD_eq {r : Rs D} {d : D} (h : okD r d = true) : r = .ok d := by
  unfold okD at h
  split at h
  · rw [eqD_eq _ _ h]
  · cases h
mutual
theorem eqD_refl : ∀ a : D, a.plain = true → eqD a a = true
  | .none, _ => rfl
  | .bool a, _ => by simp [eqD]
  | .int a, _ => by simp [eqD]
  | .str a, _ => by simp [eqD]
  | .list l, h => eqDs_refl l (by simpa [PyData.plain] using h)
  | .tuple l, h => eqDs_refl l (by simpa [PyData.plain] using h)
  | .dict _, h => by cases h
theorem eqDs_refl : ∀ as : List D, PyData.plainAll as = true → eqDs as as = true
  | [], _ => rfl
  | a :: as, h => by
    have h : (a.plain && PyData.plainAll as) = true := h
    rw [Bool.and_eq_true] at h
    show (eqD a a && eqDs as as) = true
    rw [eqD_refl a h.1, eqDs_refl as h.2]; rfl
end

/-! ### comparisons -/
section
variable (a b : Int) (x y : Str)
@[simp] theorem shal_int : shal (.int a) = true := by simp [shal, PyData.depth]
@[simp] theorem shal_bool (b : Bool) : shal (.bool b) = true := by simp [shal, PyData.depth]
@[simp] theorem shal_none : shal .none = true := by simp [shal, PyData.depth]
@[simp] theorem shal_s : shal (.str x) = true := by simp [shal, PyData.depth]
@[simp] theorem dLt_int : dLt (.int a) (.int b) = some (.bool (decide (a < b))) := by
  have : dLtC (.int a) (.int b) = true := by simp [dLtC, PySem.W.alike, notNone]
  simp only [dLt, this, if_true, PySem.W.dataLt_int]
@[simp] theorem dGt_int : dGt (.int a) (.int b) = some (.bool (decide (b < a))) := by
  have : dLtC (.int a) (.int b) = true := by simp [dLtC, PySem.W.alike, notNone]
  simp only [dGt, this, if_true, PySem.W.dataLt_int]
@[simp] theorem dLe_int : dLe (.int a) (.int b) = some (.bool (decide (a ≤ b))) := by
  have : dLtC (.int a) (.int b) = true := by simp [dLtC, PySem.W.alike, notNone]
  simp only [dLe, this, if_true, PySem.W.dataLt_int]
  by_cases h : a ≤ b
  · simp [h, Int.not_lt.mpr h]
  · simp [h, Int.not_le.mp h]
@[simp] theorem dGe_int : dGe (.int a) (.int b) = some (.bool (decide (b ≤ a))) := by
  have : dLtC (.int a) (.int b) = true := by simp [dLtC, PySem.W.alike, notNone]
  simp only [dGe, this, if_true, PySem.W.dataLt_int]
  by_cases h : b ≤ a
  · simp [h, Int.not_lt.mpr h]
  · simp [h, Int.not_le.mp h]
@[simp] theorem dEq_int : dEq (.int a) (.int b) = some (.bool (decide (a = b))) := by
  simp only [dEq, shal_int, Bool.or_self, if_true, PyData.eqv]
  rfl
@[simp] theorem dNe_int : dNe (.int a) (.int b) = some (.bool (!decide (a = b))) := by
  simp only [dNe, shal_int, Bool.or_self, if_true, PyData.eqv]
  rfl
@[simp] theorem dEq_str : dEq (.str x) (.str y) = some (.bool (x == y)) := by
  simp [dEq, PyData.eqv]
@[simp] theorem dNe_str : dNe (.str x) (.str y) = some (.bool (!(x == y))) := by
  simp [dNe, PyData.eqv]
end
@[simp] theorem intsD_map : ∀ l : List Int, intsD (l.map PyData.int) = some l
  | [] => rfl
  | a :: l => by simp [intsD, intsD_map l]
@[simp] theorem boolsD_map : ∀ l : List Bool, boolsD (l.map PyData.bool) = some l
  | [] => rfl
  | a :: l => by simp [boolsD, boolsD_map l]
@[simp] theorem strsD_map : ∀ l : List Str, strsD (l.map PyData.str) = some l
  | [] => rfl
  | a :: l => by simp [strsD, strsD_map l]

/-! ### loops -/
theorem loopF_inv {t : Tgt} {body : FS} {ds : List D} (I : Nat → List Sl → Prop) (h : ∀ (i : Nat) (env : List Sl) (d : D), ds[i]? = some d → I i env → ∃ e e', t.put d env = some e ∧ body e = .nx e' ∧ I (i + 1) e') :
    ∀ env, I 0 env → ∃ e', loopF t body ds env = .nx e' ∧ I ds.length e' := by
  have key : ∀ (n i : Nat) (env : List Sl), n + i = ds.length → I i env → ∃ e', loopF t body (ds.drop i) env = .nx e' ∧ I ds.length e' := by
    intro n
    induction n with
    | zero =>
      intro i env hn hi
      have e : i = ds.length := by omega
      subst e
      rw [List.drop_eq_nil_of_le (Nat.le_refl _)]
      exact ⟨env, rfl, hi⟩
    | succ n ih =>
      intro i env hn hi
      have hlt : i < ds.length := by omega
      obtain ⟨e, e', h1, h2, h3⟩ := h i env ds[i] (List.getElem?_eq_getElem hlt) hi
      obtain ⟨e2, h4, h5⟩ := ih (i + 1) e' (by omega) h3
      refine ⟨e2, ?_, h5⟩
      rw [List.drop_eq_getElem_cons hlt]
      simp only [loopF, h1, h2]
      exact h4
  intro env h0
  exact key ds.length 0 env rfl h0
/-- a comprehension whose turns all give something -/
theorem lcGo_map {t : Tgt} {tt : FB} {k : List Sl → Rs (List D)} {env : List Sl} (F : D → List D) : ∀ ds : List D, (∀ d ∈ ds, ∃ e b, t.put d env = some e ∧ tt e = .ok b ∧ (b = true → k e = .ok (F d)) ∧ (b = false → F d = [])) → lcGo t tt k env ds = .ok (ds.flatMap F)
  | [], _ => rfl
  | d :: ds, h => by
    obtain ⟨e, b, h1, h2, h3, h4⟩ := h d List.mem_cons_self
    have ih := lcGo_map (t := t) (tt := tt) (k := k) (env := env) F ds fun c hc => h c (List.mem_cons_of_mem _ hc)
    simp only [lcGo, h1, h2, Rs.bind_ok, List.flatMap_cons]
    cases b with
    | true => simp [h3 rfl, ih]
    | false => simp [h4 rfl, ih]
@[simp] theorem rng_eq (n : Nat) : (List.range n).length = n := List.length_range
theorem iRng1_n {n : Nat} (h : n ≤ 1000000) : iRng1D [.int (n : Int)] = some (rng 0 n) := by
  have hb : (n : Int).natAbs ≤ BIG := by unfold BIG; omega
  show (if (n : Int).natAbs ≤ BIG then some (rng 0 (n : Int).toNat) else none) = _
  rw [if_pos hb]; rfl
theorem iRng2_n {a b : Int} (ha : a.natAbs ≤ 1000000) (hb : b.natAbs ≤ 1000000) : iRng2D [.int a, .int b] = some (rng a (b - a).toNat) := by
  have hb : a.natAbs ≤ BIG ∧ b.natAbs ≤ BIG := ⟨by unfold BIG; omega, by unfold BIG; omega⟩
  show (if a.natAbs ≤ BIG ∧ b.natAbs ≤ BIG then some (rng a (b - a).toNat) else none) = _
  rw [if_pos hb]
def intL (l : List Int) : List D := l.map .int
theorem intL_snoc (l : List Int) (x : Int) : intL l ++ [PyData.int x] = intL (l ++ [x]) := by simp [intL]
theorem intL_len (l : List Int) : (intL l).length = l.length := by simp [intL]
theorem rng_get {lo : Int} {n i : Nat} {d : D} (h : (rng lo n)[i]? = some d) : i < n ∧ d = .int (lo + (i : Nat)) := by
  unfold rng at h
  rw [List.getElem?_map] at h
  by_cases q : i < n
  · rw [List.getElem?_range q] at h
    exact ⟨q, by simpa using h.symm⟩
  · rw [List.getElem?_eq_none (by simpa using q)] at h; cases h
theorem rng_len (lo : Int) (n : Nat) : (rng lo n).length = n := by simp [rng]
theorem d_add (a b : Int) : dAdd (.int a) (.int b) = some (.int (a + b)) := rfl
theorem d_int (a : Int) : dInt [.int a] = some (.int a) := rfl
theorem d_mod {a b : Int} (h : 0 < b) : dMod (.int a) (.int b) = some (.int (a % b)) := if_pos h
theorem d_div {a b : Int} (h : 0 < b ∧ b.natAbs < 1073741824) : dDiv (.int a) (.int b) = some (.int (a / b)) := if_pos h
theorem d_mulR {a b : Int} (h : b.natAbs < BIT64) : dMul (.int a) (.int b) = some (.int (a * b)) := if_pos (.inr h)
theorem d_mulL {a b : Int} (h : a.natAbs < BIT64) : dMul (.int a) (.int b) = some (.int (a * b)) := if_pos (.inl h)
theorem e_seq {g g' : FS} {e e' : List Sl} {o : Out} (h : g e = .nx e') (h' : g' e' = o) : sSeq g g' e = o := by unfold sSeq; rw [h]; exact h'
theorem e_if {c : FB} {g g' : FS} {e : List Sl} {b : Bool} {o : Out} (h : c e = .ok b) (h' : (if b = true then g e else g' e) = o) : sIf c g g' e = o := by unfold sIf; rw [h]; exact h'
theorem e_f2 {k : D → D → Option D} {f f' : FE} {e : List Sl} {a b c : D} (h : f e = .ok a) (h' : f' e = .ok b) (hk : k a b = some c) : f2 k f f' e = .ok c := by unfold f2; rw [h]; show (f' e).bind _ = _; rw [h']; show Rs.ofO (k a b) = _; rw [hk]; rfl
theorem e_cb1 {k : List D → Option D} {f : FE} {e : List Sl} {a c : D} (h : f e = .ok a) (hk : k [a] = some c) : fCB k (aCons f aNil) e = .ok c := by unfold fCB aCons aNil; rw [h]; show Rs.ofO (k [a]) = _; rw [hk]; rfl
theorem e_cb2 {k : List D → Option D} {f f' : FE} {e : List Sl} {a b c : D} (h : f e = .ok a) (h' : f' e = .ok b) (hk : k [a, b] = some c) : fCB k (aCons f (aCons f' aNil)) e = .ok c := by
  unfold fCB aCons aNil; rw [h]; show (((f' e).bind _).bind _).bind _ = _; rw [h']; show Rs.ofO (k [a, b]) = _; rw [hk]; rfl
theorem e_B {f : FE} {e : List Sl} {b : Bool} (h : f e = .ok (.bool b)) : fB f e = .ok b := by unfold fB; rw [h]; rfl
theorem e_scrIx {f : FE} {e : List Sl} {ns : List Int} {k c : Int} (h0 : e[0]? = some (.scr ns)) (h : f e = .ok (.int k)) (ha : atI ns k = some c) : fScrIx 0 f e = .ok (.int c) := by
  unfold fScrIx; rw [h0]; show (f e).bind _ = _; rw [h]; show Rs.ofO _ = _; rw [ha]; rfl
theorem e_setN {i : Nat} {f : FE} {e e' : List Sl} {l : List D} (h : f e = .ok (.list l)) (h' : e.set i (.own l) = e') : sSetN i f e = .nx e' := by unfold sSetN; rw [h]; show Out.nx (e.set i (.own l)) = _; rw [h']
theorem e_set {i : Nat} {f : FE} {e e' : List Sl} {d : D} (h : f e = .ok d) (h' : e.set i (.sh d) = e') : sSet i f e = .nx e' := by unfold sSet; rw [h]; show Out.nx (e.set i (.sh d)) = _; rw [h']
theorem e_setF {i : Nat} {f : FE} {e e' : List Sl} {l : List D} (h : f e = .ok (.list l)) (h' : e.set i (.sh (.list l)) = e') : sSetF i f e = .nx e' := by unfold sSetF; rw [h]; show Out.nx (e.set i (.sh (.list l))) = _; rw [h']
theorem e_var {i : Nat} {e : List Sl} {d : D} (h : e[i]? = some (.sh d)) : fVar i e = .ok d := by unfold fVar; rw [h]
theorem e_call {Fn : List D → Rs D} {fa : FA} {e : List Sl} {ds : List D} {d : D} (h : fa e = .ok ds) (h' : Fn ds = .ok d) : fCall Fn fa e = .ok d := by unfold fCall; rw [h]; exact h'
theorem e_nil {e : List Sl} : aNil e = .ok [] := rfl
theorem e_cons {f : FE} {fa : FA} {e : List Sl} {d : D} {ds : List D} (h : f e = .ok d) (h' : fa e = .ok ds) : aCons f fa e = .ok (d :: ds) := by unfold aCons; rw [h]; show (fa e).bind _ = _; rw [h']; rfl
theorem e_cb {k : List D → Option D} {fa : FA} {e : List Sl} {ds : List D} {c : D} (h : fa e = .ok ds) (hk : k ds = some c) : fCB k fa e = .ok c := by unfold fCB; rw [h]; show Rs.ofO (k ds) = _; rw [hk]; rfl
theorem e_lst {fa : FA} {e : List Sl} {ds : List D} (h : fa e = .ok ds) (hl : ds.length ≤ LINE) : fLst fa e = .ok (.list ds) := by unfold fLst; rw [h]; exact if_pos hl
theorem e_tup {fa : FA} {e : List Sl} {ds : List D} (h : fa e = .ok ds) (hl : ds.length ≤ LINE) : fTup fa e = .ok (.tuple ds) := by unfold fTup; rw [h]; exact if_pos hl
theorem le_line {n : Nat} (h : n ≤ 1000000) : n ≤ LINE := Nat.le_trans h (by unfold LINE; omega)
theorem lt_line {n : Nat} (h : n ≤ 1000000) : n < LINE := Nat.lt_of_le_of_lt h (by unfold LINE; omega)
theorem e_lst0 {e : List Sl} : fLst aNil e = .ok (.list []) := e_lst e_nil (le_line (Nat.zero_le _))
theorem e_fIf {g : FB} {f f' : FE} {e : List Sl} {b : Bool} {r : Rs D} (h : g e = .ok b) (h' : (if b = true then f e else f' e) = r) : fIf g f f' e = r := by unfold fIf; rw [h]; exact h'
theorem e_or {g g' : FB} {e : List Sl} {a b : Bool} (h : g e = .ok a) (h' : a = false → g' e = .ok b) : fOr g g' e = .ok (a || b) := by
  unfold fOr; rw [h]; cases a with
  | true => rfl
  | false => exact h' rfl
theorem e_and {g g' : FB} {e : List Sl} {a b : Bool} (h : g e = .ok a) (h' : a = true → g' e = .ok b) : fAnd g g' e = .ok (a && b) := by
  unfold fAnd; rw [h]; cases a with
  | false => rfl
  | true => exact h' rfl
theorem e_not {g : FB} {e : List Sl} {a : Bool} (h : g e = .ok a) : fNot g e = .ok (!a) := by unfold fNot; rw [h]; rfl
theorem e_tru {f : FE} {e : List Sl} {d : D} {b : Bool} (h : f e = .ok d) (h' : truD d = some b) : fTru f e = .ok b := by unfold fTru; rw [h]; show Rs.ofO (truD d) = _; rw [h']; rfl
theorem e_th {g : FB} {e e' : List Sl} {r : Rs Bool} (he : thaw e = e') (h : g e' = r) : fThB g e = r := by unfold fThB; rw [he]; exact h
theorem e_asg {t : Tgt} {f : FE} {e e' : List Sl} {d : D} (h : f e = .ok d) (h' : t.put d e = some e') : sAsg t f e = .nx e' := by unfold sAsg; rw [h]; show (match t.put d e with | some e => Out.nx e | none => .no) = _; rw [h']
theorem e_drop {f : FE} {e : List Sl} {d : D} (h : f e = .ok d) : sDrop f e = .nx e := by unfold sDrop; rw [h]; rfl
theorem e_ret {f : FE} {e : List Sl} {d : D} (h : f e = .ok d) : sRet f e = .rt d := by unfold sRet; rw [h]; rfl
theorem e_retN {f : FE} {e : List Sl} {d : D} (h : f e = .ok d) : sRetN f e = .rn d := by unfold sRetN; rw [h]; rfl
theorem e_retO {i : Nat} {e : List Sl} {l : List D} (h : e[i]? = some (.own l)) : sRetO i e = .rn (.list l) := by unfold sRetO; rw [h]
theorem e_for {t : Tgt} {gi : FA} {g : FS} {e : List Sl} {ds : List D} {o : Out} (h : gi e = .ok ds) (h' : loopF t g ds e = o) : sFor t gi g e = o := by unfold sFor; rw [h]; exact h'
theorem e_appI {i : Nat} {f : FE} {e e' : List Sl} {l : List D} {d : D} (h0 : e[i]? = some (.own l)) (h : f e = .ok d) (hl : l.length < LINE) (h' : e.set i (.own (l ++ [d])) = e') : sApp i f e = .nx e' := by
  unfold sApp; rw [h0]; show bindO (f e) _ = _; rw [h]; show (if l.length < LINE then Out.nx (e.set i (.own (l ++ [d]))) else .no) = _; rw [if_pos hl, h']
theorem e_par {i j : Nat} {ma mb : FM} {e e' : List Sl} {a b : Mv} (h : ma e = .ok a) (h' : mb e = .ok b) (h2 : (e.set i a.sl).set j b.sl = e') : sPar i j ma mb e = .nx e' := by unfold sPar; rw [h]; show bindO (mb e) _ = _; rw [h']; show Out.nx _ = _; rw [h2]
theorem e_mS {f : FE} {e : List Sl} {d : D} (h : f e = .ok d) : mS f e = .ok (.s d) := by unfold mS; rw [h]; rfl
theorem e_mN {f : FE} {e : List Sl} {l : List D} (h : f e = .ok (.list l)) : mN f e = .ok (.n l) := by unfold mN; rw [h]; rfl
theorem e_iSeq {f : FE} {e : List Sl} {d : D} {ds : List D} (h : f e = .ok d) (h' : seqD d = some ds) : iSeq f e = .ok ds := by unfold iSeq; rw [h]; show Rs.ofO _ = _; rw [h']; rfl
theorem e_rng1 {f : FE} {e : List Sl} {n : Nat} (h : f e = .ok (.int n)) (hn : n ≤ 1000000) : iRng1F (aCons f aNil) e = .ok (rng 0 n) := by
  unfold iRng1F; rw [e_cons h e_nil, Rs.bind_ok, iRng1_n hn]; rfl
theorem e_lc {gi : FA} {t : Tgt} {tt : FB} {f : FE} {vs : List Nat} {e : List Sl} {ds out : List D} (h : gi e = .ok ds) (h' : lcGo t tt (one f) (wipeE e vs) ds = .ok out) (hl : out.length ≤ LINE) : fLc gi t tt f vs e = .ok (.list out) := by
  unfold fLc; rw [h]; show ((lcGo t tt (one f) (wipeE e vs) ds).quiet.bind _) = _; rw [h']; exact if_pos hl
theorem e_one {f : FE} {e : List Sl} {d : D} (h : f e = .ok d) : one f e = .ok [d] := by unfold one; rw [h]; rfl
/-- the result of a def that raises nothing -/
theorem d_fn {m n : Nat} {g : FS} {ds : List D} {d : D} {e : List Sl} (hn : ds.length = n) (he : env0 m ds = e) (h : g e = .rt d) : dfn0 m n g ds = .ok d := by unfold dfn0; rw [if_pos hn, he, h]; rfl
theorem d_fnR {m n : Nat} {g : FS} {ds : List D} {d : D} {e : List Sl} (hn : ds.length = n) (he : env0 m ds = e) (h : g e = .rn d) : dfn0 m n g ds = .ok d := by unfold dfn0; rw [if_pos hn, he, h]; rfl
theorem d_fnX {m n : Nat} {g : FS} {ds : List D} {e e' : List Sl} (hn : ds.length = n) (he : env0 m ds = e) (h : g e = .nx e') : dfn0 m n g ds = .ok .none := by unfold dfn0; rw [if_pos hn, he, h]; rfl
theorem d_fnN {m n : Nat} {g : FS} {ds : List D} {d : D} {e : List Sl} (hn : ds.length = n) (he : env0 m ds = e) (h : g e = .rn d) : dfn0N m n g ds = .ok d := by unfold dfn0N; rw [if_pos hn, he, h]; rfl
theorem e_lcC {t : Tgt} {tt : FB} {k : List Sl → Rs (List D)} {env e : List Sl} {d : D} {ds ys r : List D} (h : t.put d env = some e) (ht : tt e = .ok true) (hk : k e = .ok ys) (hr : lcGo t tt k env ds = .ok r) : lcGo t tt k env (d :: ds) = .ok (ys ++ r) := by
  simp only [lcGo, h, ht, Rs.bind_ok, if_true, hk, hr]
theorem e_lcS {t : Tgt} {tt : FB} {k : List Sl → Rs (List D)} {env e : List Sl} {d : D} {ds r : List D} (h : t.put d env = some e) (ht : tt e = .ok false) (hr : lcGo t tt k env ds = .ok r) : lcGo t tt k env (d :: ds) = .ok r := by
  simp only [lcGo, h, ht, Rs.bind_ok, Bool.false_eq_true, if_false, hr]
theorem e_loopC {t : Tgt} {body : FS} {d : D} {ds : List D} {env e e' : List Sl} {o : Out} (h : t.put d env = some e) (hb : body e = .nx e') (hr : loopF t body ds e' = o) : loopF t body (d :: ds) env = o := by
  simp only [loopF, h, hb, hr]
theorem e_loopR {t : Tgt} {body : FS} {d v : D} {ds : List D} {env e : List Sl} (h : t.put d env = some e) (hb : body e = .rt v) : loopF t body (d :: ds) env = .rt v := by
  simp only [loopF, h, hb]
theorem e_seqR {g g' : FS} {e : List Sl} {d : D} (h : g e = .rt d) : sSeq g g' e = .rt d := by unfold sSeq; rw [h]; rfl
theorem e_ixO {i : Nat} {f : FE} {e : List Sl} {l : List D} {d c : D} (h0 : e[i]? = some (.own l)) (h : f e = .ok d) (hk : dIx (.list l) d = some c) : fIxO i f e = .ok c := by
  unfold fIxO; rw [h0]; show (f e).bind _ = _; rw [h]; show Rs.ofO _ = _; rw [hk]; rfl
def okI (r : Rs D) (i : Int) : Bool := match r with
  | .ok (.int j) => decide (i = j)
  | _ => false
theorem okI_eq {r : Rs D} {i : Int} (h : okI r i = true) : r = .ok (.int i) := by
  unfold okI at h
  split at h
  · rw [of_decide_eq_true h]
  · cases h
def okO (r : Option D) (d : D) : Bool := match r with
  | some e => eqD e d
  | none => false
theorem okO_eq {r : Option D} {d : D} (h : okO r d = true) : r = some d := by
  unfold okO at h
  split at h
  · rw [eqD_eq _ _ h]
  · cases h
theorem e_f1 {k : D → Option D} {f : FE} {e : List Sl} {a c : D} (h : f e = .ok a) (hk : k a = some c) : f1 k f e = .ok c := by unfold f1; rw [h]; show Rs.ofO (k a) = _; rw [hk]; rfl
theorem d_neg (a : Int) : dNeg (.int a) = some (.int (-a)) := rfl
theorem d_ix {l : List D} {i : Int} {c : D} (h : atI l i = some c) : dIx (.list l) (.int i) = some c := h
theorem e_c {d : D} {e : List Sl} : fC d e = .ok d := rfl
theorem e_f3 {k k' : D → D → Option D} {f f' f'' : FE} {e : List Sl} {a b c m : D} {t : Bool} (h : f e = .ok a) (h' : f' e = .ok b) (hk : k a b = some (.bool t)) (ht : t = true) (h'' : f'' e = .ok c) (hk' : k' b c = some m) : f3 k k' f f' f'' e = .ok m := by
  subst ht
  unfold f3
  rw [h, Rs.bind_ok, h', Rs.bind_ok, hk]
  show (f'' e).bind _ = _
  rw [h'']
  show Rs.ofO (k' b c) = _
  rw [hk']; rfl
theorem d_sub (a b : Int) : dSub (.int a) (.int b) = some (.int (a - b)) := rfl
theorem e_rng2 {f f' : FE} {e : List Sl} {a b : Int} (h : f e = .ok (.int a)) (h' : f' e = .ok (.int b)) (ha : a.natAbs ≤ 1000000) (hb : b.natAbs ≤ 1000000) : iRng2F (aCons f (aCons f' aNil)) e = .ok (rng a (b - a).toNat) := by
  unfold iRng2F; rw [e_cons h (e_cons h' e_nil), Rs.bind_ok, iRng2_n ha hb]; rfl
mutual
theorem eqv_self : ∀ d : D, d.plain = true → PyData.eqv d d = true
  | .none, _ => rfl
  | .bool b, _ => by simp [PyData.eqv]
  | .int i, _ => by simp [PyData.eqv]
  | .str x, _ => by simp [PyData.eqv]
  | .list l, h => eqvAll_self l (by simpa [PyData.plain] using h)
  | .tuple l, h => eqvAll_self l (by simpa [PyData.plain] using h)
  | .dict _, h => by cases h
theorem eqvAll_self : ∀ l : List D, PyData.plainAll l = true → PyData.eqvAll l l = true
  | [], _ => rfl
  | d :: l, h => by
    have h : (d.plain && PyData.plainAll l) = true := h
    rw [Bool.and_eq_true] at h
    show (PyData.eqv d d && PyData.eqvAll l l) = true
    rw [eqv_self d h.1, eqvAll_self l h.2]; rfl
end
/-- data of small weight: depth k, weight w -/
structure Small (k w : Nat) (d : D) : Prop where
  l : rleaf d = true
  w : d.weight ≤ w
  k : d.depth ≤ k
  p : d.plain = true
theorem Small.int {i : Int} (h : i.natAbs < 1000000) : Small 0 20 (.int i) := by
  refine ⟨by simp only [rleaf]; exact decide_eq_true (by omega), ?_, Nat.le_refl _, rfl⟩
  show (if (i == 0) = true then 0 else i.natAbs.log2 + 1) ≤ 20
  split
  · omega
  · rename_i z
    have hz : i.natAbs ≠ 0 := fun e => z (by have : i = 0 := by omega
                                             rw [this]; rfl)
    have := (Nat.log2_lt hz (k := 20)).mpr (by omega)
    omega
theorem Small.none : Small 0 0 .none := ⟨rfl, Nat.le_refl _, Nat.le_refl _, rfl⟩
theorem Small.bool {b : Bool} : Small 0 0 (.bool b) := ⟨rfl, Nat.le_refl _, Nat.le_refl _, rfl⟩
theorem Small.str {l : List Nat} (h : ∀ c ∈ l, c < 4294967296) : Small 0 l.length (.str ⟨l.toArray⟩) := by
  refine ⟨?_, ?_, Nat.le_refl _, rfl⟩
  · show (l.toArray.toList.all fun c => decide (c < 4294967296)) = true
    rw [List.toList_toArray, List.all_eq_true]
    exact fun c hc => decide_eq_true (h c hc)
  · show l.toArray.size ≤ l.length
    simp
theorem Small.mono {k k' w w' : Nat} {d : D} (h : Small k w d) (hk : k ≤ k') (hw : w ≤ w') : Small k' w' d := ⟨h.l, Nat.le_trans h.w hw, Nat.le_trans h.k hk, h.p⟩
theorem small_all {k w : Nat} : ∀ {l : List D}, (∀ d ∈ l, Small k w d) → rleafAll l = true ∧ PyData.weightAll l ≤ (w + 1) * l.length ∧ PyData.depthAll l ≤ k ∧ PyData.plainAll l = true
  | [], _ => ⟨rfl, Nat.zero_le _, Nat.zero_le _, rfl⟩
  | d :: l, h => by
    obtain ⟨a1, a2, a3, a4⟩ := h d List.mem_cons_self
    obtain ⟨b1, b2, b3, b4⟩ := small_all (l := l) fun e he => h e (List.mem_cons_of_mem _ he)
    refine ⟨?_, ?_, ?_, ?_⟩
    · show (rleaf d && rleafAll l) = true
      rw [a1, b1]; rfl
    · show d.weight + 1 + PyData.weightAll l ≤ (w + 1) * (l.length + 1)
      rw [Nat.mul_succ]; omega
    · show max d.depth (PyData.depthAll l) ≤ k
      omega
    · show (d.plain && PyData.plainAll l) = true
      rw [a4, b4]; rfl
theorem Small.list {k w n : Nat} {l : List D} (h : ∀ d ∈ l, Small k w d) (hn : l.length ≤ n) : Small (k + 1) ((w + 1) * n) (.list l) := by
  obtain ⟨b1, b2, b3, b4⟩ := small_all h
  refine ⟨b1, ?_, Nat.succ_le_succ b3, by simpa [PyData.plain] using b4⟩
  exact Nat.le_trans b2 (Nat.mul_le_mul (Nat.le_refl _) hn)
theorem Small.tup {k w n : Nat} {l : List D} (h : ∀ d ∈ l, Small k w d) (hn : l.length ≤ n) : Small (k + 1) ((w + 1) * n) (.tuple l) := by
  obtain ⟨b1, b2, b3, b4⟩ := small_all h
  refine ⟨b1, ?_, Nat.succ_le_succ b3, by simpa [PyData.plain] using b4⟩
  exact Nat.le_trans b2 (Nat.mul_le_mul (Nat.le_refl _) hn)
theorem Small.repr {k w : Nat} {d : D} (h : Small k w d) (hk : k ≤ 64) (hw : w ≤ 1048576) : reprOk d = true := by
  unfold reprOk shal
  rw [h.l, decide_eq_true (Nat.le_trans h.w hw), decide_eq_true (Nat.le_trans h.k hk)]; rfl
theorem Small.shal {k w : Nat} {d : D} (h : Small k w d) (hk : k ≤ 64) : PD.shal d = true := decide_eq_true (Nat.le_trans h.k hk)
theorem Small.ne {k w : Nat} {d : D} (h : Small k w d) (hk : k ≤ 64) : dNe d d = some (.bool false) := by
  unfold dNe; rw [h.shal hk, Bool.or_self, if_pos rfl, eqv_self d h.p]; rfl
theorem Small.eq {k w : Nat} {d : D} (h : Small k w d) (hk : k ≤ 64) : dEq d d = some (.bool true) := by
  unfold dEq; rw [h.shal hk, Bool.or_self, if_pos rfl, eqv_self d h.p]
theorem e_RNe {k w : Nat} {f f' : FE} {e : List Sl} {d : D} (s : Small k w d) (hk : k ≤ 64) (hw : w ≤ 1048576) (h : f e = .ok d) (h' : f' e = .ok d) : fRNe f f' e = .ok false := by
  unfold fRNe; rw [h, Rs.bind_ok, if_pos (s.repr hk hw), h', Rs.bind_ok, if_pos (eqD_refl d s.p)]
theorem e_REq {k w : Nat} {f f' : FE} {e : List Sl} {d : D} (s : Small k w d) (hk : k ≤ 64) (hw : w ≤ 1048576) (h : f e = .ok d) (h' : f' e = .ok d) : fREq f f' e = .ok true := by
  unfold fREq; rw [h, Rs.bind_ok, if_pos (s.repr hk hw), h', Rs.bind_ok, if_pos (eqD_refl d s.p)]
theorem e_scal {f : FE} {e e' : List Sl} {d : D} (he : thaw e = e') (h : f e' = .ok d) (hs : scalD d = true) : fScal f e = .ok d := by
  unfold fScal; rw [he, h, Rs.bind_ok, if_pos hs]
def th1 : Sl → Sl
  | .own l => .sh (.list l)
  | s => s
theorem thaw_map : ∀ e : List Sl, thaw e = e.map th1
  | [] => rfl
  | .own l :: r => congrArg (_ :: ·) (thaw_map r)
  | .un :: r => congrArg (_ :: ·) (thaw_map r)
  | .sh d :: r => congrArg (_ :: ·) (thaw_map r)
  | .scr d :: r => congrArg (_ :: ·) (thaw_map r)
theorem e_thM {g : FB} {e : List Sl} {r : Rs Bool} (h : g (e.map th1) = r) : fThB g e = r := by unfold fThB; rw [thaw_map]; exact h
theorem e_scalM {f : FE} {e : List Sl} {d : D} (h : f (e.map th1) = .ok d) (hs : scalD d = true) : fScal f e = .ok d := e_scal (thaw_map e) h hs
end PD

/-! Part 13: sorted; defs that call themselves; more of owned lists -/
namespace PD
open PySem PySem.Spec PyProof.Rows L2

/-! ### sorting by insertion -/
section
variable {α : Type} (le : α → α → Bool)
def insG (x : α) : List α → List α
  | [] => [x]
  | y :: r => if le x y = true then x :: y :: r else y :: insG x r
def isort : List α → List α
  | [] => []
  | x :: l => insG le x (isort l)
variable {le}
theorem insG_mem {x z : α} : ∀ {l : List α}, z ∈ insG le x l ↔ z = x ∨ z ∈ l
  | [] => by simp [insG]
  | y :: r => by
    unfold insG
    split
    · simp
    · rw [List.mem_cons, insG_mem, List.mem_cons]
      constructor
      · rintro (h | h | h)
        · exact .inr (.inl h)
        · exact .inl h
        · exact .inr (.inr h)
      · rintro (h | h | h)
        · exact .inr (.inl h)
        · exact .inl h
        · exact .inr (.inr h)
theorem insG_sorted (h : PySem.W.TotalLe le) {x : α} : ∀ {l : List α}, l.Pairwise (fun a b => le a b = true) → (insG le x l).Pairwise fun a b => le a b = true
  | [], _ => by simp [insG]
  | y :: r, hp => by
    unfold insG
    rw [List.pairwise_cons] at hp
    split
    · rename_i hx
      refine List.pairwise_cons.mpr ⟨fun z hz => ?_, List.pairwise_cons.mpr hp⟩
      rcases List.mem_cons.mp hz with e | e
      · rw [e]; exact hx
      · exact h.trans _ _ _ hx (hp.1 z e)
    · rename_i hx
      refine List.pairwise_cons.mpr ⟨fun z hz => ?_, insG_sorted h hp.2⟩
      rcases insG_mem.mp hz with e | e
      · rw [e]
        rcases h.total y x with t | t
        · exact t
        · exact absurd t hx
      · exact hp.1 z e
theorem isort_sorted (h : PySem.W.TotalLe le) : ∀ l : List α, (isort le l).Pairwise fun a b => le a b = true
  | [] => List.Pairwise.nil
  | x :: l => insG_sorted h (isort_sorted h l)
theorem insG_filter (h : PySem.W.TotalLe le) (c x : α) : ∀ l : List α, (insG le x l).filter (PySem.W.sameRank le c) = (x :: l).filter (PySem.W.sameRank le c)
  | [] => rfl
  | y :: r => by
    unfold insG
    split
    · rfl
    · rename_i hx
      have ih := insG_filter h c x r
      cases hsx : PySem.W.sameRank le c x with
      | true =>
        have hy : ¬ PySem.W.sameRank le c y = true := fun hy => by
          unfold PySem.W.sameRank at hsx hy
          rw [Bool.and_eq_true] at hsx hy
          exact hx (h.trans _ _ _ hsx.2 hy.1)
        rw [List.filter_cons_of_neg hy, ih, List.filter_cons_of_pos hsx, List.filter_cons_of_pos hsx, List.filter_cons_of_neg hy]
      | false =>
        have hsx' : ¬ PySem.W.sameRank le c x = true := by rw [hsx]; exact Bool.false_ne_true
        rw [List.filter_cons_of_neg hsx'] at ih ⊢
        by_cases hy : PySem.W.sameRank le c y = true
        · rw [List.filter_cons_of_pos hy, List.filter_cons_of_pos hy, ih]
        · rw [List.filter_cons_of_neg hy, List.filter_cons_of_neg hy, ih]
theorem isort_filter (h : PySem.W.TotalLe le) (c : α) : ∀ l : List α, (isort le l).filter (PySem.W.sameRank le c) = l.filter (PySem.W.sameRank le c)
  | [] => rfl
  | x :: l => by
    show (insG le x (isort le l)).filter _ = _
    rw [insG_filter h c x]
    by_cases hx : PySem.W.sameRank le c x = true
    · rw [List.filter_cons_of_pos hx, List.filter_cons_of_pos hx, isort_filter h c l]
    · rw [List.filter_cons_of_neg hx, List.filter_cons_of_neg hx, isort_filter h c l]
theorem isort_merge (h : PySem.W.TotalLe le) (l : List α) : isort le l = l.mergeSort le := PySem.W.sort_unique h (isort_sorted h l) fun c => isort_filter h c l
theorem insG_len (x : α) : ∀ l : List α, (insG le x l).length = l.length + 1
  | [] => rfl
  | y :: r => by
    unfold insG
    split
    · rfl
    · rw [List.length_cons, insG_len x r, List.length_cons]
theorem isort_len : ∀ l : List α, (isort le l).length = l.length
  | [] => rfl
  | x :: l => by
    show (insG le x (isort le l)).length = _
    rw [insG_len, isort_len l, List.length_cons]
theorem insG_map {β : Type} {le' : β → β → Bool} (f : α → β) (h : ∀ a b, le a b = le' (f a) (f b)) (x : α) : ∀ l : List α, (insG le x l).map f = insG le' (f x) (l.map f)
  | [] => rfl
  | y :: r => by
    by_cases hx : le x y = true
    · have hx' : le' (f x) (f y) = true := by rw [← h]; exact hx
      simp only [insG, List.map_cons, hx, hx', if_true]
    · have hx' : ¬ le' (f x) (f y) = true := by rw [← h]; exact hx
      simp only [insG, List.map_cons, if_neg hx, if_neg hx']
      rw [insG_map f h x r]
theorem isort_map {β : Type} {le' : β → β → Bool} (f : α → β) (h : ∀ a b, le a b = le' (f a) (f b)) : ∀ l : List α, (isort le l).map f = isort le' (l.map f)
  | [] => rfl
  | x :: l => by
    show (insG le x (isort le l)).map f = insG le' (f x) (isort le' (l.map f))
    rw [insG_map f h, isort_map f h l]
theorem isort_mem {z : α} : ∀ {l : List α}, z ∈ isort le l ↔ z ∈ l
  | [] => Iff.rfl
  | x :: l => by
    show z ∈ insG le x (isort le l) ↔ _
    rw [insG_mem, isort_mem, List.mem_cons]
end
def leD (x y : D) : Bool := !PySem.W.dataLt y x
def sortD (l : List D) : List D := isort leD l
def isTup1 : D → Bool
  | .tuple (_ :: _) => true
  | _ => false
def notTN : D → Bool
  | .tuple _ => false
  | .none => false
  | _ => true
def sortOk (l : List D) : Bool := (l.all fun x => l.all fun y => PySem.W.alike x y) && (l.all isTup1 || l.all notTN) && decide (l.length ≤ LINE) && l.all shal
def dSorted : List D → Option D
  | [.list l] => if sortOk l = true then some (.list (sortD l)) else none
  | _ => none
theorem leD_total : PySem.W.TotalLe leD := PySem.W.sortLe_total (PyProof.Rows.listOrd PyProof.Rows.itemOrd) false PySem.W.keyToks
def rSortD (K : PySem.W.Frag) : List V → Hp → VK → Prop := fun xs H Q => ∃ F a vs ds, Same F H ∧ xs = [.ref a] ∧ F a = some (.lst vs) ∧ RpAll K F vs ds ∧ sortOk ds = true ∧
  ∀ p ws, H p = none → RpAll K F ws (sortD ds) → Q (.ref p) (upd H p (.lst ws))
theorem vals_each {K : PySem.W.Frag} {F : Hp} : ∀ {vs : List V} {us : List Value} {ds : List D}, Vals vs us → RpAll K F vs ds → PySem.W.EachIs (fun (u : Value) (b : D × V) => RelV b.2 u ∧ Rp K F b.2 b.1) us (ds.zip vs)
  | _, _, _, .nil, h => by cases h; exact .nil
  | _, _, _, .cons r t, h => by
    cases h with
    | cons a b => exact .cons ⟨r, a⟩ (vals_each t b)
theorem each_vals {K : PySem.W.Frag} {F : Hp} : ∀ {us : List Value} {bs : List (D × V)}, PySem.W.EachIs (fun (u : Value) (b : D × V) => RelV b.2 u ∧ Rp K F b.2 b.1) us bs → Vals (bs.map Prod.snd) us ∧ RpAll K F (bs.map Prod.snd) (bs.map Prod.fst)
  | _, _, .nil => ⟨.nil, .nil⟩
  | _, _, .cons h t => let ⟨a, b⟩ := each_vals t; ⟨.cons h.1 a, .cons h.2 b⟩
theorem zip_fst {K : PySem.W.Frag} {F : Hp} : ∀ {vs : List V} {ds : List D}, RpAll K F vs ds → (ds.zip vs).map Prod.fst = ds
  | _, _, .nil => rfl
  | _, _, .cons a b => by rw [List.zip_cons_cons, List.map_cons, zip_fst b]
theorem call_sortedD {X : Cx} (am : Am X) : CallR X (.builtin "sorted") (rSortD X.K) := by
  intro pins s σ H xs us Q I r ⟨F, a, vs, ds, sf, ex, ha, hd, ok, q⟩
  subst ex
  obtain ⟨its, rv, hl, _⟩ := I.list (SqL.of (sf _ _ ha))
  rw [Vals.ref1 r]
  unfold sortOk at ok
  simp only [Bool.and_eq_true, decide_eq_true_eq] at ok
  obtain ⟨⟨⟨o1, o2⟩, o3⟩, o4⟩ := ok
  have hfst := zip_fst hd
  have hal : PySem.W.AllAlike ((ds.zip vs).map Prod.fst) := by
    rw [hfst]
    exact fun d h1 d' h2 => List.all_eq_true.mp (List.all_eq_true.mp o1 d h1) d' h2
  have hk : PySem.W.Sortable ((ds.zip vs).map Prod.fst) := by
    rw [hfst]
    rcases Bool.or_eq_true_iff.mp o2 with z | z
    · refine .inl fun d h1 => ?_
      have := List.all_eq_true.mp z d h1
      unfold isTup1 at this
      split at this
      · exact ⟨_, _, rfl⟩
      · cases this
    · refine .inr fun d h1 => ?_
      have := List.all_eq_true.mp z d h1
      exact ⟨fun e => (by rw [e] at this; cases this), fun xs e => (by rw [e] at this; cases this)⟩
  have hlen : (ds.zip vs).length = ds.length := by rw [← List.length_map (f := Prod.fst), hfst]
  have hu := am.u
  have e := vals_each rv hd
  have er : PySem.W.EachIs (fun (u : Value) (b : D × V) => ∃ as, Reads s.heap u b.1 as) its (ds.zip vs) := e.mono fun u b h => h.2.reads I sf h.1
  refine PySem.W.sorted_data (enc := Prod.fst) hl.isList e er hal hk (by rw [hlen, line_eq]; exact o3) (fun b hb => ?_) fun out ho hout => ?_
  · have hm : b.1 ∈ ds := by rw [← hfst]; exact List.mem_map.mpr ⟨b, hb, rfl⟩
    have := of_decide_eq_true (p := b.1.depth ≤ 64) (List.all_eq_true.mp o4 _ hm)
    omega
  · obtain ⟨g1, g2⟩ := each_vals hout
    have hs : ((ds.zip vs).mergeSort (PySem.W.dataLe false Prod.fst)).map Prod.fst = sortD ds := by
      unfold sortD
      rw [isort_merge leD_total, PySem.W.sort_maps (r := PySem.W.dataLe false Prod.fst) (s := leD) Prod.fst (fun a _ b _ => rfl), hfst]
    rw [hs] at g2
    obtain ⟨ep, he'⟩ := PyProof.Rows.sortedAll_at s.heap its out.toArray
    refine ⟨.ref _, upd H (s.heap.objs.size + 1) (.lst _), I.laid (t' := s.toks) (fun _ _ => PyProof.Rows.sortedAll_old) (Nat.le_succ _) ⟨?_, out, ep, g1, he'⟩, rfl, q _ _ (I.hok.fresh (Nat.le_succ _)) g2⟩
    rw [g2.length]
    unfold sortD
    rw [isort_len, line_eq]
    exact o3
section
variable {K : PySem.W.Frag}
theorem l_sortedN : VLN K (rSortD K) dSorted := by
  intro F H xs ds c Q s h e q
  unfold dSorted at e
  split at e
  · split at e
    · rename_i ok
      cases e
      obtain ⟨v, rfl, r⟩ := h.one'
      cases r with
      | @lst a ys _ a1 a2 => exact ⟨F, a, ys, _, s, rfl, a1, a2, ok, fun p ws hp hw => q _ _ _ (Ext.laid s hp) ⟨p, _, _, rfl, rfl, upd_same, s.free hp, hp, hw⟩⟩
    · cases e
  · cases e
theorem l_sorted : VL K (rSortD K) dSorted := by
  intro F H xs ds c Q s h e q
  unfold dSorted at e
  split at e
  · split at e
    · rename_i ok
      cases e
      obtain ⟨v, rfl, r⟩ := h.one'
      cases r with
      | @lst a ys _ a1 a2 => exact ⟨F, a, ys, _, s, rfl, a1, a2, ok, fun p ws hp hw => q _ _ _ (Ext.new s hp) (.lst upd_same (RpAll.mono (same_upd (s.free hp)) _ _ hw))⟩
    · cases e
  · cases e
end
end PD

/-! Part 14: starred displays; extend, remove, item store of owned lists; defs that call themselves; sets of ints, sets of tuples -/
namespace PD
open PySem PySem.Spec PyProof.Rows L2

/-! ### *e in a display -/
def aStar (f : FE) (fa : FA) : FA := fun env => (f env).bind fun d => match d with
  | .list l => (fa env).bind fun ds => .ok (l ++ ds)
  | .tuple l => (fa env).bind fun ds => .ok (l ++ ds)
  | _ => .no
section
variable {X : Cx} {C : Ct} {f : FE} {fa : FA} {e : Expr} {es : List Expr} {p : Pos}
theorem va_star (h : VE X C e f) (h' : VA X C es fa) (hs : starEach (.Starred e p :: es) X.env = (true, eval e X.env) :: starEach es X.env := by rfl) : VA X C (.Starred e p :: es) (aStar f fa) := PA.of (StX.pa_star h h' hs) fun σ H Q ⟨F, env, re, q⟩ =>
  ⟨F, env, re, Sat.bind RDs.mono q fun d v F1 H1 x1 r1 q1 => by
    cases d with
    | list l =>
      cases r1 with
      | @lst a xs _ a1 a2 =>
        have q1 : Sat X.mg C (RDs X.K) ((fa env).bind fun ds => .ok (l ++ ds)) σ F1 H1 Q := q1
        refine ⟨a, xs, rfl, .inr (SqL.of ((re.go x1).same _ _ a1)), F1, env, re.go x1, Sat.bind RDs.mono q1 fun ds vs F2 H2 x2 r2 q2 => ?_⟩
        exact q2 (xs ++ vs) H2 F2 (Ext.refl (re.go (x1.trans x2)).same) ((RpAll.mono x2.f _ _ a2).append r2)
    | tuple l =>
      cases r1 with
      | @tup a xs _ a1 a2 =>
        have q1 : Sat X.mg C (RDs X.K) ((fa env).bind fun ds => .ok (l ++ ds)) σ F1 H1 Q := q1
        refine ⟨a, xs, rfl, .inl (Same.sqt (re.go x1).same a1), F1, env, re.go x1, Sat.bind RDs.mono q1 fun ds vs F2 H2 x2 r2 q2 => ?_⟩
        exact q2 (xs ++ vs) H2 F2 (Ext.refl (re.go (x1.trans x2)).same) ((RpAll.mono x2.f _ _ a2).append r2)
    | _ => exact q1.elim⟩
end

/-! ### owned lists: extend, remove, store -/
def sExt (i : Nat) (f : FE) : FS := fun env => match env[i]? with
  | some (.own l) => bindO (f env) fun d => match d with
    | .list m => if l.length + m.length ≤ LINE then .nx (env.set i (.own (l ++ m))) else .no
    | _ => .no
  | _ => .no
def sRem (i : Nat) (f : FE) : FS := fun env => match env[i]? with
  | some (.own l) => bindO (f env) fun d => match d with
    | .int k => match intsD l with
      | some ns => if k ∈ ns then .nx (env.set i (.own ((ns.erase k).map PyData.int))) else .no
      | none => .no
    | _ => .no
  | _ => .no
def sPut (i : Nat) (fv fi : FE) : FS := fun env => match env[i]? with
  | some (.own l) => bindO (fv env) fun v => bindO (fi env) fun d => match d with
    | .int k => match ixN l.length k with
      | some j => .nx (env.set i (.own (l.set j v)))
      | none => .no
    | _ => .no
  | _ => .no
theorem rem_at {k : Int} : ∀ {ns : List Int}, k ∈ ns → ∃ j : Nat, ns[j]? = some k ∧ (∀ m : Nat, m < j → ns[m]? ≠ some k) ∧ ns.eraseIdx j = ns.erase k
  | [], h => by cases h
  | a :: r, h => by
    by_cases e : a = k
    · subst e
      exact ⟨0, rfl, fun m hm => by omega, by simp⟩
    · have h' : k ∈ r := by
        rcases List.mem_cons.mp h with z | z
        · exact absurd z.symm e
        · exact z
      obtain ⟨j, h1, h2, h3⟩ := rem_at h'
      refine ⟨j + 1, by simpa using h1, fun m hm => ?_, ?_⟩
      · cases m with
        | zero => intro z; exact e (by simpa using z)
        | succ m => intro z; exact h2 m (by omega) (by simpa using z)
      · rw [List.eraseIdx_cons_succ, h3, List.erase_cons_tail (by simpa using e)]
section
variable {X : Cx} {C : Ct} {e : Expr} {f : FE} {x : Str} {pos p1 p2 p3 : Pos}
theorem vs_extend (i : Nat) (h : VE X C e f) (hN : X.N[i]? = some x := by rfl) (hv : Vis X.env.scope x := by first | exact Or.inl rfl | exact Or.inr (Or.inl rfl) | exact Or.inr (Or.inr rfl)) (hd : (x == ("__debug__" : Str)) = false := by decide)
    (hcd : (x == ("__classdict__" : Str)) = false := by decide) (he : starEach [e] X.env = (false, eval e X.env) :: starEach [] X.env := by rfl)
    (ht : ∀ {to : TE} {t : TA}, PE X (.Name x p3) to → PA X [e] t → PE X (.Call (.Attribute (.Name x p3) "extend" p1) [e] [] p2) (tBM X.K "list" rExtend to t) := by
      intro to t ho ha; exact pe_bm PySem.F.plainAttrs_list PySem.F.slot_list_extend PySem.F.type_list_extend mt_extend ho ha)
    (hs : swapsWith (.Call (.Attribute (.Name x p3) "extend" p1) [e] [] p2) none pos.line X.env = pure false := by rfl) :
    VS X C (.Expr (.Call (.Attribute (.Name x p3) "extend" p1) [e] [] p2) pos) (sExt i f) := PS.of (ps_expr (ht (pe_var hN hv hd hcd) (pa_cons h pa_nil he)) hs) fun D σ H ⟨F, env, re, q⟩ => by
  unfold sExt at q
  split at q
  · rename_i l e1
    obtain ⟨a, xs, h1, h2, h3, h4, h5⟩ := re.own e1
    refine ⟨.ref a, h1, .inl ⟨rfl, _, SqL.of h2⟩, F, env, re, SatS.bind re q fun d v F1 H1 x1 r1 q1 => ?_⟩
    cases d with
    | list m =>
      have q1 : SatS X.K X.mg C (if l.length + m.length ≤ LINE then .nx (env.set i (.own (l ++ m))) else .no) F1 D := q1
      by_cases hl : l.length + m.length ≤ LINE
      · rw [if_pos hl] at q1
        obtain ⟨a', xs', g1, g2, g3, g4, g5⟩ := (re.go x1).own e1
        rw [h1] at g1; cases g1
        cases r1 with
        | @lst b zs _ b1 b2 =>
          refine ⟨a, b, xs', zs, rfl, rfl, g2, (re.go x1).same _ _ b1, by rw [g5.length, b2.length, line_eq]; exact hl, ?_⟩
          exact q1 σ _ F1 (Same.refl _) ((re.go x1).write e1 h1 g3 g4 (g5.append b2))
      · rw [if_neg hl] at q1; exact q1.elim
    | _ => exact q1.elim
  · exact q.elim
theorem vs_remove (i : Nat) (h : VE X C e f) (hN : X.N[i]? = some x := by rfl) (hv : Vis X.env.scope x := by first | exact Or.inl rfl | exact Or.inr (Or.inl rfl) | exact Or.inr (Or.inr rfl)) (hd : (x == ("__debug__" : Str)) = false := by decide)
    (hcd : (x == ("__classdict__" : Str)) = false := by decide) (he : starEach [e] X.env = (false, eval e X.env) :: starEach [] X.env := by rfl)
    (ht : ∀ {to : TE} {t : TA}, PE X (.Name x p3) to → PA X [e] t → PE X (.Call (.Attribute (.Name x p3) "remove" p1) [e] [] p2) (tBM X.K "list" rRemI to t) := by
      intro to t ho ha; exact pe_bm PySem.F.plainAttrs_list PySem.F.slot_list_remove PySem.F.type_list_remove mt_remove ho ha)
    (hs : swapsWith (.Call (.Attribute (.Name x p3) "remove" p1) [e] [] p2) none pos.line X.env = pure false := by rfl) :
    VS X C (.Expr (.Call (.Attribute (.Name x p3) "remove" p1) [e] [] p2) pos) (sRem i f) := PS.of (ps_expr (ht (pe_var hN hv hd hcd) (pa_cons h pa_nil he)) hs) fun D σ H ⟨F, env, re, q⟩ => by
  unfold sRem at q
  split at q
  · rename_i l e1
    obtain ⟨a, xs, h1, h2, h3, h4, h5⟩ := re.own e1
    refine ⟨.ref a, h1, .inl ⟨rfl, _, SqL.of h2⟩, F, env, re, SatS.bind re q fun d v F1 H1 x1 r1 q1 => ?_⟩
    cases d with
    | int k =>
      cases r1
      cases hi : intsD l with
      | none => simp only [hi] at q1; exact q1.elim
      | some ns =>
        simp only [hi] at q1
        by_cases hk : k ∈ ns
        · rw [if_pos hk] at q1
          obtain ⟨a', xs', g1, g2, g3, g4, g5⟩ := (re.go x1).own e1
          rw [h1] at g1; cases g1
          have ex := g5.intsd hi
          subst ex
          obtain ⟨j, j1, j2, j3⟩ := rem_at hk
          refine ⟨a, ns, k, j, rfl, rfl, g2, j1, j2, ?_⟩
          refine q1 σ _ F1 (Same.refl _) ((re.go x1).write e1 h1 g3 g4 ?_)
          rw [j3]
          have : ∀ l : List Int, RpAll X.K F1 (l.map V.int) (l.map PyData.int) := fun l => by
            induction l with
            | nil => exact .nil
            | cons b r ih => exact .cons (.int _) ih
          exact this _
        · rw [if_neg hk] at q1; exact q1.elim
    | _ => exact q1.elim
  · exact q.elim
variable {fv fi : FE} {v i' : Expr}
theorem vs_put (i : Nat) (h : VE X C v fv) (h' : VE X C i' fi) (hN : X.N[i]? = some x := by rfl) (hv : Vis X.env.scope x := by first | exact Or.inl rfl | exact Or.inr (Or.inl rfl) | exact Or.inr (Or.inr rfl)) (hd : (x == ("__debug__" : Str)) = false := by decide)
    (hcd : (x == ("__classdict__" : Str)) = false := by decide)
    (ht : ∀ {to ti : TE} {te : TE}, PE X v te → PE X (.Name x p1) to → PE X i' ti → PS X (.Assign [.Subscript (.Name x p1) i' p2] v pos) (tAsg te (gSub to ti rSetL)) := by
      intro to ti te he ho hi; exact ps_asg he (pg_sub ho hi set_list)) :
    VS X C (.Assign [.Subscript (.Name x p1) i' p2] v pos) (sPut i fv fi) := PS.of (ht h (pe_var hN hv hd hcd) h') fun D σ H ⟨F, env, re, q⟩ => by
  unfold sPut at q
  split at q
  · rename_i l e1
    refine ⟨F, env, re, SatS.bind re q fun d y F1 H1 x1 r1 q1 => ?_⟩
    obtain ⟨a, xs, h1, h2, h3, h4, h5⟩ := (re.go x1).own e1
    refine ⟨.ref a, h1, F1, env, re.go x1, SatS.bind (re.go x1) q1 fun k z F2 H2 x2 r2 q2 => ?_⟩
    cases k with
    | int k =>
      cases r2
      cases hj : ixN l.length k with
      | none => simp only [hj] at q2; exact q2.elim
      | some j =>
        simp only [hj] at q2
        obtain ⟨a', xs', g1, g2, g3, g4, g5⟩ := ((re.go x1).go x2).own e1
        rw [h1] at g1; cases g1
        refine ⟨a, xs', k, j, rfl, rfl, g2, by rw [g5.length]; exact hj, ?_⟩
        exact q2 σ _ F2 (Same.refl _) (((re.go x1).go x2).write e1 h1 g3 g4 (g5.set j (Rp.mono x2.f _ _ r1)))
    | _ => exact q2.elim
  · exact q.elim
end

/-! ### defs that call themselves: the bottom -/
section
variable {P : Program} {w : World} {K : PySem.W.Frag} {mg : Str → Option Value} {base : Heap} {k : Nat} {x : Str} {ps : List Str} {st : Stmt}
theorem Cal.bot (d : Def K mg x st ps) : Cal P w K mg base k x ps (spD K mg fun _ => .no) :=
  let ⟨f, fd, F, h1, h2, h3⟩ := d.ex
  ⟨f, fd, ⟨fun vs H Q E ⟨_, _, _, _, q⟩ => q.elim, fun A outer s H args us vs Q E _ _ _ _ _ ⟨_, _, _, _, q⟩ => q.elim⟩, h1, h2, Binds.all h3⟩
theorem Cal.botN (d : Def K mg x st ps) : Cal P w K mg base k x ps (spN K mg fun _ => .no) :=
  let ⟨f, fd, F, h1, h2, h3⟩ := d.ex
  ⟨f, fd, ⟨fun vs H Q E ⟨_, _, _, _, q⟩ => q.elim, fun A outer s H args us vs Q E _ _ _ _ _ ⟨_, _, _, _, q⟩ => q.elim⟩, h1, h2, Binds.all h3⟩
end
end PD

/-! Part 15: sets. call_setI is HandS' lemma on set(tuple of ints), turned to lists. -/
namespace PD
open PySem PySem.Spec PyProof.Rows L2
section
variable {P : Program} {w : World} {A : Around} {E : Value → Shared → Prop} {s : Shared}
set_option maxRecDepth 100000 in
set_option maxHeartbeats 3200000 in
theorem call_setI {l : Addr} {items : Array Value} (ns : List Int) {Q : Value → Shared → Prop} (hh : A.handled = none) (hl : s.heap.IsList l items) (hit : IntsAre items.toList ns) (hb : ns.length + 1 < scanBound)
    (h : ∀ (h' : Heap) (tk c : Nat), SetR w h' s.heap.objs.size (fun j => decide (j ∈ ns)) c → c ≤ ns.length → (∀ b o, s.heap.get? b = some o → h'.get? b = some o) → Q (.ref s.heap.objs.size) { s with heap := h', toks := tk }) :
    wpAny (model P w) A (call (.type "set") [.ref l]) Q E s := by
  have hisz : items.size = ns.length := by
    have q := IntsAre.length hit
    rw [Array.length_toList] at q
    exact q
  obtain ⟨c, tl, hmro⟩ := F.called_set.mro
  have hmade := F.called_set.made
  have hsub := F.called_set.sub
  refine wpAny_call (codeAny_of_tree ?_)
  show wpAny _ _ (callAny (.type "set") _) _ _ _
  refine wpAny_pure ⟨Code.quiet_builtin _ (by decide +kernel), codeAny_builtin F.entry_type_call ?_⟩
  rw [Around.under_plain (weight_type_call_type "set" [.ref l] []) rfl]
  have h1 := F.called_set.notType
  have h2 := F.called_set.canCreate
  have hct := F.typeCall_set_1 (.ref l)
  repeat (any_goals (first | assumption | wp_step))

  refine codeAny_mono (code_set_led1 (.ref l) (E := E) (Q₁ := fun obj s₁ => obj = .ref s.heap.objs.size ∧ s₁ = { s with heap := s.heap.push { cls := .type "set", dict := none, data := .set #[] 0 (.fresh 0 0 (!w.params.followText "set-order")) } }) ⟨rfl, rfl⟩) fun r s₁ hr => ?_
  cases r with
  | error e => exact hr
  | ok fl =>
    cases fl with
    | ret obj =>
      obtain ⟨rfl, rfl⟩ := hr
      have hS : (s.heap.push { cls := .type "set", dict := none, data := .set #[] 0 (.fresh 0 0 (!w.params.followText "set-order")) }).get? s.heap.objs.size = some { cls := .type "set", dict := none, data := .set #[] 0 (.fresh 0 0 (!w.params.followText "set-order")) } := Heap.get?_push_size _ rfl
      have hT : Shared.TypeIs { s with heap := s.heap.push { cls := .type "set", dict := none, data := .set #[] 0 (.fresh 0 0 (!w.params.followText "set-order")) } } (.ref s.heap.objs.size) "set" := ⟨_, hS, rfl⟩
      have hli := F.called_set.init.lookup
      have hbi := F.called_set.init.bind (.ref s.heap.objs.size)
      repeat (any_goals (first | assumption | wp_step))

      refine codeAny_mono (codeAny_call_builtin (R := wants (fun r s₂ => r = .none ∧ ∃ h' tk c, s₂ = { s with heap := h', toks := tk } ∧ SetR w h' s.heap.objs.size (fun j => decide (j ∈ ns)) c ∧ c ≤ ns.length ∧
          (∀ b o, s.heap.get? b = some o → h'.get? b = some o)) E) F.called_set.init.plain F.entry_set_init (check_set_init_1 hT ?_)) fun r₂ s₂ hr₂ => ?_
      · obtain ⟨ol, hol, hcl, nl, hdl⟩ := hl
        obtain ⟨ocls, odict, odata, oslots⟩ := ol
        simp only at hcl hdl
        subst hcl; subst hdl
        have hol' : (s.heap.push { cls := .type "set", dict := none, data := .set #[] 0 (.fresh 0 0 (!w.params.followText "set-order")) }).get? l = some { cls := .type "list", dict := odict, data := .seq items nl, slots := oslots } := Heap.get?_push_of_some _ hol
        have hsls := F.sub_list_set
        have hslf := F.sub_list_frozenset
        have hne : (Value.type "list" == Value.type "dict") = false := by decide
        have hl1 : (s.heap.push { cls := .type "set", dict := none, data := .set #[] 0 (.fresh 0 0 (!w.params.followText "set-order")) }).IsList l items := ⟨_, hol', rfl, nl, rfl⟩
        unfold Builtin.«set.__init__» noKeywords Builtin.Frozenset.updateFrom
        generalize hPI : pyIter = PI
        wp_walk
        subst hPI

        refine wpAny_pyIter_list hl1 ?_
        refine wpAny_bind (wpAny_runValue ?_)
        have hlS : l < s.heap.objs.size := Heap.lt_size hol
        have hh3 : A.in1.in1.in1.handled = none := by simp [hh]
        have hz1 : (s.heap.push { cls := .type "set", dict := none, data := .set #[] 0 (.fresh 0 0 (!w.params.followText "set-order")) }).objs.size = s.heap.objs.size + 1 := Heap.size_push ..
        have hneI : l ≠ (s.heap.push { cls := .type "set", dict := none, data := .set #[] 0 (.fresh 0 0 (!w.params.followText "set-order")) }).objs.size := by
          rw [Heap.size_push]; exact Nat.ne_of_lt (Nat.lt_succ_of_lt hlS)
        have hSf : s.heap.objs.size ∉ [(s.heap.push { cls := .type "set", dict := none, data := .set #[] 0 (.fresh 0 0 (!w.params.followText "set-order")) }).objs.size, l] := by
          rw [Heap.size_push]; simp only [List.mem_cons, List.mem_singleton, List.not_mem_nil, or_false, not_or]
          exact ⟨Nat.ne_of_lt (Nat.lt_succ_self _), Nat.ne_of_gt hlS⟩
        have hval : ∀ (i : Nat) (v : Value), items[i]? = some v → ∃ k t, ns[i]? = some k ∧ v = .int k t := fun i v hv => by
          have hi : i < ns.length := by rw [← hisz]; exact (Array.getElem?_eq_some_iff.mp hv).1
          obtain ⟨t, e⟩ := PyProof.Rows.IntsAre.int_at hit i v (by rw [Array.getElem?_toList]; exact hv)
          refine ⟨ns[i], t, List.getElem?_eq_getElem hi, ?_⟩
          rw [e, List.getD_eq_getElem?_getD, List.getElem?_eq_getElem hi] <;> rfl
        refine set_update_ints ((Walks.list hh3 _ l hneI items).toS) s.heap.objs.size
          hSf ns hisz hb hval (items.size - 0) 0 _ (by omega) (Nat.zero_le _)
          ⟨⟨_, Heap.get?_push_size _ rfl, rfl, rfl⟩, (hl1.push _)⟩ ?hS0 ?hR
        case hS0 =>
          have hget : ((s.heap.push { cls := .type "set", dict := none, data := .set #[] 0 (.fresh 0 0 (!w.params.followText "set-order")) }).push { cls := .type "list_iterator", data := .fields #[.ref l, .int 0 0] }).get? s.heap.objs.size
              = some { cls := .type "set", dict := none, data := .set #[] 0 (.fresh 0 0 (!w.params.followText "set-order")) } := Heap.get?_push_of_some _ hS
          exact ⟨0, Nat.le_refl 0, setR_new_at hget⟩
        case hR =>
          intro s' c' hm hc' hS'
          obtain ⟨h', g2, d', tk', os'⟩ := s'
          have eg : g2 = s.gens := hm.gens
          have ed : d' = s.drawn := hm.drawn
          have eo : os' = s.os := hm.os
          subst eg; subst ed; subst eo
          show wpAny _ _ _ _ _ _
          refine wpAny_pure ?_
          show wpAny _ _ (ret Value.none) _ _ _
          rw [hisz] at hc'
          refine wpAny_pure ⟨rfl, h', tk', c', rfl, hS', hc', fun b o e => ?_⟩
          have hb0 : b < s.heap.objs.size := Heap.lt_size e
          have hb1 : b ≠ s.heap.objs.size := Nat.ne_of_lt hb0
          have hb2 : b ≠ (s.heap.push { cls := .type "set", dict := none, data := .set #[] 0 (.fresh 0 0 (!w.params.followText "set-order")) }).objs.size := by
            rw [Heap.size_push]; exact Nat.ne_of_lt (Nat.lt_succ_of_lt hb0)
          exact hm.heap b o (by simp only [List.mem_cons, List.mem_singleton, List.not_mem_nil, or_false, not_or]; exact ⟨hb1, hb2⟩) (Heap.get?_push_of_some _ (Heap.get?_push_of_some _ e))

      · cases r₂ with
        | error e => exact hr₂
        | ok fl₂ =>
          cases fl₂ with
          | ret r =>
            obtain ⟨rfl, h', tk, c', rfl, hS', hc', hk'⟩ := hr₂
            repeat (any_goals (first | assumption | wp_step))
            exact h _ _ _ hS' hc' hk'
          | _ => exact hr₂.elim
    | _ => exact hr.elim
end
end PD

/-! Part 16: sorted(set(ints)), len(set(tuples of ints)) -/
namespace PD
open PySem PySem.Spec PyProof.Rows L2

/-! ### a set as its rising row -/
def insS (a : Int) : List Int → List Int
  | [] => [a]
  | b :: r => if a < b then a :: b :: r else if a = b then b :: r else b :: insS a r
def setI : List Int → List Int
  | [] => []
  | a :: l => insS a (setI l)
theorem insS_mem {a z : Int} : ∀ {l : List Int}, z ∈ insS a l ↔ z = a ∨ z ∈ l
  | [] => by simp [insS]
  | b :: r => by
    unfold insS
    split
    · simp
    · split
      · rename_i e; subst e; simp
      · rw [List.mem_cons, insS_mem, List.mem_cons]
        constructor
        · rintro (h | h | h)
          · exact .inr (.inl h)
          · exact .inl h
          · exact .inr (.inr h)
        · rintro (h | h | h)
          · exact .inr (.inl h)
          · exact .inl h
          · exact .inr (.inr h)
theorem insS_lt {a : Int} : ∀ {l : List Int}, l.Pairwise (· < ·) → (insS a l).Pairwise (· < ·)
  | [], _ => by simp [insS]
  | b :: r, h => by
    unfold insS
    obtain ⟨h1, h2⟩ := List.pairwise_cons.mp h
    split
    · rename_i hab
      refine List.pairwise_cons.mpr ⟨fun z hz => ?_, h⟩
      rcases List.mem_cons.mp hz with e | e
      · subst e; exact hab
      · exact Int.lt_trans hab (h1 z e)
    · split
      · exact h
      · refine List.pairwise_cons.mpr ⟨fun z hz => ?_, insS_lt h2⟩
        rcases insS_mem.mp hz with e | e
        · subst e; omega
        · exact h1 z e
theorem setI_mem {z : Int} : ∀ {l : List Int}, z ∈ setI l ↔ z ∈ l
  | [] => by simp [setI]
  | a :: l => by rw [setI, insS_mem, setI_mem, List.mem_cons]
theorem setI_lt : ∀ l : List Int, (setI l).Pairwise (· < ·)
  | [] => List.Pairwise.nil
  | a :: l => insS_lt (setI_lt l)
theorem lt_unique : ∀ {l m : List Int}, l.Pairwise (· < ·) → m.Pairwise (· < ·) → (∀ z, z ∈ l ↔ z ∈ m) → l = m
  | [], [], _, _, _ => rfl
  | [], b :: m, _, _, h => by have := (h b).mpr List.mem_cons_self; cases this
  | a :: l, [], _, _, h => by have := (h a).mp List.mem_cons_self; cases this
  | a :: l, b :: m, h1, h2, h => by
    obtain ⟨a1, a2⟩ := List.pairwise_cons.mp h1
    obtain ⟨b1, b2⟩ := List.pairwise_cons.mp h2
    have e : a = b := by
      rcases List.mem_cons.mp ((h a).mp List.mem_cons_self) with z | z
      · exact z
      · rcases List.mem_cons.mp ((h b).mpr List.mem_cons_self) with y | y
        · exact y.symm
        · have := b1 a z; have := a1 b y; omega
    subst e
    rw [lt_unique a2 b2 fun z => ?_]
    constructor
    · intro hz
      rcases List.mem_cons.mp ((h z).mp (List.mem_cons_of_mem _ hz)) with y | y
      · subst y; have := a1 _ hz; omega
      · exact y
    · intro hz
      rcases List.mem_cons.mp ((h z).mpr (List.mem_cons_of_mem _ hz)) with y | y
      · subst y; have := b1 _ hz; omega
      · exact y
theorem ints_of_map : ∀ {ns : List Int} {us : List Value}, Vals (ns.map V.int) us → PyProof.Rows.IntsAre us ns
  | [], _, .nil => .nil
  | n :: ns, _, .cons r t => by
    obtain ⟨k, rfl⟩ := r
    exact .cons n k (ints_of_map t)
/-- set(xs) of ints -/
def rSetI (K : PySem.W.Frag) (w : World) : List V → Hp → VK → Prop := fun xs H Q => ∃ (l : Addr) (ns : List Int), xs = [.ref l] ∧ SqL K H l (ns.map V.int) ∧ ns.length ≤ 4000 ∧
  ∀ a c, H a = none → c ≤ ns.length → Q (.ref a) (upd H a (SetO w a (fun j => decide (j ∈ ns)) c))
theorem cr_setI {X : Cx} (hc : X.calm = true) : CallR X (.type "set") (rSetI X.K X.w) := by
  intro pins s σ H xs us Q I r ⟨l, ns, ex, hl, hb, q⟩
  subst ex
  rw [Vals.ref1 r]
  obtain ⟨its, rv, pl, hz⟩ := I.list hl
  have hn : H s.heap.objs.size = none := I.hok.fresh (Nat.le_refl _)
  refine call_setI ns (I.ok.hd hc) pl.isList (by simpa using ints_of_map rv) (by unfold scanBound; omega) fun h' tk c hS hcl k => ?_
  exact ⟨.ref _, upd H s.heap.objs.size (SetO X.w s.heap.objs.size (fun j => decide (j ∈ ns)) c), I.laid (t' := tk) k (Nat.le_refl _) (setO_new hS), rfl, q _ c hn hcl⟩
/-- sorted(set(xs)) -/
def dSortSet : D → Option D
  | .list l => match intsD l with
    | some ns => if ns.length < 64 then some (.list ((setI ns).map PyData.int)) else none
    | none => none
  | _ => none
theorem rp_ints {K : PySem.W.Frag} {F : Hp} : ∀ l : List Int, RpAll K F (l.map V.int) (l.map PyData.int)
  | [] => .nil
  | _ :: l => .cons (.int _) (rp_ints l)
section
variable {X : Cx} {C : Ct} {f : FE} {a : Expr} {p p2 pos pos2 : Pos}
theorem Ext.laid2 {F H : Hp} {p q : Addr} {o u : HO} (s : Same F H) (hp : H p = none) (hq : upd H p o q = none) : Ext F H (upd F q u) (upd (upd H p o) q u) :=
  (Ext.laid s hp).trans (Ext.new (Ext.laid (o := o) s hp).s hq)
theorem ve_sortSet (am : Am X) (hg : Gl X "sorted") (hm : X.mg "sorted" = none) (hg' : Gl X "set") (hm' : X.mg "set" = none) (ha : VE X C a f) (na : starEach [a] X.env = (false, eval a X.env) :: starEach [] X.env := by rfl)
    (nb : starEach [.Call (.Name "set" p2) [a] [] pos2] X.env = (false, eval (.Call (.Name "set" p2) [a] [] pos2) X.env) :: starEach [] X.env := by rfl)
    (h1 : (backTo pos2 (starEach [] X.env)).any (·.1) = false := by rfl) (h2 : (backTo pos (starEach [] X.env)).any (·.1) = false := by rfl) :
    VE X C (.Call (.Name "sorted" p) [.Call (.Name "set" p2) [a] [] pos2] [] pos) (f1 dSortSet f) :=
  PE.of (pe_callB (cr_sortedSet am.c) hg hm rfl (pa_cons (pe_callTy (cr_setI am.c) hg' hm' rfl (pa_cons ha pa_nil na) (by decide) (by decide) na h1) pa_nil nb) (by decide) (by decide) nb h2) fun σ H Q ⟨F, env, re, q⟩ =>
  ⟨F, env, re, Sat.bind RD.mono q fun d v F1 H1 x1 r1 q1 => by
    obtain ⟨c, hc, q2⟩ := Sat.ofO q1
    cases d with
    | list l =>
      simp only [dSortSet] at hc
      cases hi : intsD l with
      | none => rw [hi] at hc; cases hc
      | some ns =>
        rw [hi] at hc
        simp only at hc
        split at hc
        · rename_i hl
          cases hc
          cases r1 with
          | @lst b xs _ b1 b2 =>
            have ex := b2.intsd hi
            subst ex
            have s1 := (re.go x1).same
            refine ⟨b, ns, rfl, SqL.of (s1 _ _ b1), by omega, fun p c hp hcl => ⟨p, _, c, rfl, upd_same, by omega, fun ms p' hlt hmem hlen hp' => ?_⟩⟩
            have e : ms = setI ns := lt_unique hlt (setI_lt ns) fun z => by rw [hmem, setI_mem]; simp
            subst e
            exact q2 _ _ _ (Ext.laid2 s1 hp hp') (.lst upd_same (rp_ints _))
        · cases hc
    | _ => cases hc⟩
/-- len(set(xs)) of tuples of ints -/
def tupsD : List D → Option (List (List Int))
  | [] => some []
  | .tuple l :: r => match intsD l, tupsD r with
    | some a, some b => some (a :: b)
    | _, _ => none
  | _ => none
/-- how many unlike ones -/
def unlikeN : List (List Int) → Nat
  | [] => 0
  | a :: r => if a ∈ r then unlikeN r else unlikeN r + 1
def dLenSetT : D → Option D
  | .list l => match tupsD l with
    | some ks => if ks.length < 64 then some (.int (unlikeN ks : Nat)) else none
    | none => none
  | _ => none
def unl : List (List Int) → List (List Int)
  | [] => []
  | a :: r => if a ∈ r then unl r else a :: unl r
theorem unl_mem {z : List Int} : ∀ {l : List (List Int)}, z ∈ unl l ↔ z ∈ l
  | [] => Iff.rfl
  | a :: r => by
    unfold unl
    split
    · rename_i h
      rw [unl_mem, List.mem_cons]
      constructor
      · exact .inr
      · rintro (e | e)
        · rw [e]; exact h
        · exact e
    · rw [List.mem_cons, List.mem_cons, unl_mem]
theorem unl_nodup : ∀ l : List (List Int), (unl l).Nodup
  | [] => List.nodup_nil
  | a :: r => by
    unfold unl
    split
    · exact unl_nodup r
    · rename_i h
      exact List.nodup_cons.mpr ⟨fun q => h (unl_mem.mp q), unl_nodup r⟩
theorem unl_len : ∀ l : List (List Int), (unl l).length = unlikeN l
  | [] => rfl
  | a :: r => by
    unfold unl unlikeN
    split
    · exact unl_len r
    · rw [List.length_cons, unl_len r]
theorem nodup_len {α : Type} [DecidableEq α] : ∀ {l m : List α}, l.Nodup → m.Nodup → (∀ z, z ∈ l ↔ z ∈ m) → l.length = m.length := fun {l m} h1 h2 h =>
  Nat.le_antisymm (h1.length_le_of_subset fun z hz => (h z).mp hz) (h2.length_le_of_subset fun z hz => (h z).mpr hz)
theorem RpAll.tups {K : PySem.W.Frag} {F : Hp} : ∀ {ds : List D} {vs : List V} {ks : List (List Int)}, RpAll K F vs ds → tupsD ds = some ks → ∃ ps : List (Addr × List Int), vs = ps.map (fun p => V.ref p.1) ∧ ps.map (·.2) = ks ∧ ∀ p ∈ ps, SqT K F p.1 (p.2.map V.int)
  | [], _, _, h, e => by cases h; cases e; exact ⟨[], rfl, rfl, fun p hp => by cases hp⟩
  | d :: ds, _, _, h, e => by
    cases h with
    | cons r t =>
      cases d with
      | tuple l =>
        simp only [tupsD] at e
        cases hi : intsD l with
        | none => rw [hi] at e; cases e
        | some ns =>
          cases ht : tupsD ds with
          | none => rw [hi, ht] at e; cases e
          | some ks =>
            rw [hi, ht] at e
            cases e
            obtain ⟨ps, h1, h2, h3⟩ := t.tups ht
            cases r with
            | @tup a xs _ a1 a2 =>
              have ex := a2.intsd hi
              subst ex
              refine ⟨(a, ns) :: ps, by rw [List.map_cons, h1], by rw [List.map_cons, h2], fun p hp => ?_⟩
              rcases List.mem_cons.mp hp with z | z
              · subst z; exact a1
              · exact h3 p z
      | _ => cases e
def rLenSetT (P : Program) (w : World) : List V → Hp → VK → Prop := fun xs H Q => ∃ (a : Addr) (L : List (Addr × List Int)), xs = [.ref a] ∧ H a = some (SetTO P w a L) ∧ ((L.map (·.2)).Nodup → Q (.int (L.length : Nat)) H)
theorem cr_lenSetT : CallR X (.builtin "len") (rLenSetT X.prog X.w) := by
  intro pins s σ H xs us Q I r ⟨a, L, ex, ha, q⟩
  subst ex
  rw [Vals.ref1 r]
  have R0 : SetT0 X.prog X.w s.heap a L := (I.hok a _ ha).1
  obtain ⟨es, ep, t, ⟨o, ho, hex, hd⟩, hrows, htab, hnd, hpl, hled, hroom, hfew⟩ := R0.ex
  have hsz : es.size = L.length := by
    have := congrArg List.length hrows
    rw [Array.length_toList] at this
    rw [this]
    simp [rowsOf]
  have hf : t.fits es.size = true := by
    have h1 := htab.sz
    rw [List.length_map] at h1
    unfold SetTable.fits SetTable.fill
    rw [htab.dm, Bool.and_eq_true, beq_iff_eq, decide_eq_true_eq]
    show t.place.size = es.size ∧ t.place.size + 0 ≤ t.mask
    omega
  refine call_len_set ho hex hd hf (by rw [hsz]; omega) ⟨.int (L.length : Nat), H, I.tok _, ⟨_, by rw [hsz]⟩, q hnd⟩
theorem ve_lenSet (am : Am X) (hg : Gl X "len") (hm : X.mg "len" = none) (hg' : Gl X "set") (hm' : X.mg "set" = none) (ha : VE X C a f) (na : starEach [a] X.env = (false, eval a X.env) :: starEach [] X.env := by rfl)
    (nb : starEach [.Call (.Name "set" p2) [a] [] pos2] X.env = (false, eval (.Call (.Name "set" p2) [a] [] pos2) X.env) :: starEach [] X.env := by rfl)
    (h1 : (backTo pos2 (starEach [] X.env)).any (·.1) = false := by rfl) (h2 : (backTo pos (starEach [] X.env)).any (·.1) = false := by rfl) :
    VE X C (.Call (.Name "len" p) [.Call (.Name "set" p2) [a] [] pos2] [] pos) (f1 dLenSetT f) :=
  PE.of (pe_callB cr_lenSetT hg hm rfl (pa_cons (pe_callTy (cr_setOfT am.c (by have := am.u; omega)) hg' hm' rfl (pa_cons ha pa_nil na) (by decide) (by decide) na h1) pa_nil nb) (by decide) (by decide) nb h2) fun σ H Q ⟨F, env, re, q⟩ =>
  ⟨F, env, re, Sat.bind RD.mono q fun d v F1 H1 x1 r1 q1 => by
    obtain ⟨c, hc, q2⟩ := Sat.ofO q1
    cases d with
    | list l =>
      simp only [dLenSetT] at hc
      cases hi : tupsD l with
      | none => rw [hi] at hc; cases hc
      | some ks =>
        rw [hi] at hc
        simp only at hc
        split at hc
        · rename_i hl
          cases hc
          cases r1 with
          | @lst b xs _ b1 b2 =>
            obtain ⟨ps, e1, e2, e3⟩ := b2.tups hi
            subst e1
            have s1 := (re.go x1).same
            refine ⟨b, ps, rfl, SqL.of (s1 _ _ b1), fun p hp => Same.sqt s1 (e3 p hp), by rw [← e2, List.length_map] at hl; exact hl, fun p L hp hL1 hL2 => ⟨p, L, rfl, upd_same, fun hnd => ?_⟩⟩
            have e : L.length = unlikeN ks := by
              rw [← unl_len, ← List.length_map (f := fun p : Addr × List Int => p.2)]
              refine nodup_len hnd (unl_nodup ks) fun z => ?_
              rw [unl_mem, ← e2]
              constructor
              · intro hz
                obtain ⟨p, hp, rfl⟩ := List.mem_map.mp hz
                exact List.mem_map.mpr ⟨p, hL1 p hp, rfl⟩
              · intro hz
                obtain ⟨p, hp, rfl⟩ := List.mem_map.mp hz
                exact hL2 p hp
            rw [e]
            exact q2 _ _ F1 (Ext.laid s1 hp) (.int _)
        · cases hc
    | _ => cases hc⟩
end
end PD

/-! Part 17: gcd; more rules of the plain side -/
namespace PD
open PySem PySem.Spec PyProof.Rows L2
def dGcd : List D → Option D
  | [.int a, .int b] => some (.int ((Nat.gcd a.natAbs b.natAbs : Nat) : Int))
  | _ => none
section
variable {K : PySem.W.Frag} {X : Cx} {C : Ct} {fa : FA} {x : Str} {e : Expr} {es : List Expr} {p pos : Pos} {id : String} {r : List V → Hp → VK → Prop} {g : List D → Option D}
theorem l_gcd : VL K rGcd dGcd := by
  intro F H xs ds c Q s h e q
  unfold dGcd at e
  split at e
  · rename_i a b
    cases e
    have z := h.ints2
    exact ⟨a, b, z, q _ H F (Ext.refl s) (.int _)⟩
  · cases e
theorem ve_callF (hc : CallR X (.builtin id) r) (hv : VL X.K r g) (hg : Gl X x) (hm : X.mg x = some (.builtin id)) (ha : VA X C (e :: es) fa) (hdb : (x == ("__debug__" : Str)) = false := by decide)
    (he : starEach (e :: es) X.env = (false, eval e X.env) :: starEach es X.env := by rfl) (hpl : (backTo pos (starEach es X.env)).any (·.1) = false := by rfl) : VE X C (.Call (.Name x p) (e :: es) [] pos) (fCB g fa) := PE.of (pe_callBfun hc hg hm ha hdb he hpl) fun _ _ _ => t_cb hv
end
theorem e_seqN {g g' : FS} {e : List Sl} {d : D} (h : g e = .rn d) : sSeq g g' e = .rn d := by unfold sSeq; rw [h]; rfl
theorem ixN_natP {n j : Nat} (hj : j < n) : ixN n (j : Int) = some j := by
  unfold ixN
  rw [if_pos (by omega), if_pos (by omega), Int.toNat_natCast]
theorem e_put {i j : Nat} {fv fi : FE} {e e' : List Sl} {l : List D} {v : D} {k : Int} (h0 : e[i]? = some (.own l)) (hv : fv e = .ok v) (hi : fi e = .ok (.int k)) (hj : ixN l.length k = some j) (h' : e.set i (.own (l.set j v)) = e') : sPut i fv fi e = .nx e' := by
  unfold sPut; rw [h0]; show bindO (fv e) _ = _; rw [hv]; show bindO (fi e) _ = _; rw [hi]
  show (match ixN l.length k with | some j => Out.nx (e.set i (.own (l.set j v))) | none => .no) = _
  rw [hj, ← h']
end PD

/-! Part 18: frames: what a block does where some slots are not known (un), it does whatever they hold -/
namespace PD
open PySem PySem.Spec PyProof.Rows L2

/-- e' knows more -/
structure Le (e e' : List Sl) : Prop where
  len : e'.length = e.length
  get : ∀ (i : Nat) (s : Sl), e[i]? = some s → s ≠ .un → e'[i]? = some s
/-- from e, e' to f, f': no slot is forgotten; what is not known in f was not written -/
structure Ge (e e' f f' : List Sl) : Prop where
  le : Le f f'
  len : f'.length = e'.length
  un : ∀ i : Nat, f[i]? = some .un → e[i]? = some .un ∧ f'[i]? = e'[i]?
section
variable {e e' f f' g g' : List Sl}
theorem Le.refl (e : List Sl) : Le e e := ⟨rfl, fun _ _ h _ => h⟩
theorem Ge.refl (h : Le e e') : Ge e e' e e' := ⟨h, rfl, fun _ q => ⟨q, rfl⟩⟩
theorem Ge.trans (a : Ge e e' f f') (b : Ge f f' g g') : Ge e e' g g' := ⟨b.le, b.len.trans a.len, fun i q => by
  obtain ⟨h1, h2⟩ := b.un i q
  obtain ⟨h3, h4⟩ := a.un i h1
  exact ⟨h3, h2.trans h4⟩⟩
theorem Le.sh {i : Nat} {d : D} (h : Le e e') (q : e[i]? = some (.sh d)) : e'[i]? = some (.sh d) := h.get i _ q (by intro z; cases z)
theorem Le.own {i : Nat} {d : List D} (h : Le e e') (q : e[i]? = some (.own d)) : e'[i]? = some (.own d) := h.get i _ q (by intro z; cases z)
theorem Le.scr {i : Nat} {d : List Int} (h : Le e e') (q : e[i]? = some (.scr d)) : e'[i]? = some (.scr d) := h.get i _ q (by intro z; cases z)
theorem Ge.set (h : Le e e') (i : Nat) {s : Sl} (hs : s ≠ .un) : Ge e e' (e.set i s) (e'.set i s) := by
  refine ⟨⟨by rw [List.length_set, List.length_set, h.len], fun j t q ht => ?_⟩, List.length_set, fun j q => ?_⟩
  · by_cases hj : i = j
    · subst hj
      have hi : i < e.length := by
        rcases Nat.lt_or_ge i e.length with z | z
        · exact z
        · rw [List.getElem?_eq_none (by rw [List.length_set]; exact z)] at q; cases q
      rw [List.getElem?_set_self hi] at q
      rw [List.getElem?_set_self (by rw [h.len]; exact hi)]
      exact q
    · rw [List.getElem?_set_ne hj] at q ⊢
      exact h.get j t q ht
  · by_cases hj : i = j
    · subst hj
      have hi : i < e.length := by
        rcases Nat.lt_or_ge i e.length with z | z
        · exact z
        · rw [List.getElem?_eq_none (by rw [List.length_set]; exact z)] at q; cases q
      rw [List.getElem?_set_self hi] at q
      cases q
      exact absurd rfl hs
    · rw [List.getElem?_set_ne hj] at q ⊢
      exact ⟨q, rfl⟩
theorem Le.setUn (h : Le e e') (i : Nat) : Le (e.set i .un) (e'.set i .un) := by
  refine ⟨by rw [List.length_set, List.length_set, h.len], fun j t q ht => ?_⟩
  by_cases hj : i = j
  · subst hj
    have hi : i < e.length := by
      rcases Nat.lt_or_ge i e.length with z | z
      · exact z
      · rw [List.getElem?_eq_none (by rw [List.length_set]; exact z)] at q; cases q
    rw [List.getElem?_set_self hi] at q
    cases q
    exact absurd rfl ht
  · rw [List.getElem?_set_ne hj] at q ⊢
    exact h.get j t q ht
theorem Le.wipe (h : Le e e') : ∀ vs : List Nat, Le (wipeE e vs) (wipeE e' vs)
  | [] => h
  | v :: vs => (Le.wipe h vs).setUn v
theorem Le.thaw (h : Le e e') : Le (thaw e) (thaw e') := by
  refine ⟨by rw [thaw_len, thaw_len, h.len], fun j t q ht => ?_⟩
  rw [thaw_get] at q ⊢
  cases ej : e[j]? with
  | none => rw [ej] at q; cases q
  | some s =>
    rw [ej] at q
    cases s with
    | un => cases q; exact absurd rfl ht
    | sh d => rw [h.sh ej]; exact q
    | own d => rw [h.own ej]; exact q
    | scr d => rw [h.scr ej]; exact q
theorem Le.nil : Le [] [] := ⟨rfl, fun _ _ h _ => h⟩
theorem Le.un {s : Sl} (h : Le e e') : Le (.un :: e) (s :: e') := ⟨by simp [h.len], fun i t q ht => by
  cases i with
  | zero => have q : Sl.un = t := by simpa using q
            exact absurd q.symm ht
  | succ i => exact h.get i t q ht⟩
theorem Le.cons {s : Sl} (h : Le e e') : Le (s :: e) (s :: e') := ⟨by simp [h.len], fun i t q ht => by
  cases i with
  | zero => exact q
  | succ i => exact h.get i t q ht⟩
theorem Le.rep : ∀ {n : Nat} {R : List Sl}, R.length = n → Le (List.replicate n .un) R
  | 0, [], _ => Le.nil
  | n + 1, s :: R, h => Le.un (Le.rep (by simpa using h))
end

/-! ### expressions -/
def Mn {α : Type} (f : List Sl → Rs α) : Prop := ∀ e e' : List Sl, Le e e' → f e ≠ .no → f e' = f e
section
variable {α β : Type}
theorem mn_k (r : Rs α) : Mn fun _ => r := fun _ _ _ _ => rfl
theorem mn_bind {f : List Sl → Rs α} {k : α → List Sl → Rs β} (hf : Mn f) (hk : ∀ a, Mn (k a)) : Mn fun e => (f e).bind fun a => k a e := fun e e' h q => by
  have q : ((f e).bind fun a => k a e) ≠ .no := q
  show ((f e').bind fun a => k a e') = (f e).bind fun a => k a e
  cases hfe : f e with
  | ok a =>
    rw [hfe] at q
    rw [hf e e' h (by rw [hfe]; intro z; cases z), hfe]
    exact hk a e e' h q
  | er c n => rw [hf e e' h (by rw [hfe]; intro z; cases z), hfe]; rfl
  | no => rw [hfe] at q; exact absurd rfl q
theorem mn_bindX {F : List Sl → Rs β} {f : List Sl → Rs α} {k : α → List Sl → Rs β} (hF : ∀ e, F e = (f e).bind fun a => k a e) (hf : Mn f) (hk : ∀ a, Mn (k a)) : Mn F := by
  have : F = fun e => (f e).bind fun a => k a e := funext hF
  rw [this]
  exact mn_bind hf hk
theorem mn_quiet {f : List Sl → Rs α} (hf : Mn f) : Mn fun e => (f e).quiet := fun e e' h q => by
  have q : (f e).quiet ≠ .no := q
  show (f e').quiet = (f e).quiet
  cases hfe : f e with
  | ok a => rw [hf e e' h (by rw [hfe]; intro z; cases z), hfe]
  | er c n => rw [hfe] at q; exact absurd rfl q
  | no => rw [hfe] at q; exact absurd rfl q
theorem mn_thaw {f : List Sl → Rs α} (hf : Mn f) : Mn fun e => f (thaw e) := fun e e' h q => hf _ _ h.thaw q
theorem mn_ite {c : Prop} [Decidable c] {f g : List Sl → Rs α} (hf : Mn f) (hg : Mn g) : Mn fun e => if c then f e else g e := fun e e' h q => by
  by_cases hc : c
  · simp only [if_pos hc] at q ⊢; exact hf e e' h q
  · simp only [if_neg hc] at q ⊢; exact hg e e' h q
end
section
variable {f f' f'' : FE} {b b' : FB} {fa fa' : FA} {o o' : FO} {t t1 : Tgt}
theorem mn_var (i : Nat) : Mn (fVar i) := fun e e' h q => by
  unfold fVar at q ⊢
  split at q
  · rename_i d hd
    rw [h.sh hd]
  · exact absurd rfl q
theorem mn_c (d : D) : Mn (fC d) := mn_k _
theorem mn_f2 {k : D → D → Option D} (h : Mn f) (h' : Mn f') : Mn (f2 k f f') := mn_bind h fun _ => mn_bind h' fun _ => mn_k _
theorem mn_f1 {k : D → Option D} (h : Mn f) : Mn (f1 k f) := mn_bind h fun _ => mn_k _
theorem mn_f3 {k k' : D → D → Option D} (h : Mn f) (h' : Mn f') (h'' : Mn f'') : Mn (f3 k k' f f' f'') := mn_bind h fun _ => mn_bind h' fun _ => mn_bind (mn_k _) fun _ => mn_bind (mn_k _) fun _ => mn_ite (mn_bind h'' fun _ => mn_k _) (mn_k _)
theorem mn_B (h : Mn f) : Mn (fB f) := mn_bind h fun _ => mn_k _
theorem mn_tru (h : Mn f) : Mn (fTru f) := mn_bind h fun _ => mn_k _
theorem mn_and (h : Mn b) (h' : Mn b') : Mn (fAnd b b') := mn_bind h fun _ => mn_ite h' (mn_k _)
theorem mn_or (h : Mn b) (h' : Mn b') : Mn (fOr b b') := mn_bind h fun _ => mn_ite (mn_k _) h'
theorem mn_not (h : Mn b) : Mn (fNot b) := mn_bind h fun _ => mn_k _
theorem mn_andV (h : Mn f) (h' : Mn f') : Mn (fAndV f f') := mn_bind h fun _ => mn_bind (mn_k _) fun _ => mn_ite h' (mn_k _)
theorem mn_orV (h : Mn f) (h' : Mn f') : Mn (fOrV f f') := mn_bind h fun _ => mn_bind (mn_k _) fun _ => mn_ite (mn_k _) h'
theorem mn_notV (h : Mn f) : Mn (fNotV f) := mn_bind h fun _ => mn_bind (mn_k _) fun _ => mn_k _
theorem mn_if (h : Mn b) (h1 : Mn f) (h2 : Mn f') : Mn (fIf b f f') := mn_bind h fun _ => mn_ite h1 h2
theorem mn_nil : Mn aNil := mn_k _
theorem mn_cons (h : Mn f) (h' : Mn fa) : Mn (aCons f fa) := mn_bind h fun _ => mn_bind h' fun _ => mn_k _
theorem mn_star (h : Mn f) (h' : Mn fa) : Mn (aStar f fa) := mn_bindX (fun _ => rfl) h fun d => by cases d <;> first | exact mn_bind h' fun _ => mn_k _ | exact mn_k _
theorem mn_lst (h : Mn fa) : Mn (fLst fa) := mn_bind h fun _ => mn_ite (mn_k _) (mn_k _)
theorem mn_tup (h : Mn fa) : Mn (fTup fa) := mn_bind h fun _ => mn_ite (mn_k _) (mn_k _)
theorem mn_cb {g : List D → Option D} (h : Mn fa) : Mn (fCB g fa) := mn_bind h fun _ => mn_k _
theorem mn_call {Fn : List D → Rs D} (h : Mn fa) : Mn (fCall Fn fa) := mn_bind h fun _ => mn_k _
theorem mn_thB (h : Mn b) : Mn (fThB b) := mn_thaw h
theorem mn_scal (h : Mn f) : Mn (fScal f) := mn_bind (f := fun e => f (thaw e)) (mn_thaw h) fun _ => mn_ite (mn_k _) (mn_k _)
theorem mn_scalN (h : Mn f) : Mn (fScalN f) := mn_bind (f := fun e => f (thaw e)) (mn_thaw h) fun _ => mn_ite (mn_k _) (mn_k _)
theorem mn_ixO (i : Nat) (h : Mn f) : Mn (fIxO i f) := fun e e' le q => by
  unfold fIxO at q ⊢
  split at q
  · rename_i l hl
    rw [le.own hl]
    exact (mn_bind (k := fun d _ => Rs.ofO (dIx (.list l) d)) h fun _ => mn_k _) e e' le q
  · exact absurd rfl q
theorem mn_oN : Mn oNone := mn_k _
theorem mn_oS (h : Mn f) : Mn (oSome f) := mn_bind h fun _ => mn_bind (mn_k _) fun _ => mn_k _
theorem mn_sl (h : Mn f) (h1 : Mn o) (h2 : Mn o') : Mn (fSl f o o') := mn_bind h fun _ => mn_bind h1 fun _ => mn_bind h2 fun _ => mn_k _
theorem mn_slN (h : Mn f) (h1 : Mn o) (h2 : Mn o') : Mn (fSlN f o o') := mn_bind h fun _ => mn_bind h1 fun _ => mn_bind h2 fun _ => mn_k _
theorem mn_rev (h : Mn f) : Mn (fRev f) := mn_f1 h
theorem mn_join (h : Mn f) (h' : Mn f') : Mn (fJoin f f') := mn_bindX (fun _ => rfl) h fun d => by cases d <;> first | exact mn_bind h' fun _ => mn_k _ | exact mn_k _
theorem mn_index (h : Mn f) (h' : Mn f') : Mn (fIndex f f') := mn_bindX (fun _ => rfl) h fun d => by cases d <;> first | exact mn_bind h' fun _ => mn_k _ | exact mn_k _
theorem mn_RNe (h : Mn f) (h' : Mn f') : Mn (fRNe f f') := mn_bind h fun _ => mn_ite (mn_bind h' fun _ => mn_ite (mn_k _) (mn_k _)) (mn_k _)
theorem mn_REq (h : Mn f) (h' : Mn f') : Mn (fREq f f') := mn_bind h fun _ => mn_ite (mn_bind h' fun _ => mn_ite (mn_k _) (mn_k _)) (mn_k _)
theorem mn_rg1 {k : List D → D} (h : Mn f) : Mn (fRg1 f k) := mn_bind h fun _ => mn_k _
theorem mn_rg2 {k : List D → D} (h : Mn f) (h' : Mn f') : Mn (fRg2 f f' k) := mn_bind h fun _ => mn_bind h' fun _ => mn_k _
theorem mn_enum (h : Mn f) : Mn (iEnumF f) := mn_bind h fun _ => mn_k _
theorem mn_zip (h : Mn f) (h' : Mn f') : Mn (iZipF f f') := mn_bind h fun _ => mn_bind h' fun _ => mn_k _
theorem mn_seq (h : Mn f) : Mn (iSeq f) := mn_bind h fun _ => mn_k _
theorem mn_rng1 (h : Mn fa) : Mn (iRng1F fa) := mn_bind h fun _ => mn_k _
theorem mn_rng2 (h : Mn fa) : Mn (iRng2F fa) := mn_bind h fun _ => mn_k _
theorem mn_yes : Mn bYes := mn_k _
theorem setE_ge : ∀ (is : List Nat) (l : List D) {e e' f f' : List Sl}, Ge e e' f f' → Ge e e' (setE is l f) (setE is l f')
  | [], _, _, _, _, _, h => by unfold setE; exact h
  | _ :: _, [], _, _, _, _, h => by unfold setE; exact h
  | i :: is, d :: ds, _, _, _, _, h => setE_ge is ds (h.trans (Ge.set h.le i (s := .sh d) (by intro z; cases z)))
theorem Tgt.put_ge (t : Tgt) {d : D} {e e' f : List Sl} (h : Le e e') (q : t.put d e = some f) : ∃ f', t.put d e' = some f' ∧ Ge e e' f f' := by
  cases t with
  | nm i =>
    have q : e.set i (.sh d) = f := Option.some.inj q
    subst q
    exact ⟨_, rfl, Ge.set h i (by intro z; cases z)⟩
  | tp is =>
    cases d with
    | tuple l =>
      have q : (if l.length = is.length then some (setE is l e) else none) = some f := q
      by_cases hl : l.length = is.length
      · rw [if_pos hl] at q
        cases q
        exact ⟨_, if_pos hl, setE_ge is l (Ge.refl h)⟩
      · rw [if_neg hl] at q; cases q
    | list l =>
      have q : (if l.length = is.length then some (setE is l e) else none) = some f := q
      by_cases hl : l.length = is.length
      · rw [if_pos hl] at q
        cases q
        exact ⟨_, if_pos hl, setE_ge is l (Ge.refl h)⟩
      · rw [if_neg hl] at q; cases q
    | _ => cases q
  | np i is =>
    unfold Tgt.put at q ⊢
    cases hn : npD d with
    | none => simp only [hn] at q; cases q
    | some p =>
      obtain ⟨c, l⟩ := p
      simp only [hn] at q ⊢
      by_cases hl : l.length = is.length
      · rw [if_pos hl] at q ⊢
        cases q
        exact ⟨_, rfl, setE_ge is l (Ge.set h i (by intro z; cases z))⟩
      · rw [if_neg hl] at q; cases q
theorem mn_lcGo {tt : FB} {k : List Sl → Rs (List D)} (ht : Mn tt) (hk : Mn k) : ∀ ds : List D, Mn fun e => lcGo t tt k e ds
  | [] => fun _ _ _ _ => rfl
  | d :: ds => fun e e' h q => by
    have q : lcGo t tt k e (d :: ds) ≠ .no := q
    show lcGo t tt k e' (d :: ds) = lcGo t tt k e (d :: ds)
    unfold lcGo at q ⊢
    cases hp : t.put d e with
    | none => rw [hp] at q; exact absurd rfl q
    | some f =>
      obtain ⟨f', hp', ge⟩ := t.put_ge h hp
      rw [hp] at q
      rw [hp']
      have q : ((tt f).bind fun b => if b = true then (k f).bind fun ys => (lcGo t tt k e ds).bind fun r => .ok (ys ++ r) else lcGo t tt k e ds) ≠ .no := q
      show ((tt f').bind fun b => if b = true then (k f').bind fun ys => (lcGo t tt k e' ds).bind fun r => .ok (ys ++ r) else lcGo t tt k e' ds) = ((tt f).bind fun b => if b = true then (k f).bind fun ys => (lcGo t tt k e ds).bind fun r => .ok (ys ++ r) else lcGo t tt k e ds)
      have ih := mn_lcGo ht hk ds e e' h
      cases hb : tt f with
      | no => rw [hb] at q; exact absurd rfl q
      | er c n => rw [ht f f' ge.le (by rw [hb]; intro z; cases z), hb]; rfl
      | ok b =>
        rw [ht f f' ge.le (by rw [hb]; intro z; cases z), hb]
        rw [hb] at q
        have q : (if b = true then (k f).bind fun ys => (lcGo t tt k e ds).bind fun r => .ok (ys ++ r) else lcGo t tt k e ds) ≠ .no := q
        show (if b = true then (k f').bind fun ys => (lcGo t tt k e' ds).bind fun r => .ok (ys ++ r) else lcGo t tt k e' ds) = (if b = true then (k f).bind fun ys => (lcGo t tt k e ds).bind fun r => .ok (ys ++ r) else lcGo t tt k e ds)
        cases b with
        | false =>
          rw [if_neg Bool.false_ne_true] at q ⊢
          rw [if_neg Bool.false_ne_true]
          exact ih q
        | true =>
          rw [if_pos rfl] at q ⊢
          rw [if_pos rfl]
          cases hkf : k f with
          | no => rw [hkf] at q; exact absurd rfl q
          | er c n => rw [hk f f' ge.le (by rw [hkf]; intro z; cases z), hkf]; rfl
          | ok ys =>
            rw [hk f f' ge.le (by rw [hkf]; intro z; cases z), hkf]
            rw [hkf] at q
            have q : ((lcGo t tt k e ds).bind fun r => .ok (ys ++ r)) ≠ .no := q
            show ((lcGo t tt k e' ds).bind fun r => .ok (ys ++ r)) = ((lcGo t tt k e ds).bind fun r => .ok (ys ++ r))
            have ih : lcGo t tt k e ds ≠ .no → lcGo t tt k e' ds = lcGo t tt k e ds := ih
            cases hr : lcGo t tt k e ds with
            | no => rw [hr] at q; exact absurd rfl q
            | er c n => rw [ih (by rw [hr]; intro z; cases z), hr]
            | ok r => rw [ih (by rw [hr]; intro z; cases z), hr]
theorem mn_one (h : Mn f) : Mn (one f) := mn_bind h fun _ => mn_k _
theorem mn_wipe {α : Type} {g : List Sl → Rs α} (h : Mn g) (vs : List Nat) : Mn fun e => g (wipeE e vs) := fun e e' le q => h _ _ (le.wipe vs) q
theorem mn_lc {vs : List Nat} (hi : Mn fa) (ht : Mn b) (hf : Mn f) : Mn (fLc fa t b f vs) :=
  mn_bind hi fun ds => mn_bind (f := fun e => (lcGo t b (one f) (wipeE e vs) ds).quiet) (mn_quiet (mn_wipe (mn_lcGo ht (mn_one hf) ds) vs)) fun _ => mn_ite (mn_k _) (mn_k _)
end
section
variable {f f' : FE} {b b' : FB} {fa fa' : FA} {t t1 : Tgt}
theorem mn_two {vs : List Nat} (hi : Mn fa) (ht : Mn b) (hf : Mn f) : Mn (two fa t b f vs) := mn_bind hi fun ds => mn_wipe (mn_lcGo ht (mn_one hf) ds) vs
theorem mn_lc2 {vs vs1 : List Nat} (hi : Mn fa) (ht : Mn b) (hi1 : Mn fa') (ht1 : Mn b') (hf : Mn f) : Mn (fLc2 fa t b fa' t1 b' f vs vs1) :=
  mn_bind hi fun ds => mn_bind (f := fun e => (lcGo t b (two fa' t1 b' f vs1) (wipeE e vs) ds).quiet) (mn_quiet (mn_wipe (mn_lcGo ht (mn_two hi1 ht1 hf) ds) vs)) fun _ => mn_ite (mn_k _) (mn_k _)
end

/-! ### statements -/
def RO2 (e e' : List Sl) : Out → Out → Prop
  | .nx f, o => ∃ f', o = .nx f' ∧ Ge e e' f f'
  | .bk f, o => ∃ f', o = .bk f' ∧ Ge e e' f f'
  | .ct f, o => ∃ f', o = .ct f' ∧ Ge e e' f f'
  | .no, _ => True
  | a, o => o = a
def Ms (g : FS) : Prop := ∀ e e' : List Sl, Le e e' → RO2 e e' (g e) (g e')
section
variable {f : FE} {b : FB} {fa : FA} {t : Tgt} {g g' : FS}
theorem RO2.trans {e e' f f' : List Sl} (h : Ge e e' f f') {o o' : Out} (r : RO2 f f' o o') : RO2 e e' o o' := by
  cases o with
  | nx a => obtain ⟨x, h1, h2⟩ := r; exact ⟨x, h1, h.trans h2⟩
  | bk a => obtain ⟨x, h1, h2⟩ := r; exact ⟨x, h1, h.trans h2⟩
  | ct a => obtain ⟨x, h1, h2⟩ := r; exact ⟨x, h1, h.trans h2⟩
  | rt d => exact r
  | rn d => exact r
  | er c n => exact r
  | no => trivial
theorem ms_bind {α : Type} {f : List Sl → Rs α} {k : α → FS} (hf : Mn f) (hk : ∀ a, Ms (k a)) : Ms fun e => bindO (f e) fun a => k a e := fun e e' h => by
  show RO2 e e' (bindO (f e) fun a => k a e) (bindO (f e') fun a => k a e')
  cases hfe : f e with
  | ok a => rw [hf e e' h (by rw [hfe]; intro z; cases z), hfe]; exact hk a e e' h
  | er c n => rw [hf e e' h (by rw [hfe]; intro z; cases z), hfe]; exact rfl
  | no => trivial
theorem ms_bindX {α : Type} {F : FS} {f : List Sl → Rs α} {k : α → FS} (hF : ∀ e, F e = bindO (f e) fun a => k a e) (hf : Mn f) (hk : ∀ a, Ms (k a)) : Ms F := by
  have : F = fun e => bindO (f e) fun a => k a e := funext hF
  rw [this]
  exact ms_bind hf hk
theorem ms_set' (i : Nat) {s : Sl} (hs : s ≠ .un) : Ms fun e => .nx (e.set i s) := fun e e' h => ⟨_, rfl, Ge.set h i hs⟩
theorem ms_no : Ms fun _ => .no := fun _ _ _ => trivial
theorem ms_next : Ms sNext := fun e e' h => ⟨_, rfl, Ge.refl h⟩
theorem ms_brk : Ms sBrk := fun e e' h => ⟨_, rfl, Ge.refl h⟩
theorem ms_cnt : Ms sCnt := fun e e' h => ⟨_, rfl, Ge.refl h⟩
theorem ms_sNo : Ms sNo := ms_no
theorem ms_rtc (o : D) : Ms fun _ => .rt o := fun _ _ _ => rfl
theorem ms_rnc (o : D) : Ms fun _ => .rn o := fun _ _ _ => rfl
theorem ms_none : Ms sNone := ms_rtc _
theorem ms_ite {c : Prop} [Decidable c] (h : Ms g) (h' : Ms g') : Ms fun e => if c then g e else g' e := fun e e' le => by
  by_cases hc : c
  · simp only [if_pos hc]; exact h e e' le
  · simp only [if_neg hc]; exact h' e e' le
theorem ms_seq (h : Ms g) (h' : Ms g') : Ms (sSeq g g') := fun e e' le => by
  have r := h e e' le
  unfold sSeq
  cases hg : g e with
  | nx x =>
    rw [hg] at r
    obtain ⟨x', h1, h2⟩ := r
    rw [h1]
    exact RO2.trans h2 (h' x x' h2.le)
  | bk x => rw [hg] at r; obtain ⟨x', h1, h2⟩ := r; rw [h1]; exact ⟨x', rfl, h2⟩
  | ct x => rw [hg] at r; obtain ⟨x', h1, h2⟩ := r; rw [h1]; exact ⟨x', rfl, h2⟩
  | rt d => rw [hg] at r; have r : g e' = .rt d := r; rw [r]; exact rfl
  | rn d => rw [hg] at r; have r : g e' = .rn d := r; rw [r]; exact rfl
  | er c n => rw [hg] at r; have r : g e' = .er c n := r; rw [r]; exact rfl
  | no => trivial
theorem ms_set (i : Nat) (h : Mn f) : Ms (sSet i f) := ms_bind h fun _ => ms_set' i (by intro z; cases z)
theorem ms_setN (i : Nat) (h : Mn f) : Ms (sSetN i f) := ms_bindX (fun _ => rfl) h fun d => by
    cases d <;> first | exact ms_no | exact ms_set' i (by intro z; cases z)
theorem ms_setF (i : Nat) (h : Mn f) : Ms (sSetF i f) := ms_bindX (fun _ => rfl) h fun d => by
    cases d <;> first | exact ms_no | exact ms_set' i (by intro z; cases z)
theorem ms_drop (h : Mn f) : Ms (sDrop f) := ms_bind h fun _ => ms_next
theorem ms_if (h : Mn b) (h1 : Ms g) (h2 : Ms g') : Ms (sIf b g g') := ms_bind h fun _ => ms_ite h1 h2
theorem ms_ret (h : Mn f) : Ms (sRet f) := ms_bind h fun _ => ms_rtc _
theorem ms_retN (h : Mn f) : Ms (sRetN f) := ms_bind h fun _ => ms_rnc _
theorem ms_retO (i : Nat) : Ms (sRetO i) := fun e e' le => by
  unfold sRetO
  split
  · rename_i l hl
    rw [le.own hl]; exact rfl
  · trivial
theorem ms_frz (i : Nat) (h : Ms g) : Ms (sFrz i g) := fun e e' le => by
  unfold sFrz
  cases hi : e[i]? with
  | none =>
    have hi' : e'[i]? = none := by
      rw [List.getElem?_eq_none_iff] at hi ⊢
      rw [le.len]; exact hi
    rw [hi']
    show RO2 e e' (g (frz1 i e)) (g (frz1 i e'))
    unfold frz1
    rw [hi, hi']
    exact h e e' le
  | some s =>
    cases s with
    | un => trivial
    | sh d =>
      rw [le.sh hi]
      show RO2 e e' (g (frz1 i e)) (g (frz1 i e'))
      unfold frz1
      rw [hi, le.sh hi]
      exact h e e' le
    | own l =>
      rw [le.own hi]
      show RO2 e e' (g (frz1 i e)) (g (frz1 i e'))
      unfold frz1
      rw [hi, le.own hi]
      have ge := Ge.set le i (s := .sh (.list l)) (by intro z; cases z)
      exact RO2.trans ge (h _ _ ge.le)
    | scr ns =>
      rw [le.scr hi]
      show RO2 e e' (g (frz1 i e)) (g (frz1 i e'))
      unfold frz1
      rw [hi, le.scr hi]
      exact h e e' le
theorem ms_own {i : Nat} {k : List D → FS} (hk : ∀ l, Ms (k l)) : Ms fun e => match e[i]? with
  | some (.own l) => k l e
  | _ => .no := fun e e' le => by
  dsimp only
  cases hi : e[i]? with
  | none => trivial
  | some s =>
    cases s with
    | own l => rw [le.own hi]; exact hk l e e' le
    | _ => trivial
theorem ms_app (i : Nat) (h : Mn f) : Ms (sApp i f) := ms_own fun l => ms_bind h fun _ => ms_ite (ms_set' i (by intro z; cases z)) ms_no
theorem ms_ext (i : Nat) (h : Mn f) : Ms (sExt i f) := ms_own fun l => ms_bindX (fun _ => rfl) h fun d => by
    cases d <;> first | exact ms_no | exact ms_ite (ms_set' i (by intro z; cases z)) ms_no
theorem ms_rem (i : Nat) (h : Mn f) : Ms (sRem i f) := ms_own fun l => ms_bindX (fun _ => rfl) h fun d => by
    cases d with
    | int k =>
      cases hl : intsD l with
      | none => exact ms_no
      | some ns => exact ms_ite (ms_set' i (by intro z; cases z)) ms_no
    | _ => exact ms_no
theorem ms_put (i : Nat) {fv fi : FE} (h : Mn fv) (h' : Mn fi) : Ms (sPut i fv fi) := ms_own fun l => ms_bind h fun v => ms_bindX (fun _ => rfl) h' fun d => by
    cases d with
    | int k =>
      show Ms fun e => match ixN l.length k with
        | some j => .nx (e.set i (.own (l.set j v)))
        | none => .no
      cases hl : ixN l.length k with
      | none => exact ms_no
      | some ns => exact ms_set' i (s := .own (l.set ns v)) (by intro z; cases z)
    | _ => exact ms_no
theorem ms_asg (h : Mn f) : Ms (sAsg t f) := ms_bindX (fun _ => rfl) h fun d e e' le => by
    show RO2 e e' (match t.put d e with | some x => .nx x | none => .no) (match t.put d e' with | some x => .nx x | none => .no)
    cases hp : t.put d e with
    | none => trivial
    | some x =>
      obtain ⟨x', h1, h2⟩ := t.put_ge le hp
      rw [h1]
      exact ⟨x', rfl, h2⟩
theorem mn_mS (h : Mn f) : Mn (mS f) := mn_bind h fun _ => mn_k _
theorem mn_mN (h : Mn f) : Mn (mN f) := mn_bind h fun d => mn_k _
theorem ms_par (i j : Nat) {ma mb : FM} (h : Mn ma) (h' : Mn mb) : Ms (sPar i j ma mb) := ms_bind h fun a => ms_bind h' fun b e e' le => by
  have h1 := Ge.set le i (s := a.sl) (by cases a <;> (intro z; cases z))
  exact ⟨_, rfl, h1.trans (Ge.set h1.le j (s := b.sl) (by cases b <;> (intro z; cases z)))⟩
theorem ms_loopF (h : Ms g) : ∀ ds : List D, Ms (loopF t g ds)
  | [] => fun e e' le => ⟨e', rfl, Ge.refl le⟩
  | d :: ds => fun e e' le => by
    unfold loopF
    cases hp : t.put d e with
    | none => trivial
    | some x =>
      obtain ⟨x', h1, h2⟩ := t.put_ge le hp
      rw [h1]
      dsimp only
      have r := h x x' h2.le
      have ih := ms_loopF h ds
      cases hg : g x with
      | nx y =>
        rw [hg] at r
        obtain ⟨y', r1, r2⟩ := r
        rw [r1]
        exact RO2.trans (h2.trans r2) (ih y y' r2.le)
      | ct y =>
        rw [hg] at r
        obtain ⟨y', r1, r2⟩ := r
        rw [r1]
        exact RO2.trans (h2.trans r2) (ih y y' r2.le)
      | bk y =>
        rw [hg] at r
        obtain ⟨y', r1, r2⟩ := r
        rw [r1]
        exact ⟨y', rfl, h2.trans r2⟩
      | rt d => rw [hg] at r; have r : g x' = .rt d := r; rw [r]; exact rfl
      | rn d => rw [hg] at r; have r : g x' = .rn d := r; rw [r]; exact rfl
      | er c n => rw [hg] at r; have r : g x' = .er c n := r; rw [r]; exact rfl
      | no => trivial
theorem ms_for (hi : Mn fa) (h : Ms g) : Ms (sFor t fa g) := ms_bind hi fun ds => ms_loopF h ds
theorem ms_loopW (hb : Mn b) (h : Ms g) : ∀ n : Nat, Ms (loopW b g n)
  | 0 => fun _ _ _ => trivial
  | n + 1 => by
    have ih := ms_loopW hb h n
    refine ms_bindX (fun _ => rfl) hb fun c => ms_ite (fun e e' le => ?_) ms_next
    show RO2 e e' (match g e with | .nx e => loopW b g n e | .ct e => loopW b g n e | .bk e => .nx e | o => o) (match g e' with | .nx e => loopW b g n e | .ct e => loopW b g n e | .bk e => .nx e | o => o)
    have r := h e e' le
    cases hg : g e with
    | nx y =>
      rw [hg] at r
      obtain ⟨y', r1, r2⟩ := r
      rw [r1]
      exact RO2.trans r2 (ih y y' r2.le)
    | ct y =>
      rw [hg] at r
      obtain ⟨y', r1, r2⟩ := r
      rw [r1]
      exact RO2.trans r2 (ih y y' r2.le)
    | bk y =>
      rw [hg] at r
      obtain ⟨y', r1, r2⟩ := r
      rw [r1]
      exact ⟨y', rfl, r2⟩
    | rt d => rw [hg] at r; have r : g e' = .rt d := r; rw [r]; exact rfl
    | rn d => rw [hg] at r; have r : g e' = .rn d := r; rw [r]; exact rfl
    | er c n => rw [hg] at r; have r : g e' = .er c n := r; rw [r]; exact rfl
    | no => trivial
theorem ms_while (n : Nat) (hb : Mn b) (h : Ms g) : Ms (sWhile n b g) := ms_loopW hb h n
end

/-! ### a block reckoned -/
def isUn (o : Option Sl) : Bool := match o with
  | some .un => true
  | _ => false
def nxOk (keep : List Nat) (o : Out) : Bool := match o with
  | .nx f => keep.all fun i => isUn f[i]?
  | _ => false
theorem run_nx {g : FS} (m : Ms g) {keep : List Nat} {e e' : List Sl} (h : nxOk keep (g e) = true) (le : Le e e') : ∃ f', g e' = .nx f' ∧ f'.length = e'.length ∧ ∀ i ∈ keep, f'[i]? = e'[i]? := by
  have r := m e e' le
  cases hg : g e with
  | nx f =>
    rw [hg] at r h
    obtain ⟨f', h1, h2⟩ := r
    have hun : ∀ i ∈ keep, f[i]? = some .un := fun i hi => by
      have z := List.all_eq_true.mp h i hi
      unfold isUn at z
      split at z
      · assumption
      · cases z
    exact ⟨f', h1, h2.len, fun i hi => (h2.un i (hun i hi)).2⟩
  | _ => rw [hg] at h; cases h
end PD

/-! Part 19: laws that go in turns, by frames -/
namespace PD
open PySem PySem.Spec PyProof.Rows L2
/-- a turn: the slots but those of the script, the draws and the turn are not known -/
def eT (d t : D) (n : Nat) : List Sl := .un :: .sh d :: .sh t :: List.replicate n .un
/-- what a turn must do -/
def TurnOk (g : FS) (d : D) (n : Nat) (t : Nat) : Prop := ∃ f, g (eT d (.int (t : Int)) n) = .nx f ∧ f[0]? = some .un ∧ f[1]? = some (.sh d)
theorem turn_run {g : FS} (m : Ms g) {d : D} {n t : Nat} (h : TurnOk g d n t) {s0 : Sl} {R : List Sl} (hR : R.length = n) : ∃ s2 R', R'.length = n ∧ g (s0 :: .sh d :: .sh (.int (t : Int)) :: R) = .nx (s0 :: .sh d :: s2 :: R') := by
  obtain ⟨f, h1, h2, h3⟩ := h
  have le : Le (eT d (.int (t : Int)) n) (s0 :: .sh d :: .sh (.int (t : Int)) :: R) := Le.un (Le.cons (Le.cons (Le.rep hR)))
  have r := m _ _ le
  rw [h1] at r
  obtain ⟨f', e1, ge⟩ := r
  have a0 := (ge.un 0 h2).2
  have a1 := ge.le.sh h3
  have hl := ge.len
  match f', hl with
  | [], hl => simp at hl
  | [_], hl => simp at hl
  | [_, _], hl => simp at hl
  | x :: y :: z :: R', hl =>
    have e0 : x = s0 := by simpa using a0
    have e1' : y = .sh d := by simpa using a1
    subst e0 e1'
    exact ⟨z, R', by simp at hl; omega, e1⟩
theorem turns_ok {g : FS} (m : Ms g) {d : D} {n k : Nat} (hk : k ≤ 1000000) (h : ∀ t, t < k → TurnOk g d n t) {s0 s2 : Sl} {R : List Sl} (hR : R.length = n) : ∃ s2' R', R'.length = n ∧ sFor (Tgt.nm 2) (iRng1F (aCons (fC (.int (k : Int))) aNil)) g (s0 :: .sh d :: s2 :: R) = .nx (s0 :: .sh d :: s2' :: R') := by
  obtain ⟨e', h1, s2', R', hR', rfl⟩ := loopF_inv (t := Tgt.nm 2) (body := g) (ds := rng 0 k) (I := fun _ e => ∃ s2 R, R.length = n ∧ e = s0 :: .sh d :: s2 :: R) (fun i e d' hd ⟨s2, R, hR, he⟩ => by
    subst he
    obtain ⟨hi, rfl⟩ := rng_get hd
    rw [Int.zero_add]
    obtain ⟨s2', R', hR', h1⟩ := turn_run m (h i hi) (s0 := s0) hR
    exact ⟨_, _, rfl, h1, s2', R', hR', rfl⟩) (s0 :: .sh d :: s2 :: R) ⟨s2, R, hR, rfl⟩
  exact ⟨s2', R', hR', e_for (e_rng1 (n := k) e_c hk) h1⟩
/-- the law: draws, turns, the end -/
theorem law_turns {dr : List Int → Rs D} {g fin : FS} {l : List D} {n k : Nat} {ns : List Int} (hd : dr ns = .ok (.list l)) (m : Ms g) (hk : k ≤ 1000000) (h : ∀ t, t < k → TurnOk g (.list l) n t)
    (hf : ∀ e : List Sl, fin e = .rt (.bool true)) : isTrueOut (sSeq (sSet 1 (fScrCall 0 dr)) (sSeq (sFor (Tgt.nm 2) (iRng1F (aCons (fC (.int (k : Int))) aNil)) g) fin) (envS (n + 3) ns)) = true := by
  obtain ⟨s2, R', hR', h1⟩ := turns_ok m hk h (s0 := .scr ns) (s2 := .un) (R := List.replicate n .un) List.length_replicate
  have z : sSeq (sSet 1 (fScrCall 0 dr)) (sSeq (sFor (Tgt.nm 2) (iRng1F (aCons (fC (.int (k : Int))) aNil)) g) fin) (envS (n + 3) ns) = .rt (.bool true) := by
    refine e_seq (e' := .scr ns :: .sh (.list l) :: .un :: List.replicate n .un) (e_set (d := .list l) (by show dr ns = _; exact hd) ?_) (e_seq h1 (hf _))
    unfold envS
    rw [show n + 3 - 1 = n + 1 + 1 by omega, List.replicate_succ, List.replicate_succ]
    rfl
  rw [z]; rfl
end PD

/-! Part 20: the program's errors: classes over a base of ValueError whose __init__ says super().__init__(at); self.at = at -/
namespace PySem
namespace SeekX
open PySem.W PySem.Calls PyProof.Rows PySem.HandSPX
/-! ### the text of __init__ -/
def iA (p1 p2 : Pos) : Arguments := { posonlyargs := [], args := [{ arg := "self", annotation := none, pos := p1 }, { arg := "at", annotation := none, pos := p2 }], vararg := none, kwonlyargs := [], kw_defaults := [], kwarg := none, defaults := [] }
def iB (q1 q2 q3 q4 q5 q6 q7 q8 q9 q10 : Pos) : List Stmt := [.Expr (.Call (.Attribute (.Call (.Name "super" q1) [] [] q2) "__init__" q3) [.Name "at" q4] [] q5) q6, .Assign [.Attribute (.Name "self" q7) "at" q8] (.Name "at" q9) q10]
def iS : Scope := { kind := .function, names := [(PySem.Str.ofString "self", .local), (PySem.Str.ofString "at", .local), (PySem.Str.ofString "__class__", .free), (PySem.Str.ofString "super", .globalImplicit)], isGenerator := false, isCoroutine := false, more := [] }
/-- what the written part says of the base S and of its __init__ at fI -/
structure InitTxt (P : Program) (K : Frag) (S fI : Addr) : Prop where
  fn : ∃ (oc : Value) (od : Option Addr) (doc pm : Value) (an : Option Addr) (cda : Addr) (ct : Value) (osl : Array (Option Value)) (cc : Addr) (p1 p2 q1 q2 q3 q4 q5 q6 q7 q8 q9 q10 : Pos),
    K.lookup fI = some ⟨oc, od, .func (ksFn "__init__" "SeekError.__init__" (iA p1 p2) (iB q1 q2 q3 q4 q5 q6 q7 q8 q9 q10) iS .none .none doc pm an (.ref cda) ct cc), osl⟩ ∧ codeIn K (.ref cda) "SeekError.__init__" = true ∧ (q3.endLine == q5.line) = true ∧
    (∃ (ccl : Value) (cdd : Option Addr) (vs : Array Value) (ccs : Array (Option Value)) (file : Str) (tf : Tok), K.lookup cda = some ⟨ccl, cdd, .fields vs, ccs⟩ ∧ vs[2]? = some (.str file tf) ∧ ((P.main.file : Str) == file) = true) ∧
    ∃ (cl : Value) (cld : Option Addr) (csl : Array (Option Value)), K.lookup cc = some ⟨cl, cld, .cell (some (.ref S)), csl⟩
  isS : (clsIn K S).isSome = true
  top : (P.main.scope.names.lookup ("super" : Str)).isSome = false
  tp : nsIn K cStatics "thirdparty.any" = some none
/-- .. of a class x at C over the base -/
structure SeekTxt (K : Frag) (mg : Str → Option Value) (x : Str) (C S fI : Addr) : Prop where
  gC : mg x = some (.ref C)
  cls : ∃ nm q N bs bm sn sub ab col dd k0 k1 k2 k3 k5, K.lookup C = some (excClassObj nm q C N bs bm true sn sub ab col dd k0 k1 k2 k3 k5 "ValueError.__new__") ∧ refsVE bm = true
  sa : findIn K (.ref C) "__setattr__" = some (some (.builtin "object.__setattr__"))
  ga : findIn K (.ref C) "__getattribute__" = some (some (.builtin "BaseException.__getattribute__"))
  gg : findIn K (.ref C) "__getattr__" = some none
  noN : findIn K (.ref C) "at" = some none
  iC : findIn K (.ref C) "__init__" = some (some (.ref fI))
  tC : typeIn K (.ref fI) = some (.type "function")
  kC : keepIn K (.ref C) = true
  exC : subIn K (.ref C) (.type "BaseException") = some true
  veC : subIn K (.ref C) (.type "ValueError") = some true
  tyC : typeIn K (.ref C) = some (.type "type")
  hdC : hasDictIn K C = true
  msS : mroIn K C (.ref S) = some true
  sup : ks_superIn K C S "__init__" = some (some (.builtin "ValueError.__init__"))
/-- what __init__ leaves of a fresh exception at x -/
structure InitEnd (h h' : Heap) (x C dx t1 : Addr) (v : Value) : Prop where
  keep : ∀ b o, b ≠ x → h.get? b = some o → h'.get? b = some o
  obj : h'.get? x = some { cls := .ref C, dict := some dx, data := .fields #[.ref t1, .none, .none, .none, .bool false, .none] }
  dbig : h.objs.size ≤ dx
  dne : dx ≠ x
  ns : h'.Ns1 dx (fun y => if y = "at" then some v else none)
/-- a made exception -/
structure OwnMade (h h' : Heap) (e C d : Addr) (v : Value) : Prop where
  keep : ∀ b o, h.get? b = some o → h'.get? b = some o
  new : h.objs.size ≤ e
  obj : ∃ oe vs, h'.get? e = some oe ∧ oe.cls = .ref C ∧ oe.dict = some d ∧ oe.data = .fields vs ∧ vs[1]? = some .none
  dbig : h.objs.size ≤ d
  dne : d ≠ e
  ns : h'.Ns1 d (fun y => if y = "at" then some v else none)
theorem one_size (v : Value) : [v].length ≤ sizeLine := by
  rw [sizeLine_eq]
  exact (by decide : 1 ≤ 16777216)
section
variable {prog : Program} {w : World} {A : Around} {E : Value → Shared → Prop} {h : Heap} {g : Array GenState} {d : Drawn} {t : Nat} {os : OsState}
variable {nm q : Str} {C N : Addr} {bs bm : List Value} {hdct : Bool} {sn : List Str} {sub : List Value} {ab : Bool} {col : Option Bool} {dd : Option Addr} {k0 k1 k2 k3 k5 : Option Value}
/-- ValueError.__init__ bound to an instance, called -/
theorem call_mw {u e t0 : Addr} {rest : List Value} {Q : Value → Shared → Prop}
    (hC : h.get? C = some (excClassObj nm q C N bs bm hdct sn sub ab col dd k0 k1 k2 k3 k5 "ValueError.__new__")) (he : h.get? e = some (HandSPX.excO C t0)) (hu : h.get? u = some (kxs_mw "ValueError.__init__" e)) (hrest : rest.length ≤ sizeLine)
    (hq : ∀ h' t1, (∀ b o, b ≠ e → h.get? b = some o → h'.get? b = some o) → h'.get? e = some (HandSPX.excO C t1) → Q .none ⟨h', g, d, t, os⟩) :
    wpAny (model prog w) A (call (.ref u) rest) Q E ⟨h, g, d, t, os⟩ := by
  refine wpAny_call (codeAny_of_tree ?_)
  show wpAny _ A.in1 (callAny (.ref u) ⟨rest, []⟩) _ _ _
  simp only [callAny]
  refine wpAny_bind (wpAny_load hu ?_)
  simp only [kxs_mw, show (Value.type "method-wrapper" == Value.type "method" || Value.type "method-wrapper" == Value.type "builtin_function_or_method" || Value.type "method-wrapper" == Value.type "method-wrapper") = true by decide, if_true]
  refine W.KFB.if_so (by decide) ?_
  refine wpAny_bind (ESX.check_bound F.excBase_ValueError hC he rfl ?_)
  refine wpAny_bind (wpAny_pure (wpAny_pure ?_))
  refine ⟨Code.quiet_builtin _ (by decide +kernel), codeAny_builtin F.excBase_ValueError.initEntry ?_⟩
  rw [Around.under_plainId F.excBase_ValueError.init.plain _]
  wp_walk
  refine hq _ h.objs.size (fun b o hb ho => ?_) ?_
  · rw [Heap.get?_update_other _ _ (Ne.symm hb)]
    exact Heap.get?_push_of_some _ ho
  · rw [Heap.get?_update_self _ (Heap.get?_push_of_some _ he) rfl]
    rfl
end
section
variable {prog : Program} {w : World} {A : Around} {E : Value → Shared → Prop} {R : Result → Shared → Prop} {s : Shared} {K : Frag} {mg mb : Str → Option Value} {x' : Str} {C S fI : Addr}
theorem meth_eq {q1 q2 q3 q4 q5 : Pos} (h : (q3.endLine == q5.line) = true) (env : Env) : eval (.Call (.Attribute (.Call (.Name "super" q1) [] [] q2) "__init__" q3) [.Name "at" q4] [] q5) env = (do
      let ov ← attributeBase (.Call (.Name "super" q1) [] [] q2) "__init__" env (eval (.Call (.Name "super" q1) [] [] q2) env)
      standAt q3.atName
      let (f, first) ← holding [ov] (getMethod ov "__init__" (do return (← (pure (some false) : Sem (Option Bool))).getD true))
      callWith q5 f first (backTo q5 (starEach [.Name "at" q4] env)) []) := by
  show (do
      let ov ← attributeBase (.Call (.Name "super" q1) [] [] q2) "__init__" env (eval (.Call (.Name "super" q1) [] [] q2) env)
      standAt q3.atName
      methodCall (.Call (.Name "super" q1) [] [] q2) "__init__" q3 q5 env ov 1 (backTo q5 (starEach [.Name "at" q4] env)) []) = _
  have key : ∀ ov, methodCall (.Call (.Name "super" q1) [] [] q2) "__init__" q3 q5 env ov 1 (backTo q5 (starEach [.Name "at" q4] env)) [] = (do
      let (f, first) ← holding [ov] (getMethod ov "__init__" (do return (← (pure (some false) : Sem (Option Bool))).getD true))
      callWith q5 f first (backTo q5 (starEach [.Name "at" q4] env)) []) := fun ov => by
    unfold methodCall
    have hf : methodCallForm 1 (backTo q5 (starEach [.Name "at" q4] env)) [] = true := rfl
    rw [hf]
    unfold methodCallPos
    simp only [h, Bool.not_true, Bool.false_or, if_true, pure_bind]
    rfl
  simp only [key]
theorem seek_init (I : InitTxt prog K S fI) (T : SeekTxt K mg x' C S fI) {x t0 : Addr} {v : Value} (X : K.In s.heap) (hlim : s.heap.NoLimit) (hg : s.heap.Ns mainGlobals mg) (hsu : mg "super" = none) (hb : s.heap.Ns builtinsNs mb) (hbb : mb "super" = bootBuiltins "super")
    (hx : s.heap.get? x = some (excO C t0)) (hnx : K.lookup x = none) (hroom : A.depth < recursionLimit)
    (hq : ∀ h' tk dx t1, InitEnd s.heap h' x C dx t1 v → R (.ok (.ret .none)) { s with heap := h', toks := tk }) :
    codeAny (model prog w) A (.call (.ref fI) ⟨[.ref x, v], []⟩) R s := by
  obtain ⟨oc, od, doc, pm, an, cda, ct, osl, cc, p1, p2, q1, q2, q3, q4, q5, q6, q7, q8, q9, q10, ho, hcd, hln, ⟨ccl, cdd, vs, ccs, file, tf, hcode, hvs, hfile⟩, cl, cld, csl, hcell⟩ := I.fn
  obtain ⟨nm, q, N, bs, bm, sn, sub, ab, col, dd, k0, k1, k2, k3, k5, hC, hbm⟩ := T.cls
  have hcl : clsIn K C = some { name := nm, bases := bs, mro := .ref C :: bm, ns := N, qualname := q, hasDict := true, slotNames := sn, subclasses := sub, abstract := ab, collection := col, hasDel := false } := by unfold clsIn; rw [hC] <;> rfl
  obtain ⟨cdD, hD⟩ := Option.isSome_iff_exists.mp I.isS
  obtain ⟨oD, hD1, hD2⟩ : ∃ oD, K.lookup S = some oD ∧ oD.data = .cls cdD := by
    unfold clsIn at hD
    split at hD
    · rename_i c d cd' sl ho
      cases hD
      exact ⟨_, ho, rfl⟩
    · cases hD
  have hxC : x ≠ C := fun e => by rw [e, hC] at hnx; cases hnx
  obtain ⟨hp, gn, dr, tk, os⟩ := s
  have hxs : x < hp.objs.size := Heap.lt_size hx
  refine ks_codeAny_call_defAt (fd := ksFn "__init__" "SeekError.__init__" (iA p1 p2) (iB q1 q2 q3 q4 q5 q6 q7 q8 q9 q10) iS .none .none doc pm an (.ref cda) ct cc) (body := iB q1 q2 q3 q4 q5 q6 q7 q8 q9 q10) (binds := [("self", .ref x), ("at", v)]) hroom (X _ _ ho) rfl hlim (codeRec_of X hcd) rfl (BindsTo.of_eq (by first | rfl | with_unfolding_all rfl)) (show ∀ y ∈ iS.names, y.2 ≠ .cell by decide) (by first | decide | (intro y hy; simp at hy; rcases hy with rfl | rfl <;> rfl)) (fun h₁ hn k => ?_) rfl rfl rfl
  have X₁ : K.In h₁ := X.keeps k
  have hx₁ := k _ _ hx
  refine ks_wpAt_execs_cons (ks_wpAt_Expr_any (ks_wpAt_MethodCall ?_ (meth_eq hln _)))
  refine ks_wpAt_super_base rfl rfl (by decide) rfl (X₁ _ _ ho) rfl rfl rfl (X₁ _ _ hcode) rfl hvs hfile I.top ?_
  refine ks_loadName_global rfl rfl (loadGlobal_builtin (hg.keeps k) hsu (hb.keeps k) (hbb.trans (show bootBuiltins "super" = some (.type "super") by decide +kernel)) ⟨rfl, ?_⟩)
  refine wpAny_loadName_free rfl rfl rfl ⟨_, X₁ _ _ hcell, rfl⟩ ?_
  refine wpAny_loadName_local rfl rfl hn (by first | rfl | with_unfolding_all rfl | kernel_rfl) ?_
  refine ks_wpAny_isType_cls (X₁ _ _ hD1) hD2 ⟨rfl, ?_⟩
  refine ks_wpAny_call_super (X₁ _ _ hD1) hD2 hx₁ rfl (fun c e => by cases e) (looks_mroIn X₁ T.msS) (fun h₂ hso k₂ => ?_)
  have X₂ : K.In h₂ := X₁.keeps k₂
  have hx₂ := k₂ _ _ hx₁
  have IA : InstAt h₂ x (excO C t0) C none := ⟨hx₂, rfl, rfl, trivial⟩
  have hI : Looks (model prog w) h₂ (isInstance (.ref x) (.type "ValueError")) true := IA.type.andThen (looks_subIn X₂ T.veC)
  have hsup := T.sup
  unfold ks_superIn at hsup
  rw [hcl, Option.bind_some] at hsup
  refine kxs_getMethod kxs_ValueError hso (looks_opaque X₂ I.tp) (l₀ := .ref C :: bm) (fun A Q E s k q => wpAny_bind ((looks_clsIn X₂ hcl) A _ E s k (wpAny_pure q))) rfl X₂ hsup hI hxC (by decide) ?_
  have hu : (h₂.push (kxs_mw "ValueError.__init__" x)).get? h₂.objs.size = some (kxs_mw "ValueError.__init__" x) := Heap.get?_push_at rfl rfl
  have k₃ : ∀ b o, h₂.get? b = some o → (h₂.push (kxs_mw "ValueError.__init__" x)).get? b = some o := fun b o e => Heap.get?_push_of_some _ e
  refine kxs_callWith (i := "ValueError.__init__") (x := x) (by rfl) ?_
  refine evalArgs_plain (x := eval (.Name "at" q4) _) (rest := []) ?_
  refine spliced_cons ?_
  refine wpAny_Name (wpAny_loadName_local rfl rfl ((hn.keeps k₂).keeps k₃) (show _ = some v by first | rfl | with_unfolding_all rfl | kernel_rfl) ?_) (by decide)
  refine spliced_nil ⟨hu, ?_⟩
  refine call_mw (X₂.keeps k₃ _ _ hC) (k₃ _ _ hx₂) hu (one_size v) fun h₄ t1 k₄ hx₄ => ?_
  -- self.at = at
  have kk : ∀ b o, b ≠ x → h₁.get? b = some o → h₄.get? b = some o := fun b o hb e => k₄ b o hb (k₃ _ _ (k₂ _ _ e))
  have hn₄ : h₄.Ns hp.objs.size _ := Heap.Ns.at ((hn.keeps k₂).keeps k₃) fun o e => k₄ _ o (Nat.ne_of_gt hxs) e
  have X₄ : K.In h₄ := fun b o e => k₄ b o (fun z => by rw [z, hnx] at e; cases e) (X₂.keeps k₃ b o e)
  refine wpAt_of_wpAny ?_
  refine wpAny_execs_cons (plainObj_wpAny_Assign_Attribute ?_)
  refine wpAny_Name (wpAny_loadName_local rfl rfl hn₄ (show _ = some v by first | rfl | with_unfolding_all rfl | kernel_rfl) ?_) (by decide)
  refine wpAny_Name (wpAny_loadName_local rfl rfl hn₄ (show _ = some (Value.ref x) by first | rfl | with_unfolding_all rfl | kernel_rfl) ?_) (by decide)
  refine set_plain X₄ (ox := excO C t1) (od := none) ⟨hx₄, rfl, rfl, trivial⟩ T.sa ?_
  refine exc_osa X₄ hx₄ hcl (show refsVE (.ref C :: bm) = true from hbm) rfl T.noN (fun h₅ tk₅ dx k₅ dn dne hx₅ hn₅ => ?_)
  have z : hp.objs.size < h₄.objs.size := hn₄.lt
  exact wpAny_execs_nil (hq h₅ tk₅ dx t1 ⟨fun b o hb e => k₅ b o hb (kk b o hb (k b o e)), hx₅, Nat.le_of_lt (Nat.lt_of_lt_of_le z dn), dne, hn₅⟩)
theorem seek_made (I : InitTxt prog K S fI) (T : SeekTxt K mg x' C S fI) {v : Value} (X : K.In s.heap) (hlim : s.heap.NoLimit) (hg : s.heap.Ns mainGlobals mg) (hsu : mg "super" = none) (hb : s.heap.Ns builtinsNs mb) (hbb : mb "super" = bootBuiltins "super") (hroom : A.depth + 1 < recursionLimit)
    (hq : ∀ h' tk e d, OwnMade s.heap h' e C d v → R (.ok (.ret (.ref e))) { s with heap := h', toks := tk }) :
    codeAny (model prog w) A (.call (.ref C) ⟨[v], []⟩) R s := by
  obtain ⟨nm, q, N, bs, bm, sn, sub, ab, col, dd, k0, k1, k2, k3, k5, hC, hbm⟩ := T.cls
  obtain ⟨hp, g, dr, tk, os⟩ := s
  have k : ∀ b o, hp.get? b = some o → ((hp.push (kdv_tup [v])).push (excO C hp.objs.size)).get? b = some o := fun b o e => Heap.get?_push_of_some _ (Heap.get?_push_of_some _ e)
  have hget : ((hp.push (kdv_tup [v])).push (excO C hp.objs.size)).get? (hp.objs.size + 1) = some (excO C hp.objs.size) := by heap_get
  have hnx : K.lookup (hp.objs.size + 1) = none := by
    cases e : K.lookup (hp.objs.size + 1) with
    | none => rfl
    | some o =>
      have z : hp.get? (hp.objs.size + 1) = some o := X _ _ e
      exact absurd (Nat.lt_of_succ_lt (Heap.lt_size z)) (Nat.lt_irrefl _)
  refine call_own F.excBase_ValueError (fun X => refsVE_contains X bm hbm) (X _ _ hC) (looks_findIn X T.iC) (fun self => bind_fn X self T.tC) (one_size v) ?_
  refine seek_init (s := ⟨(hp.push (kdv_tup [v])).push (excO C hp.objs.size), g, dr, tk, os⟩) I T (X.keeps k) (hlim.keeps k) (hg.keeps k) hsu (hb.keeps k) hbb hget hnx ?_ fun h' tk' dx t1 ⟨k', hx, dn, dne, hns⟩ => ?_
  · show A.depth + 1 < recursionLimit
    exact hroom
  · have old : ∀ b o, hp.get? b = some o → h'.get? b = some o := fun b o e => k' b o (Nat.ne_of_lt (Nat.lt_succ_of_lt (Heap.lt_size e))) (k b o e)
    have z : hp.objs.size + 1 + 1 ≤ dx := by
      first
        | (simpa only [Heap.size_push] using dn)
        | exact dn
        | (have q := dn; rw [Heap.size_push, Heap.size_push] at q; exact q)
    exact ⟨rfl, hq h' tk' (hp.objs.size + 1) dx ⟨old, Nat.le_succ _, ⟨_, _, hx, rfl, rfl, rfl, rfl⟩, Nat.le_trans (Nat.le_trans (Nat.le_succ _) (Nat.le_succ _)) z, dne, hns⟩⟩
end
end SeekX
end PySem
namespace PD
open PySem PySem.Spec PyProof.Rows L2
theorem relO_at {v : V} {v' : Value} (r : RelV v v') (f : Str) : RelO (List.lookup f [(("at" : Str), v)]) (if f = "at" then some v' else none) := by
  by_cases hw : f = "at"
  · subst hw
    rw [if_pos rfl]
    have q : List.lookup ("at" : Str) [(("at" : Str), v)] = some v := by simp [List.lookup]
    rw [q]
    exact r
  · rw [if_neg hw]
    have qw : (f == ("at" : Str)) = false := by simpa using hw
    have q2 : List.lookup f [(("at" : Str), v)] = none := by simp [List.lookup, qw]
    rw [q2]
    trivial
section
variable {X : Cx} {C : Ct} {Cc S fI : Addr} {x : Str}
/-- x(e) -/
def tMkS (Cc : Addr) (ta : TA) : L2.St → Hp → XK → Prop := fun σ H Q => ta σ H fun vs H1 => ∃ v, vs = [v] ∧ ∀ d, H1 d = none → Q (.ref Cc) (some d) (upd H1 d (.xd [(("at" : Str), v)]))
theorem pmk_seek {a : Expr} {ta : TA} {p pos : Pos} {k : Nat} (I0 : PySem.SeekX.InitTxt X.prog X.K S fI) (T : PySem.SeekX.SeekTxt X.K X.mg x Cc S fI) (hsu : X.mg "super" = none) (hr : Room (k + 1) X.A) (ha : PA X [a] ta) (hg : Gl X x := by rfl)
    (hdb : (x == ("__debug__" : Str)) = false := by decide) (he : starEach (a :: []) X.env = (false, eval a X.env) :: starEach [] X.env := by rfl) (hpl : (backTo pos (starEach [] X.env)).any (·.1) = false := by rfl) :
    PMk X (.Call (.Name x p) [a] [] pos) (tMkS Cc ta) := by
  intro pins s σ H Q I h
  refine wpAny_Call_Name_kw (ld_glob I hg T.gC ?_ hdb)
  refine PySem.W.callWith_K (h₀ := X.base) I.ok.mod.kin T.kC (thn (ha.run pos pins s σ H _ I h) fun us s1 hh => ?_) he hpl
  obtain ⟨vs, H1, I1, r1, v, ev, q1⟩ := hh
  subst ev
  refine ⟨I1.kIn, ?_⟩
  cases r1 with
  | cons rv rn =>
    rename_i v' us'
    cases rn
    show wpAny _ _ (call (.ref Cc) [v']) _ _ _
    have hlim := I1.nolimit
    obtain ⟨mb, hb1, hb2⟩ := I1.mod.blt
    have hgl := I1.mod.glob.keeps I1.bk
    have hbl := hb1.keeps I1.bk
    have hkin := I1.kIn
    obtain ⟨hp, g, dr, tk, os⟩ := s1
    refine wpAny_call (PySem.SeekX.seek_made I0 T hkin hlim hgl hsu hbl (hb2 "super" (by decide)) (by have := hr.dp; omega) fun h' tk' e d M => ?_)
    show MkP X pins σ Q (.ref e) ⟨h', g, dr, tk', os⟩
    obtain ⟨oe, fv, hoe, hc, hd, hdat, h1⟩ := M.obj
    have hns := M.ns
    obtain ⟨G', g1, g2⟩ := restrict h' fun b => decide (b ≠ e)
    have gk : ∀ b, b ≠ e → G'.get? b = h'.get? b := fun b hb => g1 b (decide_eq_true hb)
    have ge : G'.get? e = none := g2 e (by simp)
    have old : ∀ b o, hp.get? b = some o → G'.get? b = some o := fun b o q => (gk b (Nat.ne_of_lt (Nat.lt_of_lt_of_le (Heap.lt_size q) M.new))).trans (M.keep b o q)
    have ob : ObjOk X.prog X.w (upd H1 d (.xd [(("at" : Str), v)])) G' d (.xd [(("at" : Str), v)]) :=
      ⟨_, hns.at (fun o q => (gk d M.dne).trans q), fun f => relO_at rv f⟩
    have J : Inv X pins σ (upd H1 d (.xd [(("at" : Str), v)])) ⟨G', g, dr, tk', os⟩ := I1.laid (t' := tk') old M.dbig ob
    refine ⟨e, oe, fv, ⟨G', g, dr, tk', os⟩, _, .ref Cc, some d, rfl, J, fun b o q => ?_, ge, hoe, ⟨hc, hd⟩, hdat, h1, ?_, rfl, I1.bare, raises_own T.exC T.tyC, q1 d (I1.hok.fresh M.dbig)⟩
    · by_cases hb : b = e
      · have q' : G'.get? b = some o := q
        rw [hb, ge] at q'; cases q'
      · exact (gk b hb).symm.trans q
    · rw [upd_ne (Ne.symm M.dne)]
      exact I1.hok.fresh M.new
/-- raise x(e) -/
def sRaise (x : Str) (f : FE) : FS := fun env => bindO (f env) fun d => match d with
  | .int n => .er x n
  | _ => .no
theorem vs_raise {a : Expr} {f : FE} {p pos pos2 : Pos} {k : Nat} (I0 : PySem.SeekX.InitTxt X.prog X.K S fI) (T : PySem.SeekX.SeekTxt X.K X.mg x Cc S fI) (hsu : X.mg "super" = none) (am : Am X) (hr : Room (k + 1) X.A) (tk : Takes X fun cls d σ H => C.E σ cls d H) (ha : VE X C a f) (hg : Gl X x := by rfl)
    (hdb : (x == ("__debug__" : Str)) = false := by decide) (he : starEach (a :: []) X.env = (false, eval a X.env) :: starEach [] X.env := by rfl) (hpl : (backTo pos (starEach [] X.env)).any (·.1) = false := by rfl) :
    VS X C (.Raise (some (.Call (.Name x p) [a] [] pos)) none pos2) (sRaise x f) := PS.of (ps_raise am.c tk (pmk_seek I0 T hsu hr (va_cons ha va_nil he) hg hdb he hpl)) fun D σ H ⟨F, env, re, q⟩ => by
  refine ⟨F, env, re, ?_⟩
  have q : SatS X.K X.mg C (bindO (f env) fun d => match d with | .int n => .er x n | _ => .no) F D := q
  unfold aCons aNil
  cases hf : f env with
  | ok d =>
    rw [hf] at q
    cases d with
    | int n =>
      have q : ∀ σ', XW X.mg C σ' C.H x n := q
      intro b H1 F1 x1 r1
      cases r1 with
      | cons r1 rn =>
        cases rn
        cases r1
        refine ⟨_, rfl, fun d hd => ?_⟩
        have sm := (re.go x1).ext.h
        exact q σ (.ref Cc) _ d T.gC (sm.trans (same_upd hd)) (sm.free hd) upd_same
    | _ => exact q.elim
  | er c n =>
    rw [hf] at q
    exact XW.mono re.ext.h (q σ)
  | no => rw [hf] at q; exact q.elim
end
end PD

/-! Part 21: try with clauses «except X as e», each handing back a text and e.at -/
namespace PD
open PySem PySem.Spec PyProof.Rows L2
abbrev Clause := Value × (Addr → Value → Option Addr → TS)
/-- the ends of a suite: behind it the clause's name is gone -/
def cutE (D : Ends) (i : Nat) : Ends := { nx := fun σ' H' => D.nx (σ'.set i none) H', rt := D.rt, bk := fun σ' H' => D.bk (σ'.set i none) H', ct := fun σ' H' => D.ct (σ'.set i none) H' }
/-- what the clauses wish -/
def wNm (K : PySem.W.Frag) (Wout : WX) (D : Ends) (i : Nat) : List Clause → WX
  | [] => Wout
  | k :: r => fun cls d σ H => ∃ b, PySem.W.exmOne K cls k.1 = some b ∧ (b = true → ∀ a, H a = none → k.2 a cls d (cutE D i) (σ.set i (some (.ref a))) H) ∧ (b = false → wNm K Wout D i r cls d σ H)
inductive NmOk (X : Cx) (n : Str) : List ExceptHandler → List Clause → Prop
  | nil : NmOk X n [] []
  | cons {x : Str} {k : Clause} {b₀ : Stmt} {suite : List Stmt} {np pos' : Pos} {hds : List ExceptHandler} {l : List Clause} (hc : Names X x k.1)
      (hsu : ∀ (a : Addr) (oe : Obj) (cls : Value) (d : Option Addr) (pn : List (Addr × Obj)), Zc cls d oe → (∃ vs, oe.data = .fields vs) → PSs (X.suite a ((a, oe) :: pn)) (b₀ :: suite) (k.2 a cls d)) (r : NmOk X n hds l) :
      NmOk X n (.ExceptHandler (some (.Name x np)) (some n) (b₀ :: suite) pos' :: hds) (k :: l)
section
variable {X : Cx} {n : Str} {i : Nat} {body : List Stmt} {h₀ : ExceptHandler} {hds : List ExceptHandler} {l : List Clause} {pos : Pos} {tb : WX → TS} {Wout : WX}
theorem ps_try_nm (hs : X.stack = X.env :: X.outer) (hf : X.env.frame = some X.env.locals) (hN : X.N.Nodup) (hi : X.N[i]? = some n) (hln : X.env.kindOf n = some .local) (tk : Takes X Wout)
    (hb : ∀ (W : WX) (pn : List (Addr × Obj)) (xe : Value → Shared → Prop), Takes (X.tr pn xe) W → PassesOwn (model X.prog X.w) X.A X.env xe → PSs (X.tr pn xe) body (tb W))
    (hh : NmOk X n (h₀ :: hds) l) : PS X (.Try body (h₀ :: hds) [] [] pos) (fun D σ H => tb (wNm X.K Wout D i l) D σ H) := by
  refine ⟨fun pins s σ H D I h => ?_⟩
  have ok := I.ok
  have hfr : X.A.frames = some (X.env :: X.outer) := by rw [ok.frames, hs]
  refine wpAny_Try_except ?_
  let catch_ : Value → Shared → Prop := fun e s₁ => wpAny (model X.prog X.w) X.A (noteFrame e X.env) (fun _ s₂ => wpAny (model X.prog X.w) X.A (setFlight e none)
    (fun _ s₃ => wpAny (model X.prog X.w) X.A (handleBy e X.env (h₀ :: hds)) (SP X pins D) X.xe s₃) X.xe s₂) X.xe s₁
  have hbody := hb (wNm X.K Wout D i l) (X.pn ++ pins) catch_ (fun u s' ⟨a, B, sI, pins', σ', H', cls, d, e0, J', nb, up, sky, na, os, ag, w⟩ => ?_) PassesOwn.looking
  · refine wpAny_mono (hbody.run [] s σ H D (I.toTry _) h) (fun f s1 z => ?_) fun e s1 z => z
    cases f with
    | next => exact let ⟨_, _, J, q⟩ := z; wpAny_execs_nil ⟨_, _, J.ofTry ok, q⟩
    | brk => exact let ⟨_, _, J, q⟩ := z; ⟨_, _, J.ofTry ok, q⟩
    | cont => exact let ⟨_, _, J, q⟩ := z; ⟨_, _, J.ofTry ok, q⟩
    | ret u => exact let ⟨_, _, _, J, r, q⟩ := z; ⟨_, _, _, J.ofTry ok, r, q⟩
  · subst e0
    have J : Inv X pins σ' H' sI := J'.ofTry ok
    have sky2 : Sky B (X.env :: X.outer) a (Zc cls d) X.env.locals s'.heap := hs ▸ sky
    refine Sky.land Zc.steady hfr hf sky2 fun h3 fl3 up3 => ?_
    have J3 : Inv X pins σ' H' { s' with heap := h3 } := J.landed nb fl3.1 (up.trans up3) os ag
    obtain ⟨oe3, vs3, he3, hz3, hd3⟩ := fl3.there
    have apart : a ∉ frs (X.env :: X.outer) := fun hm => by
      obtain ⟨_, o', e', hnf⟩ := fl3.2.2.1.mem hm
      rw [he3] at e'; cases e'
      exact hnf _ hd3
    have nL : a ≠ X.env.locals := fun z => apart (List.mem_filterMap.mpr ⟨X.env, List.mem_cons_self, by rw [hf, z]⟩)
    have nF : a ∉ X.fs := fun hm => by
      obtain ⟨e, he, q⟩ := List.mem_filterMap.mp hm
      exact apart (List.mem_filterMap.mpr ⟨e, List.mem_cons_of_mem _ he, q⟩)
    have S3 := J3.suite he3 hd3 na nL nF
    have clauses : ∀ {hds' : List ExceptHandler} {l' : List Clause}, NmOk X n hds' l' → wNm X.K Wout D i l' cls d σ' H' → wpAny (model X.prog X.w) X.A (handleBy (.ref a) X.env hds') (SP X pins D) X.xe { s' with heap := h3 } := by
      intro hds' l' hk
      induction hk with
      | nil =>
        intro w
        refine wpAny_handleBy_nil ?_
        obtain ⟨_, _, _, oe, vs, T, oT, ts', he, hz, hd, h1, hr⟩ := id fl3
        unfold PySem.passOn
        refine wpAny_bind (wpAny_field he hd h1 ?_)
        rw [if_neg (by simp)]
        have on : wpAny (model X.prog X.w) X.A (setFlight (.ref a) X.env.frame) (fun _ s4 => wpAny (model X.prog X.w) X.A (throw (.ref a) : Sem Flow) (SP X pins D) X.xe s4) X.xe { s' with heap := h3 } := by
          rw [hf]
          exact HandSPX.setFlight_upZ fl3 fun h4 hh4 up4 => wpAny_throw (tk _ _ ⟨a, B, sI, pins, σ', H', cls, d, rfl, J, nb, (up.trans up3).trans up4, .inr (.inr (hs ▸ hh4)), na, os, ag, w⟩)
        first
          | exact wpAny_bind (wpAny_pure (wpAny_bind on))
          | exact wpAny_bind on
      | @cons x k b₀ suite np pos' hds2 l2 hc hsu r ih =>
        intro w
        obtain ⟨b, hb1, hyes, hno⟩ := w
        refine wpAny_handleBy_cons (codeAny_handlers_test ?_) (by intro q; cases q)
        have LT : PySem.W.Looks (model X.prog X.w) h3 (typeOf (.ref a)) cls := fun _ _ _ s k q => wpAny_typeOf_ref (k _ _ he3) (by rw [hz3.1]; exact q)
        have LM := PySem.W.exm_one (M := model X.prog X.w) (J3.kIn) LT hb1
        have named : ∀ {Q : Value → Shared → Prop} {E : Value → Shared → Prop}, Q k.1 { s' with heap := h3 } → wpAny (model X.prog X.w) (X.A.mark (some (.ref a))) (eval (.Name x np) X.env) Q E { s' with heap := h3 } := fun {Q E} q => by
          obtain ⟨hg, hdbg, hm | ⟨hm, hv, hnn⟩⟩ := hc
          · exact ld_glob (X := X.suite a ((a, oe3) :: (X.pn ++ pins))) S3 hg hm q hdbg
          · exact ld_blt (X := X.suite a ((a, oe3) :: (X.pn ++ pins))) S3 hg hm hv q hnn hdbg
        refine named (LM.here ?_)
        cases b with
        | false => exact ih (hno rfl)
        | true =>
          refine codeAny_handlers_suite_as (HandSPX.lands_againZ fl3 fun h4 fl4 up4 => ?_)
          have J4 : Inv X pins σ' H' { s' with heap := h4 } := J.landed nb fl4.1 ((up.trans up3).trans up4) os ag
          obtain ⟨oe4, vs4, he4, hz4, hd4⟩ := fl4.there
          refine store_ok (X := X.suite a ((a, oe4) :: (X.pn ++ pins))) (v := .ref a) (J4.suite he4 hd4 na nL nF) hN hi (.inl hln) rfl (fun s5 S5 => ?_) (.inr hln)
          refine wpAny_mono ((hsu a oe4 cls d (X.pn ++ pins) hz4 ⟨_, hd4⟩).run [] s5 _ H' _ S5 (hyes rfl a na)) (fun f s6 z => ?_) (fun _ _ z => False.elim z)
          have gone : ∀ {σ6 : L2.St} {H6 : Hp} {Q : Shared → Prop}, Inv (X.suite a ((a, oe4) :: (X.pn ++ pins))) [] σ6 H6 s6 → (∀ s7, Inv X pins (σ6.set i none) H6 s7 → Q s7) →
              wpAny (model X.prog X.w) X.A (do bindName X.env n .none; unbindBehindTheSuite X.env n pos') (fun _ s7 => Q s7) X.xe s6 := fun {σ6 H6 Q} S6 hq => gone_ok (S6.unsuite ok) hN hi hln hq
          cases f with
          | next => exact let ⟨_, _, S6, q6⟩ := z; gone S6 fun s7 J7 => ⟨_, _, J7, q6⟩
          | brk => exact let ⟨_, _, S6, q6⟩ := z; gone S6 fun s7 J7 => ⟨_, _, J7, q6⟩
          | cont => exact let ⟨_, _, S6, q6⟩ := z; gone S6 fun s7 J7 => ⟨_, _, J7, q6⟩
          | ret u => exact let ⟨_, _, _, S6, r6, q6⟩ := z; gone S6 fun s7 J7 => ⟨_, _, _, J7, r6, q6⟩
    exact clauses hh w
end

/-! ### the clauses of the laws: except y as e: return (t, e.at) -/
/-- class y at address Y, text t -/
structure Cl where
  y : Str
  t : Str
/-- which clause takes an exception of class c -/
def takeC (c : Str) : List Cl → Option Str
  | [] => none
  | k :: r => if k.y = c then some k.t else takeC c r
/-- what the clauses say of the classes cs of the exceptions that come -/
structure ClsOk (K : PySem.W.Frag) (mg : Str → Option Value) (cs : List Str) (l : List Cl) : Prop where
  at_ : ∀ k ∈ l, ∃ Y : Addr, mg k.y = some (.ref Y) ∧ XfC K Y ∧ PySem.W.findIn K (.ref Y) "at" = some none
  exm : ∀ c ∈ cs, ∀ k ∈ l, ∀ C Y : Addr, mg c = some (.ref C) → mg k.y = some (.ref Y) → PySem.W.exmOne K (.ref C) (.ref Y) = some (decide (k.y = c))
  ref : ∀ c ∈ cs, ∃ C : Addr, mg c = some (.ref C)
def sTry (cs : List Str) (l : List Cl) (g : FS) : FS := fun env => match g env with
  | .er c n => if c ∈ cs then (match takeC c l with
    | some t => .rt (.tuple [.str t, .int n])
    | none => .er c n) else .no
  | o => o
/-- the reading of a suite return (t, n.at) -/
def tSu (K : PySem.W.Frag) (Y : Addr) (t : Str) (i : Nat) (a : Addr) (cls : Value) (d : Option Addr) : TS := fun D σ H => ∃ (dd : Addr) (fs : List (Str × V)) (v : V), σ[i]? = some (some (.ref a)) ∧ cls = .ref Y ∧ d = some dd ∧ H dd = some (.xd fs) ∧ fs.lookup ("at" : Str) = some v ∧
  ∀ p, H p = none → D.rt (.ref p) (upd H p (.tup [.str t, v]))
section
variable {X : Cx} {C : Ct} {n : Str} {i : Nat}
theorem two_size : 2 ≤ sizeLine := by
  rw [sizeLine_eq]; decide
theorem pss_su {a Y : Addr} {oe : Obj} {cls : Value} {d : Option Addr} {pn : List (Addr × Obj)} {t : Str} {j k : Nat} {p1 p2 p3 p4 pos : Pos} (T : XfC X.K Y) (hno : PySem.W.findIn X.K (.ref Y) "at" = some none)
    (hz : Zc cls d oe) (hf : ∃ vs, oe.data = .fields vs) (hN : X.N[i]? = some n) (hln : X.env.kindOf n = some .local) (hd : (n == ("__debug__" : Str)) = false := by decide) (hcd : (n == ("__classdict__" : Str)) = false := by decide)
    (hb : attributeBase (.Name n p2) "at" X.env (eval (.Name n p2) X.env) = eval (.Name n p2) X.env := by rfl)
    (h1 : starEach [.Constant (.str t) j p1, .Attribute (.Name n p2) "at" p3] X.env = [(false, eval (.Constant (.str t) j p1) X.env), (false, eval (.Attribute (.Name n p2) "at" p3) X.env)] := by rfl)
    (h2 : starEach [.Attribute (.Name n p2) "at" p3] X.env = [(false, eval (.Attribute (.Name n p2) "at" p3) X.env)] := by rfl) :
    PSs (X.suite a ((a, oe) :: pn)) [.Return (some (.Tuple [.Constant (.str t) j p1, .Attribute (.Name n p2) "at" p3] k p4)) pos] (tSu X.K Y t i a cls d) :=
  PSs.of (pss_one (ps_ret (pe_tup (pa_cons (X := X.suite a ((a, oe) :: pn)) pe_str (pa_cons (X := X.suite a ((a, oe) :: pn)) (pe_xf T hno hz hf (pe_var (X := X.suite a ((a, oe) :: pn)) (i := i) hN (.inl hln) hd hcd) hb) pa_nil h2) h1)))) fun D σ H ⟨dd, fs, v, e1, e2, e3, e4, e5, q⟩ => by
    subst e2 e3
    exact ⟨.ref a, e1, rfl, rfl, dd, fs, v, rfl, e4, e5, two_size, fun p hp => q p hp⟩
end
/-- the handlers of a list of clauses -/
inductive HdOk (X : Cx) (n : Str) : List ExceptHandler → List Cl → Prop
  | nil : HdOk X n [] []
  | cons {y t : Str} {j k : Nat} {np p1 p2 p3 p4 pos pos' : Pos} {hds : List ExceptHandler} {l : List Cl} (hg : Gl X y) (hdb : (y == ("__debug__" : Str)) = false)
      (hb : attributeBase (.Name n p2) "at" X.env (eval (.Name n p2) X.env) = eval (.Name n p2) X.env)
      (h1 : starEach [.Constant (.str t) j p1, .Attribute (.Name n p2) "at" p3] X.env = [(false, eval (.Constant (.str t) j p1) X.env), (false, eval (.Attribute (.Name n p2) "at" p3) X.env)])
      (h2 : starEach [.Attribute (.Name n p2) "at" p3] X.env = [(false, eval (.Attribute (.Name n p2) "at" p3) X.env)]) (r : HdOk X n hds l) :
      HdOk X n (.ExceptHandler (some (.Name y np)) (some n) [.Return (some (.Tuple [.Constant (.str t) j p1, .Attribute (.Name n p2) "at" p3] k p4)) pos] pos' :: hds) (⟨y, t⟩ :: l)
open Classical in
/-- the addresses of the clauses' classes -/
noncomputable def adr (mg : Str → Option Value) (y : Str) : Addr := if h : ∃ Y : Addr, mg y = some (.ref Y) then h.choose else 0
theorem adr_eq {mg : Str → Option Value} {y : Str} {Y : Addr} (h : mg y = some (.ref Y)) : adr mg y = Y := by
  have hx : ∃ Y : Addr, mg y = some (.ref Y) := ⟨Y, h⟩
  unfold adr
  rw [dif_pos hx]
  have z := Option.some.inj (hx.choose_spec.symm.trans h)
  injection z with z
noncomputable def clauseOf (K : PySem.W.Frag) (mg : Str → Option Value) (i : Nat) (k : Cl) : Clause := (.ref (adr mg k.y), tSu K (adr mg k.y) k.t i)
theorem HdOk.nm {X : Cx} {n : Str} {i : Nat} (hN : X.N[i]? = some n) (hln : X.env.kindOf n = some .local) (hd : (n == ("__debug__" : Str)) = false) (hcd : (n == ("__classdict__" : Str)) = false) : ∀ {hds : List ExceptHandler} {l : List Cl}, HdOk X n hds l →
    (∀ k ∈ l, ∃ Y : Addr, X.mg k.y = some (.ref Y) ∧ XfC X.K Y ∧ PySem.W.findIn X.K (.ref Y) "at" = some none) → NmOk X n hds (l.map (clauseOf X.K X.mg i)) := fun h => by
  induction h with
  | nil => exact fun _ => .nil
  | @cons y t j k np p1 p2 p3 p4 pos pos' hds l hg hdb hb h1 h2 r ih =>
    intro ha
    obtain ⟨Y, e1, e2, e3⟩ := ha ⟨y, t⟩ List.mem_cons_self
    have ea : adr X.mg y = Y := adr_eq e1
    refine .cons (k := clauseOf X.K X.mg i ⟨y, t⟩) ⟨hg, hdb, .inl (by show X.mg y = some (.ref (adr X.mg y)); rw [ea]; exact e1)⟩ (fun a oe cls d pn hz hf => ?_) (ih fun k hk => ha k (List.mem_cons_of_mem _ hk))
    show PSs _ _ (tSu X.K (adr X.mg y) t i a cls d)
    rw [ea]
    exact pss_su e2 e3 hz hf hN hln hd hcd hb h1 h2
/-- the wish of the clauses, shown -/
theorem wNm_of {K : PySem.W.Frag} {mg : Str → Option Value} {cs : List Str} {C : Ct} {D : Ends} {F : Hp} {i : Nat} {c : Str} {a : Int} (hc : c ∈ cs) (hGH : Same C.G C.H) {u : Value} {dd : Addr} {σ' : L2.St} {H' : Hp} (hu : mg c = some u) (sH : Same C.H H') (hx : H' dd = some (.xd [(("at" : Str), .int a)])) (hn : C.H dd = none)
    (hi : i < σ'.length) : ∀ (l : List Cl), ClsOk K mg cs l → SatS K mg C (match takeC c l with | some t => .rt (.tuple [.str t, .int a]) | none => .er c a) F D → wNm K (fun cls d σ H => C.E σ cls d H) D i (l.map (clauseOf K mg i)) u (some dd) σ' H'
  | [], ok, q => q σ' u H' dd hu sH hn hx
  | k :: l, ok, q => by
    obtain ⟨Y, e1, e2, e3⟩ := ok.at_ k List.mem_cons_self
    obtain ⟨Cc, eC⟩ := ok.ref c hc
    have eu : u = .ref Cc := by rw [hu] at eC; exact Option.some.inj eC
    subst eu
    have ea : adr mg k.y = Y := adr_eq e1
    refine ⟨decide (k.y = c), ?_, fun hb p hp => ?_, fun hb => ?_⟩
    · show PySem.W.exmOne K (.ref Cc) (.ref (adr mg k.y)) = _
      rw [ea]
      exact ok.exm c hc k List.mem_cons_self Cc Y hu e1
    · have hk : k.y = c := of_decide_eq_true hb
      have q : SatS K mg C (match (if k.y = c then some k.t else takeC c l) with | some t => .rt (.tuple [.str t, .int a]) | none => .er c a) F D := q
      rw [if_pos hk] at q
      have q : ∀ v H'' F', Ext C.G C.H F' H'' → Rp K F' v (.tuple [.str k.t, .int a]) → D.rt v H'' := q
      have eY : Y = Cc := by
        rw [hk] at e1
        rw [hu] at e1
        have z := Option.some.inj e1
        injection z with z
        exact z.symm
      refine ⟨dd, _, .int a, List.getElem?_set_self hi, by rw [ea, eY], rfl, hx, by simp [List.lookup], fun z hz => ?_⟩
      have hGz : C.G z = none := hGH.free (sH.free hz)
      refine q (.ref z) _ (upd C.G z (.tup [.str k.t, .int a])) ⟨same_upd hGz, sH.trans (same_upd hz), fun b o e => ?_, fun b o e => ?_⟩ (.tup (SqT.of upd_same) (.cons (.str _) (.cons (.int _) .nil)))
      · by_cases h : b = z
        · subst h; rw [upd_same] at e; rw [upd_same]; exact e
        · rw [upd_ne h] at e; rw [upd_ne h]; exact sH _ _ (hGH _ _ e)
      · by_cases h : b = z
        · subst h; exact .inr (sH.free hz)
        · rw [upd_ne h] at e; exact .inl e
    · have hk : ¬ k.y = c := of_decide_eq_false hb
      have q : SatS K mg C (match (if k.y = c then some k.t else takeC c l) with | some t => .rt (.tuple [.str t, .int a]) | none => .er c a) F D := q
      rw [if_neg hk] at q
      exact wNm_of hc hGH hu sH hx hn hi l ⟨fun k hk => ok.at_ k (List.mem_cons_of_mem _ hk), fun c hc k hk => ok.exm c hc k (List.mem_cons_of_mem _ hk), ok.ref⟩ q
/-- a wish at slots of the def's number -/
abbrev lenW (X : Cx) (W : WX) : WX := fun cls d σ H => σ.length = X.N.length → W cls d σ H
theorem takes_len {X : Cx} {W : WX} (tk : Takes X W) : Takes X (lenW X W) := fun u s' ⟨a, B, sI, pins, σ, H, cls, d, e, I, nb, up, sky, na, os, ag, w⟩ => tk u s' ⟨a, B, sI, pins, σ, H, cls, d, e, I, nb, up, sky, na, os, ag, w I.len⟩
theorem vs_try {X : Cx} {C : Ct} {n : Str} {cs : List Str} {l : List Cl} {g : FS} {body : List Stmt} {h₀ : ExceptHandler} {hds : List ExceptHandler} {pos : Pos} (i : Nat) (hGH : Same C.G C.H) (hN : X.N.Nodup) (tk : Takes X fun cls d σ H => C.E σ cls d H) (ok : ClsOk X.K X.mg cs l) (hh : HdOk X n (h₀ :: hds) l)
    (hb : ∀ (W : WX) (pn : List (Addr × Obj)) (xe : Value → Shared → Prop), Takes (X.tr pn xe) W → PassesOwn (model X.prog X.w) X.A X.env xe → VSs (X.tr pn xe) ⟨C.G, C.H, WE W⟩ body g)
    (hs : X.stack = X.env :: X.outer := by rfl) (hf : X.env.frame = some X.env.locals := by rfl) (hi : X.N[i]? = some n := by rfl) (hln : X.env.kindOf n = some .local := by rfl) (hd : (n == ("__debug__" : Str)) = false := by decide) (hcd : (n == ("__classdict__" : Str)) = false := by decide) :
    VS X C (.Try body (h₀ :: hds) [] [] pos) (sTry cs l g) :=
  PS.of (ps_try_nm (tb := fun W => TSt X.K X.mg ⟨C.G, C.H, WE (lenW X W)⟩ g) hs hf hN hi hln tk (fun W pn xe tk2 po => hb (lenW X W) pn xe (takes_len tk2) po) (hh.nm hi hln hd hcd ok.at_)) fun D σ H ⟨F, env, re, q⟩ => by
    have hlen : i < X.N.length := (List.getElem?_eq_some_iff.mp hi).1
    refine ⟨F, env, ⟨re.ext, re.len, fun j s h => by
      have z := re.get j s h
      cases s <;> exact z, re.apart⟩, ?_⟩
    unfold sTry at q
    cases hg : g env with
    | nx e => rw [hg] at q; exact fun σ' H' F' s r => q σ' H' F' s ⟨r.ext, r.len, fun j s h => by
        have z := r.get j s h
        cases s <;> exact z, r.apart⟩
    | bk e => rw [hg] at q; exact fun σ' H' F' s r => q σ' H' F' s ⟨r.ext, r.len, fun j s h => by
        have z := r.get j s h
        cases s <;> exact z, r.apart⟩
    | ct e => rw [hg] at q; exact fun σ' H' F' s r => q σ' H' F' s ⟨r.ext, r.len, fun j s h => by
        have z := r.get j s h
        cases s <;> exact z, r.apart⟩
    | rt d => rw [hg] at q; exact q
    | rn d => rw [hg] at q; exact q
    | no => rw [hg] at q; exact q.elim
    | er c a =>
      rw [hg] at q
      have q : SatS X.K X.mg C (if c ∈ cs then (match takeC c l with | some t => .rt (.tuple [.str t, .int a]) | none => .er c a) else .no) F D := q
      by_cases hc : c ∈ cs
      · rw [if_pos hc] at q
        intro σ' u H' dd hu sH hn hx hl
        refine wNm_of hc hGH hu sH hx ?_ (by rw [hl]; exact hlen) l ok q
        cases z : C.H dd with
        | none => rfl
        | some o =>
          have hn : C.H dd = none := hn
          rw [hn] at z; cases z
      · rw [if_neg hc] at q; exact q.elim
/-- the same with the frames' rule -/
theorem ms_try {cs : List Str} {l : List Cl} {g : FS} (h : Ms g) : Ms (sTry cs l g) := fun e e' le => by
  have r := h e e' le
  unfold sTry
  cases hg : g e with
  | nx f => rw [hg] at r; obtain ⟨f', h1, h2⟩ := r; rw [h1]; exact ⟨f', rfl, h2⟩
  | bk f => rw [hg] at r; obtain ⟨f', h1, h2⟩ := r; rw [h1]; exact ⟨f', rfl, h2⟩
  | ct f => rw [hg] at r; obtain ⟨f', h1, h2⟩ := r; rw [h1]; exact ⟨f', rfl, h2⟩
  | rt d => rw [hg] at r; have r : g e' = .rt d := r; rw [r]; exact rfl
  | rn d => rw [hg] at r; have r : g e' = .rn d := r; rw [r]; exact rfl
  | no => trivial
  | er c n =>
    rw [hg] at r
    have r : g e' = .er c n := r
    rw [r]
    dsimp only
    by_cases hc : c ∈ cs
    · rw [if_pos hc]
      cases takeC c l with
      | some t => exact rfl
      | none => exact rfl
    · rw [if_neg hc]; trivial
theorem ms_raise {x : Str} {f : FE} (h : Mn f) : Ms (sRaise x f) := ms_bindX (fun _ => rfl) h fun d => by
  cases d <;> first | exact ms_no | exact fun _ _ _ => rfl
end PD

/-! Part 22: defs that may raise; one of several defs called -/
namespace PD
open PySem PySem.Spec PyProof.Rows L2

section
variable {P : Program} {w : World} {K : PySem.W.Frag} {mg : Str → Option Value} {base : Heap}
theorem defX {x qual : Str} {st : Stmt} {f : Addr} {fd : FuncData} {N ps : List Str} {k : Nat} {g : FS} (F : Fun K x qual st f fd) (S : FnScope N ps (defScope st)) (hl : ps.length ≤ N.length)
    (hb : ∀ (cdv : Value) (A : Around) (outer : List Env) (s : Shared) (H G : Hp) (E : XK), Same G H → Am (cxOf (L2.CX P w) P w K mg base N qual (defScope st) f cdv A outer s H E) → Room k (cxOf (L2.CX P w) P w K mg base N qual (defScope st) f cdv A outer s H E).A →
      VSs (cxOf (L2.CX P w) P w K mg base N qual (defScope st) f cdv A outer s H E) ⟨G, H, fun _ => E⟩ (defBody st) g) : FnG P w K mg base (L2.CX P w) (k + 1) f fd ps (spD K mg (dfn N.length ps.length g)) := by
  obtain ⟨oc, od, kV, doc, pm, an, cdv, ct, osl, rfl, lk, hcd⟩ := F.ex
  refine fn_ofG lk hcd S (fun vs H Q E h => ?_) fun A outer s H vs Q E hg hr h => ?_
  · obtain ⟨G, ds, _, h2, q⟩ := h
    rw [h2.length]
    exact (sat_len q).1
  · obtain ⟨G, ds, s1, h2, q⟩ := h
    obtain ⟨hn, q⟩ := sat_len q
    exact ⟨_, hb cdv A outer s H G E s1 ⟨hg, hr.mono (Nat.zero_le _), rfl, S.nd⟩ hr, G, _, renv0 s1 h2 (by omega), satS_of s1 q⟩
theorem defXN {x qual : Str} {st : Stmt} {f : Addr} {fd : FuncData} {N ps : List Str} {k : Nat} {g : FS} (F : Fun K x qual st f fd) (S : FnScope N ps (defScope st)) (hl : ps.length ≤ N.length)
    (hb : ∀ (cdv : Value) (A : Around) (outer : List Env) (s : Shared) (H G : Hp) (E : XK), Same G H → Am (cxOf (L2.CX P w) P w K mg base N qual (defScope st) f cdv A outer s H E) → Room k (cxOf (L2.CX P w) P w K mg base N qual (defScope st) f cdv A outer s H E).A →
      VSs (cxOf (L2.CX P w) P w K mg base N qual (defScope st) f cdv A outer s H E) ⟨G, H, fun _ => E⟩ (defBody st) g) : FnG P w K mg base (L2.CX P w) (k + 1) f fd ps (spN K mg (dfnN N.length ps.length g)) := by
  obtain ⟨oc, od, kV, doc, pm, an, cdv, ct, osl, rfl, lk, hcd⟩ := F.ex
  refine fn_ofG lk hcd S (fun vs H Q E h => ?_) fun A outer s H vs Q E hg hr h => ?_
  · obtain ⟨G, ds, _, h2, q⟩ := h
    rw [h2.length]
    exact (sat_len q).1
  · obtain ⟨G, ds, s1, h2, q⟩ := h
    obtain ⟨hn, q⟩ := sat_len q
    exact ⟨_, hb cdv A outer s H G E s1 ⟨hg, hr.mono (Nat.zero_le _), rfl, S.nd⟩ hr, G, _, renv0 s1 h2 (by omega), satSN_of s1 q⟩
/-- a def that catches all -/
theorem def0T {x qual : Str} {st : Stmt} {f : Addr} {fd : FuncData} {N ps : List Str} {k : Nat} {g : FS} (F : Fun K x qual st f fd) (S : FnScope N ps (defScope st)) (hl : ps.length ≤ N.length)
    (hb : ∀ (cdv : Value) (A : Around) (outer : List Env) (s : Shared) (H G : Hp), Same G H → Am (cxOf CX0 P w K mg base N qual (defScope st) f cdv A outer s H E0).nox → Room k (cxOf CX0 P w K mg base N qual (defScope st) f cdv A outer s H E0).nox.A →
      VSs (cxOf CX0 P w K mg base N qual (defScope st) f cdv A outer s H E0).nox ⟨G, H, fun _ => E0⟩ (defBody st) g) : FnG P w K mg base CX0 (k + 1) f fd ps (spD K mg (dfn0 N.length ps.length g)) := by
  obtain ⟨oc, od, kV, doc, pm, an, cdv, ct, osl, rfl, lk, hcd⟩ := F.ex
  refine fn_ofG lk hcd S (fun vs H Q E h => ?_) fun A outer s H vs Q E hg hr h => ?_
  · obtain ⟨G, ds, _, h2, q⟩ := h
    rw [h2.length]
    exact (sat_len q).1
  · obtain ⟨G, ds, s1, h2, q⟩ := h
    obtain ⟨hn, q⟩ := sat_len q
    exact ⟨_, PSs.nox (hb cdv A outer s H G s1 ⟨hg, hr.mono (Nat.zero_le _), rfl, S.nd⟩ hr), G, _, renv0 s1 h2 (by omega), satS_of s1 (sat_quiet q)⟩
/-- where nothing is raised -/
theorem sat_quietE {R : Rel V D} {o : Rs D} {G H : Hp} {E : XK} {Q : VK} (q : Sat mg ⟨G, H, fun _ => E⟩ R o.quiet [] G H Q) : Sat mg ⟨G, H, fun _ => E0⟩ R o [] G H Q := sat_quiet q
theorem FnG.q {f : Addr} {fd : FuncData} {ps : List Str} {k : Nat} {sp : (List D → Rs D) → Sp} {Fn : List D → Rs D} (F : FnG P w K mg base (L2.CX P w) k f fd ps (sp Fn))
    (hs : ∀ vs H Q E, sp (fun ds => (Fn ds).quiet) vs H Q E → sp Fn vs H Q E0) : FnG P w K mg base CX0 k f fd ps (sp fun ds => (Fn ds).quiet) :=
  ⟨fun vs H Q E h => F.len vs H Q E0 (hs _ _ _ _ h), fun A outer s H args us vs Q E hg hr he hb hv h => codeAny_mono (F.run A outer s H args us vs Q E0 hg hr he hb hv (hs _ _ _ _ h)) fun r s' z => by
    cases r with
    | error e =>
      obtain ⟨_, _, _, _, _, _, _, _, _, _, _, _, z⟩ := z
      exact z.elim
    | ok fl => cases fl <;> exact z⟩
end
/-- a def that may raise, with its promise -/
structure CalX (P : Program) (w : World) (K : PySem.W.Frag) (mg : Str → Option Value) (base : Heap) (k : Nat) (x : Str) (ps : List Str) (sp : Sp) : Prop where
  ex : ∃ f fd, FnG P w K mg base (L2.CX P w) k f fd ps sp ∧ mg x = some (.ref f) ∧ PySem.W.keepIn K (.ref f) = true ∧ Binds K fd ps []
abbrev CXx (P : Program) (w : World) (K : PySem.W.Frag) (mg : Str → Option Value) (base : Heap) (N : List Str) (qual : Str) (scope : Scope) (f : Addr) (cd : Value) (A : Around) (outer : List Env) (s : Shared) (H : Hp) (E : XK) : Cx := cxOf (L2.CX P w) P w K mg base N qual scope f cd A outer s H E
section
variable {P : Program} {w : World} {K : PySem.W.Frag} {mg : Str → Option Value} {base : Heap} {k : Nat} {x : Str} {ps N : List Str} {st : Stmt} {g : FS} {Fn : List D → Rs D}
theorem CalX.d (c : CalX P w K mg base k x ps (spN K mg Fn)) : CalX P w K mg base k x ps (spD K mg Fn) := let ⟨f, fd, F, r⟩ := c.ex; ⟨f, fd, F.d, r⟩
theorem CalX.q (c : CalX P w K mg base k x ps (spD K mg Fn)) : Cal P w K mg base k x ps (spD K mg fun ds => (Fn ds).quiet) :=
  let ⟨f, fd, F, r⟩ := c.ex; ⟨f, fd, FnG.q (sp := spD K mg) F fun _ _ _ _ ⟨G, ds, s, h, q⟩ => ⟨G, ds, s, h, sat_quietE q⟩, r⟩
theorem CalX.qN (c : CalX P w K mg base k x ps (spN K mg Fn)) : Cal P w K mg base k x ps (spN K mg fun ds => (Fn ds).quiet) :=
  let ⟨f, fd, F, r⟩ := c.ex; ⟨f, fd, FnG.q (sp := spN K mg) F fun _ _ _ _ ⟨G, ds, s, h, q⟩ => ⟨G, ds, s, h, sat_quietE q⟩, r⟩
theorem Def.dX (d : Def K mg x st ps) (S : FnScope N ps (defScope st)) (hl : ps.length ≤ N.length)
    (hb : ∀ (f : Addr) (cdv : Value) (A : Around) (outer : List Env) (s : Shared) (H G : Hp) (E : XK), Same G H → Am (CXx P w K mg base N x (defScope st) f cdv A outer s H E) → Room k (CXx P w K mg base N x (defScope st) f cdv A outer s H E).A →
      VSs (CXx P w K mg base N x (defScope st) f cdv A outer s H E) ⟨G, H, fun _ => E⟩ (defBody st) g) : CalX P w K mg base (k + 1) x ps (spD K mg (dfn N.length ps.length g)) :=
  let ⟨f, fd, F, h1, h2, h3⟩ := d.ex; ⟨f, fd, defX F S hl fun cdv A outer s H G E => hb f cdv A outer s H G E, h1, h2, Binds.all h3⟩
theorem Def.dXN (d : Def K mg x st ps) (S : FnScope N ps (defScope st)) (hl : ps.length ≤ N.length)
    (hb : ∀ (f : Addr) (cdv : Value) (A : Around) (outer : List Env) (s : Shared) (H G : Hp) (E : XK), Same G H → Am (CXx P w K mg base N x (defScope st) f cdv A outer s H E) → Room k (CXx P w K mg base N x (defScope st) f cdv A outer s H E).A →
      VSs (CXx P w K mg base N x (defScope st) f cdv A outer s H E) ⟨G, H, fun _ => E⟩ (defBody st) g) : CalX P w K mg base (k + 1) x ps (spN K mg (dfnN N.length ps.length g)) :=
  let ⟨f, fd, F, h1, h2, h3⟩ := d.ex; ⟨f, fd, defXN F S hl fun cdv A outer s H G E => hb f cdv A outer s H G E, h1, h2, Binds.all h3⟩
theorem Def.d0T (d : Def K mg x st ps) (S : FnScope N ps (defScope st)) (hl : ps.length ≤ N.length)
    (hb : ∀ (f : Addr) (cdv : Value) (A : Around) (outer : List Env) (s : Shared) (H G : Hp), Same G H → Am (CXo P w K mg base N x (defScope st) f cdv A outer s H) → Room k (CXo P w K mg base N x (defScope st) f cdv A outer s H).A →
      VSs (CXo P w K mg base N x (defScope st) f cdv A outer s H) (Ct0 G H) (defBody st) g) : Cal P w K mg base (k + 1) x ps (spD K mg (dfn0 N.length ps.length g)) :=
  let ⟨f, fd, F, h1, h2, h3⟩ := d.ex; ⟨f, fd, def0T F S hl fun cdv A outer s H G => hb f cdv A outer s H G, h1, h2, Binds.all h3⟩
end
section
variable {X : Cx} {C : Ct}
theorem Am.tr {pn : List (Addr × Obj)} {xe : Value → Shared → Prop} (am : Am X) : Am (X.tr pn xe) := ⟨am.g, am.r, am.c, am.n⟩
/-- the wish of the context -/
abbrev TkC (X : Cx) (C : Ct) : Prop := Takes X fun cls d σ H => C.E σ cls d H
theorem paX (tk : TkC X C) : ∀ σ, PassesAt (L2.CX X.prog X.w) X σ (C.E σ) := fun σ => passAt (W := fun cls d σ H => C.E σ cls d H) tk σ
variable {k : Nat} {x : Str} {ps : List Str} {Fn : List D → Rs D} {fa : FA} {e : Expr} {es : List Expr} {p pos : Pos} {j : Nat}
theorem ve_calX (c : CalX X.prog X.w X.K X.mg X.base j x ps (spD X.K X.mg Fn)) (am : Am X) (hr : Room k X.A) (tk : TkC X C) (ha : VA X C (e :: es) fa) (hj : j ≤ k := by first | decide | omega) (hg : Gl X x := by rfl)
    (hdb : (x == ("__debug__" : Str)) = false := by decide) (he : starEach (e :: es) X.env = (false, eval e X.env) :: starEach es X.env := by rfl) (hpl : (backTo pos (starEach es X.env)).any (·.1) = false := by rfl) :
    VE X C (.Call (.Name x p) (e :: es) [] pos) (fCall Fn fa) := let ⟨f, fd, F, hm, hk, hb⟩ := c.ex; ve_call F am (hr.mono hj) hg hm hk hb (paX tk) ha hdb he hpl
theorem vn_calX (c : CalX X.prog X.w X.K X.mg X.base j x ps (spN X.K X.mg Fn)) (am : Am X) (hr : Room k X.A) (tk : TkC X C) (ha : VA X C (e :: es) fa) (hj : j ≤ k := by first | decide | omega) (hg : Gl X x := by rfl)
    (hdb : (x == ("__debug__" : Str)) = false := by decide) (he : starEach (e :: es) X.env = (false, eval e X.env) :: starEach es X.env := by rfl) (hpl : (backTo pos (starEach es X.env)).any (·.1) = false := by rfl) :
    VN X C (.Call (.Name x p) (e :: es) [] pos) (fCall Fn fa) := let ⟨f, fd, F, hm, hk, hb⟩ := c.ex; vn_call F am (hr.mono hj) hg hm hk hb (paX tk) ha hdb he hpl
end

/-! ### [f, g, ..][i](e, ..) -/
def fSel (fns : List (List D → Rs D)) (f : FE) (fa : FA) : FE := fun env => (f env).bind fun d => match d with
  | .int i => match atI fns i with
    | some Fn => (fa env).bind Fn
    | none => .no
  | _ => .no
/-- a def that may be called here -/
structure Here (X : Cx) (C : Ct) (k : Nat) (a : Addr) (Fn : List D → Rs D) : Prop where
  ex : ∃ (fd : FuncData) (ps : List Str) (CX : CXT), FnG X.prog X.w X.K X.mg X.base CX k a fd ps (spD X.K X.mg Fn) ∧ (∀ σ, PassesAt CX X σ (C.E σ)) ∧ PySem.W.keepIn X.K (.ref a) = true ∧ Binds X.K fd ps []
inductive Sel0 (X : Cx) (C : Ct) (k : Nat) : List Expr → List (List D → Rs D) → List Addr → Prop
  | nil : Sel0 X C k [] [] []
  | cons {x : Str} {p : Pos} {es : List Expr} {Fn : List D → Rs D} {Fns : List (List D → Rs D)} {a : Addr} {as : List Addr} (h : Here X C k a Fn) (hm : X.mg x = some (.ref a)) (hg : Gl X x) (hd : (x == ("__debug__" : Str)) = false)
      (he : starEach (.Name x p :: es) X.env = (false, eval (.Name x p) X.env) :: starEach es X.env) (r : Sel0 X C k es Fns as) : Sel0 X C k (.Name x p :: es) (Fn :: Fns) (a :: as)
def Sel (X : Cx) (C : Ct) (k : Nat) (es : List Expr) (Fns : List (List D → Rs D)) : Prop := ∃ as, Sel0 X C k es Fns as
section
variable {X : Cx} {C : Ct} {k j : Nat} {x : Str} {p : Pos} {es : List Expr} {Fn : List D → Rs D} {Fns : List (List D → Rs D)} {ps : List Str}
theorem sel_nil : Sel X C k [] [] := ⟨[], .nil⟩
theorem sel_X (c : CalX X.prog X.w X.K X.mg X.base j x ps (spD X.K X.mg Fn)) (tk : TkC X C) (r : Sel X C k es Fns) (hj : j ≤ k := by first | decide | omega) (hg : Gl X x := by rfl) (hd : (x == ("__debug__" : Str)) = false := by decide)
    (he : starEach (.Name x p :: es) X.env = (false, eval (.Name x p) X.env) :: starEach es X.env := by rfl) : Sel X C k (.Name x p :: es) (Fn :: Fns) :=
  let ⟨f, fd, F, hm, hk, hb⟩ := c.ex; let ⟨as, r⟩ := r; ⟨f :: as, .cons ⟨fd, ps, _, F.mono hj, paX tk, hk, hb⟩ hm hg hd he r⟩
theorem sel_C (c : Cal X.prog X.w X.K X.mg X.base j x ps (spD X.K X.mg Fn)) (r : Sel X C k es Fns) (hj : j ≤ k := by first | decide | omega) (hg : Gl X x := by rfl) (hd : (x == ("__debug__" : Str)) = false := by decide)
    (he : starEach (.Name x p :: es) X.env = (false, eval (.Name x p) X.env) :: starEach es X.env := by rfl) : Sel X C k (.Name x p :: es) (Fn :: Fns) :=
  let ⟨f, fd, F, hm, hk, hb⟩ := c.ex; let ⟨as, r⟩ := r; ⟨f :: as, .cons ⟨fd, ps, _, F.mono hj, pa0, hk, hb⟩ hm hg hd he r⟩
theorem Sel0.pa {as : List Addr} (h : Sel0 X C k es Fns as) : PA X es (fun σ H Q => Q (as.map V.ref) H) := by
  induction h with
  | nil => exact PA.of pa_nil fun σ H Q q => q
  | cons h hm hg hd he r ih => exact PA.of (pa_cons (pe_glob (v := V.ref _) hg hm rfl hd) ih he) fun σ H Q q => q
theorem Sel0.len {as : List Addr} (h : Sel0 X C k es Fns as) : as.length = Fns.length := by
  induction h with
  | nil => rfl
  | cons h hm hg hd he r ih => simp [ih]
theorem Sel0.get {as : List Addr} (h : Sel0 X C k es Fns as) : ∀ (i : Nat) (Fn : List D → Rs D), Fns[i]? = some Fn → ∃ a, as[i]? = some a ∧ Here X C k a Fn := by
  induction h with
  | nil => intro i Fn e; simp at e
  | cons h hm hg hd he r ih =>
    intro i Fn e
    cases i with
    | zero => simp at e; subst e; exact ⟨_, rfl, h⟩
    | succ i => exact ih i Fn (by simpa using e)
theorem ve_sel {ix e : Expr} {as : List Expr} {f : FE} {fa : FA} {p1 p2 pos : Pos} (h : Sel X C k es Fns) (am : Am X) (hr : Room k X.A) (hix : VE X C ix f) (ha : VA X C (e :: as) fa) (hl : Fns.length ≤ 100 := by decide) (hp : PlainIx ix := by intro _ _; rfl)
    (hdef : eval (.Call (.Subscript (.List es p1) ix p2) (e :: as) [] pos) X.env = (do callWith pos (← eval (.Subscript (.List es p1) ix p2) X.env) [] (backTo pos (starEach (e :: as) X.env)) []) := by rfl)
    (he : starEach (e :: as) X.env = (false, eval e X.env) :: starEach as X.env := by rfl) (hpl : (backTo pos (starEach as X.env)).any (·.1) = false := by rfl) :
    VE X C (.Call (.Subscript (.List es p1) ix p2) (e :: as) [] pos) (fSel Fns f fa) := by
  obtain ⟨ads, h⟩ := h
  refine ⟨fun pins s σ H Q I ⟨F, env, re, q⟩ => ?_⟩
  rw [hdef]
  have hfun := pe_ix (pos := p2) ix_list (pe_lst (pos := p1) h.pa) hix hp
  refine wpAny_bind (wpAny_mono (hfun.run pins s σ H (fun v H2 => ∃ F2, REnv X.K C F2 σ H2 env ∧ ∃ a Fn, v = .ref a ∧ Here X C k a Fn ∧ Sat X.mg C (RD X.K) ((fa env).bind Fn) σ F2 H2 Q) I ⟨?_, fun p0 hp0 => ?_⟩) (fun u s1 z => ?_) fun _ _ z => z)
  · rw [List.length_map, h.len, line_eq]
    exact Nat.le_trans hl (le_line (by omega))
  · have x1 : Ext F H F (upd H p0 (.lst (ads.map V.ref))) := Ext.laid re.same hp0
    have re1 := re.go x1
    refine ⟨F, env, re1, Sat.bind RD.mono (Sat.go RD.mono q x1) fun d v F2 H2 x2 r2 q2 => ?_⟩
    cases d with
    | int i =>
      cases r2
      have q2 : Sat X.mg C (RD X.K) (match atI Fns i with | some Fn => (fa env).bind Fn | none => .no) σ F2 H2 Q := q2
      cases hFn : atI Fns i with
      | none => rw [hFn] at q2; exact q2.elim
      | some Fn =>
        rw [hFn] at q2
        obtain ⟨a, ea, ha2⟩ : ∃ a, atI ads i = some a ∧ Here X C k a Fn := by
          unfold L2.atI at hFn ⊢
          rw [h.len]
          cases hj : ixN Fns.length i with
          | none => rw [hj] at hFn; cases hFn
          | some j => rw [hj] at hFn; exact h.get j Fn hFn
        exact ⟨p0, _, i, .ref a, rfl, rfl, SqL.of (x2.h _ _ upd_same), by rw [atI_map, ea]; rfl, F2, re1.go x2, a, Fn, rfl, ha2, q2⟩
    | _ => exact q2.elim
  · obtain ⟨v, H1, I1, r1, F2, re2, a, Fn, ev, ⟨fd, ps, CX, FG, hx, hk, hb⟩, q1⟩ := z
    subst ev
    cases r1
    refine PySem.W.callWith_K (h₀ := X.base) I1.ok.mod.kin hk (thn (ha.run pos pins s1 σ H1 _ I1 (t_call (Fn := Fn) ⟨F2, env, re2, q1⟩)) fun us s2 ⟨vs, H2, I2, r, q⟩ => ⟨I2.kIn, ?_⟩) he hpl
    exact run_fnG FG am.g hr hb (hx σ) I2 r q
theorem mn_sel {fns : List (List D → Rs D)} {f : FE} {fa : FA} (h : Mn f) (h' : Mn fa) : Mn (fSel fns f fa) := mn_bindX (fun _ => rfl) h fun d => by
  cases d with
  | int i =>
    show Mn fun e => match atI fns i with | some Fn => (fa e).bind Fn | none => .no
    cases atI fns i with
    | none => exact mn_k _
    | some Fn => exact mn_bind h' fun _ => mn_k _
  | _ => exact mn_k _
end
/-- a class of errors, as the top has left it -/
def Err (P : Program) (K : PySem.W.Frag) (mg : Str → Option Value) (x : Str) : Prop := mg "super" = none ∧ ∃ C S fI, PySem.SeekX.InitTxt P K S fI ∧ PySem.SeekX.SeekTxt K mg x C S fI
theorem vs_raiseE {X : Cx} {C : Ct} {x : Str} {a : Expr} {f : FE} {p pos pos2 : Pos} {k : Nat} (h : Err X.prog X.K X.mg x) (am : Am X) (hr : Room (k + 1) X.A) (tk : TkC X C) (ha : VE X C a f) (hg : Gl X x := by rfl)
    (hdb : (x == ("__debug__" : Str)) = false := by decide) (he : starEach (a :: []) X.env = (false, eval a X.env) :: starEach [] X.env := by rfl) (hpl : (backTo pos (starEach [] X.env)).any (·.1) = false := by rfl) :
    VS X C (.Raise (some (.Call (.Name x p) [a] [] pos)) none pos2) (sRaise x f) := let ⟨hsu, _, _, _, I0, T⟩ := h; vs_raise I0 T hsu am hr tk ha hg hdb he hpl
end PD

/-! Part 23: the facts on the errors, for the head -/
namespace PD
open PySem PySem.Spec PyProof.Rows L2 PySem.W
section
variable {P : Program} {K : PySem.W.Frag} {mg : Str → Option Value} {h : Heap} {x y c : Str} {C S Y fI : Addr}
theorem initTxt {oc doc pm ct ccl cl : Value} {od an cdd cld : Option Addr} {cda cc : Addr} {osl ccs csl : Array (Option Value)} {vs : Array Value} {file : Str} {tf : Tok} {p1 p2 q1 q2 q3 q4 q5 q6 q7 q8 q9 q10 : Pos}
    (aS : nsIn K mainGlobals "SeekError" = some (some (.ref S))) (iS : findIn K (.ref S) "__init__" = some (some (.ref fI)))
    (l1 : K.lookup fI = some ⟨oc, od, .func (ksFn "__init__" "SeekError.__init__" (PySem.SeekX.iA p1 p2) (PySem.SeekX.iB q1 q2 q3 q4 q5 q6 q7 q8 q9 q10) PySem.SeekX.iS .none .none doc pm an (.ref cda) ct cc), osl⟩)
    (c1 : codeIn K (.ref cda) "SeekError.__init__" = true) (ln : (q3.endLine == q5.line) = true) (lc : K.lookup cda = some ⟨ccl, cdd, .fields vs, ccs⟩) (v2 : vs[2]? = some (.str file tf)) (hf : ((P.main.file : Str) == file) = true)
    (cell : K.lookup cc = some ⟨cl, cld, .cell (some (.ref S)), csl⟩) (isS : isClsIn K S = true) (top : (P.main.scope.names.lookup ("super" : Str)).isSome = false) (tp : nsIn K cStatics "thirdparty.any" = some none) : PySem.SeekX.InitTxt P K S fI :=
  ⟨⟨_, _, _, _, _, _, _, _, _, _, _, _, _, _, _, _, _, _, _, _, _, l1, c1, ln, ⟨_, _, _, _, _, _, lc, v2, hf⟩, _, _, _, cell⟩, isS, top, tp⟩
theorem seekTxt (X : K.In h) (G : h.Ns mainGlobals mg) {nm q : Str} {N : Addr} {bs bm : List Value} {sn : List Str} {sub : List Value} {ab : Bool} {col : Option Bool} {dd : Option Addr} {k0 k1 k2 k3 k5 : Option Value}
    (aC : nsIn K mainGlobals x = some (some (.ref C))) (xL : K.lookup C = some (excClassObj nm q C N bs bm true sn sub ab col dd k0 k1 k2 k3 k5 "ValueError.__new__")) (rV : PySem.HandSPX.refsVE bm = true)
    (sa : findIn K (.ref C) "__setattr__" = some (some (.builtin "object.__setattr__"))) (ga : findIn K (.ref C) "__getattribute__" = some (some (.builtin "BaseException.__getattribute__"))) (gg : findIn K (.ref C) "__getattr__" = some none)
    (no : findIn K (.ref C) "at" = some none) (iC : findIn K (.ref C) "__init__" = some (some (.ref fI))) (tC : typeIn K (.ref fI) = some (.type "function")) (kC : keepIn K (.ref C) = true) (exC : subIn K (.ref C) (.type "BaseException") = some true)
    (veC : subIn K (.ref C) (.type "ValueError") = some true) (tyC : typeIn K (.ref C) = some (.type "type")) (hdC : hasDictIn K C = true) (msS : mroIn K C (.ref S) = some true) (sup : ks_superIn K C S "__init__" = some (some (.builtin "ValueError.__init__"))) :
    PySem.SeekX.SeekTxt K mg x C S fI :=
  ⟨mg_of X G aC, ⟨_, _, _, _, _, _, _, _, _, _, _, _, _, _, _, xL, rV⟩, sa, ga, gg, no, iC, tC, kC, exC, veC, tyC, hdC, msS, sup⟩
theorem err_of (su : mg "super" = none) (I0 : PySem.SeekX.InitTxt P K S fI) (T : PySem.SeekX.SeekTxt K mg x C S fI) : Err P K mg x := ⟨su, C, S, fI, I0, T⟩
/-- c's errors, seen by «except y» -/
def Pair (K : PySem.W.Frag) (mg : Str → Option Value) (c y : Str) : Prop := ∃ C Y : Addr, mg c = some (.ref C) ∧ mg y = some (.ref Y) ∧ subIn K (.ref C) (.ref Y) = some (decide (y = c))
theorem pair_of (X : K.In h) (G : h.Ns mainGlobals mg) {b : Bool} (aC : nsIn K mainGlobals c = some (some (.ref C))) (aY : nsIn K mainGlobals y = some (some (.ref Y))) (s : subIn K (.ref C) (.ref Y) = some b) (hb : decide (y = c) = b) : Pair K mg c y :=
  ⟨C, Y, mg_of X G aC, mg_of X G aY, by rw [hb]; exact s⟩
theorem all_nil {α : Type} {p : α → Prop} : ∀ a ∈ ([] : List α), p a := fun _ h => nomatch h
theorem all_cons {α : Type} {p : α → Prop} {a : α} {l : List α} (h : p a) (r : ∀ b ∈ l, p b) : ∀ b ∈ a :: l, p b := fun b hb => by
  rcases List.mem_cons.mp hb with e | e
  · rw [e]; exact h
  · exact r b e
theorem clsOk {cs : List Str} {l : List Cl} (hy : ∀ k ∈ l, Err P K mg k.y) (hc : ∀ c ∈ cs, Err P K mg c) (hp : ∀ c ∈ cs, ∀ k ∈ l, Pair K mg c k.y) : ClsOk K mg cs l := by
  refine ⟨fun k hk => ?_, fun c hcs k hk C Y e1 e2 => ?_, fun c hcs => ?_⟩
  · obtain ⟨_, Y, S, fI, I0, T⟩ := hy k hk
    exact ⟨Y, T.gC, ⟨T.ga, T.gg, T.exC, T.hdC⟩, T.noN⟩
  · obtain ⟨_, Y', S, fI, I0, T⟩ := hy k hk
    have eY : Y = Y' := by
      have z := Option.some.inj (e2.symm.trans T.gC)
      injection z
    subst eY
    obtain ⟨C', Y', a1, a2, a3⟩ := hp c hcs k hk
    have z1 := Option.some.inj (e1.symm.trans a1)
    have z2 := Option.some.inj (e2.symm.trans a2)
    injection z1 with z1
    injection z2 with z2
    subst z1 z2
    exact exm_ref T.exC T.hdC T.tyC a3
  · obtain ⟨_, Y, S, fI, I0, T⟩ := hc c hcs
    exact ⟨Y, T.gC⟩
end
theorem takesE0 {X : Cx} {G H : Hp} : TkC X (Ct0 G H) := takes_none5
end PD

/-! Part 24: the plain side once more: comprehensions by lists of anything, defs that raise, lists of numbers -/
namespace PD
open PySem PySem.Spec PyProof.Rows L2
theorem lc_gen {α : Type} {t : Tgt} {tt : FB} {f : FE} {env : List Sl} (enc : α → D) (p : α → Bool) (q : α → D) : ∀ l : List α, (∀ a ∈ l, ∃ e, t.put (enc a) env = some e ∧ tt e = .ok (p a) ∧ (p a = true → f e = .ok (q a))) →
    lcGo t tt (one f) env (l.map enc) = .ok ((l.filter p).map q)
  | [], _ => rfl
  | a :: l, h => by
    have ih := lc_gen enc p q l fun b hb => h b (List.mem_cons_of_mem _ hb)
    obtain ⟨e, h1, h2, h3⟩ := h a List.mem_cons_self
    cases hp : p a with
    | true =>
      rw [hp] at h2
      rw [List.filter_cons_of_pos hp]
      exact e_lcC (ys := [q a]) (r := (l.filter p).map q) h1 h2 (e_one (h3 hp)) ih
    | false =>
      rw [hp] at h2
      rw [List.filter_cons_of_neg (by rw [hp]; decide)]
      exact e_lcS h1 h2 ih
/-- a comprehension -/
theorem e_lcG {α : Type} {gi : FA} {t : Tgt} {tt : FB} {f : FE} {vs : List Nat} {e e' : List Sl} {ds : List D} (enc : α → D) (p : α → Bool) (q : α → D) (l : List α) (hg : gi e = .ok ds) (hds : ds = l.map enc) (hw : wipeE e vs = e')
    (h : ∀ a ∈ l, ∃ x, t.put (enc a) e' = some x ∧ tt x = .ok (p a) ∧ (p a = true → f x = .ok (q a))) (hl : l.length ≤ 1000000) : fLc gi t tt f vs e = .ok (.list ((l.filter p).map q)) := by
  refine e_lc (ds := ds) hg ?_ ?_
  · rw [hds, hw]; exact lc_gen enc p q l h
  · rw [List.length_map]; exact le_line (Nat.le_trans (List.length_filter_le _ _) hl)
/-- .. without a test -/
theorem e_lcA {α : Type} {gi : FA} {t : Tgt} {f : FE} {vs : List Nat} {e e' : List Sl} {ds : List D} (enc : α → D) (q : α → D) (l : List α) (hg : gi e = .ok ds) (hds : ds = l.map enc) (hw : wipeE e vs = e')
    (h : ∀ a ∈ l, ∃ x, t.put (enc a) e' = some x ∧ f x = .ok (q a)) (hl : l.length ≤ 1000000) : fLc gi t bYes f vs e = .ok (.list (l.map q)) := by
  have z := e_lcG (t := t) (tt := bYes) (f := f) (vs := vs) (e := e) (e' := e') enc (fun _ => true) q l hg hds hw (fun a ha => by
    obtain ⟨x, h1, h2⟩ := h a ha
    exact ⟨x, h1, rfl, fun _ => h2⟩) hl
  rwa [List.filter_eq_self.mpr fun _ _ => rfl] at z
theorem rng_map (lo : Int) (n : Nat) : rng lo n = (List.range n).map fun i => PyData.int (lo + (i : Nat)) := rfl
def iD (l : List Int) : D := .list (intL l)
theorem intL_map (l : List Int) : intL l = l.map PyData.int := rfl
theorem d_fnE {m n : Nat} {g : FS} {ds : List D} {e : List Sl} {r : Rs D} (hn : ds.length = n) (he : env0 m ds = e) (h : outD (g e) = r) : dfn m n g ds = r := by unfold dfn; rw [if_pos hn, he, h]
theorem d_fnEN {m n : Nat} {g : FS} {ds : List D} {e : List Sl} {r : Rs D} (hn : ds.length = n) (he : env0 m ds = e) (h : outN (g e) = r) : dfnN m n g ds = r := by unfold dfnN; rw [if_pos hn, he, h]
theorem e_raise {x : Str} {f : FE} {e : List Sl} {n : Int} (h : f e = .ok (.int n)) : sRaise x f e = .er x n := by unfold sRaise; rw [h]; rfl
theorem e_seqE {g g' : FS} {e : List Sl} {c : Str} {n : Int} (h : g e = .er c n) : sSeq g g' e = .er c n := by unfold sSeq; rw [h]; rfl
theorem e_dropE {f : FE} {e : List Sl} {c : Str} {n : Int} (h : f e = .er c n) : sDrop f e = .er c n := by unfold sDrop; rw [h]; rfl
theorem e_tryR {cs : List Str} {l : List Cl} {g : FS} {e : List Sl} {d : D} (h : g e = .rt d) : sTry cs l g e = .rt d := by unfold sTry; rw [h]
theorem e_tryX {cs : List Str} {l : List Cl} {g : FS} {e : List Sl} {c t : Str} {n : Int} (h : g e = .er c n) (hc : c ∈ cs) (ht : takeC c l = some t) : sTry cs l g e = .rt (.tuple [.str t, .int n]) := by unfold sTry; rw [h]; dsimp only; rw [if_pos hc, ht]
theorem e_retE {f : FE} {e : List Sl} {c : Str} {n : Int} (h : f e = .er c n) : sRet f e = .er c n := by unfold sRet; rw [h]; rfl
theorem e_callE {Fn : List D → Rs D} {fa : FA} {e : List Sl} {ds : List D} {r : Rs D} (h : fa e = .ok ds) (h' : Fn ds = r) : fCall Fn fa e = r := by unfold fCall; rw [h]; exact h'
theorem e_callQ {Fn : List D → Rs D} {fa : FA} {e : List Sl} {ds : List D} {d : D} (h : fa e = .ok ds) (h' : Fn ds = .ok d) : fCall (fun ds => (Fn ds).quiet) fa e = .ok d := by
  unfold fCall; rw [h]; show (Fn ds).quiet = _; rw [h']; rfl
theorem q_ok {Fn : List D → Rs D} {ds : List D} {d : D} (h : Fn ds = .ok d) : (Fn ds).quiet = .ok d := by rw [h]; rfl
theorem depth_ints : ∀ l : List Int, PyData.depthAll (intL l) = 0
  | [] => rfl
  | a :: l => by
    have ih := depth_ints l
    show max (PyData.int a).depth (PyData.depthAll (intL l)) = 0
    rw [ih]; rfl
theorem shal_iD (l : List Int) : shal (iD l) = true := by
  have : (iD l).depth = 1 := by
    show PyData.depthAll (intL l) + 1 = 1
    rw [depth_ints]
  unfold shal; rw [this]; decide
theorem eqv_int (a b : Int) : PyData.eqv (.int a) (.int b) = decide (a = b) := by simp only [PyData.eqv]; rfl
theorem eqvAll_ints : ∀ a b : List Int, PyData.eqvAll (intL a) (intL b) = decide (a = b)
  | [], [] => rfl
  | [], b :: bs => by simp [intL, PyData.eqvAll]
  | a :: as, [] => by simp [intL, PyData.eqvAll]
  | a :: as, b :: bs => by
    have ih := eqvAll_ints as bs
    show (PyData.eqv (.int a) (.int b) && PyData.eqvAll (intL as) (intL bs)) = _
    rw [eqv_int, ih]
    by_cases h1 : a = b
    · by_cases h2 : as = bs <;> simp [h1, h2]
    · simp [h1]
theorem eqv_iD (a b : List Int) : PyData.eqv (iD a) (iD b) = decide (a = b) := eqvAll_ints a b
theorem d_eqL (a b : List Int) : dEq (iD a) (iD b) = some (.bool (decide (a = b))) := by unfold dEq; rw [shal_iD, Bool.true_or, if_pos rfl, eqv_iD]
theorem d_neL (a b : List Int) : dNe (iD a) (iD b) = some (.bool (!decide (a = b))) := by unfold dNe; rw [shal_iD, Bool.true_or, if_pos rfl, eqv_iD]
theorem d_inL (x : Int) (l : List Int) : dIn (.int x) (iD l) = some (.bool (decide (x ∈ l))) := by
  show (if shal (.int x) = true then some (PyData.bool (dInL (.int x) (intL l))) else none) = _
  rw [shal_int, if_pos rfl]
  congr 2
  induction l with
  | nil => simp [dInL, intL]
  | cons a r ih =>
    have : dInL (.int x) (intL (a :: r)) = (PyData.eqv (.int a) (.int x) || dInL (.int x) (intL r)) := rfl
    rw [this, ih, eqv_int]
    by_cases h : a = x
    · simp [h]
    · have : ¬ x = a := fun e => h e.symm
      simp [h, this]
theorem d_notInL (x : Int) (l : List Int) : dNotIn (.int x) (iD l) = some (.bool (!decide (x ∈ l))) := by unfold dNotIn; rw [d_inL]; rfl
theorem d_eqNil (l : List D) : dEq (.list l) (.list []) = some (.bool l.isEmpty) := by
  have h : shal (.list []) = true := by decide
  unfold dEq
  rw [h, Bool.or_true, if_pos rfl]
  cases l <;> rfl
theorem d_neNil (l : List D) : dNe (.list l) (.list []) = some (.bool !l.isEmpty) := by
  have h : shal (.list []) = true := by decide
  unfold dNe
  rw [h, Bool.or_true, if_pos rfl]
  cases l <;> rfl
theorem filt_all {α : Type} (p : α → Bool) : ∀ l : List α, (l.filter fun x => !p x).isEmpty = l.all p
  | [] => rfl
  | x :: l => by
    rw [List.all_cons, ← filt_all p l]
    cases h : p x with
    | true => rw [List.filter_cons_of_neg (by simp [h])]; rfl
    | false => rw [List.filter_cons_of_pos (by simp [h])]; rfl
theorem filt_any {α : Type} (p : α → Bool) : ∀ l : List α, (l.filter p).isEmpty = !l.any p
  | [] => rfl
  | x :: l => by
    rw [List.any_cons]
    cases h : p x with
    | true => rw [List.filter_cons_of_pos h]; rfl
    | false => rw [List.filter_cons_of_neg (by simp [h]), filt_any p l]; rfl
theorem d_len' {l : List D} : dLen [.list l] = some (.int (l.length : Nat)) := rfl
theorem small_iD {l : List Int} {n : Nat} (h : ∀ x ∈ l, x.natAbs < 1000000) (hn : l.length ≤ n) : Small 1 (21 * n) (iD l) := Small.list (fun d hd => by
  obtain ⟨x, hx, rfl⟩ := List.mem_map.mp hd
  exact Small.int (h x hx)) (by rw [intL_len]; exact hn)
end PD

/-! Part 25: list.index of any data; more of the plain side -/
namespace PD
open PySem PySem.Spec PyProof.Rows L2
def placeD (x : D) : List D → Nat → Option Nat
  | [], _ => none
  | y :: r, i => if PyData.eqv y x then some i else placeD x r (i + 1)
def dIndexD (l : List D) (e : D) : Option D := if (SeqAt.shaped (.list l) && SeqAt.shaped e) = true then (placeD e l 0).map fun j => .int (j : Nat) else none
theorem placeD_at : ∀ (ys : List D) (x : D) (i j : Nat), placeD x ys i = some j → ∃ k, j = i + k ∧ (∃ y, ys[k]? = some y ∧ PyData.eqv y x = true) ∧ ∀ m y, m < k → ys[m]? = some y → PyData.eqv y x = false
  | [], _, _, _, h => by cases h
  | y :: r, x, i, j, h => by
    unfold placeD at h
    by_cases q : PyData.eqv y x = true
    · rw [if_pos q] at h
      cases h
      exact ⟨0, rfl, ⟨y, rfl, q⟩, fun m y hm => absurd hm (Nat.not_lt_zero _)⟩
    · rw [if_neg q] at h
      obtain ⟨k, h1, ⟨z, h2, h3⟩, h4⟩ := placeD_at r x (i + 1) j h
      refine ⟨k + 1, by omega, ⟨z, by simpa using h2, h3⟩, fun m w hm hw => ?_⟩
      cases m with
      | zero =>
        have e : y = w := by simpa using hw
        subst e
        exact Bool.eq_false_iff.mpr q
      | succ m => exact h4 m w (by omega) (by simpa using hw)
def fIndexD (f f' : FE) : FE := fun env => (f env).bind fun d => match d with
  | .list l => (f' env).bind fun e => Rs.ofO (dIndexD l e)
  | _ => .no
section
variable {X : Cx} {C : Ct} {f f' : FE} {o e : Expr} {apos pos : Pos}
theorem ve_indexD (am : Am X) (ho : VE X C o f) (he : VE X C e f') (hbase : attributeBase o "index" X.env (eval o X.env) = eval o X.env := by rfl) (hline : (apos.endLine == pos.line) = true := by rfl) (hs : starEach [e] X.env = (false, eval e X.env) :: starEach [] X.env := by rfl)
    (hfew : ((backTo pos (starEach [e] X.env)).all (fun x => !x.1) && (backToKw pos (keywordEach [] X.env)).all (fun x => x.1.isSome)
      && decide ([e].length + ([] : List Keyword).length + (if ([] : List Keyword).isEmpty then 0 else 1) < 30)) = true := by rfl) (hplain : (backTo pos (starEach [] X.env)).any (·.1) = false := by rfl) :
    VE X C (.Call (.Attribute o "index" apos) [e] [] pos) (fIndexD f f') := PE.of (pe_bm PySem.F.plainAttrs_list PySem.F.slot_list_index PySem.F.type_list_index (mt_indexD (by have := am.u; omega)) ho (va_cons he va_nil hs) hbase hfew hline hs hplain) fun σ H Q ⟨F, env, re, q⟩ =>
  ⟨F, env, re, Sat.bind RD.mono q fun d v F1 H1 x1 r1 q1 => by
    cases d with
    | list l =>
      cases r1 with
      | @lst a ys _ a1 a2 =>
        refine ⟨.inl ⟨rfl, ys, SqL.of ((re.go x1).same _ _ a1)⟩, F1, env, re.go x1, ?_⟩
        have q1 : Sat X.mg C (RD X.K) ((f' env).bind fun e => Rs.ofO (dIndexD l e)) σ F1 H1 Q := q1
        unfold aCons aNil
        cases hf : f' env with
        | er c n => rw [hf] at q1; exact q1
        | no => rw [hf] at q1; exact q1
        | ok e =>
          rw [hf] at q1
          have q1 : Sat X.mg C (RD X.K) (Rs.ofO (dIndexD l e)) σ F1 H1 Q := q1
          intro vs H2 F2 x2 r2
          obtain ⟨c, hc, q2⟩ := Sat.ofO (Sat.go RD.mono q1 x2)
          have s2 := ((re.go x1).go x2).same
          obtain ⟨w, rfl, rw'⟩ := RpAll.one' r2
          unfold dIndexD at hc
          by_cases hs : (SeqAt.shaped (.list l) && SeqAt.shaped e) = true
          · rw [if_pos hs] at hc
            rw [Bool.and_eq_true] at hs
            cases hp : placeD e l 0 with
            | none => rw [hp] at hc; cases hc
            | some j =>
              rw [hp] at hc
              cases hc
              obtain ⟨k, k1, ⟨z, k2, k3⟩, k4⟩ := placeD_at l e 0 j hp
              rw [Nat.zero_add] at k1
              subst k1
              have rl : Rp X.K F2 (.ref a) (.list l) := .lst (x2.f _ _ a1) (RpAll.mono x2.f _ _ a2)
              exact ⟨a, w, e, l, j, z, rfl, rfl, (Rp.mono s2 _ _ rl).dp, (Rp.mono s2 _ _ rw').dp, hs.1, hs.2, k2, k3, k4, q2 _ H2 F2 (Ext.refl s2) (.int _)⟩
          · rw [if_neg hs] at hc; cases hc
    | _ => exact q1.elim⟩
end
theorem mn_indexD {f f' : FE} (h : Mn f) (h' : Mn f') : Mn (fIndexD f f') := mn_bindX (fun _ => rfl) h fun d => by
  cases d with
  | list l => exact mn_bindX (fun _ => rfl) h' fun e => mn_k _
  | _ => exact mn_k _
/-! the plain side: lists -/
theorem e_frz {i : Nat} {g : FS} {e e1 : List Sl} {l : List D} {o : Out} (h0 : e[i]? = some (.own l)) (h1 : e.set i (.sh (.list l)) = e1) (h : g e1 = o) : sFrz i g e = o := by
  unfold sFrz frz1
  rw [h0]
  show g (e.set i (.sh (.list l))) = o
  rw [h1]
  exact h
theorem rng_cons (lo : Int) (n : Nat) : rng lo (n + 1) = .int lo :: rng (lo + 1) n := by
  unfold rng
  rw [List.range_succ_eq_map, List.map_cons, List.map_map]
  congr 1
  · simp
  · refine List.map_congr_left fun i _ => ?_
    show PyData.int (lo + ((i + 1 : Nat) : Int)) = _
    congr 1
    omega
theorem d_addLs {a b : List D} (h : a.length + b.length ≤ 1000000) : dAdd (.list a) (.list b) = some (.list (a ++ b)) := if_pos (le_line h)
theorem d_ixN {l : List D} {i : Nat} {c : D} (h : l[i]? = some c) : dIx (.list l) (.int (i : Nat)) = some c := by
  have hi : i < l.length := (List.getElem?_eq_some_iff.mp h).1
  show atI l (i : Nat) = some c
  unfold atI
  rw [ixN_natP hi]
  exact h
theorem d_ixLast {l : List D} {c : D} : dIx (.list (l ++ [c])) (.int (-1)) = some c := by
  show atI (l ++ [c]) (-1) = some c
  unfold atI ixN
  simp
  rw [if_pos (by omega)]
  show (l ++ [c])[(-1 + ((l.length : Int) + 1)).toNat]? = some c
  have : (-1 + ((l.length : Int) + 1)).toNat = l.length := by omega
  rw [this]; simp
theorem e_sl {f : FE} {g g' : FO} {e : List Sl} {d c : D} {lo hi : Option Int} (h : f e = .ok d) (hg : g e = .ok lo) (hg' : g' e = .ok hi) (hk : dSl d lo hi = some c) : fSl f g g' e = .ok c := by
  unfold fSl; rw [h]; show (g e).bind _ = _; rw [hg]; show (g' e).bind _ = _; rw [hg']; show Rs.ofO _ = _; rw [hk]; rfl
theorem e_oS {f : FE} {e : List Sl} {i : Int} (h : f e = .ok (.int i)) : oSome f e = .ok (some i) := by unfold oSome; rw [h]; rfl
theorem e_oN {e : List Sl} : oNone e = .ok none := rfl
theorem e_ext {i : Nat} {f : FE} {e e' : List Sl} {l m : List D} (h0 : e[i]? = some (.own l)) (h : f e = .ok (.list m)) (hl : l.length + m.length ≤ LINE) (h' : e.set i (.own (l ++ m)) = e') : sExt i f e = .nx e' := by
  unfold sExt; rw [h0]; show bindO (f e) _ = _; rw [h]; show (if l.length + m.length ≤ LINE then Out.nx _ else .no) = _; rw [if_pos hl, h']
theorem e_enum {f : FE} {e : List Sl} {d : D} {ds : List D} (h : f e = .ok d) (h' : seqD d = some ds) : iEnumF f e = .ok (enumD 0 ds) := by unfold iEnumF; rw [h]; show Rs.ofO _ = _; rw [h']; rfl
theorem e_zip {f f' : FE} {e : List Sl} {d d' : D} {ds ds' : List D} (h : f e = .ok d) (h' : f' e = .ok d') (hd : seqD d = some ds) (hd' : seqD d' = some ds') : iZipF f f' e = .ok (zipD ds ds') := by
  unfold iZipF; rw [h]; show (f' e).bind _ = _; rw [h']; show Rs.ofO _ = _; rw [hd, hd']; rfl
theorem zip_map {α β : Type} (enc : α → D) (enc' : β → D) : ∀ (l : List α) (m : List β), zipD (l.map enc) (m.map enc') = (l.zip m).map fun a => PyData.tuple [enc a.1, enc' a.2]
  | [], _ => rfl
  | _ :: _, [] => rfl
  | a :: l, b :: m => by
    show PyData.tuple [enc a, enc' b] :: zipD (l.map enc) (m.map enc') = _
    rw [zip_map enc enc' l m]
    rfl
theorem e_enumC {α : Type} (enc : α → D) : ∀ (l : List α) (k : Nat), enumD k (l.map enc) = (l.zipIdx k).map fun a => PyData.tuple [.int (a.2 : Nat), enc a.1]
  | [], _ => rfl
  | a :: l, k => by
    show PyData.tuple [.int (k : Nat), enc a] :: enumD (k + 1) (l.map enc) = _
    rw [e_enumC enc l (k + 1)]
    rfl
end PD

/-! Part 26: list * int, the new list owned -/
namespace PD
open PySem PySem.Spec PyProof.Rows L2
def dRepL (d e : D) : Option D := match d, e with | .list a, .int k => dMul (.list a) (.int k) | _, _ => none
def fRep (f f' : FE) : FE := fun env => (f env).bind fun a => (f' env).bind fun b => Rs.ofO (dRepL a b)
section
variable {X : Cx} {C : Ct} {f f' : FE} {a b : Expr} {pos : Pos}
theorem vn_rep (ha : VE X C a f) (hb : VE X C b f') : VN X C (.BinOp a .Mult b pos) (fRep f f') := PE.of (pe_op o_mul ha hb) fun _ _ _ => fun ⟨F, env, re, q⟩ =>
  ⟨F, env, re, Sat.bind RN.mono q fun d v F1 H1 x1 r1 q1 => ⟨F1, env, re.go x1, Sat.bind RN.mono q1 fun e w F2 H2 x2 r2 q2 => by
    obtain ⟨c, hc, q3⟩ := Sat.ofO q2
    exact v_mulN F2 H2 v w d e c _ (re.go (x1.trans x2)).same (Rp.mono x2.f _ _ r1) r2 hc q3⟩⟩
end
/-- // by a number of less than 9000 bits -/
def dDivW : D → D → Option D
  | .int a, .int b => if 0 < b ∧ b.natAbs.log2 < 9000 then some (.int (a / b)) else none
  | _, _ => none
theorem v_divW {K : PySem.W.Frag} : V2 K (rI CDivW fun i j => .int (i / j)) dDivW := v_int fun d e c h => by
  unfold dDivW at h
  split at h
  · rename_i i j
    split at h
    · rename_i hc
      cases h
      exact ⟨i, j, rfl, rfl, hc, rfl⟩
    · cases h
  · cases h
theorem mn_rep {f f' : FE} (h : Mn f) (h' : Mn f') : Mn (fRep f f') := mn_bind h fun _ => mn_bind h' fun _ => mn_k _
theorem rep_ints (n : Nat) (a : Int) : (List.replicate n [PyData.int a]).flatten = (List.replicate n a).map PyData.int := by
  induction n with
  | zero => rfl
  | succ n ih => rw [List.replicate_succ, List.flatten_cons, List.replicate_succ, List.map_cons, ih]; rfl
end PD

namespace k70
open PySem PySem.Spec PyProof.Rows L2 PD
abbrev gd_MOST_DRAWERS : D := (.int 12)
def g_is_set : FS :=
  (sRet (fAndV (fCB dAll (aCons (fLc (iSeq (fVar 1)) (Tgt.nm 2) bYes (f3 dLe dLt (fC (.int 0)) (fVar 2) (fVar 0)) [2]) aNil)) (fCB dAll (aCons (fLc (iZipF (fVar 1) (fSl (fVar 1) (oSome (fC (.int 1))) oNone)) (Tgt.tp [2, 3]) bYes (f2 dLt (fVar 2) (fVar 3)) [2, 3]) aNil))))
def fn_is_set : List D → Rs D := dfn0 4 2 g_is_set
def g_check_cabinet : FS :=
  (sSeq (sIf (fNot (fB (f3 dLe dLe (fC (.int 1)) (fCB dLen (aCons (fVar 0) aNil)) (fC gd_MOST_DRAWERS)))) (sRaise "WrongSize" (fCB dLen (aCons (fVar 0) aNil))) sNext)
  (sFor (Tgt.tp [1, 2]) (iEnumF (fVar 0)) (sIf (fNot (fTru (fCall fn_is_set (aCons (fCB dLen (aCons (fVar 0) aNil)) (aCons (fVar 2) aNil))))) (sRaise "BadDrawer" (fVar 1)) sNext)))
def fn_check_cabinet : List D → Rs D := dfn 3 1 g_check_cabinet
def g_check_broken : FS :=
  (sSeq (sDrop (fCall fn_check_cabinet (aCons (fVar 0) aNil)))
  (sIf (fNot (fTru (fCall fn_is_set (aCons (fCB dLen (aCons (fVar 0) aNil)) (aCons (fVar 1) aNil))))) (sRaise "BadDrawer" (f1 dNeg (fC (.int 1)))) sNext))
def fn_check_broken : List D → Rs D := dfn 2 2 g_check_broken
def g_opened_of : FS :=
  (sSeq (sSetN 2 (fCB dList (aCons (fVar 1) aNil)))
  (sSeq (sSet 3 (fC (.int 0)))
  (sSeq (sWhile 40 (fThB (fB (f2 dLt (fVar 3) (fCB dLen (aCons (fVar 2) aNil))))) (sSeq (sExt 2 (fLc (iSeq (f2 dIx (fVar 0) (fIxO 2 (fVar 3)))) (Tgt.nm 4) (fThB (fB (f2 dNotIn (fVar 4) (fVar 2)))) (fVar 4) [4]))
  (sSet 3 (f2 dAdd (fVar 3) (fC (.int 1))))))
  (sFrz 2 (sRetN (fCB dSorted (aCons (fVar 2) aNil)))))))
def fn_opened_of : List D → Rs D := dfn0N 5 2 g_opened_of
def g_opened : FS :=
  (sSeq (sDrop (fCall fn_check_broken (aCons (fVar 0) (aCons (fVar 1) aNil))))
  (sRetN (fCall fn_opened_of (aCons (fVar 0) (aCons (fVar 1) aNil)))))
def fn_opened : List D → Rs D := dfnN 2 2 g_opened
def fnq_opened : List D → Rs D := fun ds => (fn_opened ds).quiet
def g_is_enough : FS :=
  (sRet (f2 dEq (fCB dLen (aCons (fCall fn_opened (aCons (fVar 0) (aCons (fVar 1) aNil))) aNil)) (fCB dLen (aCons (fVar 0) aNil))))
def fn_is_enough : List D → Rs D := dfn 2 2 g_is_enough
def fnq_is_enough : List D → Rs D := fun ds => (fn_is_enough ds).quiet
def g_groups_of : FS :=
  (sSeq (sSet 1 (fCB dLen (aCons (fVar 0) aNil)))
  (sSeq (sSetF 3 (fLc (iRng1F (aCons (fVar 1) aNil)) (Tgt.nm 2) bYes (fCall fn_opened_of (aCons (fVar 0) (aCons (fLst (aCons (fVar 2) aNil)) aNil))) [2]))
  (sSeq (sSetN 4 (fLst aNil))
  (sSeq (sFor (Tgt.nm 2) (iRng1F (aCons (fVar 1) aNil)) (sSeq (sSetF 6 (fLc (iSeq (f2 dIx (fVar 3) (fVar 2))) (Tgt.nm 5) (fB (f2 dIn (fVar 2) (f2 dIx (fVar 3) (fVar 5)))) (fVar 5) [5]))
  (sSeq (sSetF 7 (fLc (iRng1F (aCons (fVar 1) aNil)) (Tgt.nm 5) (fB (f2 dIn (fVar 2) (f2 dIx (fVar 3) (fVar 5)))) (fVar 5) [5]))
  (sIf (fAnd (fB (f2 dEq (fVar 6) (fVar 7))) (fThB (fB (f2 dNotIn (fVar 6) (fVar 4))))) (sApp 4 (fVar 6)) sNext))))
  (sRetO 4)))))
def fn_groups_of : List D → Rs D := dfn0N 8 1 g_groups_of
def g_groups : FS :=
  (sSeq (sDrop (fCall fn_check_cabinet (aCons (fVar 0) aNil)))
  (sRetN (fCall fn_groups_of (aCons (fVar 0) aNil))))
def fn_groups : List D → Rs D := dfnN 1 1 g_groups
def fnq_groups : List D → Rs D := fun ds => (fn_groups ds).quiet
def g_fewest_broken : FS :=
  (sSeq (sDrop (fCall fn_check_cabinet (aCons (fVar 0) aNil)))
  (sRetN (fCB dSorted (aCons (fLc (iSeq (fCall fn_groups_of (aCons (fVar 0) aNil))) (Tgt.nm 1) bYes (f2 dIx (fVar 1) (fC (.int 0))) [1]) aNil))))
def fn_fewest_broken : List D → Rs D := dfnN 2 1 g_fewest_broken
def fnq_fewest_broken : List D → Rs D := fun ds => (fn_fewest_broken ds).quiet
def g__law_draws : FS :=
  (sSeq (sSetN 1 (fLst aNil))
  (sSeq (sFor (Tgt.nm 2) (iRng1F (aCons (fCB dMin2 (aCons (fC (.int 63)) (aCons (fScrLen 0) aNil))) aNil)) (sSeq (sSet 3 (fCB dAbs (aCons (fScrIx 0 (fVar 2)) aNil)))
  (sIf (fB (f2 dGe (fVar 3) (f2 dPow (fC (.int 10)) (fC (.int 18))))) (sFor (Tgt.nm 4) (iRng1F (aCons (fC (.int 60)) aNil)) (sIf (fB (f2 dGt (fVar 3) (fC (.int 0)))) (sSeq (sApp 1 (f2 dMod (fCB dInt (aCons (fVar 3) aNil)) (fC (.int 65536))))
  (sSet 3 (f2 dDiv (fVar 3) (fC (.int 65536))))) sNext)) (sSeq (sSet 5 (f2 dMod (fCB dInt (aCons (f2 dAdd (f2 dMul (fVar 3) (fC (.int 48271))) (f2 dMul (f2 dAdd (fVar 2) (fC (.int 1))) (fC (.int 69621)))) aNil)) (fC (.int 2147483647))))
  (sSeq (sSet 5 (f2 dMod (fCB dInt (aCons (f2 dAdd (f2 dAdd (f2 dMul (fVar 5) (fC (.int 16807))) (f2 dMul (fC (.int 11)) (fVar 2))) (fC (.int 5))) aNil)) (fC (.int 2147483629))))
  (sSeq (sApp 1 (f2 dMod (fCB dInt (aCons (fVar 5) aNil)) (fC (.int 65536))))
  (sApp 1 (f2 dMod (fCB dInt (aCons (f2 dDiv (fVar 5) (fC (.int 65536))) aNil)) (fC (.int 32768))))))))))
  (sRetO 1)))
def fn__law_draws : List Int → Rs D := dfnS 6 g__law_draws
def g__law_mix : FS :=
  (sSeq (sSet 3 (fC (.int 0)))
  (sSeq (sIf (fB (f2 dGt (fCB dLen (aCons (fVar 0) aNil)) (fC (.int 0)))) (sSet 3 (f2 dIx (fVar 0) (f2 dMod (fCB dInt (aCons (fVar 1) aNil)) (fCB dLen (aCons (fVar 0) aNil))))) sNext)
  (sSeq (sIf (fB (f2 dLt (fVar 1) (fCB dLen (aCons (fVar 0) aNil)))) (sRet (f2 dMod (fCB dInt (aCons (fVar 3) aNil)) (fVar 2))) sNext)
  (sRet (f2 dMod (fCB dInt (aCons (f2 dDiv (fCB dInt (aCons (f2 dAdd (f2 dMul (fVar 3) (fC (.int 7919))) (f2 dMul (fVar 1) (fC (.int 104729)))) aNil)) (fC (.int 3))) aNil)) (fVar 2))))))
def fn__law_mix : List D → Rs D := dfn0 4 3 g__law_mix
def g__law_open : FS :=
  (sSeq (sSet 2 (fCB dList (aCons (fVar 1) aNil)))
  (sSeq (sSet 3 (fC (.bool true)))
  (sSeq (sWhile 40 (fTru (fVar 3)) (sSeq (sSetF 6 (fLc (iRng1F (aCons (fCB dLen (aCons (fVar 0) aNil)) aNil)) (Tgt.nm 4) (fAnd (fB (f2 dNotIn (fVar 4) (fVar 2))) (fB (f2 dGt (fCB dLen (aCons (fLc (iSeq (fVar 2)) (Tgt.nm 5) (fB (f2 dIn (fVar 4) (f2 dIx (fVar 0) (fVar 5)))) (fVar 5) [5]) aNil)) (fC (.int 0))))) (fVar 4) [4]))
  (sSeq (sSet 2 (f2 dAdd (fVar 2) (fVar 6)))
  (sSet 3 (f2 dNe (fVar 6) (fLst aNil))))))
  (sRetN (fCB dSorted (aCons (fVar 2) aNil))))))
def fn__law_open : List D → Rs D := dfn0N 7 2 g__law_open
def g__law_fault : FS :=
  (sSeq (sTry ["WrongSize", "BadDrawer"] [⟨"WrongSize", "size"⟩, ⟨"BadDrawer", "drawer"⟩] (sIf (fB (f2 dLt (fVar 0) (fC (.int 2)))) (sDrop (fSel [fn_groups, fn_fewest_broken] (fVar 0) (aCons (fVar 1) aNil))) (sDrop (fSel [fn_opened, fn_is_enough] (f2 dSub (fVar 0) (fC (.int 2))) (aCons (fVar 1) (aCons (fVar 2) aNil))))))
  (sRet (fTup (aCons (fC (.str "")) (aCons (fC (.int 0)) aNil)))))
def fn__law_fault : List D → Rs D := dfn0 4 3 g__law_fault
def g_law : FS :=
  (sSeq (sSet 1 (fScrCall 0 fn__law_draws))
  (sSeq (sSet 2 (f2 dAdd (fC (.int 1)) (fCall fn__law_mix (aCons (fVar 1) (aCons (fC (.int 0)) (aCons (fC (.int 8)) aNil))))))
  (sSeq (sSet 3 (f2 dIx (fLst (aCons (fC (.int 2)) (aCons (fC (.int 4)) (aCons (fC (.int 9)) aNil)))) (fCall fn__law_mix (aCons (fVar 1) (aCons (fC (.int 1)) (aCons (fC (.int 3)) aNil))))))
  (sSeq (sSetF 6 (fLc (iRng1F (aCons (fVar 2) aNil)) (Tgt.nm 4) bYes (fLc (iRng1F (aCons (fVar 2) aNil)) (Tgt.nm 5) (fB (f2 dEq (fCall fn__law_mix (aCons (fVar 1) (aCons (f2 dAdd (f2 dAdd (fC (.int 10)) (f2 dMul (fC (.int 8)) (fVar 4))) (fVar 5)) (aCons (fVar 3) aNil)))) (fC (.int 0)))) (fVar 5) [5]) [4]))
  (sSeq (sSet 7 (fCB dRepr (aCons (fVar 6) aNil)))
  (sSeq (sSet 8 (fLst (aCons (fLst aNil) aNil)))
  (sSeq (sFor (Tgt.nm 5) (iRng1F (aCons (fVar 2) aNil)) (sSet 8 (f2 dAdd (fVar 8) (fLc (iSeq (fVar 8)) (Tgt.nm 9) bYes (f2 dAdd (fVar 9) (fLst (aCons (fVar 5) aNil))) [9]))))
  (sSeq (sSet 10 (fCB dSorted (aCons (fLc (iSeq (fVar 8)) (Tgt.nm 9) (fB (f2 dEq (fCB dLen (aCons (fCall fn__law_open (aCons (fVar 6) (aCons (fVar 9) aNil))) aNil)) (fVar 2))) (fTup (aCons (fCB dLen (aCons (fVar 9) aNil)) (aCons (fVar 9) aNil))) [9]) aNil)))
  (sSeq (sIf (fRNe (fCall fnq_fewest_broken (aCons (fVar 6) aNil)) (f2 dIx (f2 dIx (fVar 10) (fC (.int 0))) (fC (.int 1)))) (sRet (fC (.bool false))) sNext)
  (sSeq (sFor (Tgt.nm 11) (iRng1F (aCons (fC (.int 5)) aNil)) (sSeq (sSet 9 (f2 dIx (fVar 8) (fCall fn__law_mix (aCons (fVar 1) (aCons (f2 dAdd (fC (.int 90)) (fVar 11)) (aCons (fCB dLen (aCons (fVar 8) aNil)) aNil))))))
  (sSeq (sIf (fOr (fRNe (fCall fnq_opened (aCons (fVar 6) (aCons (fVar 9) aNil))) (fCall fn__law_open (aCons (fVar 6) (aCons (fVar 9) aNil)))) (fRNe (fCall fnq_is_enough (aCons (fVar 6) (aCons (fVar 9) aNil))) (f2 dEq (fCB dLen (aCons (fCall fn__law_open (aCons (fVar 6) (aCons (fVar 9) aNil))) aNil)) (fVar 2)))) (sRet (fC (.bool false))) sNext)
  (sSeq (sSet 12 (f1 dSortSet (f2 dAdd (fVar 9) (fLst (aCons (fCall fn__law_mix (aCons (fVar 1) (aCons (f2 dAdd (fC (.int 100)) (fVar 11)) (aCons (fVar 2) aNil)))) aNil)))))
  (sIf (fB (f2 dGt (fCB dLen (aCons (fLc (iSeq (fCall fnq_opened (aCons (fVar 6) (aCons (fVar 9) aNil)))) (Tgt.nm 5) (fB (f2 dNotIn (fVar 5) (fCall fnq_opened (aCons (fVar 6) (aCons (fVar 12) aNil))))) (fVar 5) [5]) aNil)) (fC (.int 0)))) (sRet (fC (.bool false))) sNext)))))
  (sSeq (sSetN 13 (fLst aNil))
  (sSeq (sFor (Tgt.nm 5) (iRng1F (aCons (fVar 2) aNil)) (sSeq (sSetF 15 (fLc (iSeq (fCall fn__law_open (aCons (fVar 6) (aCons (fLst (aCons (fVar 5) aNil)) aNil)))) (Tgt.nm 14) (fB (f2 dIn (fVar 5) (fCall fn__law_open (aCons (fVar 6) (aCons (fLst (aCons (fVar 14) aNil)) aNil))))) (fVar 14) [14]))
  (sSeq (sSetF 17 (fLc (iRng1F (aCons (fVar 2) aNil)) (Tgt.nm 14) (fAnd (fB (f2 dNotIn (fVar 14) (fVar 15))) (fB (f2 dGt (fCB dLen (aCons (fLc (iSeq (fVar 15)) (Tgt.nm 16) (fB (f2 dIn (fVar 16) (f2 dIx (fVar 6) (fVar 14)))) (fVar 16) [16]) aNil)) (fC (.int 0))))) (fVar 14) [14]))
  (sIf (fAnd (fB (f2 dEq (fVar 17) (fLst aNil))) (fThB (fB (f2 dNotIn (fVar 15) (fVar 13))))) (sApp 13 (fVar 15)) sNext))))
  (sSeq (sIf (fOr (fThB (fRNe (fCall fnq_groups (aCons (fVar 6) aNil)) (fVar 13))) (fOr (fThB (fB (f2 dNe (fCB dLen (aCons (fVar 13) aNil)) (f2 dIx (f2 dIx (fVar 10) (fC (.int 0))) (fC (.int 0)))))) (fB (f2 dNe (fCB dRepr (aCons (fVar 6) aNil)) (fVar 7))))) (sRet (fC (.bool false))) sNext)
  (sSeq (sSet 5 (fCall fn__law_mix (aCons (fVar 1) (aCons (fC (.int 120)) (aCons (fVar 2) aNil)))))
  (sSeq (sFor (Tgt.nm 18) (iRng1F (aCons (fC (.int 4)) aNil)) (sSeq (sIf (fOr (fB (f2 dNe (fCall fn__law_fault (aCons (fVar 18) (aCons (fLst aNil) (aCons (fLst (aCons (fC (.int 9)) aNil)) aNil)))) (fTup (aCons (fC (.str "size")) (aCons (fC (.int 0)) aNil))))) (fB (f2 dNe (fCall fn__law_fault (aCons (fVar 18) (aCons (f2 dMul (fLst (aCons (fLst (aCons (fC (.int 9)) aNil)) aNil)) (fC (.int 13))) (aCons (fLst (aCons (fC (.int 99)) aNil)) aNil)))) (fTup (aCons (fC (.str "size")) (aCons (fC (.int 13)) aNil)))))) (sRet (fC (.bool false))) sNext)
  (sFor (Tgt.nm 19) (iSeq (fLst (aCons (fLst (aCons (fVar 2) aNil)) (aCons (fLst (aCons (f1 dNeg (fC (.int 1))) aNil)) (aCons (fLst (aCons (fC (.int 0)) (aCons (fC (.int 0)) aNil))) aNil))))) (sSeq (sIf (fB (f2 dNe (fCall fn__law_fault (aCons (fVar 18) (aCons (f2 dAdd (f2 dAdd (fSl (fVar 6) oNone (oSome (fVar 5))) (fLst (aCons (fVar 19) aNil))) (fSl (fVar 6) (oSome (f2 dAdd (fVar 5) (fC (.int 1)))) oNone)) (aCons (fLst (aCons (fC (.int 99)) aNil)) aNil)))) (fTup (aCons (fC (.str "drawer")) (aCons (fVar 5) aNil))))) (sRet (fC (.bool false))) sNext)
  (sIf (fAnd (fB (f2 dGt (fVar 18) (fC (.int 1)))) (fB (f2 dNe (fCall fn__law_fault (aCons (fVar 18) (aCons (fVar 6) (aCons (fVar 19) aNil)))) (fTup (aCons (fC (.str "drawer")) (aCons (f1 dNeg (fC (.int 1))) aNil)))))) (sRet (fC (.bool false))) sNext)))))
  (sRet (f2 dEq (fCall fnq_opened (aCons (fVar 6) (aCons (fLst aNil) aNil))) (fLst aNil))))))))))))))))))
end k70
namespace k70
open PySem PySem.Spec PyProof.Rows L2 PD
/-! cabinets: the plain mathematics -/
def rw_ (C : List (List Nat)) (i : Nat) : List Nat := C.getD i []
structure Cab (C : List (List Nat)) : Prop where
  l1 : 1 ≤ C.length
  l8 : C.length ≤ 8
  s : ∀ R ∈ C, R.Pairwise (· < ·)
  b : ∀ R ∈ C, ∀ x ∈ R, x < C.length
inductive Rch (C : List (List Nat)) (S : List Nat) : Nat → Prop
  | base {x : Nat} : x ∈ S → Rch C S x
  | step {x y : Nat} : Rch C S x → y ∈ rw_ C x → Rch C S y
theorem Rch.trans {C : List (List Nat)} {S : List Nat} {x y : Nat} (h : Rch C S x) (k : Rch C [x] y) : Rch C S y := by
  induction k with
  | base h' => rw [List.mem_singleton.mp h']; exact h
  | step _ e ih => exact .step ih e
theorem Rch.refl (C : List (List Nat)) (x : Nat) : Rch C [x] x := .base (by simp)
theorem Rch.from {C : List (List Nat)} {S : List Nat} {y : Nat} (h : Rch C S y) : ∃ s ∈ S, Rch C [s] y := by
  induction h with
  | base h => exact ⟨_, h, .refl C _⟩
  | step _ e ih =>
    obtain ⟨s, hs, h⟩ := ih
    exact ⟨s, hs, .step h e⟩
theorem Rch.mono {C : List (List Nat)} {S T : List Nat} (hst : ∀ x ∈ S, x ∈ T) {y : Nat} (h : Rch C S y) : Rch C T y := by
  induction h with
  | base h => exact .base (hst _ h)
  | step _ e ih => exact .step ih e
noncomputable def opB (C : List (List Nat)) (S : List Nat) (x : Nat) : Bool := @decide (Rch C S x) (Classical.propDecidable _)
noncomputable def opI (C : List (List Nat)) (S : List Nat) : List Nat := (List.range C.length).filter (opB C S)
theorem opB_iff {C : List (List Nat)} {S : List Nat} {x : Nat} : opB C S x = true ↔ Rch C S x := by
  unfold opB
  exact @decide_eq_true_iff _ (Classical.propDecidable _)
theorem mem_op {C : List (List Nat)} {S : List Nat} {x : Nat} : x ∈ opI C S ↔ x < C.length ∧ Rch C S x := by
  unfold opI
  rw [List.mem_filter, List.mem_range, opB_iff]
/-- its strong component -/
noncomputable def grp (C : List (List Nat)) (k : Nat) : List Nat := (opI C [k]).filter fun x => opB C [x] k
noncomputable def bef (C : List (List Nat)) (k : Nat) : List Nat := (List.range C.length).filter fun x => opB C [x] k
section
variable {C : List (List Nat)} (hC : Cab C)
include hC
theorem rch_lt {S : List Nat} (hS : ∀ x ∈ S, x < C.length) {x : Nat} (h : Rch C S x) : x < C.length := by
  induction h with
  | base h => exact hS _ h
  | @step x y _ e ih =>
    unfold rw_ at e
    rw [List.getD_eq_getElem?_getD, List.getElem?_eq_getElem ih] at e
    exact hC.b _ (List.getElem_mem ih) _ e
theorem mem_grp {k x : Nat} : x ∈ grp C k ↔ x < C.length ∧ Rch C [k] x ∧ Rch C [x] k := by
  unfold grp
  rw [List.mem_filter, mem_op, opB_iff]
  exact ⟨fun h => ⟨h.1.1, h.1.2, h.2⟩, fun h => ⟨⟨h.1, h.2.1⟩, h.2.2⟩⟩
theorem mem_bef {k x : Nat} : x ∈ bef C k ↔ x < C.length ∧ Rch C [x] k := by
  unfold bef
  rw [List.mem_filter, List.mem_range, opB_iff]
theorem grp_sub (k : Nat) : grp C k = (bef C k).filter (opB C [k]) := by
  unfold grp bef opI
  rw [List.filter_filter, List.filter_filter]
  exact List.filter_congr fun x _ => Bool.and_comm _ _
def Src (C : List (List Nat)) (k : Nat) : Prop := ∀ x, x < C.length → Rch C [x] k → Rch C [k] x
theorem src_iff {k : Nat} : grp C k = bef C k ↔ Src C k := by
  constructor
  · intro h x hx hr
    have : x ∈ grp C k := by rw [h]; exact (mem_bef hC).mpr ⟨hx, hr⟩
    exact ((mem_grp hC).mp this).2.1
  · intro h
    rw [grp_sub hC]
    exact List.filter_eq_self.mpr fun x hx => by
      obtain ⟨h1, h2⟩ := (mem_bef hC).mp hx
      exact opB_iff.mpr (h x h1 h2)
/-- no key from outside leads into it -/
theorem src_out {k : Nat} (hk : k < C.length) : Src C k ↔ ∀ x, x < C.length → x ∉ grp C k → ∀ y ∈ grp C k, y ∉ rw_ C x := by
  constructor
  · intro h x hx hn y hy he
    obtain ⟨h1, h2, h3⟩ := (mem_grp hC).mp hy
    have hxk : Rch C [x] k := (Rch.step (.refl C x) he).trans h3
    exact hn ((mem_grp hC).mpr ⟨hx, h x hx hxk, hxk⟩)
  · intro h x hx hr
    have hkk : k ∈ grp C k := (mem_grp hC).mpr ⟨hk, .refl C k, .refl C k⟩
    refine Classical.byContradiction fun hno => ?_
    have key : ∀ y, Rch C [x] y → y ∉ grp C k := by
      intro y hy
      induction hy with
      | base h' =>
        rw [List.mem_singleton.mp h']
        exact fun hm => hno ((mem_grp hC).mp hm).2.1
      | @step u v hu e ih =>
        intro hm
        have hul := rch_lt hC (S := [x]) (fun z hz => by rw [List.mem_singleton.mp hz]; exact hx) hu
        exact h u hul ih v hm e
    exact key k hr hkk
theorem grp_eq {k x : Nat} (h : x ∈ grp C k) : grp C x = grp C k := by
  obtain ⟨h1, h2, h3⟩ := (mem_grp hC).mp h
  unfold grp opI
  rw [List.filter_filter, List.filter_filter]
  refine List.filter_congr fun y _ => ?_
  rw [Bool.eq_iff_iff, Bool.and_eq_true, Bool.and_eq_true, opB_iff, opB_iff, opB_iff, opB_iff]
  exact ⟨fun ⟨a, b⟩ => ⟨a.trans h3, h2.trans b⟩, fun ⟨a, b⟩ => ⟨a.trans h2, h3.trans b⟩⟩
/-- the first of its component -/
noncomputable def fst_ (C : List (List Nat)) (k : Nat) : Nat := (grp C k).getD 0 0
theorem grp_sorted (k : Nat) : (grp C k).Pairwise (· < ·) := (List.pairwise_lt_range.filter _).filter _
theorem fst_mem {k : Nat} (hk : k < C.length) : fst_ C k ∈ grp C k ∧ fst_ C k ≤ k := by
  have hkk : k ∈ grp C k := (mem_grp hC).mpr ⟨hk, .refl C k, .refl C k⟩
  have hs := grp_sorted hC k
  unfold fst_
  match hg : grp C k, hkk, hs with
  | a :: r, hkk, hs =>
    refine ⟨List.mem_cons_self, ?_⟩
    rcases List.mem_cons.mp hkk with e | e
    · exact Nat.le_of_eq e.symm
    · exact Nat.le_of_lt ((List.pairwise_cons.mp hs).1 k e)
theorem fst_eq {k x : Nat} (h : x ∈ grp C k) : fst_ C x = fst_ C k := by unfold fst_; rw [grp_eq hC h]
/-- above every place there is a source -/
theorem above {v : Nat} (hv : v < C.length) : ∃ x, x < C.length ∧ Src C x ∧ Rch C [x] v := by
  have hsub : ∀ {x y : Nat}, Rch C [y] x → ∀ z ∈ bef C y, z ∈ bef C x := fun h z hz => by
    obtain ⟨h1, h2⟩ := (mem_bef hC).mp hz
    exact (mem_bef hC).mpr ⟨h1, h2.trans h⟩
  have key : ∀ (m x : Nat), (bef C x).length ≤ m → x < C.length → Rch C [x] v → ∃ x, x < C.length ∧ Src C x ∧ Rch C [x] v := by
    intro m
    induction m with
    | zero =>
      intro x hm hx hr
      have : x ∈ bef C x := (mem_bef hC).mpr ⟨hx, .refl C x⟩
      have e0 := List.eq_nil_of_length_eq_zero (l := bef C x) (by omega)
      rw [e0] at this
      cases this
    | succ m ih =>
      intro x hm hx hr
      by_cases hs : Src C x
      · exact ⟨x, hx, hs, hr⟩
      · have : ∃ y, y < C.length ∧ Rch C [y] x ∧ ¬ Rch C [x] y := by
          refine Classical.byContradiction fun hno => hs fun y hy hyx => ?_
          exact Classical.byContradiction fun h => hno ⟨y, hy, hyx, h⟩
        obtain ⟨y, hy, hyx, hny⟩ := this
        refine ih y ?_ hy (hyx.trans hr)
        have hnd : (x :: bef C y).Nodup := List.nodup_cons.mpr ⟨fun h => hny ((mem_bef hC).mp h).2, List.nodup_range.filter _⟩
        have := hnd.length_le_of_subset (l₂ := bef C x) fun z hz => by
          rcases List.mem_cons.mp hz with e | e
          · rw [e]; exact (mem_bef hC).mpr ⟨hx, .refl C x⟩
          · exact hsub hyx z e
        rw [List.length_cons] at this
        omega
  exact key _ v (Nat.le_refl _) hv (.refl C v)
end
/-! the least of all that do -/
theorem least_set {M S : List Nat} {f : Nat → Nat} (hM : M.Pairwise (· < ·)) (hS : S.Pairwise (· < ·)) (hf : ∀ s ∈ S, f s ≤ s) (h : ∀ m ∈ M, ∃ s ∈ S, f s = m) : M.length < S.length ∨ (M.length = S.length ∧ ¬ S < M) := by
  have hMn : M.Nodup := hM.imp fun h => Nat.ne_of_lt h
  have hle : M.length ≤ S.length := by
    have := hMn.length_le_of_subset (l₂ := S.map f) fun m hm => by
      obtain ⟨s, hs, e⟩ := h m hm
      exact e ▸ List.mem_map_of_mem hs
    rwa [List.length_map] at this
  by_cases he : M.length = S.length
  · refine .inr ⟨he, fun hlt => ?_⟩
    rcases (List.lt_iff_exists.mp hlt) with ⟨h1, h2⟩ | ⟨i, h1, h2, h3, h4⟩
    · omega
    · have hnd : (M.drop i).Nodup := hMn.sublist (List.drop_sublist _ _)
      have := hnd.length_le_of_subset (l₂ := (S.drop (i + 1)).map f) fun m hm => by
        obtain ⟨s, hs, e⟩ := h m (List.mem_of_mem_drop hm)
        have hms : M[i] ≤ m := by
          rw [List.drop_eq_getElem_cons h2] at hm
          rcases List.mem_cons.mp hm with q | q
          · omega
          · obtain ⟨j, hj, q⟩ := List.getElem_of_mem q
            rw [List.getElem_drop] at q
            have hjl : i + 1 + j < M.length := by rw [List.length_drop] at hj; omega
            have := List.pairwise_iff_getElem.mp hM i (i + 1 + j) h2 hjl (by omega)
            omega
        have hsm := hf s hs
        obtain ⟨j, hj, q⟩ := List.getElem_of_mem hs
        have hij : i < j := by
          refine Classical.byContradiction fun hno => ?_
          have : s ≤ S[i] := by
            by_cases e : j = i
            · subst e; omega
            · have := List.pairwise_iff_getElem.mp hS j i hj h1 (by omega)
              omega
          omega
        refine List.mem_map.mpr ⟨s, ?_, e⟩
        rw [← q]
        refine List.mem_iff_getElem.mpr ⟨j - (i + 1), by rw [List.length_drop]; omega, ?_⟩
        rw [List.getElem_drop]
        congr 1
        omega
      rw [List.length_map, List.length_drop, List.length_drop] at this
      omega
  · exact .inl (by omega)
/-! sets, read -/
def nL (l : List Nat) : List D := l.map fun (k : Nat) => PyData.int (k : Nat)
def nD (l : List Nat) : D := .list (nL l)
def cD (C : List (List Nat)) : D := .list (C.map nD)
def setI (n : Nat) (T : List Int) : Bool := (T.all fun x => decide (0 ≤ x ∧ x < (n : Int))) && ((T.zip T.tail).all fun a => decide (a.1 < a.2))
theorem dLen_iD (l : List Int) : dLen [iD l] = some (.int (l.length : Nat)) := by
  show some (PyData.int ((intL l).length : Nat)) = _
  rw [intL_len]
theorem dLen_nD (l : List Nat) : dLen [nD l] = some (.int (l.length : Nat)) := by show some (PyData.int ((l.map _).length : Nat)) = _; rw [List.length_map]
theorem dLen_cD (l : List (List Nat)) : dLen [cD l] = some (.int (l.length : Nat)) := by show some (PyData.int ((l.map _).length : Nat)) = _; rw [List.length_map]
theorem nL_len (l : List Nat) : (nL l).length = l.length := by unfold nL; rw [List.length_map]
theorem nL_app (a b : List Nat) : nL a ++ nL b = nL (a ++ b) := by unfold nL; rw [List.map_append]
theorem nat_iD (l : List Nat) : nD l = iD (l.map fun (k : Nat) => (k : Int)) := by
  unfold nD nL iD intL
  rw [List.map_map]
  rfl
theorem d_allB (l : List Bool) : dAll [.list (l.map .bool)] = some (.bool (l.all id)) := by show (boolsD (l.map PyData.bool)).map _ = _; rw [boolsD_map]; rfl
theorem f3_0 {e : List Sl} {x n : Int} {f g : FE} (hf : f e = .ok (.int x)) (hg : g e = .ok (.int n)) : f3 dLe dLt (fC (.int 0)) f g e = .ok (.bool (decide (0 ≤ x ∧ x < n))) := by
  by_cases h : (0 : Int) ≤ x
  · rw [show decide (0 ≤ x ∧ x < n) = decide (x < n) from decide_eq_decide.mpr (by omega)]
    exact e_f3 (t := true) e_c hf ((dLe_int _ _).trans (by rw [decide_eq_true h])) rfl hg (dLt_int _ _)
  · rw [decide_eq_false (by omega)]
    unfold f3
    show (f e).bind _ = _
    rw [hf, Rs.bind_ok, dLe_int, decide_eq_false h]
    rfl
theorem cut1 {α : Type} (l : List α) : PD.cutD l (some 1) none = l.tail := by
  unfold PD.cutD
  rw [HT.sIx_none, show (some (1 : Int)) = some ((1 : Nat) : Int) from rfl, HT.sIx_nat]
  cases l with
  | nil => rfl
  | cons a r =>
    have : min 1 (a :: r).length = 1 := by rw [List.length_cons]; omega
    rw [this]
    simp
theorem is_set_eq (n : Nat) (T : List Int) (hT : T.length ≤ 1000) : fn_is_set [.int (n : Nat), iD T] = .ok (.bool (setI n T)) := by
  have h1 : fCB dAll (aCons (fLc (iSeq (fVar 1)) (Tgt.nm 2) bYes (f3 dLe dLt (fC (.int 0)) (fVar 2) (fVar 0)) [2]) aNil) [.sh (.int (n : Nat)), .sh (iD T), .un, .un] = .ok (.bool (T.all fun x => decide (0 ≤ x ∧ x < (n : Int)))) := by
    refine e_cb1 (e_lcA PyData.int (fun x => PyData.bool (decide (0 ≤ x ∧ x < (n : Int)))) T (e_iSeq (e_var rfl) rfl) rfl rfl (fun x _ => ⟨_, rfl, f3_0 (e_var rfl) (e_var rfl)⟩) (by omega)) ?_
    have : (T.map fun x => PyData.bool (decide (0 ≤ x ∧ x < (n : Int)))) = (T.map fun x => decide (0 ≤ x ∧ x < (n : Int))).map PyData.bool := by rw [List.map_map]; rfl
    rw [this, d_allB, List.all_map]; rfl
  have h2 : fCB dAll (aCons (fLc (iZipF (fVar 1) (fSl (fVar 1) (oSome (fC (.int 1))) oNone)) (Tgt.tp [2, 3]) bYes (f2 dLt (fVar 2) (fVar 3)) [2, 3]) aNil) [.sh (.int (n : Nat)), .sh (iD T), .un, .un] = .ok (.bool ((T.zip T.tail).all fun a => decide (a.1 < a.2))) := by
    refine e_cb1 (e_lcA (fun a : Int × Int => PyData.tuple [.int a.1, .int a.2]) (fun a => PyData.bool (decide (a.1 < a.2))) (T.zip T.tail) (e_zip (e_var rfl) (e_sl (e_var rfl) (e_oS e_c) e_oN (c := iD T.tail) ?_) rfl rfl) (zip_map PyData.int PyData.int T T.tail) rfl (fun a _ => ⟨_, rfl, e_f2 (e_var rfl) (e_var rfl) (dLt_int _ _)⟩) (by rw [List.length_zip]; omega)) ?_
    · show some (PyData.list (PD.cutD (intL T) (some 1) none)) = _
      rw [cut1]
      unfold iD intL
      rw [List.map_tail]
    · have : ((T.zip T.tail).map fun a => PyData.bool (decide (a.1 < a.2))) = ((T.zip T.tail).map fun a => decide (a.1 < a.2)).map PyData.bool := by rw [List.map_map]; rfl
      rw [this, d_allB, List.all_map]; rfl
  refine d_fn (e := [.sh (.int (n : Nat)), .sh (iD T), .un, .un]) rfl rfl (e_ret ?_)
  unfold fAndV
  rw [h1]
  unfold setI
  cases hb : (T.all fun x => decide (0 ≤ x ∧ x < (n : Int))) with
  | false => rfl
  | true => exact h2
theorem zip_tail : ∀ {T : List Int}, T.Pairwise (· < ·) → ((T.zip T.tail).all fun a => decide (a.1 < a.2)) = true
  | [], _ => rfl
  | [_], _ => rfl
  | a :: b :: r, h => by
    obtain ⟨h1, h2⟩ := List.pairwise_cons.mp h
    show (decide (a < b) && ((b :: r).zip r).all fun a => decide (a.1 < a.2)) = true
    rw [decide_eq_true (h1 b List.mem_cons_self), Bool.true_and]
    exact zip_tail h2
theorem setI_nat {n : Nat} {T : List Nat} (h : T.Pairwise (· < ·)) (hb : ∀ x ∈ T, x < n) : setI n (T.map fun (k : Nat) => (k : Int)) = true := by
  unfold setI
  rw [zip_tail (List.pairwise_map.mpr (h.imp fun h => by omega)), Bool.and_true]
  refine List.all_eq_true.mpr fun x hx => ?_
  obtain ⟨y, hy, rfl⟩ := List.mem_map.mp hx
  have := hb y hy
  exact decide_eq_true (by omega)
/-! a cabinet, read: rows of ints -/
def riD (rows : List (List Int)) : D := .list (rows.map iD)
def bCab : FS := (sIf (fNot (fTru (fCall fn_is_set (aCons (fCB dLen (aCons (fVar 0) aNil)) (aCons (fVar 2) aNil))))) (sRaise "BadDrawer" (fVar 1)) sNext)
def fbC (n : Nat) : Nat → List (List Int) → Option Nat
  | _, [] => none
  | k, T :: r => if setI n T = true then fbC n (k + 1) r else some k
theorem e_loopE {t : Tgt} {body : FS} {d : D} {ds : List D} {env e : List Sl} {c : Str} {n : Int} (h : t.put d env = some e) (hb : body e = .er c n) : loopF t body (d :: ds) env = .er c n := by
  unfold loopF
  rw [h]
  dsimp only
  rw [hb]
theorem dLen_riD (l : List (List Int)) : dLen [riD l] = some (.int (l.length : Nat)) := by show some (PyData.int ((l.map _).length : Nat)) = _; rw [List.length_map]
theorem cab_loop {w : List (List Int)} (hw : ∀ T ∈ w, T.length ≤ 1000) : ∀ (r : List (List Int)) (k : Nat) (s1 s2 : Sl), (∀ T ∈ r, T ∈ w) → match fbC w.length k r with
    | none => ∃ t1 t2, loopF (Tgt.tp [1, 2]) bCab (enumD k (r.map iD)) [.sh (riD w), s1, s2] = .nx [.sh (riD w), t1, t2]
    | some j => loopF (Tgt.tp [1, 2]) bCab (enumD k (r.map iD)) [.sh (riD w), s1, s2] = .er "BadDrawer" (j : Nat)
  | [], k, s1, s2, _ => ⟨s1, s2, rfl⟩
  | T :: r, k, s1, s2, hr => by
    have hT := hw T (hr T List.mem_cons_self)
    have hc : fNot (fTru (fCall fn_is_set (aCons (fCB dLen (aCons (fVar 0) aNil)) (aCons (fVar 2) aNil)))) [.sh (riD w), .sh (.int (k : Nat)), .sh (iD T)] = .ok (!setI w.length T) :=
      e_not (e_tru (e_call (e_cons (e_cb1 (e_var rfl) (dLen_riD w)) (e_cons (e_var rfl) e_nil)) (is_set_eq w.length T hT)) rfl)
    unfold fbC
    by_cases hs : setI w.length T = true
    · rw [if_pos hs]
      rw [hs] at hc
      have hb : bCab [.sh (riD w), .sh (.int (k : Nat)), .sh (iD T)] = .nx [.sh (riD w), .sh (.int (k : Nat)), .sh (iD T)] := e_if hc rfl
      have ih := cab_loop hw r (k + 1) (.sh (.int (k : Nat))) (.sh (iD T)) (fun S hS => hr S (List.mem_cons_of_mem _ hS))
      cases hf : fbC w.length (k + 1) r with
      | none =>
        rw [hf] at ih
        obtain ⟨t1, t2, ih⟩ := ih
        exact ⟨t1, t2, e_loopC (e := [.sh (riD w), .sh (.int (k : Nat)), .sh (iD T)]) rfl hb ih⟩
      | some j =>
        rw [hf] at ih
        exact e_loopC (e := [.sh (riD w), .sh (.int (k : Nat)), .sh (iD T)]) rfl hb ih
    · rw [if_neg hs]
      have hs : setI w.length T = false := by cases h : setI w.length T with | false => rfl | true => exact absurd h hs
      rw [hs] at hc
      exact e_loopE (e := [.sh (riD w), .sh (.int (k : Nat)), .sh (iD T)]) rfl (e_if hc (by rw [show (!false) = true from rfl, if_pos rfl]; exact e_raise (e_var rfl)))
theorem check_cab_eq {w : List (List Int)} (hw : ∀ T ∈ w, T.length ≤ 1000) (h1 : 1 ≤ w.length) (h2 : w.length ≤ 12) : fn_check_cabinet [riD w] = match fbC w.length 0 w with
    | none => .ok .none
    | some j => .er "BadDrawer" (j : Nat) := by
  have b1 : decide ((1 : Int) ≤ (w.length : Nat)) = true := decide_eq_true (by omega)
  have b2 : decide (((w.length : Nat) : Int) ≤ 12) = true := decide_eq_true (by omega)
  have hl := cab_loop hw w 0 .un .un (fun _ h => h)
  have hif : sIf (fNot (fB (f3 dLe dLe (fC (.int 1)) (fCB dLen (aCons (fVar 0) aNil)) (fC gd_MOST_DRAWERS)))) (sRaise "WrongSize" (fCB dLen (aCons (fVar 0) aNil))) sNext [.sh (riD w), .un, .un] = .nx [.sh (riD w), .un, .un] :=
    e_if (b := !true) (e_not (e_B (e_f3 (t := true) e_c (e_cb1 (e_var rfl) (dLen_riD w)) ((dLe_int _ _).trans (by rw [b1])) rfl e_c ((dLe_int _ _).trans (by rw [b2]))))) rfl
  refine d_fnE (e := [.sh (riD w), .un, .un]) (ds := [riD w]) rfl rfl ?_
  cases hf : fbC w.length 0 w with
  | none =>
    rw [hf] at hl
    obtain ⟨t1, t2, hl⟩ := hl
    have z : g_check_cabinet [.sh (riD w), .un, .un] = .nx [.sh (riD w), t1, t2] := e_seq hif (e_for (e_enum (e_var rfl) rfl) hl)
    rw [z]; rfl
  | some j =>
    rw [hf] at hl
    have z : g_check_cabinet [.sh (riD w), .un, .un] = .er "BadDrawer" (j : Nat) := e_seq hif (e_for (e_enum (e_var rfl) rfl) hl)
    rw [z]; rfl
def ci (C : List (List Nat)) : List (List Int) := C.map fun R => R.map fun (k : Nat) => (k : Int)
theorem cD_ri (C : List (List Nat)) : cD C = riD (ci C) := by
  unfold cD riD ci
  rw [List.map_map]
  congr 1
  exact List.map_congr_left fun R _ => nat_iD R
theorem fbC_none {n : Nat} : ∀ (r : List (List Int)) (k : Nat), (∀ T ∈ r, setI n T = true) → fbC n k r = none
  | [], _, _ => rfl
  | T :: r, k, h => by
    unfold fbC
    rw [if_pos (h T List.mem_cons_self)]
    exact fbC_none r (k + 1) fun S hS => h S (List.mem_cons_of_mem _ hS)
theorem fbC_some {n : Nat} {B : List Int} {t : List (List Int)} (hB : setI n B = false) : ∀ (r : List (List Int)) (k : Nat), (∀ T ∈ r, setI n T = true) → fbC n k (r ++ B :: t) = some (k + r.length)
  | [], k, _ => by
    show fbC n k (B :: t) = _
    unfold fbC
    rw [hB]; rfl
  | T :: r, k, h => by
    show fbC n k (T :: (r ++ B :: t)) = _
    unfold fbC
    rw [if_pos (h T List.mem_cons_self), fbC_some hB r (k + 1) fun S hS => h S (List.mem_cons_of_mem _ hS)]
    rw [List.length_cons]
    congr 1
    omega
section
variable {C : List (List Nat)} (hC : Cab C)
include hC
theorem ci_ok : (∀ T ∈ ci C, setI C.length T = true) ∧ (∀ T ∈ ci C, T.length ≤ 8) ∧ (ci C).length = C.length := by
  refine ⟨fun T hT => ?_, fun T hT => ?_, by unfold ci; rw [List.length_map]⟩
  · obtain ⟨R, hR, rfl⟩ := List.mem_map.mp hT
    exact setI_nat (hC.s R hR) (hC.b R hR)
  · obtain ⟨R, hR, rfl⟩ := List.mem_map.mp hT
    have hn : R.Nodup := (hC.s R hR).imp fun h => Nat.ne_of_lt h
    have := hn.length_le_of_subset (l₂ := List.range C.length) fun z hz => List.mem_range.mpr (hC.b R hR z hz)
    rw [List.length_range] at this
    have := hC.l8
    rw [List.length_map]
    omega
theorem check_ok : fn_check_cabinet [cD C] = .ok .none := by
  obtain ⟨h1, h2, h3⟩ := ci_ok hC
  have h := check_cab_eq (w := ci C) (fun T hT => by have := h2 T hT; omega) (by rw [h3]; exact hC.l1) (by rw [h3]; have := hC.l8; omega)
  rw [fbC_none _ _ (fun T hT => by rw [h3]; exact h1 T hT)] at h
  rw [cD_ri]
  exact h
theorem check_broken_eq {T : List Int} (hT : T.length ≤ 1000) : fn_check_broken [cD C, iD T] = if setI C.length T = true then .ok .none else .er "BadDrawer" (-1) := by
  refine d_fnE (e := [.sh (cD C), .sh (iD T)]) (ds := [cD C, iD T]) rfl rfl ?_
  have hc : fNot (fTru (fCall fn_is_set (aCons (fCB dLen (aCons (fVar 0) aNil)) (aCons (fVar 1) aNil)))) [.sh (cD C), .sh (iD T)] = .ok (!setI C.length T) :=
    e_not (e_tru (e_call (e_cons (e_cb1 (e_var rfl) (dLen_cD C)) (e_cons (e_var rfl) e_nil)) (is_set_eq C.length T hT)) rfl)
  by_cases hs : setI C.length T = true
  · rw [if_pos hs]
    rw [hs] at hc
    have z : g_check_broken [.sh (cD C), .sh (iD T)] = .nx [.sh (cD C), .sh (iD T)] := e_seq (e_drop (e_callE (e_cons (e_var rfl) e_nil) (check_ok hC))) (e_if hc rfl)
    rw [z]; rfl
  · rw [if_neg hs]
    have hs : setI C.length T = false := by cases h : setI C.length T with | false => rfl | true => exact absurd h hs
    rw [hs] at hc
    have z : g_check_broken [.sh (cD C), .sh (iD T)] = .er "BadDrawer" (-1) := e_seq (e_drop (e_callE (e_cons (e_var rfl) e_nil) (check_ok hC))) (e_if hc (by rw [show (!false) = true from rfl, if_pos rfl]; exact e_raise (e_f1 e_c (d_neg 1))))
    rw [z]; rfl
end
/-! sorted numbers -/
theorem leD_nat (a b : Nat) : leD (.int (a : Nat)) (.int (b : Nat)) = decide (a ≤ b) := by
  unfold leD
  rw [PySem.W.dataLt_int]
  by_cases h : a ≤ b
  · simp [h]
  · simp [h]; omega
theorem d_sortN {F M : List Nat} (hp : F.Perm M) (hM : M.Pairwise (· < ·)) (hl : F.length ≤ 1000) : dSorted [nD F] = some (nD M) := by
  have ok : sortOk (nL F) = true := by
    unfold sortOk
    have h0 : ((nL F).all fun x => (nL F).all fun y => PySem.W.alike x y) = true := by
      refine List.all_eq_true.mpr fun x hx => List.all_eq_true.mpr fun y hy => ?_
      obtain ⟨a, _, rfl⟩ := List.mem_map.mp hx
      obtain ⟨b, _, rfl⟩ := List.mem_map.mp hy
      simp [PySem.W.alike]
    have h1 : (nL F).all notTN = true := List.all_eq_true.mpr fun x hx => by obtain ⟨a, _, rfl⟩ := List.mem_map.mp hx; rfl
    have h2 : (nL F).all shal = true := List.all_eq_true.mpr fun x hx => by
      obtain ⟨a, _, rfl⟩ := List.mem_map.mp hx
      simp [shal, PyData.depth]
    rw [h0, h1, h2, nL_len, decide_eq_true (le_line (by omega))]; simp
  show (if sortOk (nL F) = true then some (PyData.list (sortD (nL F))) else none) = _
  rw [if_pos ok]
  unfold nD
  congr 2
  unfold sortD
  rw [isort_merge leD_total]
  refine List.Perm.eq_of_pairwise (le := fun a b => leD a b = true) (fun a b ha hb h1 h2 => ?_) (by rw [← isort_merge leD_total]; exact isort_sorted leD_total _) ?_ ((List.mergeSort_perm _ _).trans (hp.map _))
  · obtain ⟨i, _, rfl⟩ := List.mem_map.mp (List.mem_mergeSort.mp ha)
    obtain ⟨j, _, rfl⟩ := List.mem_map.mp hb
    rw [leD_nat] at h1 h2
    have h1 := of_decide_eq_true h1
    have h2 := of_decide_eq_true h2
    rw [show i = j by omega]
  · exact List.pairwise_map.mpr (hM.imp fun {i j} h => by rw [leD_nat]; exact decide_eq_true (Nat.le_of_lt h))
theorem perm_sub : ∀ (l m : List Nat), l.Nodup → (∀ x ∈ l, x ∈ m) → l.length = m.length → l.Perm m
  | [], m, _, _, h => by rw [List.eq_nil_of_length_eq_zero h.symm]
  | a :: l, m, hn, hs, h => by
    obtain ⟨h1, h2⟩ := List.nodup_cons.mp hn
    obtain ⟨A, K, rfl⟩ := List.append_of_mem (hs a List.mem_cons_self)
    have ih := perm_sub l (A ++ K) h2 (fun x hx => by
      rcases List.mem_append.mp (hs x (List.mem_cons_of_mem _ hx)) with q | q
      · exact List.mem_append_left _ q
      · rcases List.mem_cons.mp q with e | e
        · exact absurd (e ▸ hx) h1
        · exact List.mem_append_right _ e) (by simp at h ⊢; omega)
    exact (ih.cons a).trans List.perm_middle.symm
theorem perm_mem {l m : List Nat} (hl : l.Nodup) (hm : m.Nodup) (h : ∀ x, x ∈ l ↔ x ∈ m) : l.Perm m := by
  have h1 := hl.length_le_of_subset (l₂ := m) fun x hx => (h x).mp hx
  have h2 := hm.length_le_of_subset (l₂ := l) fun x hx => (h x).mpr hx
  exact perm_sub l m hl (fun x hx => (h x).mp hx) (by omega)
theorem d_notInN (k : Nat) (l : List Nat) : dNotIn (.int (k : Nat)) (nD l) = some (.bool (!decide (k ∈ l))) := by
  rw [nat_iD, d_notInL]
  congr 3
  refine decide_eq_decide.mpr ⟨fun h => ?_, fun h => List.mem_map_of_mem h⟩
  obtain ⟨j, hj, e⟩ := List.mem_map.mp h
  have : j = k := by omega
  exact this ▸ hj
theorem d_inN (k : Nat) (l : List Nat) : dIn (.int (k : Nat)) (nD l) = some (.bool (decide (k ∈ l))) := by
  rw [nat_iD, d_inL]
  congr 2
  refine decide_eq_decide.mpr ⟨fun h => ?_, fun h => List.mem_map_of_mem h⟩
  obtain ⟨j, hj, e⟩ := List.mem_map.mp h
  have : j = k := by omega
  exact this ▸ hj
theorem rngN (n : Nat) : rng 0 n = nL (List.range n) := by
  rw [rng_map]
  exact List.map_congr_left fun i _ => by rw [Int.zero_add]
section
variable {C : List (List Nat)} (hC : Cab C)
include hC
omit hC in
theorem c_at {i : Nat} (hi : i < C.length) : dIx (cD C) (.int (i : Nat)) = some (nD (rw_ C i)) := d_ixN (by
  unfold rw_
  rw [List.getElem?_map, List.getD_eq_getElem?_getD, List.getElem?_eq_getElem hi]; rfl)
omit hC in
theorem nL_at {l : List Nat} {k : Nat} (hk : k < l.length) : dIx (.list (nL l)) (.int (k : Nat)) = some (.int (l.getD k 0 : Nat)) := d_ixN (by
  unfold nL
  rw [List.getElem?_map, List.getD_eq_getElem?_getD, List.getElem?_eq_getElem hk]; rfl)
structure FInv (C : List (List Nat)) (S F : List Nat) : Prop where
  nd : F.Nodup
  r : ∀ x ∈ F, Rch C S x
  s : ∀ x ∈ S, x ∈ F
theorem row_ok {i : Nat} (hi : i < C.length) : (rw_ C i).Nodup ∧ ∀ x ∈ rw_ C i, x < C.length := by
  unfold rw_
  rw [List.getD_eq_getElem?_getD, List.getElem?_eq_getElem hi]
  exact ⟨(hC.s _ (List.getElem_mem hi)).imp fun h => Nat.ne_of_lt h, hC.b _ (List.getElem_mem hi)⟩
theorem F_len {S F : List Nat} (hS : ∀ x ∈ S, x < C.length) (h : FInv C S F) : F.length ≤ C.length := by
  have := h.nd.length_le_of_subset (l₂ := List.range C.length) fun z hz => List.mem_range.mpr (rch_lt hC hS (h.r z hz))
  rwa [List.length_range] at this
theorem F_closed {S F : List Nat} (hS : ∀ x ∈ S, x < C.length) (h : FInv C S F) (hc : ∀ x ∈ F, ∀ y ∈ rw_ C x, y ∈ F) : F.Perm (opI C S) := by
  refine perm_mem h.nd (List.nodup_range.filter _) fun x => ⟨fun hx => mem_op.mpr ⟨rch_lt hC hS (h.r x hx), h.r x hx⟩, fun hx => ?_⟩
  have hr := (mem_op.mp hx).2
  clear hx
  induction hr with
  | base hb => exact h.s _ hb
  | step _ e ih => exact hc _ ih _ e
omit hC in
theorem op_sorted (C : List (List Nat)) (S : List Nat) : (opI C S).Pairwise (· < ·) := List.pairwise_lt_range.filter _
def cO : FB := (fThB (fB (f2 dLt (fVar 3) (fCB dLen (aCons (fVar 2) aNil)))))
def bO2 : FS := (sSeq (sExt 2 (fLc (iSeq (f2 dIx (fVar 0) (fIxO 2 (fVar 3)))) (Tgt.nm 4) (fThB (fB (f2 dNotIn (fVar 4) (fVar 2)))) (fVar 4) [4]))
  (sSet 3 (f2 dAdd (fVar 3) (fC (.int 1)))))
theorem open_loop {S : List Nat} (hS : ∀ x ∈ S, x < C.length) {s1 s4 : Sl} : ∀ (f at_ : Nat) (F : List Nat), FInv C S F → at_ ≤ F.length → (∀ (i : Nat) (x : Nat), i < at_ → F[i]? = some x → ∀ y ∈ rw_ C x, y ∈ F) → C.length - at_ < f →
    ∃ F', loopW cO bO2 f [.sh (cD C), s1, .own (nL F), .sh (.int (at_ : Nat)), s4] = .nx [.sh (cD C), s1, .own (nL F'), .sh (.int (F'.length : Nat)), s4] ∧ FInv C S F' ∧ ∀ x ∈ F', ∀ y ∈ rw_ C x, y ∈ F'
  | 0, _, _, _, _, _, h => by omega
  | f + 1, at_, F, hF, hat, hcl, hf => by
    have h8 := hC.l8
    have hFl := F_len hC hS hF
    have hc : cO [.sh (cD C), s1, .own (nL F), .sh (.int (at_ : Nat)), s4] = .ok (decide (at_ < F.length)) :=
      e_thM (e_B (e_f2 (e_var rfl) (e_cb1 (a := nD F) (e_var rfl) (dLen_nD F)) ((dLt_int _ _).trans (by congr 2; exact decide_eq_decide.mpr (by omega)))))
    by_cases h : at_ < F.length
    · obtain ⟨x, hx⟩ : ∃ x, F[at_]? = some x := ⟨_, List.getElem?_eq_getElem h⟩
      have hxm := List.mem_of_getElem? hx
      have hxn := rch_lt hC hS (hF.r x hxm)
      have hgx : F.getD at_ 0 = x := by rw [List.getD_eq_getElem?_getD, hx]; rfl
      obtain ⟨r1, r2⟩ := row_ok hC hxn
      have hrl := r1.length_le_of_subset (l₂ := List.range C.length) fun z hz => List.mem_range.mpr (r2 z hz)
      rw [List.length_range] at hrl
      have hnl := List.length_filter_le (fun y => !decide (y ∈ F)) (rw_ C x)
      have hlc : fLc (iSeq (f2 dIx (fVar 0) (fIxO 2 (fVar 3)))) (Tgt.nm 4) (fThB (fB (f2 dNotIn (fVar 4) (fVar 2)))) (fVar 4) [4] [.sh (cD C), s1, .own (nL F), .sh (.int (at_ : Nat)), s4] = .ok (.list (nL ((rw_ C x).filter fun y => !decide (y ∈ F)))) :=
        e_lcG (fun (k : Nat) => PyData.int (k : Nat)) (fun y => !decide (y ∈ F)) (fun (k : Nat) => PyData.int (k : Nat)) (rw_ C x) (e_iSeq (e_f2 (e_var rfl) (e_ixO rfl (e_var rfl) (nL_at h)) (by rw [hgx]; exact c_at hxn)) rfl) rfl rfl (fun y _ => ⟨_, rfl, e_thM (e_B (e_f2 (b := nD F) (e_var rfl) (e_var rfl) (d_notInN y F))), fun _ => e_var rfl⟩) (by omega)
      have hF1 : FInv C S (F ++ (rw_ C x).filter fun y => !decide (y ∈ F)) := by
        refine ⟨List.nodup_append.mpr ⟨hF.nd, r1.filter _, fun a ha b hb e => ?_⟩, fun y hy => ?_, fun y hy => List.mem_append_left _ (hF.s y hy)⟩
        · have := (List.mem_filter.mp hb).2
          rw [← e] at this
          simp [ha] at this
        · rcases List.mem_append.mp hy with q | q
          · exact hF.r y q
          · exact .step (hF.r x hxm) (List.mem_filter.mp q).1
      obtain ⟨F', i1, i2, i3⟩ := open_loop hS (s1 := s1) (s4 := s4) f (at_ + 1) _ hF1 (by rw [List.length_append]; omega) (fun i z hi hz y hy => by
        by_cases he : i = at_
        · subst he
          rw [List.getElem?_append_left h, hx] at hz
          cases hz
          by_cases hyF : y ∈ F
          · exact List.mem_append_left _ hyF
          · exact List.mem_append_right _ (List.mem_filter.mpr ⟨hy, by simp [hyF]⟩)
        · rw [List.getElem?_append_left (by omega)] at hz
          exact List.mem_append_left _ (hcl i z (by omega) hz y hy)) (by omega)
      refine ⟨F', ?_, i2, i3⟩
      rw [loopW, hc, decide_eq_true h]
      dsimp only [bindO]
      rw [if_pos rfl]
      have hb : bO2 [.sh (cD C), s1, .own (nL F), .sh (.int (at_ : Nat)), s4] = .nx [.sh (cD C), s1, .own (nL (F ++ (rw_ C x).filter fun y => !decide (y ∈ F))), .sh (.int ((at_ + 1 : Nat) : Int)), s4] :=
        e_seq (e_ext (l := nL F) rfl hlc (le_line (by rw [nL_len, nL_len]; omega)) (e' := [.sh (cD C), s1, .own (nL (F ++ (rw_ C x).filter fun y => !decide (y ∈ F))), .sh (.int (at_ : Nat)), s4]) (by rw [nL_app]; rfl)) (e_set (e_f2 (e_var rfl) e_c ((d_add _ _).trans rfl)) rfl)
      rw [hb]
      exact i1
    · have : at_ = F.length := by omega
      subst this
      refine ⟨F, ?_, hF, fun x hx y hy => ?_⟩
      · rw [loopW, hc, decide_eq_false h]
        rfl
      · obtain ⟨i, hi, e⟩ := List.getElem_of_mem hx
        exact hcl i x hi (by rw [List.getElem?_eq_getElem hi, e]) y hy
theorem opened_of_eq {S : List Nat} (hS : ∀ x ∈ S, x < C.length) (hn : S.Nodup) : fn_opened_of [cD C, nD S] = .ok (nD (opI C S)) := by
  have h8 := hC.l8
  obtain ⟨F, h1, h2, h3⟩ := open_loop hC hS (s1 := .sh (nD S)) (s4 := .un) 40 0 S ⟨hn, fun x hx => .base hx, fun _ h => h⟩ (by omega) (fun i x hi => by omega) (by omega)
  have hp := F_closed hC hS h2 h3
  have hl := F_len hC hS h2
  exact d_fnN (e := [.sh (cD C), .sh (nD S), .un, .un, .un]) rfl rfl (e_seq (e_setN (l := nL S) (e_cb1 (e_var rfl) rfl) rfl) (e_seq (e_set e_c rfl) (e_seq h1 (e_frz (l := nL F) rfl rfl (e_retN (e_cb1 (a := nD F) (e_var rfl) (d_sortN hp (op_sorted C S) (by omega))))))))
theorem opened_eq {S : List Nat} (hS : ∀ x ∈ S, x < C.length) (hs : S.Pairwise (· < ·)) : fn_opened [cD C, nD S] = .ok (nD (opI C S)) := by
  have hn : S.Nodup := hs.imp fun h => Nat.ne_of_lt h
  have hl := hn.length_le_of_subset (l₂ := List.range C.length) fun z hz => List.mem_range.mpr (hS z hz)
  rw [List.length_range] at hl
  have h8 := hC.l8
  have hb := check_broken_eq hC (T := S.map fun (k : Nat) => (k : Int)) (by rw [List.length_map]; omega)
  rw [if_pos (setI_nat hs hS), ← nat_iD] at hb
  refine d_fnEN (e := [.sh (cD C), .sh (nD S)]) (ds := [cD C, nD S]) rfl rfl ?_
  have z : g_opened [.sh (cD C), .sh (nD S)] = .rn (nD (opI C S)) := e_seq (e_drop (e_callE (e_cons (e_var rfl) (e_cons (e_var rfl) e_nil)) hb)) (e_retN (e_call (e_cons (e_var rfl) (e_cons (e_var rfl) e_nil)) (opened_of_eq hC hS hn)))
  rw [z]; rfl
theorem enough_eq {S : List Nat} (hS : ∀ x ∈ S, x < C.length) (hs : S.Pairwise (· < ·)) : fn_is_enough [cD C, nD S] = .ok (.bool (decide ((opI C S).length = C.length))) := by
  refine d_fnE (e := [.sh (cD C), .sh (nD S)]) (ds := [cD C, nD S]) rfl rfl ?_
  have z : g_is_enough [.sh (cD C), .sh (nD S)] = .rt (.bool (decide ((opI C S).length = C.length))) := e_ret (e_f2 (e_cb1 (e_call (e_cons (e_var rfl) (e_cons (e_var rfl) e_nil)) (opened_eq hC hS hs)) (dLen_nD _)) (e_cb1 (e_var rfl) (dLen_cD C)) ((dEq_int _ _).trans (by congr 2; exact decide_eq_decide.mpr (by omega))))
  rw [z]; rfl
/-! the law's own -/
def newI (C : List (List Nat)) (F : List Nat) : List Nat := (List.range C.length).filter fun k => !decide (k ∈ F) && decide (0 < (F.filter fun one => decide (k ∈ rw_ C one)).length)
def bLO : FS := (sSeq (sSetF 6 (fLc (iRng1F (aCons (fCB dLen (aCons (fVar 0) aNil)) aNil)) (Tgt.nm 4) (fAnd (fB (f2 dNotIn (fVar 4) (fVar 2))) (fB (f2 dGt (fCB dLen (aCons (fLc (iSeq (fVar 2)) (Tgt.nm 5) (fB (f2 dIn (fVar 4) (f2 dIx (fVar 0) (fVar 5)))) (fVar 5) [5]) aNil)) (fC (.int 0))))) (fVar 4) [4]))
  (sSeq (sSet 2 (f2 dAdd (fVar 2) (fVar 6)))
  (sSet 3 (f2 dNe (fVar 6) (fLst aNil)))))
theorem lopen_step {S F : List Nat} (hS : ∀ x ∈ S, x < C.length) (hF : FInv C S F) {s1 s3 s6 : Sl} : bLO [.sh (cD C), s1, .sh (nD F), s3, .un, .un, s6] = .nx [.sh (cD C), s1, .sh (nD (F ++ newI C F)), .sh (.bool (!(newI C F).isEmpty)), .un, .un, .sh (nD (newI C F))] := by
  have h8 := hC.l8
  have hFl := F_len hC hS hF
  have hnl := List.length_filter_le (fun k => !decide (k ∈ F) && decide (0 < (F.filter fun one => decide (k ∈ rw_ C one)).length)) (List.range C.length)
  rw [List.length_range] at hnl
  have hlc : fLc (iRng1F (aCons (fCB dLen (aCons (fVar 0) aNil)) aNil)) (Tgt.nm 4) (fAnd (fB (f2 dNotIn (fVar 4) (fVar 2))) (fB (f2 dGt (fCB dLen (aCons (fLc (iSeq (fVar 2)) (Tgt.nm 5) (fB (f2 dIn (fVar 4) (f2 dIx (fVar 0) (fVar 5)))) (fVar 5) [5]) aNil)) (fC (.int 0))))) (fVar 4) [4] [.sh (cD C), s1, .sh (nD F), s3, .un, .un, s6] = .ok (.list (nL (newI C F))) :=
    e_lcG (fun (k : Nat) => PyData.int (k : Nat)) (fun k => !decide (k ∈ F) && decide (0 < (F.filter fun one => decide (k ∈ rw_ C one)).length)) (fun (k : Nat) => PyData.int (k : Nat)) (List.range C.length) (e_rng1 (n := C.length) (e_cb1 (e_var rfl) (dLen_cD C)) (by omega)) (rngN _) rfl (fun k hk => by
      refine ⟨[.sh (cD C), s1, .sh (nD F), s3, .sh (.int (k : Nat)), .un, s6], rfl, e_and (e_B (e_f2 (e_var rfl) (e_var rfl) (d_notInN k F))) (fun _ => e_B (e_f2 (e_cb1 (e_lcG (fun (k : Nat) => PyData.int (k : Nat)) (fun one => decide (k ∈ rw_ C one)) (fun (k : Nat) => PyData.int (k : Nat)) F (e_iSeq (e_var rfl) rfl) rfl rfl (fun one ho => ⟨_, rfl, e_B (e_f2 (e_var rfl) (e_f2 (e_var rfl) (e_var rfl) (c_at (rch_lt hC hS (hF.r one ho)))) (d_inN k _)), fun _ => e_var rfl⟩) (by omega)) (dLen_nD _)) e_c ((dGt_int _ _).trans (by congr 2; exact decide_eq_decide.mpr (by omega))))), fun _ => e_var rfl⟩) (by rw [List.length_range]; omega)
  refine e_seq (e_setF hlc rfl) (e_seq (e_set (e_f2 (a := nD F) (b := nD (newI C F)) (e_var rfl) (e_var rfl) ((d_addLs (by rw [nL_len, nL_len]; unfold newI; omega)).trans (by rw [nL_app]; rfl))) rfl) (e_set (e_f2 (a := nD (newI C F)) (e_var rfl) e_lst0 ((d_neNil _).trans ?_)) rfl))
  unfold nL
  rw [List.isEmpty_map]
theorem new_inv {S F : List Nat} (hF : FInv C S F) : FInv C S (F ++ newI C F) := by
  refine ⟨List.nodup_append.mpr ⟨hF.nd, List.nodup_range.filter _, fun a ha b hb e => ?_⟩, fun y hy => ?_, fun y hy => List.mem_append_left _ (hF.s y hy)⟩
  · have := (List.mem_filter.mp hb).2
    rw [← e] at this
    simp [ha] at this
  · rcases List.mem_append.mp hy with q | q
    · exact hF.r y q
    · have h2 := (List.mem_filter.mp q).2
      rw [Bool.and_eq_true] at h2
      obtain ⟨one, hone⟩ := List.exists_mem_of_length_pos (of_decide_eq_true h2.2)
      obtain ⟨h3, h4⟩ := List.mem_filter.mp hone
      exact .step (hF.r one h3) (of_decide_eq_true h4)
theorem new_nil {S F : List Nat} (hS : ∀ x ∈ S, x < C.length) (hF : FInv C S F) (h : newI C F = []) : ∀ x ∈ F, ∀ y ∈ rw_ C x, y ∈ F := fun x hx y hy => by
  refine Classical.byContradiction fun hno => ?_
  have hxn := rch_lt hC hS (hF.r x hx)
  have : y ∈ newI C F := List.mem_filter.mpr ⟨List.mem_range.mpr ((row_ok hC hxn).2 y hy), by
    rw [Bool.and_eq_true]
    refine ⟨by simp [hno], decide_eq_true ?_⟩
    exact List.length_pos_of_mem (List.mem_filter.mpr ⟨hx, decide_eq_true hy⟩)⟩
  rw [h] at this
  cases this
theorem lopen_loop {S : List Nat} (hS : ∀ x ∈ S, x < C.length) {s1 : Sl} : ∀ (f : Nat) (F : List Nat) (s6 : Sl), FInv C S F → C.length - F.length + 1 < f →
    ∃ F' t6, loopW (fTru (fVar 3)) bLO f [.sh (cD C), s1, .sh (nD F), .sh (.bool true), .un, .un, s6] = .nx [.sh (cD C), s1, .sh (nD F'), .sh (.bool false), .un, .un, t6] ∧ FInv C S F' ∧ ∀ x ∈ F', ∀ y ∈ rw_ C x, y ∈ F'
  | 0, _, _, _, h => by omega
  | f + 1, F, s6, hF, hf => by
    have hst := lopen_step hC hS hF (s1 := s1) (s3 := .sh (.bool true)) (s6 := s6)
    have hF1 := new_inv hC hF
    have hc : ∀ (b : Bool) (F : List Nat) (s6 : Sl), fTru (fVar 3) [.sh (cD C), s1, .sh (nD F), .sh (.bool b), .un, .un, s6] = .ok b := fun b F s6 => e_tru (e_var rfl) rfl
    have e1 : loopW (fTru (fVar 3)) bLO (f + 1) [.sh (cD C), s1, .sh (nD F), .sh (.bool true), .un, .un, s6] = loopW (fTru (fVar 3)) bLO f [.sh (cD C), s1, .sh (nD (F ++ newI C F)), .sh (.bool (!(newI C F).isEmpty)), .un, .un, .sh (nD (newI C F))] := by
      rw [loopW, hc true]
      dsimp only [bindO]
      rw [if_pos rfl, hst]
    cases hn : newI C F with
    | nil =>
      rw [hn] at e1
      refine ⟨F, .sh (nD []), ?_, hF, new_nil hC hS hF hn⟩
      rw [e1, List.append_nil]
      match f, hf with
      | f + 1, _ =>
        show loopW (fTru (fVar 3)) bLO (f + 1) [.sh (cD C), s1, .sh (nD F), .sh (.bool false), .un, .un, .sh (nD [])] = _
        rw [loopW, hc false]
        rfl
    | cons a r =>
      have hlen : (F ++ newI C F).length ≥ F.length + 1 := by rw [List.length_append, hn, List.length_cons]; omega
      have hFl1 := F_len hC hS hF1
      obtain ⟨F', t6, i1, i2, i3⟩ := lopen_loop hS (s1 := s1) f (F ++ newI C F) (.sh (nD (newI C F))) hF1 (by omega)
      refine ⟨F', t6, ?_, i2, i3⟩
      rw [e1]
      rw [hn] at i1 ⊢
      exact i1
theorem lopen_eq {S : List Nat} (hS : ∀ x ∈ S, x < C.length) (hn : S.Nodup) : fn__law_open [cD C, nD S] = .ok (nD (opI C S)) := by
  have h8 := hC.l8
  obtain ⟨F, t6, h1, h2, h3⟩ := lopen_loop hC hS (s1 := .sh (nD S)) 40 S .un ⟨hn, fun x hx => .base hx, fun _ h => h⟩ (by omega)
  have hp := F_closed hC hS h2 h3
  have hl := F_len hC hS h2
  exact d_fnN (e := [.sh (cD C), .sh (nD S), .un, .un, .un, .un, .un]) rfl rfl (e_seq (e_set (d := nD S) (e_cb1 (e_var rfl) rfl) rfl) (e_seq (e_set e_c rfl) (e_seq h1 (e_retN (e_cb1 (a := nD F) (e_var rfl) (d_sortN hp (op_sorted C S) (by omega)))))))
end
/-! groups -/
theorem cast_inj : ∀ {a b : List Nat}, (a.map fun (k : Nat) => (k : Int)) = b.map (fun (k : Nat) => (k : Int)) → a = b
  | [], [], _ => rfl
  | [], _ :: _, h => by cases h
  | _ :: _, [], h => by cases h
  | x :: a, y :: b, h => by
    rw [List.map_cons, List.map_cons] at h
    injection h with h1 h2
    rw [cast_inj h2, show x = y by omega]
theorem eqv_N (a b : List Nat) : PyData.eqv (nD a) (nD b) = decide (a = b) := by
  rw [nat_iD, nat_iD, eqv_iD]
  exact decide_eq_decide.mpr ⟨cast_inj, fun h => by rw [h]⟩
theorem shal_N (a : List Nat) : shal (nD a) = true := by rw [nat_iD]; exact shal_iD _
theorem d_eqN (a b : List Nat) : dEq (nD a) (nD b) = some (.bool (decide (a = b))) := by unfold dEq; rw [shal_N, Bool.true_or, if_pos rfl, eqv_N]
theorem d_notInR (g : List Nat) (L : List (List Nat)) : dNotIn (nD g) (.list (L.map nD)) = some (.bool (!decide (g ∈ L))) := by
  have hin : dIn (nD g) (.list (L.map nD)) = some (.bool (decide (g ∈ L))) := by
    show (if shal (nD g) = true then some (PyData.bool (dInL (nD g) (L.map nD))) else none) = _
    rw [shal_N, if_pos rfl]
    congr 2
    induction L with
    | nil => rfl
    | cons a L ih =>
      show (PyData.eqv (nD a) (nD g) || dInL (nD g) (L.map nD)) = _
      rw [eqv_N, ih]
      by_cases e : a = g
      · subst e; simp
      · have : ¬ g = a := fun h => e h.symm
        simp [e, this]
  unfold dNotIn
  rw [hin]; rfl
noncomputable def GI (C : List (List Nat)) : Nat → List (List Nat)
  | 0 => []
  | k + 1 => if grp C k = bef C k ∧ grp C k ∉ GI C k then GI C k ++ [grp C k] else GI C k
theorem GI_succ (C : List (List Nat)) (k : Nat) : GI C (k + 1) = if grp C k = bef C k ∧ grp C k ∉ GI C k then GI C k ++ [grp C k] else GI C k := rfl
theorem mem_GI {C : List (List Nat)} {g : List Nat} : ∀ {k : Nat}, g ∈ GI C k ↔ ∃ j, j < k ∧ grp C j = bef C j ∧ g = grp C j
  | 0 => ⟨fun h => (by cases h), fun ⟨j, h, _⟩ => by omega⟩
  | k + 1 => by
    unfold GI
    by_cases hc : grp C k = bef C k ∧ grp C k ∉ GI C k
    · rw [if_pos hc, List.mem_append, mem_GI (k := k)]
      constructor
      · rintro (⟨j, h1, h2, h3⟩ | h)
        · exact ⟨j, by omega, h2, h3⟩
        · exact ⟨k, by omega, hc.1, List.mem_singleton.mp h⟩
      · rintro ⟨j, h1, h2, h3⟩
        by_cases e : j = k
        · subst e; exact .inr (List.mem_singleton.mpr h3)
        · exact .inl ⟨j, by omega, h2, h3⟩
    · rw [if_neg hc, mem_GI (k := k)]
      constructor
      · rintro ⟨j, h1, h2, h3⟩
        exact ⟨j, by omega, h2, h3⟩
      · rintro ⟨j, h1, h2, h3⟩
        by_cases e : j = k
        · subst e
          have : grp C j ∈ GI C j := Classical.byContradiction fun h => hc ⟨h2, h⟩
          rw [h3]
          exact mem_GI.mp this
        · exact ⟨j, by omega, h2, h3⟩
theorem GI_nodup (C : List (List Nat)) : ∀ k, (GI C k).Nodup
  | 0 => List.nodup_nil
  | k + 1 => by
    unfold GI
    split
    · rename_i h
      refine List.nodup_append.mpr ⟨GI_nodup C k, by simp, fun a ha b hb e => ?_⟩
      rw [List.mem_singleton.mp hb] at e
      exact h.2 (e ▸ ha)
    · exact GI_nodup C k
theorem GI_len (C : List (List Nat)) : ∀ k, (GI C k).length ≤ k
  | 0 => Nat.le_refl _
  | k + 1 => by
    have := GI_len C k
    unfold GI
    split
    · rw [List.length_append, List.length_singleton]; omega
    · omega
section
variable {C : List (List Nat)} (hC : Cab C)
include hC
theorem grp_filter {k : Nat} (hk : k < C.length) : ((opI C [k]).filter fun one => decide (k ∈ opI C [one])) = grp C k := by
  unfold grp
  refine List.filter_congr fun x _ => ?_
  rw [Bool.eq_iff_iff, decide_eq_true_eq, mem_op, opB_iff]
  exact ⟨fun h => h.2, fun h => ⟨hk, h⟩⟩
theorem bef_filter {k : Nat} (hk : k < C.length) : ((List.range C.length).filter fun one => decide (k ∈ opI C [one])) = bef C k := by
  unfold bef
  refine List.filter_congr fun x _ => ?_
  rw [Bool.eq_iff_iff, decide_eq_true_eq, mem_op, opB_iff]
  exact ⟨fun h => h.2, fun h => ⟨hk, h⟩⟩
theorem one_lt {k : Nat} (hk : k < C.length) : ∀ x ∈ [k], x < C.length := fun x hx => by rw [List.mem_singleton.mp hx]; exact hk
theorem op_len (S : List Nat) : (opI C S).length ≤ C.length := by
  have := List.length_filter_le (opB C S) (List.range C.length)
  rwa [List.length_range] at this
noncomputable def tolD (C : List (List Nat)) : List D := (List.range C.length).map fun k => nD (opI C [k])
def bGr : FS := (sSeq (sSetF 6 (fLc (iSeq (f2 dIx (fVar 3) (fVar 2))) (Tgt.nm 5) (fB (f2 dIn (fVar 2) (f2 dIx (fVar 3) (fVar 5)))) (fVar 5) [5]))
  (sSeq (sSetF 7 (fLc (iRng1F (aCons (fVar 1) aNil)) (Tgt.nm 5) (fB (f2 dIn (fVar 2) (f2 dIx (fVar 3) (fVar 5)))) (fVar 5) [5]))
  (sIf (fAnd (fB (f2 dEq (fVar 6) (fVar 7))) (fThB (fB (f2 dNotIn (fVar 6) (fVar 4))))) (sApp 4 (fVar 6)) sNext)))
theorem groups_of_eq : fn_groups_of [cD C] = .ok (.list ((GI C C.length).map nD)) := by
  have h8 := hC.l8
  have htol : ∀ {k : Nat}, k < C.length → dIx (.list (tolD C)) (.int (k : Nat)) = some (nD (opI C [k])) := fun {k} hk => d_ixN (by
    unfold tolD
    rw [List.getElem?_map, List.getElem?_range hk]; rfl)
  obtain ⟨e', h1, t2, t6, t7, rfl⟩ := loopF_inv (t := Tgt.nm 2) (body := bGr) (ds := rng 0 C.length) (I := fun i e => ∃ t2 t6 t7, e = [.sh (cD C), .sh (.int (C.length : Nat)), t2, .sh (.list (tolD C)), .own ((GI C i).map nD), .un, t6, t7]) (fun k e d hd ⟨t2, t6, t7, he⟩ => by
    subst he
    obtain ⟨hi, rfl⟩ := rng_get hd
    rw [Int.zero_add]
    have hop := op_len hC [k]
    have hgl := GI_len C k
    have hg : fLc (iSeq (f2 dIx (fVar 3) (fVar 2))) (Tgt.nm 5) (fB (f2 dIn (fVar 2) (f2 dIx (fVar 3) (fVar 5)))) (fVar 5) [5] [.sh (cD C), .sh (.int (C.length : Nat)), .sh (.int (k : Nat)), .sh (.list (tolD C)), .own ((GI C k).map nD), .un, t6, t7] = .ok (.list (nL (grp C k))) := by
      rw [← grp_filter hC hi]
      exact e_lcG (fun (k : Nat) => PyData.int (k : Nat)) (fun one => decide (k ∈ opI C [one])) (fun (k : Nat) => PyData.int (k : Nat)) (opI C [k]) (e_iSeq (e_f2 (e_var rfl) (e_var rfl) (htol hi)) rfl) rfl rfl (fun one ho => ⟨_, rfl, e_B (e_f2 (e_var rfl) (e_f2 (e_var rfl) (e_var rfl) (htol (mem_op.mp ho).1)) (d_inN k _)), fun _ => e_var rfl⟩) (by omega)
    have hb : fLc (iRng1F (aCons (fVar 1) aNil)) (Tgt.nm 5) (fB (f2 dIn (fVar 2) (f2 dIx (fVar 3) (fVar 5)))) (fVar 5) [5] [.sh (cD C), .sh (.int (C.length : Nat)), .sh (.int (k : Nat)), .sh (.list (tolD C)), .own ((GI C k).map nD), .un, .sh (nD (grp C k)), t7] = .ok (.list (nL (bef C k))) := by
      rw [← bef_filter hC hi]
      exact e_lcG (fun (k : Nat) => PyData.int (k : Nat)) (fun one => decide (k ∈ opI C [one])) (fun (k : Nat) => PyData.int (k : Nat)) (List.range C.length) (e_rng1 (n := C.length) (e_var rfl) (by omega)) (rngN _) rfl (fun one ho => ⟨_, rfl, e_B (e_f2 (e_var rfl) (e_f2 (e_var rfl) (e_var rfl) (htol (List.mem_range.mp ho))) (d_inN k _)), fun _ => e_var rfl⟩) (by rw [List.length_range]; omega)
    have hc : fAnd (fB (f2 dEq (fVar 6) (fVar 7))) (fThB (fB (f2 dNotIn (fVar 6) (fVar 4)))) [.sh (cD C), .sh (.int (C.length : Nat)), .sh (.int (k : Nat)), .sh (.list (tolD C)), .own ((GI C k).map nD), .un, .sh (nD (grp C k)), .sh (nD (bef C k))] = .ok (decide (grp C k = bef C k) && !decide (grp C k ∈ GI C k)) :=
      e_and (e_B (e_f2 (e_var rfl) (e_var rfl) (d_eqN _ _))) fun _ => e_thM (e_B (e_f2 (a := nD (grp C k)) (b := .list ((GI C k).map nD)) (e_var rfl) (e_var rfl) (d_notInR _ _)))
    have hif : ∃ t6 t7, sIf (fAnd (fB (f2 dEq (fVar 6) (fVar 7))) (fThB (fB (f2 dNotIn (fVar 6) (fVar 4))))) (sApp 4 (fVar 6)) sNext [.sh (cD C), .sh (.int (C.length : Nat)), .sh (.int (k : Nat)), .sh (.list (tolD C)), .own ((GI C k).map nD), .un, .sh (nD (grp C k)), .sh (nD (bef C k))] = .nx [.sh (cD C), .sh (.int (C.length : Nat)), .sh (.int (k : Nat)), .sh (.list (tolD C)), .own ((GI C (k + 1)).map nD), .un, t6, t7] := by
      refine ⟨.sh (nD (grp C k)), .sh (nD (bef C k)), e_if hc ?_⟩
      rw [GI_succ]
      by_cases hcc : grp C k = bef C k ∧ grp C k ∉ GI C k
      · rw [if_pos hcc, decide_eq_true hcc.1, decide_eq_false hcc.2, if_pos (show (true && !false) = true from rfl), List.map_append]
        exact e_appI rfl (e_var rfl) (lt_line (by rw [List.length_map]; omega)) rfl
      · rw [if_neg hcc]
        have : (decide (grp C k = bef C k) && !decide (grp C k ∈ GI C k)) = false := by
          by_cases h1 : grp C k = bef C k
          · have : grp C k ∈ GI C k := Classical.byContradiction fun h => hcc ⟨h1, h⟩
            simp [this]
          · simp [h1]
        rw [this]
        rfl
    obtain ⟨u6, u7, hif⟩ := hif
    exact ⟨_, _, rfl, e_seq (e_setF hg rfl) (e_seq (e_setF hb rfl) hif), _, _, _, rfl⟩) [.sh (cD C), .sh (.int (C.length : Nat)), .un, .sh (.list (tolD C)), .own [], .un, .un, .un] ⟨.un, .un, .un, rfl⟩
  rw [rng_len] at h1
  refine d_fnN (e := [.sh (cD C), .un, .un, .un, .un, .un, .un, .un]) rfl rfl (e_seq (e_set (e_cb1 (e_var rfl) (dLen_cD C)) rfl) (e_seq (e_setF (l := tolD C) ?_ rfl) (e_seq (e_setN e_lst0 rfl) (e_seq (e_for (e_rng1 (n := C.length) (e_var rfl) (by omega)) h1) (e_retO rfl)))))
  exact e_lcA (fun (k : Nat) => PyData.int (k : Nat)) (fun k => nD (opI C [k])) (List.range C.length) (e_rng1 (n := C.length) (e_var rfl) (by omega)) (rngN _) rfl (fun k hk => ⟨_, rfl, e_call (e_cons (e_var rfl) (e_cons (d := nD [k]) (e_lst (e_cons (e_var rfl) e_nil) (le_line (by show 1 ≤ 1000000; omega))) e_nil)) (opened_of_eq hC (one_lt hC (List.mem_range.mp hk)) (by simp))⟩) (by rw [List.length_range]; omega)
theorem groups_eq : fn_groups [cD C] = .ok (.list ((GI C C.length).map nD)) := by
  refine d_fnEN (e := [.sh (cD C)]) (ds := [cD C]) rfl rfl ?_
  have z : g_groups [.sh (cD C)] = .rn (.list ((GI C C.length).map nD)) := e_seq (e_drop (e_callE (e_cons (e_var rfl) e_nil) (check_ok hC))) (e_retN (e_call (e_cons (e_var rfl) e_nil) (groups_of_eq hC)))
  rw [z]; rfl
/-! the fewest -/
noncomputable def MI (C : List (List Nat)) : List Nat := (List.range C.length).filter fun x => @decide (Src C x ∧ fst_ C x = x) (Classical.propDecidable _)
theorem mem_MI {x : Nat} : x ∈ MI C ↔ x < C.length ∧ Src C x ∧ fst_ C x = x := by
  unfold MI
  rw [List.mem_filter, List.mem_range]
  rw [@decide_eq_true_iff _ (Classical.propDecidable _)]
theorem src_move {k x : Nat} (h : Src C k) (hx : x ∈ grp C k) : Src C x := fun y hy hr => by
  obtain ⟨_, h2, h3⟩ := (mem_grp hC).mp hx
  exact h3.trans (h y hy (hr.trans h3))
theorem heads_perm : ((GI C C.length).map fun g => g.getD 0 0).Perm (MI C) := by
  refine perm_mem ?_ (List.nodup_range.filter _) fun x => ?_
  · refine List.pairwise_map.mpr ((GI_nodup C C.length).imp_of_mem fun {a b} ha hb hne e => hne ?_)
    obtain ⟨j, hj, _, rfl⟩ := mem_GI.mp ha
    obtain ⟨i, hi, _, rfl⟩ := mem_GI.mp hb
    have h1 := (fst_mem hC hj).1
    have h2 := (fst_mem hC hi).1
    have e : fst_ C j = fst_ C i := e
    rw [← grp_eq hC h1, e, grp_eq hC h2]
  · rw [List.mem_map, mem_MI hC]
    constructor
    · rintro ⟨g, hg, rfl⟩
      obtain ⟨j, hj, h2, rfl⟩ := mem_GI.mp hg
      have hm := (fst_mem hC hj).1
      have hs := (src_iff hC).mp h2
      exact ⟨((mem_grp hC).mp hm).1, src_move hC hs hm, fst_eq hC hm⟩
    · rintro ⟨h1, h2, h3⟩
      exact ⟨grp C x, mem_GI.mpr ⟨x, h1, (src_iff hC).mpr h2, rfl⟩, h3⟩
theorem fewest_eq : fn_fewest_broken [cD C] = .ok (nD (MI C)) := by
  have h8 := hC.l8
  have hgl := GI_len C C.length
  refine d_fnEN (e := [.sh (cD C), .un]) (ds := [cD C]) rfl rfl ?_
  have hlc : fLc (iSeq (fCall fn_groups_of (aCons (fVar 0) aNil))) (Tgt.nm 1) bYes (f2 dIx (fVar 1) (fC (.int 0))) [1] [.sh (cD C), .un] = .ok (nD ((GI C C.length).map fun g => g.getD 0 0)) := by
    unfold nD nL
    rw [List.map_map]
    exact e_lcA nD (fun g => PyData.int (g.getD 0 0 : Nat)) (GI C C.length) (e_iSeq (e_call (e_cons (e_var rfl) e_nil) (groups_of_eq hC)) rfl) rfl rfl (fun g hg => by
      obtain ⟨j, hj, _, rfl⟩ := mem_GI.mp hg
      have hpos : 0 < (grp C j).length := List.length_pos_of_mem (fst_mem hC hj).1
      exact ⟨_, rfl, e_f2 (e_var rfl) e_c (nL_at (k := 0) hpos)⟩) (by omega)
  have z : g_fewest_broken [.sh (cD C), .un] = .rn (nD (MI C)) := e_seq (e_drop (e_callE (e_cons (e_var rfl) e_nil) (check_ok hC))) (e_retN (e_cb1 hlc (d_sortN (heads_perm hC) (List.pairwise_lt_range.filter _) (by rw [List.length_map]; omega))))
  rw [z]; rfl
end
/-! all sets -/
def ss : Nat → List (List Nat)
  | 0 => [[]]
  | k + 1 => ss k ++ (ss k).map fun s => s ++ [k]
theorem ss_len : ∀ k, (ss k).length = 2 ^ k
  | 0 => rfl
  | k + 1 => by
    show (ss k ++ (ss k).map fun s => s ++ [k]).length = _
    rw [List.length_append, List.length_map, ss_len k, Nat.pow_succ]
    omega
theorem mem_ss : ∀ {k : Nat} {S : List Nat}, S ∈ ss k ↔ (S.Pairwise (· < ·) ∧ ∀ x ∈ S, x < k)
  | 0, S => by
    constructor
    · intro h
      rw [List.mem_singleton.mp h]
      exact ⟨List.Pairwise.nil, fun _ h => by cases h⟩
    · rintro ⟨_, h⟩
      cases S with
      | nil => exact List.mem_singleton.mpr rfl
      | cons a r => exact absurd (h a List.mem_cons_self) (Nat.not_lt_zero _)
  | k + 1, S => by
    show S ∈ ss k ++ (ss k).map (fun s => s ++ [k]) ↔ _
    rw [List.mem_append, List.mem_map]
    constructor
    · rintro (h | ⟨T, hT, rfl⟩)
      · obtain ⟨h1, h2⟩ := mem_ss.mp h
        exact ⟨h1, fun x hx => by have := h2 x hx; omega⟩
      · obtain ⟨h1, h2⟩ := mem_ss.mp hT
        refine ⟨List.pairwise_append.mpr ⟨h1, by simp, fun a ha b hb => by rw [List.mem_singleton.mp hb]; exact h2 a ha⟩, fun x hx => ?_⟩
        rcases List.mem_append.mp hx with q | q
        · have := h2 x q; omega
        · rw [List.mem_singleton.mp q]; omega
    · rintro ⟨h1, h2⟩
      by_cases hk : k ∈ S
      · right
        have hne : S ≠ [] := fun e => by rw [e] at hk; cases hk
        have e := List.dropLast_concat_getLast hne
        rw [← e] at h1
        obtain ⟨p1, _, p3⟩ := List.pairwise_append.mp h1
        have hlast : S.getLast hne = k := by
          have hb := h2 _ (List.getLast_mem hne)
          rw [← e] at hk
          rcases List.mem_append.mp hk with q | q
          · have := p3 k q _ (List.mem_singleton.mpr rfl); omega
          · exact (List.mem_singleton.mp q).symm
        refine ⟨S.dropLast, mem_ss.mpr ⟨p1, fun x hx => ?_⟩, by rw [← hlast]; exact e⟩
        have := p3 x hx _ (List.mem_singleton.mpr rfl)
        omega
      · left
        exact mem_ss.mpr ⟨h1, fun x hx => by
          have := h2 x hx
          have : x ≠ k := fun e => hk (e ▸ hx)
          omega⟩
/-! the least by length, then by order -/
def eS (S : List Nat) : D := .tuple [.int (S.length : Nat), nD S]
theorem cast_lt : ∀ (a b : List Nat), (a.map fun (k : Nat) => (k : Int)) < (b.map fun (k : Nat) => (k : Int)) ↔ a < b
  | [], [] => by simp
  | [], _ :: _ => by simp
  | _ :: _, [] => by simp
  | x :: a, y :: b => by
    rw [List.map_cons, List.map_cons, List.cons_lt_cons_iff, List.cons_lt_cons_iff, cast_lt a b]
    constructor
    · rintro (h | ⟨h1, h2⟩)
      · exact .inl (by omega)
      · exact .inr ⟨by omega, h2⟩
    · rintro (h | ⟨h1, h2⟩)
      · exact .inl (by omega)
      · exact .inr ⟨by omega, h2⟩
theorem alike_N (a b : List Nat) : PySem.W.alike (nD a) (nD b) = true := by
  show PySem.W.alike (.list (nL a)) (.list (nL b)) = true
  rw [PySem.W.alike]
  have : ∀ a b : List Nat, PySem.W.alikeAll (nL a) (nL b) = true := fun a => by
    induction a with
    | nil => intro b; simp [nL, PySem.W.alikeAll]
    | cons x a ih =>
      intro b
      cases b with
      | nil => simp [nL, PySem.W.alikeAll]
      | cons y b =>
        show (PySem.W.alike (.int x) (.int y) && PySem.W.alikeAll (nL a) (nL b)) = true
        rw [ih b]; simp [PySem.W.alike]
  exact this a b
theorem dataLt_N (a b : List Nat) : PySem.W.dataLt (nD a) (nD b) = decide (a < b) := by
  have h := PySem.W.dataLt_ints (a.map fun (k : Nat) => (k : Int)) (b.map fun (k : Nat) => (k : Int))
  rw [nat_iD, nat_iD]
  show PySem.W.dataLt (.list (intL _)) (.list (intL _)) = _
  rw [PySem.W.dataLt_list]
  refine Eq.trans h ?_
  exact decide_eq_decide.mpr (cast_lt a b)
def leS (A B : List Nat) : Prop := A.length < B.length ∨ (A.length = B.length ∧ ¬ B < A)
theorem leD_S (A B : List Nat) : leD (eS A) (eS B) = true ↔ leS A B := by
  unfold leD eS leS
  rw [PySem.W.dataLt_pair (by simp [PySem.W.alike]) (alike_N B A), eqv_int, eqv_N, PySem.W.dataLt_int, dataLt_N]
  by_cases h1 : B.length = A.length
  · rw [decide_eq_true (by omega), if_pos rfl]
    by_cases h2 : B = A
    · subst h2
      simp [List.lt_irrefl]
    · rw [decide_eq_false h2, if_neg (by decide), Bool.not_eq_true', decide_eq_false_iff_not]
      exact ⟨fun h => .inr ⟨h1.symm, h⟩, fun h => h.elim (fun z => by omega) (·.2)⟩
  · rw [decide_eq_false (by omega), if_neg (by decide)]
    simp
    omega
theorem leS_anti {A B : List Nat} (h1 : leS A B) (h2 : leS B A) : A = B := by
  unfold leS at h1 h2
  rcases h1 with h1 | ⟨h1, h3⟩
  · rcases h2 with h2 | ⟨h2, _⟩ <;> omega
  · rcases h2 with h2 | ⟨_, h4⟩
    · omega
    · exact List.le_antisymm h3 h4
theorem sort_S {G : List (List Nat)} {M : List Nat} (hM : M ∈ G) (hmin : ∀ S ∈ G, leS M S) (hl : G.length ≤ 1000) : ∃ out, dSorted [.list (G.map eS)] = some (.list (eS M :: out)) := by
  have ok : sortOk (G.map eS) = true := by
    unfold sortOk
    have h0 : ((G.map eS).all fun x => (G.map eS).all fun y => PySem.W.alike x y) = true := by
      refine List.all_eq_true.mpr fun x hx => List.all_eq_true.mpr fun y hy => ?_
      obtain ⟨a, _, rfl⟩ := List.mem_map.mp hx
      obtain ⟨b, _, rfl⟩ := List.mem_map.mp hy
      have := alike_N a b
      simp [eS, PySem.W.alike, PySem.W.alikeAll, this]
    have h1 : (G.map eS).all isTup1 = true := List.all_eq_true.mpr fun x hx => by obtain ⟨a, _, rfl⟩ := List.mem_map.mp hx; rfl
    have h2 : (G.map eS).all shal = true := List.all_eq_true.mpr fun x hx => by
      obtain ⟨a, _, rfl⟩ := List.mem_map.mp hx
      have := of_decide_eq_true (shal_N a)
      have hd : (nD a).depth ≤ 1 := by
        rw [nat_iD]
        show PyData.depthAll (intL _) + 1 ≤ 1
        rw [depth_ints]
        omega
      unfold shal
      refine decide_eq_true ?_
      simp [eS, PyData.depth, PyData.depthAll]
      omega
    rw [h0, h1, h2, List.length_map, decide_eq_true (le_line (by omega))]; simp
  have hs : dSorted [.list (G.map eS)] = some (.list (isort leD (G.map eS))) := by
    show (if sortOk (G.map eS) = true then some (PyData.list (sortD (G.map eS))) else none) = _
    rw [if_pos ok]; rfl
  have hp := isort_sorted leD_total (G.map eS)
  cases hi : isort leD (G.map eS) with
  | nil =>
    have : eS M ∈ isort leD (G.map eS) := isort_mem.mpr (List.mem_map_of_mem hM)
    rw [hi] at this
    cases this
  | cons h out =>
    rw [hi] at hp hs
    obtain ⟨p1, _⟩ := List.pairwise_cons.mp hp
    have hh : h ∈ G.map eS := isort_mem.mp (by rw [hi]; exact List.mem_cons_self)
    obtain ⟨A, hA, rfl⟩ := List.mem_map.mp hh
    have hMi : eS M ∈ isort leD (G.map eS) := isort_mem.mpr (List.mem_map_of_mem hM)
    rw [hi] at hMi
    have e : A = M := by
      rcases List.mem_cons.mp hMi with q | q
      · have h1 := (leD_S M A).mp (by rw [q]; exact (leD_S A A).mpr (.inr ⟨rfl, List.lt_irrefl A⟩))
        have h2 := (leD_S A M).mp (by rw [q]; exact (leD_S A A).mpr (.inr ⟨rfl, List.lt_irrefl A⟩))
        exact leS_anti h2 h1
      · exact leS_anti ((leD_S A M).mp (p1 _ q)) (hmin A hA)
    exact ⟨out, by rw [hs, e]⟩
section
variable {C : List (List Nat)} (hC : Cab C)
include hC
noncomputable def goodI (C : List (List Nat)) : List (List Nat) := (ss C.length).filter fun S => decide ((opI C S).length = C.length)
theorem full_iff {S : List Nat} : (opI C S).length = C.length ↔ ∀ v, v < C.length → Rch C S v := by
  constructor
  · intro h v hv
    have : opI C S = List.range C.length := List.filter_sublist.eq_of_length (by rw [List.length_range]; exact h)
    exact (mem_op.mp (by rw [this]; exact List.mem_range.mpr hv)).2
  · intro h
    have : opI C S = List.range C.length := List.filter_eq_self.mpr fun v hv => opB_iff.mpr (h v (List.mem_range.mp hv))
    rw [this, List.length_range]
theorem MI_sorted : (MI C).Pairwise (· < ·) := List.pairwise_lt_range.filter _
theorem MI_good : MI C ∈ goodI C := by
  refine List.mem_filter.mpr ⟨mem_ss.mpr ⟨MI_sorted hC, fun x hx => ((mem_MI hC).mp hx).1⟩, decide_eq_true ((full_iff hC).mpr fun v hv => ?_)⟩
  obtain ⟨x, hx, hs, hr⟩ := above hC hv
  have hm := (fst_mem hC hx).1
  have hmi : fst_ C x ∈ MI C := (mem_MI hC).mpr ⟨((mem_grp hC).mp hm).1, src_move hC hs hm, fst_eq hC hm⟩
  exact (Rch.base hmi).trans (((mem_grp hC).mp hm).2.2.trans hr)
theorem MI_min : ∀ S ∈ goodI C, leS (MI C) S := fun S hS => by
  obtain ⟨h1, h2⟩ := List.mem_filter.mp hS
  obtain ⟨h3, h4⟩ := mem_ss.mp h1
  have h5 := (full_iff hC).mp (of_decide_eq_true h2)
  exact least_set (f := fst_ C) (MI_sorted hC) h3 (fun s hs => (fst_mem hC (h4 s hs)).2) fun m hm => by
    obtain ⟨m1, m2, m3⟩ := (mem_MI hC).mp hm
    obtain ⟨s, hs, hr⟩ := (h5 m m1).from
    refine ⟨s, hs, ?_⟩
    rw [← m3]
    exact fst_eq hC ((mem_grp hC).mpr ⟨h4 s hs, m2 s (h4 s hs) hr, hr⟩)
end
/-! the law, cut -/
def x1 : FS := (sSet 1 (fScrCall 0 fn__law_draws))
def x2 : FS := (sSet 2 (f2 dAdd (fC (.int 1)) (fCall fn__law_mix (aCons (fVar 1) (aCons (fC (.int 0)) (aCons (fC (.int 8)) aNil))))))
def x3 : FS := (sSet 3 (f2 dIx (fLst (aCons (fC (.int 2)) (aCons (fC (.int 4)) (aCons (fC (.int 9)) aNil)))) (fCall fn__law_mix (aCons (fVar 1) (aCons (fC (.int 1)) (aCons (fC (.int 3)) aNil))))))
def x4 : FS := (sSetF 6 (fLc (iRng1F (aCons (fVar 2) aNil)) (Tgt.nm 4) bYes (fLc (iRng1F (aCons (fVar 2) aNil)) (Tgt.nm 5) (fB (f2 dEq (fCall fn__law_mix (aCons (fVar 1) (aCons (f2 dAdd (f2 dAdd (fC (.int 10)) (f2 dMul (fC (.int 8)) (fVar 4))) (fVar 5)) (aCons (fVar 3) aNil)))) (fC (.int 0)))) (fVar 5) [5]) [4]))
def x5 : FS := (sSet 7 (fCB dRepr (aCons (fVar 6) aNil)))
def x6 : FS := (sSet 8 (fLst (aCons (fLst aNil) aNil)))
def x7 : FS := (sFor (Tgt.nm 5) (iRng1F (aCons (fVar 2) aNil)) (sSet 8 (f2 dAdd (fVar 8) (fLc (iSeq (fVar 8)) (Tgt.nm 9) bYes (f2 dAdd (fVar 9) (fLst (aCons (fVar 5) aNil))) [9]))))
def x8 : FS := (sSet 10 (fCB dSorted (aCons (fLc (iSeq (fVar 8)) (Tgt.nm 9) (fB (f2 dEq (fCB dLen (aCons (fCall fn__law_open (aCons (fVar 6) (aCons (fVar 9) aNil))) aNil)) (fVar 2))) (fTup (aCons (fCB dLen (aCons (fVar 9) aNil)) (aCons (fVar 9) aNil))) [9]) aNil)))
def x9 : FS := (sIf (fRNe (fCall fnq_fewest_broken (aCons (fVar 6) aNil)) (f2 dIx (f2 dIx (fVar 10) (fC (.int 0))) (fC (.int 1)))) (sRet (fC (.bool false))) sNext)
def x10 : FS := (sFor (Tgt.nm 11) (iRng1F (aCons (fC (.int 5)) aNil)) (sSeq (sSet 9 (f2 dIx (fVar 8) (fCall fn__law_mix (aCons (fVar 1) (aCons (f2 dAdd (fC (.int 90)) (fVar 11)) (aCons (fCB dLen (aCons (fVar 8) aNil)) aNil)))))) (sSeq (sIf (fOr (fRNe (fCall fnq_opened (aCons (fVar 6) (aCons (fVar 9) aNil))) (fCall fn__law_open (aCons (fVar 6) (aCons (fVar 9) aNil)))) (fRNe (fCall fnq_is_enough (aCons (fVar 6) (aCons (fVar 9) aNil))) (f2 dEq (fCB dLen (aCons (fCall fn__law_open (aCons (fVar 6) (aCons (fVar 9) aNil))) aNil)) (fVar 2)))) (sRet (fC (.bool false))) sNext) (sSeq (sSet 12 (f1 dSortSet (f2 dAdd (fVar 9) (fLst (aCons (fCall fn__law_mix (aCons (fVar 1) (aCons (f2 dAdd (fC (.int 100)) (fVar 11)) (aCons (fVar 2) aNil)))) aNil))))) (sIf (fB (f2 dGt (fCB dLen (aCons (fLc (iSeq (fCall fnq_opened (aCons (fVar 6) (aCons (fVar 9) aNil)))) (Tgt.nm 5) (fB (f2 dNotIn (fVar 5) (fCall fnq_opened (aCons (fVar 6) (aCons (fVar 12) aNil))))) (fVar 5) [5]) aNil)) (fC (.int 0)))) (sRet (fC (.bool false))) sNext)))))
def x11 : FS := (sSetN 13 (fLst aNil))
def x12 : FS := (sFor (Tgt.nm 5) (iRng1F (aCons (fVar 2) aNil)) (sSeq (sSetF 15 (fLc (iSeq (fCall fn__law_open (aCons (fVar 6) (aCons (fLst (aCons (fVar 5) aNil)) aNil)))) (Tgt.nm 14) (fB (f2 dIn (fVar 5) (fCall fn__law_open (aCons (fVar 6) (aCons (fLst (aCons (fVar 14) aNil)) aNil))))) (fVar 14) [14])) (sSeq (sSetF 17 (fLc (iRng1F (aCons (fVar 2) aNil)) (Tgt.nm 14) (fAnd (fB (f2 dNotIn (fVar 14) (fVar 15))) (fB (f2 dGt (fCB dLen (aCons (fLc (iSeq (fVar 15)) (Tgt.nm 16) (fB (f2 dIn (fVar 16) (f2 dIx (fVar 6) (fVar 14)))) (fVar 16) [16]) aNil)) (fC (.int 0))))) (fVar 14) [14])) (sIf (fAnd (fB (f2 dEq (fVar 17) (fLst aNil))) (fThB (fB (f2 dNotIn (fVar 15) (fVar 13))))) (sApp 13 (fVar 15)) sNext))))
def x13 : FS := (sIf (fOr (fThB (fRNe (fCall fnq_groups (aCons (fVar 6) aNil)) (fVar 13))) (fOr (fThB (fB (f2 dNe (fCB dLen (aCons (fVar 13) aNil)) (f2 dIx (f2 dIx (fVar 10) (fC (.int 0))) (fC (.int 0)))))) (fB (f2 dNe (fCB dRepr (aCons (fVar 6) aNil)) (fVar 7))))) (sRet (fC (.bool false))) sNext)
def x14 : FS := (sSet 5 (fCall fn__law_mix (aCons (fVar 1) (aCons (fC (.int 120)) (aCons (fVar 2) aNil)))))
def x15 : FS := (sFor (Tgt.nm 18) (iRng1F (aCons (fC (.int 4)) aNil)) (sSeq (sIf (fOr (fB (f2 dNe (fCall fn__law_fault (aCons (fVar 18) (aCons (fLst aNil) (aCons (fLst (aCons (fC (.int 9)) aNil)) aNil)))) (fTup (aCons (fC (.str "size")) (aCons (fC (.int 0)) aNil))))) (fB (f2 dNe (fCall fn__law_fault (aCons (fVar 18) (aCons (f2 dMul (fLst (aCons (fLst (aCons (fC (.int 9)) aNil)) aNil)) (fC (.int 13))) (aCons (fLst (aCons (fC (.int 99)) aNil)) aNil)))) (fTup (aCons (fC (.str "size")) (aCons (fC (.int 13)) aNil)))))) (sRet (fC (.bool false))) sNext) (sFor (Tgt.nm 19) (iSeq (fLst (aCons (fLst (aCons (fVar 2) aNil)) (aCons (fLst (aCons (f1 dNeg (fC (.int 1))) aNil)) (aCons (fLst (aCons (fC (.int 0)) (aCons (fC (.int 0)) aNil))) aNil))))) (sSeq (sIf (fB (f2 dNe (fCall fn__law_fault (aCons (fVar 18) (aCons (f2 dAdd (f2 dAdd (fSl (fVar 6) oNone (oSome (fVar 5))) (fLst (aCons (fVar 19) aNil))) (fSl (fVar 6) (oSome (f2 dAdd (fVar 5) (fC (.int 1)))) oNone)) (aCons (fLst (aCons (fC (.int 99)) aNil)) aNil)))) (fTup (aCons (fC (.str "drawer")) (aCons (fVar 5) aNil))))) (sRet (fC (.bool false))) sNext) (sIf (fAnd (fB (f2 dGt (fVar 18) (fC (.int 1)))) (fB (f2 dNe (fCall fn__law_fault (aCons (fVar 18) (aCons (fVar 6) (aCons (fVar 19) aNil)))) (fTup (aCons (fC (.str "drawer")) (aCons (f1 dNeg (fC (.int 1))) aNil)))))) (sRet (fC (.bool false))) sNext)))))
def x16 : FS := (sRet (f2 dEq (fCall fnq_opened (aCons (fVar 6) (aCons (fLst aNil) aNil))) (fLst aNil)))
theorem law_cut : g_law = (sSeq x1 (sSeq x2 (sSeq x3 (sSeq x4 (sSeq x5 (sSeq x6 (sSeq x7 (sSeq x8 (sSeq x9 (sSeq x10 (sSeq x11 (sSeq x12 (sSeq x13 (sSeq x14 (sSeq x15 x16))))))))))))))) := rfl
/-! the numbers drawn: whole numbers of 0 to 65535 -/
def DrOk (l : List Int) : Prop := ∀ x ∈ l, 0 ≤ x ∧ x < 65536
theorem DrOk.snoc {l : List Int} {x : Int} (h : DrOk l) (h0 : 0 ≤ x) (h1 : x < 65536) : DrOk (l ++ [x]) := fun y hy => by
  rcases List.mem_append.mp hy with q | q
  · exact h y q
  · rw [List.mem_singleton.mp q]; exact ⟨h0, h1⟩
def bI : FS := (sIf (fB (f2 dGt (fVar 3) (fC (.int 0)))) (sSeq (sApp 1 (f2 dMod (fCB dInt (aCons (fVar 3) aNil)) (fC (.int 65536))))
  (sSet 3 (f2 dDiv (fVar 3) (fC (.int 65536))))) sNext)
def bS : FS := (sSeq (sSet 5 (f2 dMod (fCB dInt (aCons (f2 dAdd (f2 dMul (fVar 3) (fC (.int 48271))) (f2 dMul (f2 dAdd (fVar 2) (fC (.int 1))) (fC (.int 69621)))) aNil)) (fC (.int 2147483647))))
  (sSeq (sSet 5 (f2 dMod (fCB dInt (aCons (f2 dAdd (f2 dAdd (f2 dMul (fVar 5) (fC (.int 16807))) (f2 dMul (fC (.int 11)) (fVar 2))) (fC (.int 5))) aNil)) (fC (.int 2147483629))))
  (sSeq (sApp 1 (f2 dMod (fCB dInt (aCons (fVar 5) aNil)) (fC (.int 65536))))
  (sApp 1 (f2 dMod (fCB dInt (aCons (f2 dDiv (fVar 5) (fC (.int 65536))) aNil)) (fC (.int 32768)))))))
section
variable {s0 s2 s3 s4 s5 : Sl} {l : List D}
theorem e_var2 {d : D} : fVar 2 [s0, .own l, .sh d, s3, s4, s5] = .ok d := rfl
theorem e_var3 {d : D} : fVar 3 [s0, .own l, s2, .sh d, s4, s5] = .ok d := rfl
theorem e_var5 {d : D} : fVar 5 [s0, .own l, s2, s3, s4, .sh d] = .ok d := rfl
theorem e_set3 {f : FE} {d : D} (h : f [s0, .own l, s2, s3, s4, s5] = .ok d) : sSet 3 f [s0, .own l, s2, s3, s4, s5] = .nx [s0, .own l, s2, .sh d, s4, s5] := by unfold sSet; rw [h]; rfl
theorem e_set5 {f : FE} {d : D} (h : f [s0, .own l, s2, s3, s4, s5] = .ok d) : sSet 5 f [s0, .own l, s2, s3, s4, s5] = .nx [s0, .own l, s2, s3, s4, .sh d] := by unfold sSet; rw [h]; rfl
theorem e_app {f : FE} {d : D} (h : f [s0, .own l, s2, s3, s4, s5] = .ok d) (hl : l.length < LINE) : sApp 1 f [s0, .own l, s2, s3, s4, s5] = .nx [s0, .own (l ++ [d]), s2, s3, s4, s5] := by
  unfold sApp
  show bindO (f _) _ = _
  rw [h]
  show (if l.length < LINE then _ else _) = _
  rw [if_pos hl]; rfl
end
theorem inner_ok (s0 s2 s5 : Sl) (l0 : Nat) (hl0 : l0 ≤ 4000) : ∀ (l : List Int) (R : Int) (s4 : Sl), l.length = l0 → DrOk l → 0 ≤ R → ∃ (m : List Int) (q : Int) (t4 : Sl), loopF (Tgt.nm 4) bI (rng 0 60) [s0, .own (intL l), s2, .sh (.int R), s4, s5] = .nx [s0, .own (intL m), s2, .sh (.int q), t4, s5] ∧ DrOk m ∧ m.length ≤ l0 + 60 := by
  intro l R s4 hl hd hR
  have h := loopF_inv (t := Tgt.nm 4) (body := bI) (ds := rng 0 60) (I := fun j env => ∃ (m : List Int) (q : Int) (t4 : Sl), env = [s0, .own (intL m), s2, .sh (.int q), t4, s5] ∧ DrOk m ∧ m.length ≤ l0 + j ∧ 0 ≤ q) (fun j env d hd hI => by
    obtain ⟨m, q, t4, rfl, hm, hml, hq⟩ := hI
    obtain ⟨hj, rfl⟩ := rng_get hd
    have hL : (LINE : Nat) = 16777216 := rfl
    have hc : fB (f2 dGt (fVar 3) (fC (.int 0))) [s0, .own (intL m), s2, .sh (.int q), .sh (.int (0 + (j : Int))), s5] = .ok (decide (0 < q)) := e_B (e_f2 e_var3 rfl (dGt_int _ _))
    by_cases hq0 : 0 < q
    · have h1 := Int.emod_nonneg q (show (65536 : Int) ≠ 0 by omega)
      have h2 := Int.emod_lt_of_pos q (show (0 : Int) < 65536 by omega)
      refine ⟨_, [s0, .own (intL (m ++ [q % 65536])), s2, .sh (.int (q / 65536)), .sh (.int (0 + (j : Int))), s5], rfl, ?_, m ++ [q % 65536], q / 65536, _, rfl, hm.snoc h1 h2, by rw [List.length_append, List.length_singleton]; omega, Int.ediv_nonneg hq (by omega)⟩
      refine e_if hc ?_
      rw [decide_eq_true hq0, if_pos rfl, ← intL_snoc]
      exact e_seq (e_app (e_f2 (e_cb1 e_var3 (d_int _)) rfl (d_mod (by omega))) (by rw [intL_len, hL]; omega)) (e_set3 (e_f2 e_var3 rfl (d_div ⟨by omega, by omega⟩)))
    · refine ⟨_, [s0, .own (intL m), s2, .sh (.int q), .sh (.int (0 + (j : Int))), s5], rfl, ?_, m, q, _, rfl, hm, by omega, hq⟩
      refine e_if hc ?_
      rw [decide_eq_false hq0, if_neg (by decide)]
      rfl)
  obtain ⟨e', h1, m, q, t4, rfl, hm, hml, _⟩ := h [s0, .own (intL l), s2, .sh (.int R), s4, s5] ⟨l, R, s4, rfl, hd, by omega, hR⟩
  rw [rng_len] at hml
  exact ⟨m, q, t4, h1, hm, hml⟩
theorem small_ok (s0 s4 s5 : Sl) (l : List Int) (R : Int) (i : Nat) (hl : l.length ≤ 4000) (hd : DrOk l) : ∃ (m : List Int) (t5 : Sl), bS [s0, .own (intL l), .sh (.int (0 + (i : Int))), .sh (.int R), s4, s5] = .nx [s0, .own (intL m), .sh (.int (0 + (i : Int))), .sh (.int R), s4, t5] ∧ DrOk m ∧ m.length ≤ l.length + 60 := by
  have hL : (LINE : Nat) = 16777216 := rfl
  have B : ∀ {z : Int}, 0 ≤ z → z < 1000000 → z.natAbs < BIT64 := fun h1 h2 => by unfold BIT64; omega
  obtain ⟨a, ha⟩ : ∃ a : Int, (R * 48271 + (0 + (i : Int) + 1) * 69621) % 2147483647 = a := ⟨_, rfl⟩
  obtain ⟨b, hb⟩ : ∃ b : Int, (a * 16807 + 11 * (0 + (i : Int)) + 5) % 2147483629 = b := ⟨_, rfl⟩
  have hb0 := Int.emod_nonneg (a * 16807 + 11 * (0 + (i : Int)) + 5) (show (2147483629 : Int) ≠ 0 by omega)
  have hb1 := Int.emod_lt_of_pos (a * 16807 + 11 * (0 + (i : Int)) + 5) (show (0 : Int) < 2147483629 by omega)
  rw [hb] at hb0 hb1
  have c0 := Int.emod_nonneg b (show (65536 : Int) ≠ 0 by omega)
  have c1 := Int.emod_lt_of_pos b (show (0 : Int) < 65536 by omega)
  have d0 := Int.emod_nonneg (b / 65536) (show (32768 : Int) ≠ 0 by omega)
  have d1 := Int.emod_lt_of_pos (b / 65536) (show (0 : Int) < 32768 by omega)
  refine ⟨l ++ [b % 65536] ++ [b / 65536 % 32768], .sh (.int b), ?_, (hd.snoc c0 c1).snoc d0 (by omega), by rw [List.length_append, List.length_append, List.length_singleton, List.length_singleton]; omega⟩
  refine e_seq (e_set5 (d := .int a) (e_f2 (e_cb1 (e_f2 (e_f2 e_var3 rfl (d_mulR (B (by omega) (by omega)))) (e_f2 (e_f2 e_var2 rfl (d_add _ _)) rfl (d_mulR (B (by omega) (by omega)))) (d_add _ _)) (d_int _)) rfl ((d_mod (by omega)).trans (by rw [ha])))) ?_
  refine e_seq (e_set5 (d := .int b) (e_f2 (e_cb1 (e_f2 (e_f2 (e_f2 e_var5 rfl (d_mulR (B (by omega) (by omega)))) (e_f2 rfl e_var2 (d_mulL (B (by omega) (by omega)))) (d_add _ _)) rfl (d_add _ _)) (d_int _)) rfl ((d_mod (by omega)).trans (by rw [hb])))) ?_
  rw [← intL_snoc, ← intL_snoc]
  refine e_seq (e_app (e_f2 (e_cb1 e_var5 (d_int _)) rfl (d_mod (by omega))) (by rw [intL_len, hL]; omega)) ?_
  exact e_app (e_f2 (e_cb1 (e_f2 e_var5 rfl (d_div ⟨by omega, by omega⟩)) (d_int _)) rfl (d_mod (by omega))) (by rw [intL_snoc, intL_len, hL, List.length_append, List.length_singleton]; omega)
theorem pow18 : dPow (.int 10) (.int 18) = some (.int 1000000000000000000) := by
  have h : (0 : Int) ≤ 18 ∧ (18 : Int).natAbs ≤ 1000 ∧ (10 : Int).natAbs < 18446744073709551616 := ⟨by omega, by omega, by omega⟩
  show (if (0 : Int) ≤ 18 ∧ (18 : Int).natAbs ≤ 1000 ∧ (10 : Int).natAbs < 18446744073709551616 then some (PyData.int (10 ^ (18 : Int).toNat)) else none) = _
  rw [if_pos h]
  rfl
def bO : FS := (sSeq (sSet 3 (fCB dAbs (aCons (fScrIx 0 (fVar 2)) aNil)))
  (sIf (fB (f2 dGe (fVar 3) (f2 dPow (fC (.int 10)) (fC (.int 18))))) (sFor (Tgt.nm 4) (iRng1F (aCons (fC (.int 60)) aNil)) bI) bS))
theorem draws_eq : g__law_draws = sSeq (sSetN 1 (fLst aNil)) (sSeq (sFor (Tgt.nm 2) (iRng1F (aCons (fCB dMin2 (aCons (fC (.int 63)) (aCons (fScrLen 0) aNil))) aNil)) bO) (sRetO 1)) := rfl
theorem turn_ok (ns : List Int) (i : Nat) (hi : i < ns.length) (l : List Int) (s3 s4 s5 : Sl) (hl : l.length ≤ 3800) (hd : DrOk l) : ∃ (m : List Int) (t3 t4 t5 : Sl), bO [.scr ns, .own (intL l), .sh (.int (0 + (i : Int))), s3, s4, s5] = .nx [.scr ns, .own (intL m), .sh (.int (0 + (i : Int))), t3, t4, t5] ∧ DrOk m ∧ m.length ≤ l.length + 60 := by
  have hat : atI ns (0 + (i : Int)) = some ns[i] := by rw [Int.zero_add]; exact atI_nat (List.getElem?_eq_getElem hi)
  obtain ⟨R, hR, hR0⟩ : ∃ R : Int, (if ns[i] < 0 then -ns[i] else ns[i]) = R ∧ 0 ≤ R := ⟨_, rfl, by split <;> omega⟩
  have h3 : fCB dAbs (aCons (fScrIx 0 (fVar 2)) aNil) [.scr ns, .own (intL l), .sh (.int (0 + (i : Int))), s3, s4, s5] = .ok (.int R) := e_cb1 (a := .int ns[i]) (e_scrIx rfl e_var2 hat) (by show some (PyData.int (if ns[i] < 0 then -ns[i] else ns[i])) = _; rw [hR])
  have hc : fB (f2 dGe (fVar 3) (f2 dPow (fC (.int 10)) (fC (.int 18)))) [.scr ns, .own (intL l), .sh (.int (0 + (i : Int))), .sh (.int R), s4, s5] = .ok (decide ((1000000000000000000 : Int) ≤ R)) := e_B (e_f2 e_var3 (e_f2 rfl rfl pow18) (dGe_int _ _))
  by_cases hbig : (1000000000000000000 : Int) ≤ R
  · obtain ⟨m, q, t4, h1, h2, h3'⟩ := inner_ok (.scr ns) (.sh (.int (0 + (i : Int)))) s5 l.length (by omega) l R s4 rfl hd hR0
    refine ⟨m, .sh (.int q), t4, s5, e_seq (e_set3 h3) (e_if hc ?_), h2, h3'⟩
    rw [decide_eq_true hbig, if_pos rfl]
    exact e_for (e_rng1 (n := 60) rfl (by omega)) h1
  · obtain ⟨m, t5, h1, h2, h3'⟩ := small_ok (.scr ns) s4 s5 l R i (by omega) hd
    refine ⟨m, .sh (.int R), s4, t5, e_seq (e_set3 h3) (e_if hc ?_), h2, h3'⟩
    rw [decide_eq_false hbig, if_neg (by decide)]
    exact h1
theorem draws_ok (ns : List Int) (hn : ns.length ≤ 63) : ∃ l, fn__law_draws ns = .ok (.list (intL l)) ∧ DrOk l ∧ l.length ≤ 3780 := by
  obtain ⟨n, e1, e2, e3⟩ : ∃ n : Nat, (if (ns.length : Int) < 63 then (ns.length : Int) else 63) = (n : Int) ∧ n ≤ 63 ∧ n ≤ ns.length := by
    by_cases h : (ns.length : Int) < 63
    · exact ⟨ns.length, by rw [if_pos h], hn, Nat.le_refl _⟩
    · exact ⟨63, by rw [if_neg h]; rfl, Nat.le_refl _, by omega⟩
  obtain ⟨e', h1, l, s2, s3, s4, s5, rfl, hl, hlen⟩ := loopF_inv (t := Tgt.nm 2) (body := bO) (ds := rng 0 n) (I := fun i env => ∃ (l : List Int) (s2 s3 s4 s5 : Sl), env = [.scr ns, .own (intL l), s2, s3, s4, s5] ∧ DrOk l ∧ l.length ≤ 60 * i) (fun i env d hd hI => by
    obtain ⟨l, s2, s3, s4, s5, rfl, hl, hlen⟩ := hI
    obtain ⟨hi, rfl⟩ := rng_get hd
    obtain ⟨m, t3, t4, t5, g1, g2, g3⟩ := turn_ok ns i (by omega) l s3 s4 s5 (by omega) hl
    exact ⟨_, _, rfl, g1, m, _, t3, t4, t5, rfl, g2, by omega⟩) [.scr ns, .own (intL []), .un, .un, .un, .un] ⟨[], .un, .un, .un, .un, rfl, fun x hx => (nomatch hx), Nat.le_refl _⟩
  rw [rng_len] at hlen
  refine ⟨l, ?_, hl, by omega⟩
  unfold fn__law_draws dfnS
  rw [draws_eq]
  have z : sSeq (sSetN 1 (fLst aNil)) (sSeq (sFor (Tgt.nm 2) (iRng1F (aCons (fCB dMin2 (aCons (fC (.int 63)) (aCons (fScrLen 0) aNil))) aNil)) bO) (sRetO 1)) (envS 6 ns) = .rn (.list (intL l)) := by
    refine e_seq (e' := [.scr ns, .own (intL []), .un, .un, .un, .un]) ?_ (e_seq (e' := [.scr ns, .own (intL l), s2, s3, s4, s5]) ?_ rfl)
    · exact e_setN e_lst0 rfl
    · exact e_for (e_rng1 (e_cb2 rfl rfl (by show some (PyData.int (if (ns.length : Int) < 63 then (ns.length : Int) else 63)) = _; rw [e1])) (by omega)) h1
  rw [z]
  rfl
theorem mix_ok (l : List Int) (hl : DrOk l) (hll : l.length ≤ 3780) (k many : Int) (hk : 0 ≤ k) (hk2 : k ≤ 100000) (hm : 0 < many) : ∃ v : Int, fn__law_mix [.list (intL l), .int k, .int many] = .ok (.int v) ∧ 0 ≤ v ∧ v < many := by
  have key : ∃ v : Int, g__law_mix [.sh (.list (intL l)), .sh (.int k), .sh (.int many), .un] = .rt (.int v) ∧ 0 ≤ v ∧ v < many := by
    have hlen : ∀ s3 : Sl, fCB dLen (aCons (fVar 0) aNil) [.sh (.list (intL l)), .sh (.int k), .sh (.int many), s3] = .ok (.int (l.length : Nat)) := fun s3 => e_cb1 (e_var rfl) (by show some (PyData.int ((intL l).length : Nat)) = _; rw [intL_len])
    have hK : ∀ s3 : Sl, fVar 1 [.sh (.list (intL l)), .sh (.int k), .sh (.int many), s3] = .ok (.int k) := fun s3 => e_var rfl
    have hM : ∀ s3 : Sl, fVar 2 [.sh (.list (intL l)), .sh (.int k), .sh (.int many), s3] = .ok (.int many) := fun s3 => e_var rfl
    have h1 : ∃ c : Int, 0 ≤ c ∧ c < 65536 ∧ (sIf (fB (f2 dGt (fCB dLen (aCons (fVar 0) aNil)) (fC (.int 0)))) (sSet 3 (f2 dIx (fVar 0) (f2 dMod (fCB dInt (aCons (fVar 1) aNil)) (fCB dLen (aCons (fVar 0) aNil))))) sNext) [.sh (.list (intL l)), .sh (.int k), .sh (.int many), .sh (.int 0)] = .nx [.sh (.list (intL l)), .sh (.int k), .sh (.int many), .sh (.int c)] := by
      by_cases h0 : (0 : Int) < (l.length : Nat)
      · have r0 := Int.emod_nonneg k (show ((l.length : Nat) : Int) ≠ 0 by omega)
        have r1 := Int.emod_lt_of_pos k h0
        obtain ⟨n, hn⟩ := Int.eq_ofNat_of_zero_le r0
        have hj : n < l.length := by omega
        have hat : dIx (.list (intL l)) (.int (k % ((l.length : Nat) : Int))) = some (.int l[n]) := by
          rw [hn]
          refine atI_nat ?_
          unfold intL
          rw [List.getElem?_map, List.getElem?_eq_getElem hj]
          rfl
        obtain ⟨c0, c1⟩ := hl _ (List.getElem_mem hj)
        refine ⟨_, c0, c1, e_if (e_B (e_f2 (hlen _) rfl (dGt_int _ _))) ?_⟩
        rw [decide_eq_true h0, if_pos rfl]
        exact e_set (e_f2 (e_var rfl) (e_f2 (e_cb1 (hK _) (d_int _)) (hlen _) (d_mod h0)) hat) rfl
      · refine ⟨0, by omega, by omega, e_if (e_B (e_f2 (hlen _) rfl (dGt_int _ _))) ?_⟩
        rw [decide_eq_false h0, if_neg (by decide)]
        rfl
    obtain ⟨c, c0, c1, h1⟩ := h1
    have hC : fVar 3 [.sh (.list (intL l)), .sh (.int k), .sh (.int many), .sh (.int c)] = .ok (.int c) := e_var rfl
    have hlt := e_B (e_f2 (hK (.sh (.int c))) (hlen (.sh (.int c))) (dLt_int _ _))
    by_cases hb : k < (l.length : Nat)
    · refine ⟨c % many, e_seq (e_set rfl rfl) (e_seq h1 ?_), Int.emod_nonneg _ (by omega), Int.emod_lt_of_pos _ hm⟩
      have z : sIf (fB (f2 dLt (fVar 1) (fCB dLen (aCons (fVar 0) aNil)))) (sRet (f2 dMod (fCB dInt (aCons (fVar 3) aNil)) (fVar 2))) sNext [.sh (.list (intL l)), .sh (.int k), .sh (.int many), .sh (.int c)] = .rt (.int (c % many)) := by
        refine e_if hlt ?_
        rw [decide_eq_true hb, if_pos rfl]
        exact e_ret (e_f2 (e_cb1 hC (d_int _)) (hM _) (d_mod hm))
      unfold sSeq
      rw [z]; rfl
    · refine ⟨(c * 7919 + k * 104729) / 3 % many, e_seq (e_set rfl rfl) (e_seq h1 (e_seq (e' := [.sh (.list (intL l)), .sh (.int k), .sh (.int many), .sh (.int c)]) ?_ ?_)), Int.emod_nonneg _ (by omega), Int.emod_lt_of_pos _ hm⟩
      · refine e_if hlt ?_
        rw [decide_eq_false hb, if_neg (by decide)]
        rfl
      · have B : ∀ {z : Int}, 0 ≤ z → z < 1000000 → z.natAbs < BIT64 := fun h1 h2 => by unfold BIT64; omega
        exact e_ret (e_f2 (e_cb1 (e_f2 (e_cb1 (e_f2 (e_f2 hC rfl (d_mulR (B (by omega) (by omega)))) (e_f2 (hK _) rfl (d_mulR (B (by omega) (by omega)))) (d_add _ _)) (d_int _)) rfl (d_div ⟨by omega, by omega⟩)) (d_int _)) (hM _) (d_mod hm))
  obtain ⟨v, h, r⟩ := key
  exact ⟨v, d_fn rfl rfl h, r⟩
@[reducible] def V (s0 : Sl) (lD : D) (n rare s5 cab kept sets s9 good s11 s12 due s15 s17 s18 s19 : Sl) : List Sl := [s0, .sh lD, n, rare, .un, s5, cab, kept, sets, s9, good, s11, s12, due, .un, s15, .un, s17, s18, s19]
theorem row_lc {l : List Int} (hl : DrOk l) (hll : l.length ≤ 3780) {n : Nat} (hn : n ≤ 8) {w : Int} (hw0 : 0 < w) {t : Int} (ht0 : 0 ≤ t) (ht : t ≤ 100) {s0 : Sl} {R : List Sl} : ∃ T : List Nat, fLc (iRng1F (aCons (fVar 2) aNil)) (Tgt.nm 5) (fB (f2 dEq (fCall fn__law_mix (aCons (fVar 1) (aCons (f2 dAdd (f2 dAdd (fC (.int 10)) (f2 dMul (fC (.int 8)) (fVar 4))) (fVar 5)) (aCons (fVar 3) aNil)))) (fC (.int 0)))) (fVar 5) [5] (s0 :: .sh (iD l) :: .sh (.int (n : Nat)) :: .sh (.int w) :: .sh (.int t) :: .un :: R) = .ok (nD T) ∧ T.Pairwise (· < ·) ∧ ∀ x ∈ T, x < n := by
  obtain ⟨q, hq⟩ : ∃ q : Nat → Bool, q = fun x => okI (fn__law_mix [iD l, .int (10 + 8 * t + (x : Nat)), .int w]) 0 := ⟨_, rfl⟩
  refine ⟨(List.range n).filter q, ?_, List.pairwise_lt_range.filter _, fun x hx => List.mem_range.mp (List.mem_filter.mp hx).1⟩
  refine e_lcG (fun (k : Nat) => PyData.int (k : Nat)) q (fun (k : Nat) => PyData.int (k : Nat)) (List.range n) (e_rng1 (n := n) (e_var rfl) (by omega)) (rngN n) rfl (fun x hx => ?_) (by rw [List.length_range]; omega)
  have hx := List.mem_range.mp hx
  obtain ⟨v, hv, v0, v1⟩ := mix_ok l hl hll (10 + 8 * t + (x : Nat)) w (by omega) (by omega) hw0
  refine ⟨_, rfl, e_B (e_f2 (e_call (e_cons (e_var rfl) (e_cons (e_f2 (e_f2 e_c (e_f2 e_c (e_var rfl) (d_mulL (by unfold BIT64; omega))) (d_add _ _)) (e_var rfl) (d_add _ _)) (e_cons (e_var rfl) e_nil))) hv) e_c ((dEq_int _ _).trans ?_)), fun _ => e_var rfl⟩
  subst hq
  show _ = some (PyData.bool (okI (fn__law_mix [.list (intL l), .int (10 + 8 * t + (x : Nat)), .int w]) 0))
  rw [hv]
  show _ = some (PyData.bool (decide ((0 : Int) = v)))
  rw [decide_eq_decide.mpr (eq_comm (a := v) (b := 0))]
theorem cab_lc {l : List Int} (hl : DrOk l) (hll : l.length ≤ 3780) {n : Nat} (hn : n ≤ 8) {w : Int} (hw0 : 0 < w) {s0 s4 : Sl} {R : List Sl} : ∀ (m : Nat) (j : Int), 0 ≤ j → j + m ≤ 100 → ∃ C : List (List Nat), lcGo (Tgt.nm 4) bYes (one (fLc (iRng1F (aCons (fVar 2) aNil)) (Tgt.nm 5) (fB (f2 dEq (fCall fn__law_mix (aCons (fVar 1) (aCons (f2 dAdd (f2 dAdd (fC (.int 10)) (f2 dMul (fC (.int 8)) (fVar 4))) (fVar 5)) (aCons (fVar 3) aNil)))) (fC (.int 0)))) (fVar 5) [5])) (s0 :: .sh (iD l) :: .sh (.int (n : Nat)) :: .sh (.int w) :: s4 :: .un :: R) (rng j m) = .ok (C.map nD) ∧ C.length = m ∧ ∀ T ∈ C, T.Pairwise (· < ·) ∧ ∀ x ∈ T, x < n
  | 0, _, _, _ => ⟨[], rfl, rfl, fun _ h => (nomatch h)⟩
  | m + 1, j, h0, h1 => by
    obtain ⟨C, i1, i2, i3⟩ := cab_lc hl hll hn hw0 (s0 := s0) (s4 := s4) (R := R) m (j + 1) (by omega) (by omega)
    obtain ⟨T, t1, t2, t3⟩ := row_lc hl hll hn hw0 (t := j) h0 (by omega) (s0 := s0) (R := R)
    refine ⟨T :: C, ?_, by rw [List.length_cons, i2], fun x hx => ?_⟩
    · rw [rng_cons]
      exact e_lcC (e := s0 :: .sh (iD l) :: .sh (.int (n : Nat)) :: .sh (.int w) :: .sh (.int j) :: .un :: R) (ys := [nD T]) (r := C.map nD) rfl rfl (e_one t1) i1
    · rcases List.mem_cons.mp hx with e | e
      · rw [e]; exact ⟨t2, t3⟩
      · exact i3 x e
theorem x234 {l : List Int} (hl : DrOk l) (hll : l.length ≤ 3780) {s0 : Sl} : ∃ C w, Cab C ∧ sSeq x2 (sSeq x3 x4) (V s0 (iD l) .un .un .un .un .un .un .un .un .un .un .un .un .un .un .un) = .nx (V s0 (iD l) (.sh (.int (C.length : Nat))) w .un (.sh (cD C)) .un .un .un .un .un .un .un .un .un .un .un) := by
  obtain ⟨v, hv, v0, v1⟩ := mix_ok l hl hll 0 8 (by omega) (by omega) (by omega)
  obtain ⟨v, rfl⟩ := Int.eq_ofNat_of_zero_le v0
  obtain ⟨u, hu, u0, u1⟩ := mix_ok l hl hll 1 3 (by omega) (by omega) (by omega)
  obtain ⟨w, w0, hw⟩ : ∃ w : Int, 0 < w ∧ dIx (.list [.int 2, .int 4, .int 9]) (.int u) = some (.int w) := by
    have : u = 0 ∨ u = 1 ∨ u = 2 := by omega
    rcases this with e | e | e <;> subst e
    · exact ⟨2, by omega, rfl⟩
    · exact ⟨4, by omega, rfl⟩
    · exact ⟨9, by omega, rfl⟩
  obtain ⟨C, c1, c2, c3⟩ := cab_lc hl hll (n := 1 + v) (by omega) w0 (s0 := s0) (s4 := .un) (R := [.un, .un, .un, .un, .un, .un, .un, .un, .un, .un, .un, .un, .un, .un]) (1 + v) 0 (by omega) (by omega)
  rw [← c2] at c1 c3
  refine ⟨C, .sh (.int w), ⟨by omega, by omega, fun R hR => (c3 R hR).1, fun R hR => (c3 R hR).2⟩, e_seq (e_set (d := .int (C.length : Nat)) (e_f2 e_c (e_call (e_cons (e_var rfl) (e_cons e_c (e_cons e_c e_nil))) hv) ((d_add _ _).trans (by rw [c2]; congr 2 <;> omega))) rfl) (e_seq (e_set (e_f2 (e_lst (e_cons e_c (e_cons e_c (e_cons e_c e_nil))) (le_line (by show 3 ≤ 1000000; omega))) (e_call (e_cons (e_var rfl) (e_cons e_c (e_cons e_c e_nil))) hu) hw) rfl) (e_setF (l := C.map nD) (e_lc (e_rng1 (n := C.length) (e_var rfl) (by omega)) c1 (le_line (by rw [List.length_map]; omega))) rfl))⟩
theorem smallN {o : List Nat} {n : Nat} (h : ∀ x ∈ o, x < 1000000) (hn : o.length ≤ n) : Small 1 (21 * n) (nD o) := Small.list (fun d hd => by
  obtain ⟨x, hx, rfl⟩ := List.mem_map.mp hd
  exact Small.int (by have := h x hx; omega)) (by rw [nL_len]; exact hn)
section
variable {C : List (List Nat)} (hC : Cab C)
include hC
theorem row_small {T : List Nat} (h : T.Pairwise (· < ·)) (hb : ∀ x ∈ T, x < C.length) : T.length ≤ 8 ∧ Small 1 (21 * 8) (nD T) := by
  have h8 := hC.l8
  have hn : T.Nodup := h.imp fun h => Nat.ne_of_lt h
  have := hn.length_le_of_subset (l₂ := List.range C.length) fun z hz => List.mem_range.mpr (hb z hz)
  rw [List.length_range] at this
  exact ⟨by omega, smallN (fun x hx => by have := hb x hx; omega) (by omega)⟩
theorem rows_small {L : List (List Nat)} {n : Nat} (h : ∀ T ∈ L, T.Pairwise (· < ·) ∧ ∀ x ∈ T, x < C.length) (hn : L.length ≤ n) : Small 2 (169 * n) (.list (L.map nD)) := Small.list (fun d hd => by
  obtain ⟨T, hT, rfl⟩ := List.mem_map.mp hd
  exact (row_small hC (h T hT).1 (h T hT).2).2) (by rw [List.length_map]; exact hn)
theorem cab_small : Small 2 (169 * 8) (cD C) := rows_small hC (fun T hT => ⟨hC.s T hT, hC.b T hT⟩) hC.l8
theorem x5_ex : ∃ x : Str, dRepr [cD C] = some (.str x) := ⟨_, if_pos ((cab_small hC).repr (by omega) (by omega))⟩
theorem x67 {lD : D} {s0 rare kept : Sl} : ∃ t5, sSeq x6 x7 (V s0 lD (.sh (.int (C.length : Nat))) rare .un (.sh (cD C)) kept .un .un .un .un .un .un .un .un .un .un) = .nx (V s0 lD (.sh (.int (C.length : Nat))) rare t5 (.sh (cD C)) kept (.sh (.list ((ss C.length).map nD))) .un .un .un .un .un .un .un .un .un) := by
  have h8 := hC.l8
  obtain ⟨e', h1, t5, rfl⟩ := loopF_inv (t := Tgt.nm 5) (body := (sSet 8 (f2 dAdd (fVar 8) (fLc (iSeq (fVar 8)) (Tgt.nm 9) bYes (f2 dAdd (fVar 9) (fLst (aCons (fVar 5) aNil))) [9])))) (ds := rng 0 C.length) (I := fun i e => ∃ t5, e = V s0 lD (.sh (.int (C.length : Nat))) rare t5 (.sh (cD C)) kept (.sh (.list ((ss i).map nD))) .un .un .un .un .un .un .un .un .un) (fun k e d hd ⟨t5, he⟩ => by
    subst he
    obtain ⟨hi, rfl⟩ := rng_get hd
    rw [Int.zero_add]
    have hl := ss_len k
    have hp : 2 ^ k ≤ 2 ^ 7 := Nat.pow_le_pow_right (by decide) (by omega)
    refine ⟨_, _, rfl, e_set (e_f2 (e_var rfl) (e_lcA nD (fun S => nD (S ++ [k])) (ss k) (e_iSeq (e_var rfl) rfl) rfl rfl (fun S hS => ⟨_, rfl, e_f2 (a := nD S) (b := nD [k]) (e_var rfl) (e_lst (e_cons (e_var rfl) e_nil) (le_line (by show 1 ≤ 1000000; omega))) ((d_addLs (by
      have hm := mem_ss.mp hS
      have hn : S.Nodup := hm.1.imp fun h => Nat.ne_of_lt h
      have := hn.length_le_of_subset (l₂ := List.range k) fun z hz => List.mem_range.mpr (hm.2 z hz)
      rw [List.length_range] at this
      rw [nL_len, nL_len]; simp; omega)).trans (by rw [nL_app]; rfl))⟩) (by omega)) (d_addLs (by rw [List.length_map, List.length_map]; omega))) rfl, .sh (.int (k : Nat)), ?_⟩
    show _ = V s0 lD (.sh (.int (C.length : Nat))) rare (.sh (.int (k : Nat))) (.sh (cD C)) kept (.sh (.list ((ss k ++ (ss k).map fun s => s ++ [k]).map nD))) .un .un .un .un .un .un .un .un .un
    rw [List.map_append, List.map_map]
    rfl) (V s0 lD (.sh (.int (C.length : Nat))) rare .un (.sh (cD C)) kept (.sh (.list [nD []])) .un .un .un .un .un .un .un .un .un) ⟨_, rfl⟩
  rw [rng_len] at *
  exact ⟨t5, e_seq (e_set (e_lst (e_cons e_lst0 e_nil) (le_line (by show 1 ≤ 1000000; omega))) rfl) (e_for (e_rng1 (n := C.length) (e_var rfl) (by omega)) h1)⟩
theorem ss_lim : (ss C.length).length ≤ 256 := by
  have h8 := hC.l8
  rw [ss_len]
  exact Nat.le_trans (Nat.pow_le_pow_right (by decide) h8) (by decide)
theorem x89 {lD : D} {s0 rare s5 kept : Sl} : ∃ out, sSeq x8 x9 (V s0 lD (.sh (.int (C.length : Nat))) rare s5 (.sh (cD C)) kept (.sh (.list ((ss C.length).map nD))) .un .un .un .un .un .un .un .un .un) = .nx (V s0 lD (.sh (.int (C.length : Nat))) rare s5 (.sh (cD C)) kept (.sh (.list ((ss C.length).map nD))) .un (.sh (.list (eS (MI C) :: out))) .un .un .un .un .un .un .un) := by
  have hsl := ss_lim hC
  have hgl := List.length_filter_le (fun S => decide ((opI C S).length = C.length)) (ss C.length)
  obtain ⟨out, ho⟩ := sort_S (MI_good hC) (MI_min hC) (by unfold goodI; omega)
  have hlc : fLc (iSeq (fVar 8)) (Tgt.nm 9) (fB (f2 dEq (fCB dLen (aCons (fCall fn__law_open (aCons (fVar 6) (aCons (fVar 9) aNil))) aNil)) (fVar 2))) (fTup (aCons (fCB dLen (aCons (fVar 9) aNil)) (aCons (fVar 9) aNil))) [9] (V s0 lD (.sh (.int (C.length : Nat))) rare s5 (.sh (cD C)) kept (.sh (.list ((ss C.length).map nD))) .un .un .un .un .un .un .un .un .un) = .ok (.list ((goodI C).map eS)) :=
    e_lcG nD (fun S => decide ((opI C S).length = C.length)) eS (ss C.length) (e_iSeq (e_var rfl) rfl) rfl rfl (fun S hS => by
      obtain ⟨h1, h2⟩ := mem_ss.mp hS
      exact ⟨_, rfl, e_B (e_f2 (e_cb1 (e_call (e_cons (e_var rfl) (e_cons (e_var rfl) e_nil)) (lopen_eq hC h2 (h1.imp fun h => Nat.ne_of_lt h))) (dLen_nD _)) (e_var rfl) ((dEq_int _ _).trans (by congr 2; exact decide_eq_decide.mpr (by omega)))), fun _ => e_tup (e_cons (e_cb1 (e_var rfl) (dLen_nD S)) (e_cons (e_var rfl) e_nil)) (le_line (by show 2 ≤ 1000000; omega))⟩) (by omega)
  exact ⟨out, e_seq (e_set (e_cb1 hlc ho) rfl) (e_if (b := false) (e_RNe (row_small hC (MI_sorted hC) (fun x hx => ((mem_MI hC).mp hx).1)).2 (by omega) (by omega) (e_callQ (e_cons (e_var rfl) e_nil) (fewest_eq hC)) (e_f2 (e_f2 (e_var rfl) e_c (d_ixN (i := 0) rfl)) e_c (c := nD (MI C)) rfl)) rfl)⟩
theorem setI_ok {ns : List Int} (hb : ∀ x ∈ ns, 0 ≤ x ∧ x < (C.length : Nat)) : True := trivial
end
section
variable {C : List (List Nat)} (hC : Cab C)
include hC
theorem sortset_N {S : List Nat} {x : Nat} (hS : S.Pairwise (· < ·) ∧ ∀ y ∈ S, y < C.length) (hx : x < C.length) : ∃ M : List Nat, dSortSet (nD (S ++ [x])) = some (nD M) ∧ M.Pairwise (· < ·) ∧ (∀ y ∈ M, y < C.length) ∧ ∀ y ∈ S, y ∈ M := by
  have h8 := hC.l8
  have hl := (row_small hC hS.1 hS.2).1
  obtain ⟨ns, hns⟩ : ∃ ns, ((S ++ [x]).map fun (k : Nat) => (k : Int)) = ns := ⟨_, rfl⟩
  have hnl : ns.length < 64 := by rw [← hns, List.length_map, List.length_append, List.length_singleton]; omega
  have hmem : ∀ z, z ∈ PD.setI ns ↔ ∃ k : Nat, k ∈ S ++ [x] ∧ (k : Int) = z := fun z => by
    rw [setI_mem, ← hns, List.mem_map]
  have hd : dSortSet (nD (S ++ [x])) = some (.list ((PD.setI ns).map PyData.int)) := by
    rw [nat_iD, hns]
    have hi : intsD (intL ns) = some ns := by
      generalize ns = m
      induction m with
      | nil => rfl
      | cons a m ih => show intsD (.int a :: intL m) = _; unfold intsD; rw [ih]; rfl
    show (match intsD (intL ns) with | some ns => if ns.length < 64 then some (PyData.list ((PD.setI ns).map .int)) else none | none => none) = _
    rw [hi]
    show (if ns.length < 64 then _ else none) = _
    rw [if_pos hnl]
  refine ⟨(PD.setI ns).map Int.toNat, ?_, ?_, ?_, ?_⟩
  · rw [hd]
    unfold nD nL
    rw [List.map_map]
    congr 2
    refine List.map_congr_left fun z hz => ?_
    obtain ⟨k, _, rfl⟩ := (hmem z).mp hz
    rfl
  · refine List.pairwise_map.mpr ((setI_lt ns).imp_of_mem fun {a b} ha hb h => ?_)
    obtain ⟨k, _, rfl⟩ := (hmem a).mp ha
    obtain ⟨j, _, rfl⟩ := (hmem b).mp hb
    omega
  · intro y hy
    obtain ⟨z, hz, rfl⟩ := List.mem_map.mp hy
    obtain ⟨k, hk, rfl⟩ := (hmem z).mp hz
    rw [Int.toNat_natCast]
    rcases List.mem_append.mp hk with q | q
    · exact hS.2 k q
    · rw [List.mem_singleton.mp q]; exact hx
  · intro y hy
    exact List.mem_map.mpr ⟨(y : Int), (hmem _).mpr ⟨y, List.mem_append_left _ hy, rfl⟩, by simp⟩
theorem x10_ok {l : List Int} (hl : DrOk l) (hll : l.length ≤ 3780) {s0 rare s5 kept good : Sl} : ∃ t9 t11 t12, x10 (V s0 (iD l) (.sh (.int (C.length : Nat))) rare s5 (.sh (cD C)) kept (.sh (.list ((ss C.length).map nD))) .un good .un .un .un .un .un .un .un) = .nx (V s0 (iD l) (.sh (.int (C.length : Nat))) rare s5 (.sh (cD C)) kept (.sh (.list ((ss C.length).map nD))) t9 good t11 t12 .un .un .un .un .un) := by
  have h8 := hC.l8
  have h1 := hC.l1
  have hsl := ss_lim hC
  have hpos : 0 < (ss C.length).length := by rw [ss_len]; exact Nat.pow_pos (by decide)
  obtain ⟨e', hlp, t9, t11, t12, rfl⟩ := loopF_inv (t := Tgt.nm 11) (body := (sSeq (sSet 9 (f2 dIx (fVar 8) (fCall fn__law_mix (aCons (fVar 1) (aCons (f2 dAdd (fC (.int 90)) (fVar 11)) (aCons (fCB dLen (aCons (fVar 8) aNil)) aNil))))))
  (sSeq (sIf (fOr (fRNe (fCall fnq_opened (aCons (fVar 6) (aCons (fVar 9) aNil))) (fCall fn__law_open (aCons (fVar 6) (aCons (fVar 9) aNil)))) (fRNe (fCall fnq_is_enough (aCons (fVar 6) (aCons (fVar 9) aNil))) (f2 dEq (fCB dLen (aCons (fCall fn__law_open (aCons (fVar 6) (aCons (fVar 9) aNil))) aNil)) (fVar 2)))) (sRet (fC (.bool false))) sNext)
  (sSeq (sSet 12 (f1 dSortSet (f2 dAdd (fVar 9) (fLst (aCons (fCall fn__law_mix (aCons (fVar 1) (aCons (f2 dAdd (fC (.int 100)) (fVar 11)) (aCons (fVar 2) aNil)))) aNil)))))
  (sIf (fB (f2 dGt (fCB dLen (aCons (fLc (iSeq (fCall fnq_opened (aCons (fVar 6) (aCons (fVar 9) aNil)))) (Tgt.nm 5) (fB (f2 dNotIn (fVar 5) (fCall fnq_opened (aCons (fVar 6) (aCons (fVar 12) aNil))))) (fVar 5) [5]) aNil)) (fC (.int 0)))) (sRet (fC (.bool false))) sNext))))) (ds := rng 0 5) (I := fun i e => ∃ t9 t11 t12, e = V s0 (iD l) (.sh (.int (C.length : Nat))) rare s5 (.sh (cD C)) kept (.sh (.list ((ss C.length).map nD))) t9 good t11 t12 .un .un .un .un .un) (fun i e d hd ⟨t9, t11, t12, he⟩ => by
    subst he
    obtain ⟨hi, rfl⟩ := rng_get hd
    rw [Int.zero_add]
    obtain ⟨v, hv, v0, v1⟩ := mix_ok l hl hll (90 + (i : Int)) ((ss C.length).length : Nat) (by omega) (by omega) (by omega)
    obtain ⟨v, rfl⟩ := Int.eq_ofNat_of_zero_le v0
    have hvl : v < (ss C.length).length := by omega
    obtain ⟨S, hS⟩ : ∃ S, (ss C.length)[v]? = some S := ⟨_, List.getElem?_eq_getElem hvl⟩
    have hSm := mem_ss.mp (List.mem_of_getElem? hS)
    obtain ⟨x, hx, x0, x1⟩ := mix_ok l hl hll (100 + (i : Int)) (C.length : Nat) (by omega) (by omega) (by omega)
    obtain ⟨x, rfl⟩ := Int.eq_ofNat_of_zero_le x0
    obtain ⟨M, m1, m2, m3, m4⟩ := sortset_N hC hSm (x := x) (by omega)
    have hSn : S.Nodup := hSm.1.imp fun h => Nat.ne_of_lt h
    have hSl := (row_small hC hSm.1 hSm.2).1
    have hop := opened_eq hC hSm.2 hSm.1
    have hopM := opened_eq hC m3 m2
    have hlo := lopen_eq hC hSm.2 hSn
    have hen := enough_eq hC hSm.2 hSm.1
    have hos := (row_small hC (op_sorted C S) (fun y hy => (mem_op.mp hy).1)).2
    have hol := op_len hC S
    have hlen : dLen [.list ((ss C.length).map nD)] = some (.int ((ss C.length).length : Nat)) := by rw [d_len', List.length_map]
    have hsub : ((opI C S).filter fun y => !decide (y ∈ opI C M)) = [] := List.filter_eq_nil_iff.mpr fun y hy => by
      obtain ⟨y1, y2⟩ := mem_op.mp hy
      have : y ∈ opI C M := mem_op.mpr ⟨y1, y2.mono m4⟩
      simp [this]
    refine ⟨_, V s0 (iD l) (.sh (.int (C.length : Nat))) rare s5 (.sh (cD C)) kept (.sh (.list ((ss C.length).map nD))) (.sh (nD S)) good (.sh (.int (i : Int))) (.sh (nD M)) .un .un .un .un .un, rfl, e_seq (e_set (e_f2 (e_var rfl) (e_call (e_cons (e_var rfl) (e_cons (e_f2 e_c (e_var rfl) (d_add _ _)) (e_cons (e_cb1 (e_var rfl) hlen) e_nil))) hv) (d_ixN (c := nD S) (by rw [List.getElem?_map, hS]; rfl))) rfl) (e_seq (e_if (b := false || false) (e_or (e_RNe hos (by omega) (by omega) (e_callQ (e_cons (e_var rfl) (e_cons (e_var rfl) e_nil)) hop) (e_call (e_cons (e_var rfl) (e_cons (e_var rfl) e_nil)) hlo)) fun _ => e_RNe (d := .bool (decide ((opI C S).length = C.length))) (Small.bool) (by omega) (by omega) (e_callQ (e_cons (e_var rfl) (e_cons (e_var rfl) e_nil)) hen) (e_f2 (e_cb1 (e_call (e_cons (e_var rfl) (e_cons (e_var rfl) e_nil)) hlo) (dLen_nD _)) (e_var rfl) ((dEq_int _ _).trans (by congr 2; exact decide_eq_decide.mpr (by omega))))) rfl) (e_seq (e_set (e_f1 (a := nD (S ++ [x])) (e_f2 (a := nD S) (b := nD [x]) (e_var rfl) (e_lst (e_cons (e_call (e_cons (e_var rfl) (e_cons (e_f2 e_c (e_var rfl) (d_add _ _)) (e_cons (e_var rfl) e_nil))) hx) e_nil) (le_line (by show 1 ≤ 1000000; omega))) ((d_addLs (by rw [nL_len, nL_len]; simp; omega)).trans (by rw [nL_app]; rfl))) m1) rfl) (e_if (b := false) (e_B (e_f2 (e_cb1 (e_lcG (fun (k : Nat) => PyData.int (k : Nat)) (fun y => !decide (y ∈ opI C M)) (fun (k : Nat) => PyData.int (k : Nat)) (opI C S) (e_iSeq (e_callQ (e_cons (e_var rfl) (e_cons (e_var rfl) e_nil)) hop) rfl) rfl rfl (fun y _ => ⟨_, rfl, e_B (e_f2 (e_var rfl) (e_callQ (e_cons (e_var rfl) (e_cons (e_var rfl) e_nil)) hopM) (d_notInN y _)), fun _ => e_var rfl⟩) (by omega)) (by rw [hsub]; rfl)) e_c ((dGt_int _ _).trans (c := some (.bool false)) rfl))) rfl))), _, _, _, rfl⟩) (V s0 (iD l) (.sh (.int (C.length : Nat))) rare s5 (.sh (cD C)) kept (.sh (.list ((ss C.length).map nD))) .un good .un .un .un .un .un .un .un) ⟨_, _, _, rfl⟩
  exact ⟨t9, t11, t12, e_for (e_rng1 (n := 5) e_c (by omega)) hlp⟩
/-! the law's groups -/
noncomputable def outI (C : List (List Nat)) (k : Nat) : List Nat := (List.range C.length).filter fun one => !decide (one ∈ grp C k) && decide (0 < ((grp C k).filter fun two => decide (two ∈ rw_ C one)).length)
theorem out_nil {k : Nat} (hk : k < C.length) : outI C k = [] ↔ grp C k = bef C k := by
  rw [src_iff hC, src_out hC hk]
  constructor
  · intro h x hx hn y hy he
    have : x ∈ outI C k := List.mem_filter.mpr ⟨List.mem_range.mpr hx, by
      rw [Bool.and_eq_true]
      exact ⟨by simp [hn], decide_eq_true (List.length_pos_of_mem (List.mem_filter.mpr ⟨hy, decide_eq_true he⟩))⟩⟩
    rw [h] at this
    cases this
  · intro h
    refine List.filter_eq_nil_iff.mpr fun x hx hb => ?_
    rw [Bool.and_eq_true] at hb
    obtain ⟨h1, h2⟩ := hb
    obtain ⟨two, ht⟩ := List.exists_mem_of_length_pos (of_decide_eq_true h2)
    obtain ⟨t1, t2⟩ := List.mem_filter.mp ht
    exact h x (List.mem_range.mp hx) (by simpa using h1) two t1 (of_decide_eq_true t2)
def bDue : FS := (sSeq (sSetF 15 (fLc (iSeq (fCall fn__law_open (aCons (fVar 6) (aCons (fLst (aCons (fVar 5) aNil)) aNil)))) (Tgt.nm 14) (fB (f2 dIn (fVar 5) (fCall fn__law_open (aCons (fVar 6) (aCons (fLst (aCons (fVar 14) aNil)) aNil))))) (fVar 14) [14]))
  (sSeq (sSetF 17 (fLc (iRng1F (aCons (fVar 2) aNil)) (Tgt.nm 14) (fAnd (fB (f2 dNotIn (fVar 14) (fVar 15))) (fB (f2 dGt (fCB dLen (aCons (fLc (iSeq (fVar 15)) (Tgt.nm 16) (fB (f2 dIn (fVar 16) (f2 dIx (fVar 6) (fVar 14)))) (fVar 16) [16]) aNil)) (fC (.int 0))))) (fVar 14) [14]))
  (sIf (fAnd (fB (f2 dEq (fVar 17) (fLst aNil))) (fThB (fB (f2 dNotIn (fVar 15) (fVar 13))))) (sApp 13 (fVar 15)) sNext)))
theorem x12_ok {lD : D} {s0 rare s5 kept sets s9 good s11 s12 : Sl} : ∃ t5 t15 t17, sSeq x11 x12 (V s0 lD (.sh (.int (C.length : Nat))) rare s5 (.sh (cD C)) kept sets s9 good s11 s12 .un .un .un .un .un) = .nx (V s0 lD (.sh (.int (C.length : Nat))) rare t5 (.sh (cD C)) kept sets s9 good s11 s12 (.own ((GI C C.length).map nD)) t15 t17 .un .un) := by
  have h8 := hC.l8
  obtain ⟨e', h1, t5, t15, t17, rfl⟩ := loopF_inv (t := Tgt.nm 5) (body := bDue) (ds := rng 0 C.length) (I := fun i e => ∃ t5 t15 t17, e = V s0 lD (.sh (.int (C.length : Nat))) rare t5 (.sh (cD C)) kept sets s9 good s11 s12 (.own ((GI C i).map nD)) t15 t17 .un .un) (fun k e d hd ⟨t5, t15, t17, he⟩ => by
    subst he
    obtain ⟨hi, rfl⟩ := rng_get hd
    rw [Int.zero_add]
    have hop := op_len hC [k]
    have hgl := GI_len C k
    have hone : ∀ {j : Nat} {e : List Sl} {i : Nat}, j < C.length → e[6]? = some (.sh (cD C)) → e[i]? = some (.sh (.int (j : Nat))) → fCall fn__law_open (aCons (fVar 6) (aCons (fLst (aCons (fVar i) aNil)) aNil)) e = .ok (nD (opI C [j])) := fun {j e i} hj e6 ei =>
      e_call (e_cons (e_var e6) (e_cons (d := nD [j]) (e_lst (e_cons (e_var ei) e_nil) (le_line (by show 1 ≤ 1000000; omega))) e_nil)) (lopen_eq hC (one_lt hC hj) (by simp))
    have hgrl : (grp C k).length ≤ C.length := by
      have := List.length_filter_le (fun x => opB C [x] k) (opI C [k])
      unfold grp
      omega
    have hg : fLc (iSeq (fCall fn__law_open (aCons (fVar 6) (aCons (fLst (aCons (fVar 5) aNil)) aNil)))) (Tgt.nm 14) (fB (f2 dIn (fVar 5) (fCall fn__law_open (aCons (fVar 6) (aCons (fLst (aCons (fVar 14) aNil)) aNil))))) (fVar 14) [14] (V s0 lD (.sh (.int (C.length : Nat))) rare (.sh (.int (k : Nat))) (.sh (cD C)) kept sets s9 good s11 s12 (.own ((GI C k).map nD)) t15 t17 .un .un) = .ok (.list (nL (grp C k))) := by
      rw [← grp_filter hC hi]
      exact e_lcG (fun (k : Nat) => PyData.int (k : Nat)) (fun one => decide (k ∈ opI C [one])) (fun (k : Nat) => PyData.int (k : Nat)) (opI C [k]) (e_iSeq (hone hi rfl rfl) rfl) rfl rfl (fun one ho => ⟨_, rfl, e_B (e_f2 (e_var rfl) (hone (mem_op.mp ho).1 rfl rfl) (d_inN k _)), fun _ => e_var rfl⟩) (by omega)
    have hout : fLc (iRng1F (aCons (fVar 2) aNil)) (Tgt.nm 14) (fAnd (fB (f2 dNotIn (fVar 14) (fVar 15))) (fB (f2 dGt (fCB dLen (aCons (fLc (iSeq (fVar 15)) (Tgt.nm 16) (fB (f2 dIn (fVar 16) (f2 dIx (fVar 6) (fVar 14)))) (fVar 16) [16]) aNil)) (fC (.int 0))))) (fVar 14) [14] (V s0 lD (.sh (.int (C.length : Nat))) rare (.sh (.int (k : Nat))) (.sh (cD C)) kept sets s9 good s11 s12 (.own ((GI C k).map nD)) (.sh (nD (grp C k))) t17 .un .un) = .ok (.list (nL (outI C k))) :=
      e_lcG (fun (k : Nat) => PyData.int (k : Nat)) (fun one => !decide (one ∈ grp C k) && decide (0 < ((grp C k).filter fun two => decide (two ∈ rw_ C one)).length)) (fun (k : Nat) => PyData.int (k : Nat)) (List.range C.length) (e_rng1 (n := C.length) (e_var rfl) (by omega)) (rngN _) rfl (fun one ho => by
        have ho := List.mem_range.mp ho
        refine ⟨_, rfl, e_and (e_B (e_f2 (b := nD (grp C k)) (e_var rfl) (e_var rfl) (d_notInN one _))) (fun _ => e_B (e_f2 (e_cb1 (e_lcG (fun (k : Nat) => PyData.int (k : Nat)) (fun two => decide (two ∈ rw_ C one)) (fun (k : Nat) => PyData.int (k : Nat)) (grp C k) (e_iSeq (d := nD (grp C k)) (e_var rfl) rfl) rfl rfl (fun two _ => ⟨_, rfl, e_B (e_f2 (e_var rfl) (e_f2 (e_var rfl) (e_var rfl) (c_at ho)) (d_inN two _)), fun _ => e_var rfl⟩) (by omega)) (dLen_nD _)) e_c ((dGt_int _ _).trans (by congr 2; exact decide_eq_decide.mpr (by omega))))), fun _ => e_var rfl⟩) (by rw [List.length_range]; omega)
    have hc : fAnd (fB (f2 dEq (fVar 17) (fLst aNil))) (fThB (fB (f2 dNotIn (fVar 15) (fVar 13)))) (V s0 lD (.sh (.int (C.length : Nat))) rare (.sh (.int (k : Nat))) (.sh (cD C)) kept sets s9 good s11 s12 (.own ((GI C k).map nD)) (.sh (nD (grp C k))) (.sh (nD (outI C k))) .un .un) = .ok ((outI C k).isEmpty && !decide (grp C k ∈ GI C k)) :=
      e_and (e_B (e_f2 (a := .list (nL (outI C k))) (e_var rfl) e_lst0 ((d_eqNil _).trans (by unfold nL; rw [List.isEmpty_map])))) fun _ => e_thM (e_B (e_f2 (a := nD (grp C k)) (b := .list ((GI C k).map nD)) (e_var rfl) (e_var rfl) (d_notInR _ _)))
    have hif : sIf (fAnd (fB (f2 dEq (fVar 17) (fLst aNil))) (fThB (fB (f2 dNotIn (fVar 15) (fVar 13))))) (sApp 13 (fVar 15)) sNext (V s0 lD (.sh (.int (C.length : Nat))) rare (.sh (.int (k : Nat))) (.sh (cD C)) kept sets s9 good s11 s12 (.own ((GI C k).map nD)) (.sh (nD (grp C k))) (.sh (nD (outI C k))) .un .un) = .nx (V s0 lD (.sh (.int (C.length : Nat))) rare (.sh (.int (k : Nat))) (.sh (cD C)) kept sets s9 good s11 s12 (.own ((GI C (k + 1)).map nD)) (.sh (nD (grp C k))) (.sh (nD (outI C k))) .un .un) := by
      refine e_if hc ?_
      have hiff := out_nil hC hi
      rw [GI_succ]
      by_cases hcc : grp C k = bef C k ∧ grp C k ∉ GI C k
      · have he := hiff.mpr hcc.1
        rw [if_pos hcc, he, decide_eq_false hcc.2, if_pos (show (([] : List Nat).isEmpty && !false) = true from rfl), List.map_append]
        exact e_appI rfl (e_var rfl) (lt_line (by rw [List.length_map]; omega)) rfl
      · rw [if_neg hcc]
        have : ((outI C k).isEmpty && !decide (grp C k ∈ GI C k)) = false := by
          by_cases h1 : grp C k = bef C k
          · have : grp C k ∈ GI C k := Classical.byContradiction fun h => hcc ⟨h1, h⟩
            simp [this]
          · have : outI C k ≠ [] := fun h => h1 (hiff.mp h)
            cases ho : outI C k with
            | nil => exact absurd ho this
            | cons a r => rfl
        rw [this]
        rfl
    exact ⟨_, _, rfl, e_seq (e_setF hg rfl) (e_seq (e_setF hout rfl) hif), _, _, _, rfl⟩) (V s0 lD (.sh (.int (C.length : Nat))) rare s5 (.sh (cD C)) kept sets s9 good s11 s12 (.own []) .un .un .un .un) ⟨_, _, _, rfl⟩
  rw [rng_len] at h1
  exact ⟨t5, t15, t17, e_seq (e_setN e_lst0 rfl) (e_for (e_rng1 (n := C.length) (e_var rfl) (by omega)) h1)⟩
theorem x13_ok {lD : D} {x : Str} (hx : dRepr [cD C] = some (.str x)) {out : List D} {s0 rare s5 sets s9 s11 s12 s15 s17 s18 s19 : Sl} : x13 (V s0 lD (.sh (.int (C.length : Nat))) rare s5 (.sh (cD C)) (.sh (.str x)) sets s9 (.sh (.list (eS (MI C) :: out))) s11 s12 (.own ((GI C C.length).map nD)) s15 s17 s18 s19) = .nx (V s0 lD (.sh (.int (C.length : Nat))) rare s5 (.sh (cD C)) (.sh (.str x)) sets s9 (.sh (.list (eS (MI C) :: out))) s11 s12 (.own ((GI C C.length).map nD)) s15 s17 s18 s19) := by
  have hgl := GI_len C C.length
  have h8 := hC.l8
  have hgs := rows_small hC (L := GI C C.length) (n := 8) (fun T hT => by
    obtain ⟨j, hj, _, rfl⟩ := mem_GI.mp hT
    exact ⟨grp_sorted hC j, fun y hy => ((mem_grp hC).mp hy).1⟩) (by omega)
  have hlen : (GI C C.length).length = (MI C).length := by
    have := (heads_perm hC).length_eq
    rwa [List.length_map] at this
  refine e_if (b := false || (false || false)) (e_or (e_thM (e_RNe hgs (by omega) (by omega) (e_callQ (e_cons (e_var rfl) e_nil) (groups_eq hC)) (e_var rfl))) fun _ => e_or (e_thM (e_B (e_f2 (e_cb1 (a := .list ((GI C C.length).map nD)) (e_var rfl) (by rw [d_len', List.length_map, hlen])) (e_f2 (e_f2 (e_var rfl) e_c (d_ixN (i := 0) rfl)) e_c (c := .int ((MI C).length : Nat)) rfl) ((dNe_int _ _).trans (by simp))))) fun _ => e_B (e_f2 (e_cb1 (e_var rfl) hx) (e_var rfl) ((dNe_str _ _).trans (by simp)))) rfl
end
/-! faults -/
theorem e_selE {fns : List (List D → Rs D)} {f : FE} {fa : FA} {e : List Sl} {i : Int} {Fn : List D → Rs D} {ds : List D} {r : Rs D} (h : f e = .ok (.int i)) (h1 : atI fns i = some Fn) (h2 : fa e = .ok ds) (h3 : Fn ds = r) : fSel fns f fa e = r := by
  unfold fSel
  rw [h, Rs.bind_ok]
  dsimp only
  rw [h1]
  dsimp only
  rw [h2]
  exact h3
theorem ne_fault (c : Str) (i : Int) : dNe (.tuple [.str c, .int i]) (.tuple [.str c, .int i]) = some (.bool false) := by
  unfold dNe
  have hs : shal (.tuple [.str c, .int i]) = true := by simp [shal, PyData.depth, PyData.depthAll]
  rw [hs, Bool.true_or, if_pos rfl, eqv_self _ (by simp [PyData.plain, PyData.plainAll])]
  rfl
theorem fault_of {way : Nat} (hw : way < 4) {c b : D} {x t : Str} {n : Int} (h0 : way = 0 → fn_groups [c] = .er x n) (h1 : way = 1 → fn_fewest_broken [c] = .er x n) (h2 : way = 2 → fn_opened [c, b] = .er x n) (h3 : way = 3 → fn_is_enough [c, b] = .er x n) (hx : x ∈ (["WrongSize", "BadDrawer"] : List Str)) (ht : takeC x [⟨"WrongSize", "size"⟩, ⟨"BadDrawer", "drawer"⟩] = some t) : fn__law_fault [.int (way : Nat), c, b] = .ok (.tuple [.str t, .int n]) := by
  refine d_fn (e := [.sh (.int (way : Nat)), .sh c, .sh b, .un]) rfl rfl (e_seqR (e_tryX (c := x) (n := n) (t := t) ?_ hx ht))
  have : way = 0 ∨ way = 1 ∨ way = 2 ∨ way = 3 := by omega
  rcases this with e | e | e | e <;> subst e
  · exact e_if (b := true) (e_B (e_f2 (e_var rfl) e_c ((dLt_int _ _).trans rfl))) (by rw [if_pos rfl]; exact e_dropE (e_selE (e_var rfl) rfl (e_cons (e_var rfl) e_nil) (h0 rfl)))
  · exact e_if (b := true) (e_B (e_f2 (e_var rfl) e_c ((dLt_int _ _).trans rfl))) (by rw [if_pos rfl]; exact e_dropE (e_selE (e_var rfl) rfl (e_cons (e_var rfl) e_nil) (h1 rfl)))
  · exact e_if (b := false) (e_B (e_f2 (e_var rfl) e_c ((dLt_int _ _).trans rfl))) (by rw [if_neg (by decide)]; exact e_dropE (e_selE (e_f2 (e_var rfl) e_c (d_sub _ _)) rfl (e_cons (e_var rfl) (e_cons (e_var rfl) e_nil)) (h2 rfl)))
  · exact e_if (b := false) (e_B (e_f2 (e_var rfl) e_c ((dLt_int _ _).trans rfl))) (by rw [if_neg (by decide)]; exact e_dropE (e_selE (e_f2 (e_var rfl) e_c (d_sub _ _)) rfl (e_cons (e_var rfl) (e_cons (e_var rfl) e_nil)) (h3 rfl)))
theorem opened_er {c b : D} {x : Str} {n : Int} (h : fn_check_broken [c, b] = .er x n) : fn_opened [c, b] = .er x n := by
  refine d_fnEN (e := [.sh c, .sh b]) (ds := [c, b]) rfl rfl ?_
  have z : g_opened [.sh c, .sh b] = .er x n := e_seqE (e_dropE (e_callE (e_cons (e_var rfl) (e_cons (e_var rfl) e_nil)) h))
  rw [z]; rfl
theorem enough_er {c b : D} {x : Str} {n : Int} (h : fn_check_broken [c, b] = .er x n) : fn_is_enough [c, b] = .er x n := by
  have ho := opened_er h
  refine d_fnE (e := [.sh c, .sh b]) (ds := [c, b]) rfl rfl ?_
  have hc : fCall fn_opened (aCons (fVar 0) (aCons (fVar 1) aNil)) [.sh c, .sh b] = .er x n := e_callE (e_cons (e_var rfl) (e_cons (e_var rfl) e_nil)) ho
  have z : g_is_enough [.sh c, .sh b] = .er x n := by
    have hc2 : aCons (fCall fn_opened (aCons (fVar 0) (aCons (fVar 1) aNil))) aNil [.sh c, .sh b] = .er x n := by
      show (fCall fn_opened (aCons (fVar 0) (aCons (fVar 1) aNil)) [.sh c, .sh b]).bind _ = _
      rw [hc]; rfl
    have hc3 : fCB dLen (aCons (fCall fn_opened (aCons (fVar 0) (aCons (fVar 1) aNil))) aNil) [.sh c, .sh b] = .er x n := by
      show (aCons (fCall fn_opened (aCons (fVar 0) (aCons (fVar 1) aNil))) aNil [.sh c, .sh b]).bind _ = _
      rw [hc2]; rfl
    refine e_retE ?_
    show (fCB dLen (aCons (fCall fn_opened (aCons (fVar 0) (aCons (fVar 1) aNil))) aNil) [.sh c, .sh b]).bind _ = _
    rw [hc3]; rfl
  rw [z]; rfl
theorem fault_cab {way : Nat} (hw : way < 4) {c b : D} {x t : Str} {n : Int} (h : fn_check_cabinet [c] = .er x n) (hx : x ∈ (["WrongSize", "BadDrawer"] : List Str)) (ht : takeC x [⟨"WrongSize", "size"⟩, ⟨"BadDrawer", "drawer"⟩] = some t) : fn__law_fault [.int (way : Nat), c, b] = .ok (.tuple [.str t, .int n]) := by
  have hb : fn_check_broken [c, b] = .er x n := by
    refine d_fnE (e := [.sh c, .sh b]) (ds := [c, b]) rfl rfl ?_
    have z : g_check_broken [.sh c, .sh b] = .er x n := e_seqE (e_dropE (e_callE (e_cons (e_var rfl) e_nil) h))
    rw [z]; rfl
  refine fault_of hw (fun _ => ?_) (fun _ => ?_) (fun _ => opened_er hb) (fun _ => enough_er hb) hx ht
  · refine d_fnEN (e := [.sh c]) (ds := [c]) rfl rfl ?_
    have z : g_groups [.sh c] = .er x n := e_seqE (e_dropE (e_callE (e_cons (e_var rfl) e_nil) h))
    rw [z]; rfl
  · refine d_fnEN (e := [.sh c, .un]) (ds := [c]) rfl rfl ?_
    have z : g_fewest_broken [.sh c, .un] = .er x n := e_seqE (e_dropE (e_callE (e_cons (e_var rfl) e_nil) h))
    rw [z]; rfl
theorem size_ev : ((List.range 4).all fun way => okD (fn__law_fault [.int (way : Nat), .list [], .list [.int 9]]) (.tuple [.str "size", .int 0]) && okD (fn__law_fault [.int (way : Nat), .list (List.replicate 13 (.list [.int 9])), .list [.int 99]]) (.tuple [.str "size", .int 13])) = true := by decide +kernel
theorem mul13 : dMul (.list [.list [.int 9]]) (.int 13) = some (.list (List.replicate 13 (.list [.int 9]))) := okO_eq (by decide +kernel)
theorem cut_take {α : Type} (l : List α) (z : Nat) : PD.cutD l none (some (z : Int)) = l.take z := by
  unfold PD.cutD
  rw [HT.sIx_none, HT.sIx_nat, List.drop_zero]
  by_cases h : z ≤ l.length
  · rw [Nat.min_eq_left h]; simp
  · rw [Nat.min_eq_right (by omega), List.take_of_length_le (by omega), List.take_of_length_le (by omega)]
theorem cut_drop {α : Type} (l : List α) (z : Nat) : PD.cutD l (some (z : Int)) none = l.drop z := by
  unfold PD.cutD
  rw [HT.sIx_none, HT.sIx_nat]
  by_cases h : z ≤ l.length
  · rw [Nat.min_eq_left h]
    exact List.take_of_length_le (by rw [List.length_drop]; omega)
  · rw [Nat.min_eq_right (by omega), List.drop_of_length_le (Nat.le_refl _), List.drop_of_length_le (by omega)]
    simp
def bBad : FS := (sSeq (sIf (fB (f2 dNe (fCall fn__law_fault (aCons (fVar 18) (aCons (f2 dAdd (f2 dAdd (fSl (fVar 6) oNone (oSome (fVar 5))) (fLst (aCons (fVar 19) aNil))) (fSl (fVar 6) (oSome (f2 dAdd (fVar 5) (fC (.int 1)))) oNone)) (aCons (fLst (aCons (fC (.int 99)) aNil)) aNil)))) (fTup (aCons (fC (.str "drawer")) (aCons (fVar 5) aNil))))) (sRet (fC (.bool false))) sNext)
  (sIf (fAnd (fB (f2 dGt (fVar 18) (fC (.int 1)))) (fB (f2 dNe (fCall fn__law_fault (aCons (fVar 18) (aCons (fVar 6) (aCons (fVar 19) aNil)))) (fTup (aCons (fC (.str "drawer")) (aCons (f1 dNeg (fC (.int 1))) aNil)))))) (sRet (fC (.bool false))) sNext))
section
variable {C : List (List Nat)} (hC : Cab C)
include hC
theorem bad_ok {k : Nat} (hk : k < C.length) {way : Nat} (hw : way < 4) {T : List Int} (hT : setI C.length T = false) (hTl : T.length ≤ 8) {e : List Sl} (e5 : e[5]? = some (.sh (.int (k : Nat)))) (e6 : e[6]? = some (.sh (cD C))) (e18 : e[18]? = some (.sh (.int (way : Nat)))) (e19 : e[19]? = some (.sh (iD T))) : bBad e = .nx e := by
  have h8 := hC.l8
  obtain ⟨c1, c2, c3⟩ := ci_ok hC
  obtain ⟨w, hw2⟩ : ∃ w, (ci C).take k ++ T :: (ci C).drop (k + 1) = w := ⟨_, rfl⟩
  have hwl : w.length = C.length := by
    rw [← hw2, List.length_append, List.length_cons, List.length_take, List.length_drop]; omega
  have hwm : ∀ S ∈ w, S.length ≤ 1000 := fun S hS => by
    rw [← hw2] at hS
    rcases List.mem_append.mp hS with q | q
    · have := c2 S (List.mem_of_mem_take q); omega
    · rcases List.mem_cons.mp q with q | q
      · rw [q]; omega
      · have := c2 S (List.mem_of_mem_drop q); omega
  have hfb : fbC w.length 0 w = some k := by
    rw [hwl, ← hw2, fbC_some hT _ 0 (fun S hS => c1 S (List.mem_of_mem_take hS)), List.length_take]
    congr 1
    omega
  have hce := check_cab_eq (w := w) hwm (by rw [hwl]; exact hC.l1) (by rw [hwl]; omega)
  rw [hfb] at hce
  have hf1 := fault_cab hw (c := riD w) (b := .list [.int 99]) (t := "drawer") hce (by decide) (by decide)
  have hcr : cD C = .list ((ci C).map iD) := cD_ri C
  have hcl : (ci C).length = C.length := c3
  have hlist : f2 dAdd (f2 dAdd (fSl (fVar 6) oNone (oSome (fVar 5))) (fLst (aCons (fVar 19) aNil))) (fSl (fVar 6) (oSome (f2 dAdd (fVar 5) (fC (.int 1)))) oNone) e = .ok (riD w) := by
    refine e_f2 (a := .list (((ci C).take k ++ [T]).map iD)) (b := .list (((ci C).drop (k + 1)).map iD)) (e_f2 (a := .list (((ci C).take k).map iD)) (b := .list [iD T]) (e_sl (e_var e6) e_oN (e_oS (e_var e5)) ?_) (e_lst (e_cons (e_var e19) e_nil) (le_line (by show 1 ≤ 1000000; omega))) ((d_addLs ?_).trans ?_)) (e_sl (e_var e6) (e_oS (e_f2 (e_var e5) e_c ((d_add _ _).trans rfl))) e_oN (lo := some ((k + 1 : Nat) : Int)) ?_) ((d_addLs ?_).trans ?_)
    · rw [hcr]
      show some (PyData.list (PD.cutD ((ci C).map iD) none (some (k : Int)))) = _
      rw [cut_take, List.map_take]
    · rw [List.length_map, List.length_take]; simp; omega
    · rw [List.map_append]; rfl
    · rw [hcr]
      show some (PyData.list (PD.cutD ((ci C).map iD) (some ((k + 1 : Nat) : Int)) none)) = _
      rw [cut_drop, List.map_drop]
    · rw [List.length_map, List.length_map, List.length_append, List.length_take, List.length_drop]; simp; omega
    · rw [← List.map_append, List.append_assoc]
      show some (PyData.list (((ci C).take k ++ T :: (ci C).drop (k + 1)).map iD)) = _
      rw [hw2]; rfl
  refine e_seq (e_if (b := false) (e_B (e_f2 (e_call (e_cons (e_var e18) (e_cons hlist (e_cons (e_lst (e_cons e_c e_nil) (le_line (by show 1 ≤ 1000000; omega))) e_nil))) hf1) (e_tup (e_cons e_c (e_cons (e_var e5) e_nil)) (le_line (by show 2 ≤ 1000000; omega))) (ne_fault _ _))) rfl) ?_
  by_cases h2 : 1 < way
  · have hbe := check_broken_eq hC (T := T) (by omega)
    rw [if_neg (by rw [hT]; decide)] at hbe
    have hf2 := fault_of hw (c := cD C) (b := iD T) (x := "BadDrawer") (t := "drawer") (n := -1) (fun z => by omega) (fun z => by omega) (fun _ => opened_er hbe) (fun _ => enough_er hbe) (by decide) (by decide)
    exact e_if (b := true && false) (e_and (e_B (e_f2 (e_var e18) e_c ((dGt_int _ _).trans (by rw [decide_eq_true (by omega)])))) fun _ => e_B (e_f2 (e_call (e_cons (e_var e18) (e_cons (e_var e6) (e_cons (e_var e19) e_nil))) hf2) (e_tup (e_cons e_c (e_cons (e_f1 e_c (d_neg 1)) e_nil)) (le_line (by show 2 ≤ 1000000; omega))) (ne_fault _ _))) rfl
  · exact e_if (b := false && false) (e_and (e_B (e_f2 (e_var e18) e_c ((dGt_int _ _).trans (by rw [decide_eq_false (by omega)])))) fun z => by cases z) rfl
theorem x15_ok {lD : D} {k : Nat} (hk : k < C.length) {s0 rare kept sets s9 good s11 s12 due s15 s17 s18 s19 : Sl} : ∃ t18 t19, x15 (V s0 lD (.sh (.int (C.length : Nat))) rare (.sh (.int (k : Nat))) (.sh (cD C)) kept sets s9 good s11 s12 due s15 s17 s18 s19) = .nx (V s0 lD (.sh (.int (C.length : Nat))) rare (.sh (.int (k : Nat))) (.sh (cD C)) kept sets s9 good s11 s12 due s15 s17 t18 t19) := by
  have h8 := hC.l8
  obtain ⟨e', hl, t18, t19, rfl⟩ := loopF_inv (t := Tgt.nm 18) (body := (sSeq (sIf (fOr (fB (f2 dNe (fCall fn__law_fault (aCons (fVar 18) (aCons (fLst aNil) (aCons (fLst (aCons (fC (.int 9)) aNil)) aNil)))) (fTup (aCons (fC (.str "size")) (aCons (fC (.int 0)) aNil))))) (fB (f2 dNe (fCall fn__law_fault (aCons (fVar 18) (aCons (f2 dMul (fLst (aCons (fLst (aCons (fC (.int 9)) aNil)) aNil)) (fC (.int 13))) (aCons (fLst (aCons (fC (.int 99)) aNil)) aNil)))) (fTup (aCons (fC (.str "size")) (aCons (fC (.int 13)) aNil)))))) (sRet (fC (.bool false))) sNext)
  (sFor (Tgt.nm 19) (iSeq (fLst (aCons (fLst (aCons (fVar 2) aNil)) (aCons (fLst (aCons (f1 dNeg (fC (.int 1))) aNil)) (aCons (fLst (aCons (fC (.int 0)) (aCons (fC (.int 0)) aNil))) aNil))))) bBad))) (ds := rng 0 4) (I := fun i e => ∃ t18 t19, e = V s0 lD (.sh (.int (C.length : Nat))) rare (.sh (.int (k : Nat))) (.sh (cD C)) kept sets s9 good s11 s12 due s15 s17 t18 t19) (fun way e d hd ⟨t18, t19, he⟩ => by
    subst he
    obtain ⟨hi, rfl⟩ := rng_get hd
    rw [Int.zero_add]
    have hev := List.all_eq_true.mp size_ev way (List.mem_range.mpr hi)
    rw [Bool.and_eq_true] at hev
    have hev1 := okD_eq hev.1
    have hev2 := okD_eq hev.2
    obtain ⟨e2, hb, u19, rfl⟩ := loopF_inv (t := Tgt.nm 19) (body := bBad) (ds := [iD [(C.length : Int)], iD [-1], iD [0, 0]]) (I := fun i e => ∃ u19, e = V s0 lD (.sh (.int (C.length : Nat))) rare (.sh (.int (k : Nat))) (.sh (cD C)) kept sets s9 good s11 s12 due s15 s17 (.sh (.int (way : Nat))) u19) (fun i e d hd ⟨u19, he⟩ => by
      subst he
      obtain ⟨T, rfl, hT, hTl⟩ : ∃ T : List Int, d = iD T ∧ setI C.length T = false ∧ T.length ≤ 8 := by
        have := List.mem_of_getElem? hd
        simp only [List.mem_cons, List.not_mem_nil, or_false] at this
        rcases this with e | e | e
        · exact ⟨_, e, by unfold setI; simp, by simp⟩
        · exact ⟨_, e, by unfold setI; simp, by simp⟩
        · exact ⟨_, e, by unfold setI; simp, by simp⟩
      exact ⟨V s0 lD (.sh (.int (C.length : Nat))) rare (.sh (.int (k : Nat))) (.sh (cD C)) kept sets s9 good s11 s12 due s15 s17 (.sh (.int (way : Nat))) (.sh (iD T)), _, rfl, bad_ok hC hk hi hT hTl rfl rfl rfl rfl, _, rfl⟩) (V s0 lD (.sh (.int (C.length : Nat))) rare (.sh (.int (k : Nat))) (.sh (cD C)) kept sets s9 good s11 s12 due s15 s17 (.sh (.int (way : Nat))) t19) ⟨_, rfl⟩
    exact ⟨_, V s0 lD (.sh (.int (C.length : Nat))) rare (.sh (.int (k : Nat))) (.sh (cD C)) kept sets s9 good s11 s12 due s15 s17 (.sh (.int (way : Nat))) u19, rfl, e_seq (e_if (b := false || false) (e_or (e_B (e_f2 (e_call (e_cons (e_var rfl) (e_cons e_lst0 (e_cons (e_lst (e_cons e_c e_nil) (le_line (by show 1 ≤ 1000000; omega))) e_nil))) hev1) (e_tup (e_cons e_c (e_cons e_c e_nil)) (le_line (by show 2 ≤ 1000000; omega))) (ne_fault _ _))) fun _ => e_B (e_f2 (e_call (e_cons (e_var rfl) (e_cons (e_f2 (e_lst (e_cons (e_lst (e_cons e_c e_nil) (le_line (by show 1 ≤ 1000000; omega))) e_nil) (le_line (by show 1 ≤ 1000000; omega))) e_c mul13) (e_cons (e_lst (e_cons e_c e_nil) (le_line (by show 1 ≤ 1000000; omega))) e_nil))) hev2) (e_tup (e_cons e_c (e_cons e_c e_nil)) (le_line (by show 2 ≤ 1000000; omega))) (ne_fault _ _))) rfl) (e_for (e_iSeq (e_lst (e_cons (e_lst (e_cons (e_var rfl) e_nil) (le_line (by show 1 ≤ 1000000; omega))) (e_cons (e_lst (e_cons (e_f1 e_c (d_neg 1)) e_nil) (le_line (by show 1 ≤ 1000000; omega))) (e_cons (e_lst (e_cons e_c (e_cons e_c e_nil)) (le_line (by show 2 ≤ 1000000; omega))) e_nil))) (le_line (by show 3 ≤ 1000000; omega))) rfl) hb), _, _, rfl⟩) (V s0 lD (.sh (.int (C.length : Nat))) rare (.sh (.int (k : Nat))) (.sh (cD C)) kept sets s9 good s11 s12 due s15 s17 s18 s19) ⟨_, _, rfl⟩
  exact ⟨t18, t19, e_for (e_rng1 (n := 4) e_c (by omega)) hl⟩
theorem op_nil : opI C [] = [] := List.filter_eq_nil_iff.mpr fun x _ h => by
  obtain ⟨s, hs, _⟩ := (opB_iff.mp h).from
  cases hs
end
theorem sqs {a1 a2 c : FS} {e e' : List Sl} {o : Out} (h : sSeq a1 a2 e = .nx e') (h' : c e' = o) : sSeq a1 (sSeq a2 c) e = o := by
  have as : ∀ a b d : FS, sSeq a (sSeq b d) = sSeq (sSeq a b) d := fun a b d => by
    funext e
    unfold sSeq
    cases a e <;> rfl
  rw [as a1]
  exact e_seq h h'
theorem sq3 {a1 a2 a3 c : FS} {e e' : List Sl} {o : Out} (h : sSeq a1 (sSeq a2 a3) e = .nx e') (h' : c e' = o) : sSeq a1 (sSeq a2 (sSeq a3 c)) e = o := by
  have as : ∀ a b d : FS, sSeq a (sSeq b d) = sSeq (sSeq a b) d := fun a b d => by
    funext e
    unfold sSeq
    cases a e <;> rfl
  rw [as a2, as a1]
  exact e_seq h h'
theorem plain (ns : List Int) (hn : ns.length ≤ 63) : isTrueOut (g_law (envS 20 ns)) = true := by
  obtain ⟨l, hd, hl, hll⟩ := draws_ok ns hn
  rw [law_cut]
  have h1 : x1 (envS 20 ns) = .nx (V (.scr ns) (iD l) .un .un .un .un .un .un .un .un .un .un .un .un .un .un .un) := e_set (d := iD l) (by show fn__law_draws ns = _; exact hd) rfl
  obtain ⟨C, w, hC, h2⟩ := x234 hl hll (s0 := .scr ns)
  have hl1 := hC.l1
  have h8 := hC.l8
  obtain ⟨x, hx⟩ := x5_ex hC
  have h5 : x5 (V (.scr ns) (iD l) (.sh (.int (C.length : Nat))) w .un (.sh (cD C)) .un .un .un .un .un .un .un .un .un .un .un) = .nx (V (.scr ns) (iD l) (.sh (.int (C.length : Nat))) w .un (.sh (cD C)) (.sh (.str x)) .un .un .un .un .un .un .un .un .un .un) := e_set (e_cb1 (e_var rfl) hx) rfl
  obtain ⟨t5, h67⟩ := x67 hC (lD := iD l) (s0 := .scr ns) (rare := w) (kept := .sh (.str x))
  obtain ⟨out, h89⟩ := x89 hC (lD := iD l) (s0 := .scr ns) (rare := w) (s5 := t5) (kept := .sh (.str x))
  obtain ⟨t9, t11, t12, h10⟩ := x10_ok hC hl hll (s0 := .scr ns) (rare := w) (s5 := t5) (kept := .sh (.str x)) (good := .sh (.list (eS (MI C) :: out)))
  obtain ⟨u5, t15, t17, h12⟩ := x12_ok hC (lD := iD l) (s0 := .scr ns) (rare := w) (s5 := t5) (kept := .sh (.str x)) (sets := .sh (.list ((ss C.length).map nD))) (s9 := t9) (good := .sh (.list (eS (MI C) :: out))) (s11 := t11) (s12 := t12)
  have h13 := x13_ok hC hx (lD := iD l) (out := out) (s0 := .scr ns) (rare := w) (s5 := u5) (sets := .sh (.list ((ss C.length).map nD))) (s9 := t9) (s11 := t11) (s12 := t12) (s15 := t15) (s17 := t17) (s18 := .un) (s19 := .un)
  obtain ⟨k, hk, k0, k1⟩ := mix_ok l hl hll 120 (C.length : Nat) (by omega) (by omega) (by omega)
  obtain ⟨k, rfl⟩ := Int.eq_ofNat_of_zero_le k0
  have h14 : x14 (V (.scr ns) (iD l) (.sh (.int (C.length : Nat))) w u5 (.sh (cD C)) (.sh (.str x)) (.sh (.list ((ss C.length).map nD))) t9 (.sh (.list (eS (MI C) :: out))) t11 t12 (.own ((GI C C.length).map nD)) t15 t17 .un .un) = .nx (V (.scr ns) (iD l) (.sh (.int (C.length : Nat))) w (.sh (.int (k : Nat))) (.sh (cD C)) (.sh (.str x)) (.sh (.list ((ss C.length).map nD))) t9 (.sh (.list (eS (MI C) :: out))) t11 t12 (.own ((GI C C.length).map nD)) t15 t17 .un .un) := e_set (e_call (e_cons (e_var rfl) (e_cons e_c (e_cons (e_var rfl) e_nil))) hk) rfl
  obtain ⟨t18, t19, h15⟩ := x15_ok hC (lD := iD l) (k := k) (by omega) (s0 := .scr ns) (rare := w) (kept := .sh (.str x)) (sets := .sh (.list ((ss C.length).map nD))) (s9 := t9) (good := .sh (.list (eS (MI C) :: out))) (s11 := t11) (s12 := t12) (due := .own ((GI C C.length).map nD)) (s15 := t15) (s17 := t17) (s18 := .un) (s19 := .un)
  have ho := opened_eq hC (S := []) (fun _ h => by cases h) List.Pairwise.nil
  rw [op_nil hC] at ho
  have h16 : x16 (V (.scr ns) (iD l) (.sh (.int (C.length : Nat))) w (.sh (.int (k : Nat))) (.sh (cD C)) (.sh (.str x)) (.sh (.list ((ss C.length).map nD))) t9 (.sh (.list (eS (MI C) :: out))) t11 t12 (.own ((GI C C.length).map nD)) t15 t17 t18 t19) = .rt (.bool true) := e_ret (e_f2 (e_callQ (e_cons (e_var rfl) (e_cons (d := nD []) e_lst0 e_nil)) ho) e_lst0 (d_eqNil []))
  have z := e_seq h1 (sq3 h2 (e_seq h5 (sqs h67 (sqs h89 (e_seq h10 (sqs h12 (e_seq h13 (e_seq h14 (e_seq h15 h16)))))))))
  rw [z]; rfl
end k70

namespace k70
open PySem PySem.Spec PyProof.Rows L2 PD
abbrev pw : Program := PySem.Challenge.pw_hiddenandsought_k70_whole_keys_locked_in
def top (i : Nat) : Stmt := pw.main.body.getD i (.Pass ⟨0, 0, 0, 0⟩)
structure Tx (P : Program) (K : PySem.W.Frag) (mg : Str → Option Value) : Prop where
  m_none : True
  m_abs : mg "abs" = none
  m_all : mg "all" = none
  m_enumerate : mg "enumerate" = none
  m_int : mg "int" = none
  m_len : mg "len" = none
  m_list : mg "list" = none
  m_min : mg "min" = none
  m_range : mg "range" = none
  m_repr : mg "repr" = none
  m_set : mg "set" = none
  m_sorted : mg "sorted" = none
  m_zip : mg "zip" = none
  r_MOST_DRAWERS : GlobV K mg "MOST_DRAWERS" gd_MOST_DRAWERS
  e_WrongSize : Err P K mg "WrongSize"
  e_BadDrawer : Err P K mg "BadDrawer"
  p_WrongSize_WrongSize : Pair K mg "WrongSize" "WrongSize"
  p_WrongSize_BadDrawer : Pair K mg "WrongSize" "BadDrawer"
  p_BadDrawer_WrongSize : Pair K mg "BadDrawer" "WrongSize"
  p_BadDrawer_BadDrawer : Pair K mg "BadDrawer" "BadDrawer"
section
variable {P : Program} {w : World} {K : PySem.W.Frag} {mg : Str → Option Value} {base : Heap}
theorem ok_is_set (T : Tx P K mg) (d : Def K mg "is_set" (top 6) ["many", "told"]) : Cal P w K mg base 1 "is_set" ["many", "told"] (spD K mg fn_is_set) :=
  d.d0 (N := ["many", "told", "one", "two"]) (fs rfl rfl rfl (by decide +kernel) rfl (by decide +kernel) (by decide +kernel)) (by decide) (g := g_is_set) (k := 0) (fun f cdv A outer s H G am hr =>
  (vss_one (vs_ret (ve_andV (ve_callB (cr_all am.c) l_all rfl T.m_all rfl (va_cons (VN.ve (vn_lc (own := [("one", 2)]) am (vi_seq (ve_var 1)) (blkOk_by rfl) (fun _ _ _ _ _ => (pg_nm 2 am.blk.n)) (fun _ _ _ _ _ => vt_nil) (fun _ _ _ _ _ => (ve_chain (o_le am.blk) v_le (o_lt am.blk) v_lt ve_int (ve_var 2) (ve_var 0))) (by decide))) va_nil)) (ve_one (ve_callB (cr_all am.c) l_all rfl T.m_all rfl (va_cons (VN.ve (vn_lc (own := [("one", 2), ("two", 3)]) am (vi_zip (ve_var 1) (ve_sl (ve_var 1) (vo_some ve_int) vo_none) rfl T.m_zip) (blkOk_by rfl) (fun _ _ _ _ _ => (pg_tp am.blk.c (pns_cons 2 (pns_cons 3 pns_nil am.blk.n) am.blk.n))) (fun _ _ _ _ _ => vt_nil) (fun _ _ _ _ _ => (ve_cmp (o_lt am.blk) v_lt (ve_var 2) (ve_var 3))) (by decide))) va_nil)))))))
theorem ok_check_cabinet (T : Tx P K mg) (d : Def K mg "check_cabinet" (top 7) ["cabinet"]) (c_is_set : Cal P w K mg base 1 "is_set" ["many", "told"] (spD K mg fn_is_set)) : CalX P w K mg base 2 "check_cabinet" ["cabinet"] (spD K mg fn_check_cabinet) :=
  d.dX (N := ["cabinet", "k", "told"]) (fs rfl rfl rfl (by decide +kernel) rfl (by decide +kernel) (by decide +kernel)) (by decide) (g := g_check_cabinet) (k := 1) (fun f cdv A outer s H G E hGH am hr =>
  (vss_cons (vs_if (vb_not (vb_chain (o_le am) v_le (o_le am) v_le ve_int (ve_callB call_len l_len rfl T.m_len rfl (va_cons (ve_var 0) va_nil)) (ve_globC T.r_MOST_DRAWERS))) (vss_one (vs_raiseE T.e_WrongSize am hr (takes_of rfl rfl rfl rfl) (ve_callB call_len l_len rfl T.m_len rfl (va_cons (ve_var 0) va_nil)))) vss_nil)
  (vss_one (vs_for (passes_of rfl) am.c (vi_enum (ve_var 0) rfl T.m_enumerate) (pg_tp am.c (pns_cons 1 (pns_cons 2 pns_nil am.n) am.n)) (vss_one (vs_if (vb_not (vb_tru (ve_calC c_is_set am hr (va_cons (ve_callB call_len l_len rfl T.m_len rfl (va_cons (ve_var 0) va_nil)) (va_cons (ve_var 2) va_nil))))) (vss_one (vs_raiseE T.e_BadDrawer am hr (takes_of rfl rfl rfl rfl) (ve_var 1))) vss_nil))))))
theorem ok_check_broken (T : Tx P K mg) (d : Def K mg "check_broken" (top 8) ["cabinet", "broken"]) (c_check_cabinet : CalX P w K mg base 2 "check_cabinet" ["cabinet"] (spD K mg fn_check_cabinet)) (c_is_set : Cal P w K mg base 1 "is_set" ["many", "told"] (spD K mg fn_is_set)) : CalX P w K mg base 3 "check_broken" ["cabinet", "broken"] (spD K mg fn_check_broken) :=
  d.dX (N := ["cabinet", "broken"]) (fs rfl rfl rfl (by decide +kernel) rfl (by decide +kernel) (by decide +kernel)) (by decide) (g := g_check_broken) (k := 2) (fun f cdv A outer s H G E hGH am hr =>
  (vss_cons (vs_expr (ve_calX c_check_cabinet am hr (takes_of rfl rfl rfl rfl) (va_cons (ve_var 0) va_nil)))
  (vss_one (vs_if (vb_not (vb_tru (ve_calC c_is_set am hr (va_cons (ve_callB call_len l_len rfl T.m_len rfl (va_cons (ve_var 0) va_nil)) (va_cons (ve_var 1) va_nil))))) (vss_one (vs_raiseE T.e_BadDrawer am hr (takes_of rfl rfl rfl rfl) (ve_un un_neg v_neg ve_int))) vss_nil))))
theorem ok_opened_of (T : Tx P K mg) (d : Def K mg "opened_of" (top 9) ["cabinet", "broken"]) : Cal P w K mg base 1 "opened_of" ["cabinet", "broken"] (spN K mg fn_opened_of) :=
  d.d0N (N := ["cabinet", "broken", "found", "at", "one"]) (fs rfl rfl rfl (by decide +kernel) rfl (by decide +kernel) (by decide +kernel)) (by decide) (g := g_opened_of) (k := 0) (fun f cdv A outer s H G am hr =>
  (vss_cons (vs_setN 2 (vn_callT call_list_of l_listN rfl T.m_list rfl (va_cons (ve_var 1) va_nil)) am.n)
  (vss_cons (vs_set 3 ve_int am.n)
  (vss_cons (vs_while 40 PassesOwn.never (vb_th (vb_cmp (o_lt am) v_lt (ve_var 3) (ve_callB call_len l_len rfl T.m_len rfl (va_cons (ve_var 2) va_nil)))) (vss_cons (vs_extend 2 (VN.ve (vn_lc (own := [("one", 4)]) am (vi_seq (ve_ix (ve_var 0) (ve_ixO 2 (ve_var 3)))) (blkOk_by rfl) (fun _ _ _ _ _ => (pg_nm 4 am.blk.n)) (fun _ _ _ _ _ => (vt_one (vb_th (vb_cmp (o_notIn am.blk) v_notIn (ve_var 4) (ve_var 2))))) (fun _ _ _ _ _ => (ve_var 4)) (by decide))))
  (vss_one (vs_set 3 (ve_op o_add v_add (ve_var 3) ve_int) am.n))))
  (vss_one (vs_frz 2 (vs_retN (vn_callB (call_sortedD am) l_sortedN rfl T.m_sorted rfl (va_cons (ve_var 2) va_nil)))))))))
theorem ok_opened (T : Tx P K mg) (d : Def K mg "opened" (top 10) ["cabinet", "broken"]) (c_check_broken : CalX P w K mg base 3 "check_broken" ["cabinet", "broken"] (spD K mg fn_check_broken)) (c_opened_of : Cal P w K mg base 1 "opened_of" ["cabinet", "broken"] (spN K mg fn_opened_of)) : CalX P w K mg base 4 "opened" ["cabinet", "broken"] (spN K mg fn_opened) :=
  d.dXN (N := ["cabinet", "broken"]) (fs rfl rfl rfl (by decide +kernel) rfl (by decide +kernel) (by decide +kernel)) (by decide) (g := g_opened) (k := 3) (fun f cdv A outer s H G E hGH am hr =>
  (vss_cons (vs_expr (ve_calX c_check_broken am hr (takes_of rfl rfl rfl rfl) (va_cons (ve_var 0) (va_cons (ve_var 1) va_nil))))
  (vss_one (vs_retN (vn_calC c_opened_of am hr (va_cons (ve_var 0) (va_cons (ve_var 1) va_nil)))))))
theorem ok_is_enough (T : Tx P K mg) (d : Def K mg "is_enough" (top 11) ["cabinet", "broken"]) (c_opened : CalX P w K mg base 4 "opened" ["cabinet", "broken"] (spN K mg fn_opened)) : CalX P w K mg base 5 "is_enough" ["cabinet", "broken"] (spD K mg fn_is_enough) :=
  d.dX (N := ["cabinet", "broken"]) (fs rfl rfl rfl (by decide +kernel) rfl (by decide +kernel) (by decide +kernel)) (by decide) (g := g_is_enough) (k := 4) (fun f cdv A outer s H G E hGH am hr =>
  (vss_one (vs_ret (ve_cmp (o_eq am) v_eq (ve_callB call_len l_len rfl T.m_len rfl (va_cons (VN.ve (vn_calX c_opened am hr (takes_of rfl rfl rfl rfl) (va_cons (ve_var 0) (va_cons (ve_var 1) va_nil)))) va_nil)) (ve_callB call_len l_len rfl T.m_len rfl (va_cons (ve_var 0) va_nil))))))
theorem ok_groups_of (T : Tx P K mg) (d : Def K mg "groups_of" (top 12) ["cabinet"]) (c_opened_of : Cal P w K mg base 1 "opened_of" ["cabinet", "broken"] (spN K mg fn_opened_of)) : Cal P w K mg base 2 "groups_of" ["cabinet"] (spN K mg fn_groups_of) :=
  d.d0N (N := ["cabinet", "many", "k", "told", "found", "one", "group", "before"]) (fs rfl rfl rfl (by decide +kernel) rfl (by decide +kernel) (by decide +kernel)) (by decide) (g := g_groups_of) (k := 1) (fun f cdv A outer s H G am hr =>
  (vss_cons (vs_set 1 (ve_callB call_len l_len rfl T.m_len rfl (va_cons (ve_var 0) va_nil)) am.n)
  (vss_cons (vs_setF 3 (vn_lc (own := [("k", 2)]) am (vi_range1 rfl T.m_range (va_cons (ve_var 1) va_nil)) (blkOk_by rfl) (fun _ _ _ _ _ => (pg_nm 2 am.blk.n)) (fun _ _ _ _ _ => vt_nil) (fun _ _ _ _ _ => (VN.ve (vn_calC c_opened_of am.blk hr (va_cons (ve_var 0) (va_cons (ve_lst (va_cons (ve_var 2) va_nil)) va_nil))))) (by decide)) am.n)
  (vss_cons (vs_setN 4 (vn_lst va_nil) am.n)
  (vss_cons (vs_for PassesOwn.never am.c (vi_range1 rfl T.m_range (va_cons (ve_var 1) va_nil)) (pg_nm 2 am.n) (vss_cons (vs_lcF (own := [("one", 5)]) 6 am (vi_seq (ve_ix (ve_var 3) (ve_var 2))) (blkOk_by rfl) (fun _ _ _ _ _ => (pg_nm 5 am.blk.n)) (fun _ _ _ _ _ => (vt_one (vb_cmp (o_in am.blk) v_in (ve_var 2) (ve_ix (ve_var 3) (ve_var 5))))) (fun _ _ _ _ _ => (ve_var 5)) (by decide))
  (vss_cons (vs_lcF (own := [("one", 5)]) 7 am (vi_range1 rfl T.m_range (va_cons (ve_var 1) va_nil)) (blkOk_by rfl) (fun _ _ _ _ _ => (pg_nm 5 am.blk.n)) (fun _ _ _ _ _ => (vt_one (vb_cmp (o_in am.blk) v_in (ve_var 2) (ve_ix (ve_var 3) (ve_var 5))))) (fun _ _ _ _ _ => (ve_var 5)) (by decide))
  (vss_one (vs_if (vb_w (vw_and (vb_cmp (o_eq am) v_eq (ve_var 6) (ve_var 7)) (vw_and1 (vb_th (vb_cmp (o_notIn am) v_notIn (ve_var 6) (ve_var 4)))))) (vss_one (vs_append 4 (ve_var 6))) vss_nil)))))
  (vss_one (vs_retO 4)))))))
theorem ok_groups (T : Tx P K mg) (d : Def K mg "groups" (top 13) ["cabinet"]) (c_check_cabinet : CalX P w K mg base 2 "check_cabinet" ["cabinet"] (spD K mg fn_check_cabinet)) (c_groups_of : Cal P w K mg base 2 "groups_of" ["cabinet"] (spN K mg fn_groups_of)) : CalX P w K mg base 3 "groups" ["cabinet"] (spN K mg fn_groups) :=
  d.dXN (N := ["cabinet"]) (fs rfl rfl rfl (by decide +kernel) rfl (by decide +kernel) (by decide +kernel)) (by decide) (g := g_groups) (k := 2) (fun f cdv A outer s H G E hGH am hr =>
  (vss_cons (vs_expr (ve_calX c_check_cabinet am hr (takes_of rfl rfl rfl rfl) (va_cons (ve_var 0) va_nil)))
  (vss_one (vs_retN (vn_calC c_groups_of am hr (va_cons (ve_var 0) va_nil))))))
theorem ok_fewest_broken (T : Tx P K mg) (d : Def K mg "fewest_broken" (top 14) ["cabinet"]) (c_check_cabinet : CalX P w K mg base 2 "check_cabinet" ["cabinet"] (spD K mg fn_check_cabinet)) (c_groups_of : Cal P w K mg base 2 "groups_of" ["cabinet"] (spN K mg fn_groups_of)) : CalX P w K mg base 3 "fewest_broken" ["cabinet"] (spN K mg fn_fewest_broken) :=
  d.dXN (N := ["cabinet", "group"]) (fs rfl rfl rfl (by decide +kernel) rfl (by decide +kernel) (by decide +kernel)) (by decide) (g := g_fewest_broken) (k := 2) (fun f cdv A outer s H G E hGH am hr =>
  (vss_cons (vs_expr (ve_calX c_check_cabinet am hr (takes_of rfl rfl rfl rfl) (va_cons (ve_var 0) va_nil)))
  (vss_one (vs_retN (vn_callB (call_sortedD am) l_sortedN rfl T.m_sorted rfl (va_cons (VN.ve (vn_lc (own := [("group", 1)]) am (vi_seq (VN.ve (vn_calC c_groups_of am hr (va_cons (ve_var 0) va_nil)))) (blkOk_by rfl) (fun _ _ _ _ _ => (pg_nm 1 am.blk.n)) (fun _ _ _ _ _ => vt_nil) (fun _ _ _ _ _ => (ve_ix (ve_var 1) ve_int)) (by decide))) va_nil))))))
theorem ok__law_draws (T : Tx P K mg) (d : Def K mg "_law_draws" (top 16) ["script"]) : Cal P w K mg base 1 "_law_draws" ["script"] (spScr K mg fn__law_draws) :=
  d.scr (N := ["script", "draws", "k", "rest", "turn", "stirred"]) (fs rfl rfl rfl (by decide +kernel) rfl (by decide +kernel) (by decide +kernel)) (by decide) (g := g__law_draws) (k := 0) (fun f cdv A outer s H G am hr =>
  (vss_cons (vs_setN 1 (vn_lst va_nil) am.n)
  (vss_cons (vs_for PassesOwn.never am.c (vi_range1 rfl T.m_range (va_cons (ve_callB (call_min2 am.c) l_min2 rfl T.m_min rfl (va_cons ve_int (va_cons (ve_scrLen 0 rfl T.m_len) va_nil))) va_nil)) (pg_nm 2 am.n) (vss_cons (vs_set 3 (ve_callB call_abs l_abs rfl T.m_abs rfl (va_cons (ve_scrIx 0 (ve_var 2)) va_nil)) am.n)
  (vss_one (vs_if (vb_cmp (o_ge am) v_ge (ve_var 3) (ve_op op_pow v_pow ve_int ve_int)) (vss_one (vs_for PassesOwn.never am.c (vi_range1 rfl T.m_range (va_cons ve_int va_nil)) (pg_nm 4 am.n) (vss_one (vs_if (vb_cmp (o_gt am) v_gt (ve_var 3) ve_int) (vss_cons (vs_append 1 (ve_op op_mod v_mod (ve_callT call_int1 l_int rfl T.m_int rfl (va_cons (ve_var 3) va_nil)) ve_int))
  (vss_one (vs_set 3 (ve_op op_fdiv v_div (ve_var 3) ve_int) am.n))) vss_nil)))) (vss_cons (vs_set 5 (ve_op op_mod v_mod (ve_callT call_int1 l_int rfl T.m_int rfl (va_cons (ve_op o_add v_add (ve_op o_mul v_mul (ve_var 3) ve_int) (ve_op o_mul v_mul (ve_op o_add v_add (ve_var 2) ve_int) ve_int)) va_nil)) ve_int) am.n)
  (vss_cons (vs_set 5 (ve_op op_mod v_mod (ve_callT call_int1 l_int rfl T.m_int rfl (va_cons (ve_op o_add v_add (ve_op o_add v_add (ve_op o_mul v_mul (ve_var 5) ve_int) (ve_op o_mul v_mul ve_int (ve_var 2))) ve_int) va_nil)) ve_int) am.n)
  (vss_cons (vs_append 1 (ve_op op_mod v_mod (ve_callT call_int1 l_int rfl T.m_int rfl (va_cons (ve_var 5) va_nil)) ve_int))
  (vss_one (vs_append 1 (ve_op op_mod v_mod (ve_callT call_int1 l_int rfl T.m_int rfl (va_cons (ve_op op_fdiv v_div (ve_var 5) ve_int) va_nil)) ve_int))))))))))
  (vss_one (vs_retO 1)))))
theorem ok__law_mix (T : Tx P K mg) (d : Def K mg "_law_mix" (top 17) ["draws", "k", "many"]) : Cal P w K mg base 1 "_law_mix" ["draws", "k", "many"] (spD K mg fn__law_mix) :=
  d.d0 (N := ["draws", "k", "many", "cell"]) (fs rfl rfl rfl (by decide +kernel) rfl (by decide +kernel) (by decide +kernel)) (by decide) (g := g__law_mix) (k := 0) (fun f cdv A outer s H G am hr =>
  (vss_cons (vs_set 3 ve_int am.n)
  (vss_cons (vs_if (vb_cmp (o_gt am) v_gt (ve_callB call_len l_len rfl T.m_len rfl (va_cons (ve_var 0) va_nil)) ve_int) (vss_one (vs_set 3 (ve_ix (ve_var 0) (ve_op op_mod v_mod (ve_callT call_int1 l_int rfl T.m_int rfl (va_cons (ve_var 1) va_nil)) (ve_callB call_len l_len rfl T.m_len rfl (va_cons (ve_var 0) va_nil)))) am.n)) vss_nil)
  (vss_cons (vs_if (vb_cmp (o_lt am) v_lt (ve_var 1) (ve_callB call_len l_len rfl T.m_len rfl (va_cons (ve_var 0) va_nil))) (vss_one (vs_ret (ve_op op_mod v_mod (ve_callT call_int1 l_int rfl T.m_int rfl (va_cons (ve_var 3) va_nil)) (ve_var 2)))) vss_nil)
  (vss_one (vs_ret (ve_op op_mod v_mod (ve_callT call_int1 l_int rfl T.m_int rfl (va_cons (ve_op op_fdiv v_div (ve_callT call_int1 l_int rfl T.m_int rfl (va_cons (ve_op o_add v_add (ve_op o_mul v_mul (ve_var 3) ve_int) (ve_op o_mul v_mul (ve_var 1) ve_int)) va_nil)) ve_int) va_nil)) (ve_var 2))))))))
theorem ok__law_open (T : Tx P K mg) (d : Def K mg "_law_open" (top 18) ["cabinet", "broken"]) : Cal P w K mg base 1 "_law_open" ["cabinet", "broken"] (spN K mg fn__law_open) :=
  d.d0N (N := ["cabinet", "broken", "found", "more", "k", "one", "new"]) (fs rfl rfl rfl (by decide +kernel) rfl (by decide +kernel) (by decide +kernel)) (by decide) (g := g__law_open) (k := 0) (fun f cdv A outer s H G am hr =>
  (vss_cons (vs_set 2 (VN.ve (vn_callT call_list_of l_listN rfl T.m_list rfl (va_cons (ve_var 1) va_nil))) am.n)
  (vss_cons (vs_set 3 ve_bl am.n)
  (vss_cons (vs_while 40 PassesOwn.never (vb_tru (ve_var 3)) (vss_cons (vs_lcF (own := [("k", 4)]) 6 am (vi_range1 rfl T.m_range (va_cons (ve_callB call_len l_len rfl T.m_len rfl (va_cons (ve_var 0) va_nil)) va_nil)) (blkOk_by rfl) (fun _ _ _ _ _ => (pg_nm 4 am.blk.n)) (fun _ _ _ _ _ => (vt_one (vb_w (vw_and (vb_cmp (o_notIn am.blk) v_notIn (ve_var 4) (ve_var 2)) (vw_and1 (vb_cmp (o_gt am.blk) v_gt (ve_callB call_len l_len rfl T.m_len rfl (va_cons (VN.ve (vn_lc (own := [("one", 5)]) am.blk (vi_seq (ve_var 2)) (blkOk_by rfl) (fun _ _ _ _ _ => (pg_nm 5 am.blk.blk.n)) (fun _ _ _ _ _ => (vt_one (vb_cmp (o_in am.blk.blk) v_in (ve_var 4) (ve_ix (ve_var 0) (ve_var 5))))) (fun _ _ _ _ _ => (ve_var 5)) (by decide))) va_nil)) ve_int)))))) (fun _ _ _ _ _ => (ve_var 4)) (by decide))
  (vss_cons (vs_set 2 (ve_op o_add v_add (ve_var 2) (ve_var 6)) am.n)
  (vss_one (vs_set 3 (ve_cmp (o_ne am) v_ne (ve_var 6) (ve_lst va_nil)) am.n)))))
  (vss_one (vs_retN (vn_callB (call_sortedD am) l_sortedN rfl T.m_sorted rfl (va_cons (ve_var 2) va_nil))))))))
theorem ok__law_fault (T : Tx P K mg) (d : Def K mg "_law_fault" (top 19) ["way", "cabinet", "broken"]) (c_fewest_broken : CalX P w K mg base 3 "fewest_broken" ["cabinet"] (spN K mg fn_fewest_broken)) (c_groups : CalX P w K mg base 3 "groups" ["cabinet"] (spN K mg fn_groups)) (c_is_enough : CalX P w K mg base 5 "is_enough" ["cabinet", "broken"] (spD K mg fn_is_enough)) (c_opened : CalX P w K mg base 4 "opened" ["cabinet", "broken"] (spN K mg fn_opened)) : Cal P w K mg base 6 "_law_fault" ["way", "cabinet", "broken"] (spD K mg fn__law_fault) :=
  d.d0T (N := ["way", "cabinet", "broken", "e"]) (fs rfl rfl rfl (by decide +kernel) rfl (by decide +kernel) (by decide +kernel)) (by decide) (g := g__law_fault) (k := 5) (fun f cdv A outer s H G hGH am hr =>
  (vss_cons (vs_try 3 hGH am.n takesE0 (clsOk (P := P) (all_cons T.e_WrongSize (all_cons T.e_BadDrawer all_nil)) (all_cons T.e_WrongSize (all_cons T.e_BadDrawer all_nil)) (all_cons (all_cons T.p_WrongSize_WrongSize (all_cons T.p_WrongSize_BadDrawer all_nil)) (all_cons (all_cons T.p_BadDrawer_WrongSize (all_cons T.p_BadDrawer_BadDrawer all_nil)) all_nil))) (.cons rfl (by decide) rfl rfl rfl (.cons rfl (by decide) rfl rfl rfl .nil)) (fun W pn xe tk po => (vss_one (vs_if (vb_cmp (o_lt am.tr) v_lt (ve_var 0) ve_int) (vss_one (vs_expr (ve_sel (sel_X c_groups.d tk (sel_X c_fewest_broken.d tk sel_nil)) am.tr hr (ve_var 0) (va_cons (ve_var 1) va_nil)))) (vss_one (vs_expr (ve_sel (sel_X c_opened.d tk (sel_X c_is_enough tk sel_nil)) am.tr hr (ve_op op_sub v_sub (ve_var 0) ve_int) (va_cons (ve_var 1) (va_cons (ve_var 2) va_nil)))))))))
  (vss_one (vs_ret (ve_tup (va_cons ve_str (va_cons ve_int va_nil)))))))
theorem ok_law (T : Tx P K mg) {f : Addr} {fd : FuncData} (F : Fun K "law" "law" (top 20) f fd) (c__law_draws : Cal P w K mg base 1 "_law_draws" ["script"] (spScr K mg fn__law_draws)) (c__law_mix : Cal P w K mg base 1 "_law_mix" ["draws", "k", "many"] (spD K mg fn__law_mix)) (c__law_open : Cal P w K mg base 1 "_law_open" ["cabinet", "broken"] (spN K mg fn__law_open)) (c_fewest_broken : CalX P w K mg base 3 "fewest_broken" ["cabinet"] (spN K mg fn_fewest_broken)) (c_opened : CalX P w K mg base 4 "opened" ["cabinet", "broken"] (spN K mg fn_opened)) (c_is_enough : CalX P w K mg base 5 "is_enough" ["cabinet", "broken"] (spD K mg fn_is_enough)) (c_groups : CalX P w K mg base 3 "groups" ["cabinet"] (spN K mg fn_groups)) (c__law_fault : Cal P w K mg base 6 "_law_fault" ["way", "cabinet", "broken"] (spD K mg fn__law_fault)) (plain : ∀ ns : List Int, ns.length ≤ 63 → isTrueOut (g_law (envS 20 ns)) = true) : FnG P w K mg base CX0 7 f fd ["script"] (spLaw K) :=
  defLaw (N := ["script", "draws", "many", "rare", "t", "k", "cabinet", "kept", "sets", "some", "good", "turn", "more", "due", "one", "near", "two", "outside", "way", "bad"]) F (fs rfl rfl rfl (by decide +kernel) rfl (by decide +kernel) (by decide +kernel)) (by decide) (g := g_law) (k := 6) (fun cdv A outer s H G am hr =>
  (vss_cons (vs_set 1 (VN.ve (vn_calS 0 c__law_draws am hr)) am.n)
  (vss_cons (vs_set 2 (ve_op o_add v_add ve_int (ve_calC c__law_mix am hr (va_cons (ve_var 1) (va_cons ve_int (va_cons ve_int va_nil))))) am.n)
  (vss_cons (vs_set 3 (ve_ix (ve_lst (va_cons ve_int (va_cons ve_int (va_cons ve_int va_nil)))) (ve_calC c__law_mix am hr (va_cons (ve_var 1) (va_cons ve_int (va_cons ve_int va_nil))))) am.n)
  (vss_cons (vs_setF 6 (vn_lc (own := [("t", 4)]) am (vi_range1 rfl T.m_range (va_cons (ve_var 2) va_nil)) (blkOk_by rfl) (fun _ _ _ _ _ => (pg_nm 4 am.blk.n)) (fun _ _ _ _ _ => vt_nil) (fun _ _ _ _ _ => (VN.ve (vn_lc (own := [("k", 5)]) am.blk (vi_range1 rfl T.m_range (va_cons (ve_var 2) va_nil)) (blkOk_by rfl) (fun _ _ _ _ _ => (pg_nm 5 am.blk.blk.n)) (fun _ _ _ _ _ => (vt_one (vb_cmp (o_eq am.blk.blk) v_eq (ve_calC c__law_mix am.blk.blk hr (va_cons (ve_var 1) (va_cons (ve_op o_add v_add (ve_op o_add v_add ve_int (ve_op o_mul v_mul ve_int (ve_var 4))) (ve_var 5)) (va_cons (ve_var 3) va_nil)))) ve_int))) (fun _ _ _ _ _ => (ve_var 5)) (by decide)))) (by decide)) am.n)
  (vss_cons (vs_set 7 (ve_callB (call_reprD am) l_repr rfl T.m_repr rfl (va_cons (ve_var 6) va_nil)) am.n)
  (vss_cons (vs_set 8 (ve_lst (va_cons (ve_lst va_nil) va_nil)) am.n)
  (vss_cons (vs_for PassesOwn.never am.c (vi_range1 rfl T.m_range (va_cons (ve_var 2) va_nil)) (pg_nm 5 am.n) (vss_one (vs_set 8 (ve_op o_add v_add (ve_var 8) (VN.ve (vn_lc (own := [("some", 9)]) am (vi_seq (ve_var 8)) (blkOk_by rfl) (fun _ _ _ _ _ => (pg_nm 9 am.blk.n)) (fun _ _ _ _ _ => vt_nil) (fun _ _ _ _ _ => (ve_op o_add v_add (ve_var 9) (ve_lst (va_cons (ve_var 5) va_nil)))) (by decide)))) am.n)))
  (vss_cons (vs_set 10 (VN.ve (vn_callB (call_sortedD am) l_sortedN rfl T.m_sorted rfl (va_cons (VN.ve (vn_lc (own := [("some", 9)]) am (vi_seq (ve_var 8)) (blkOk_by rfl) (fun _ _ _ _ _ => (pg_nm 9 am.blk.n)) (fun _ _ _ _ _ => (vt_one (vb_cmp (o_eq am.blk) v_eq (ve_callB call_len l_len rfl T.m_len rfl (va_cons (VN.ve (vn_calC c__law_open am.blk hr (va_cons (ve_var 6) (va_cons (ve_var 9) va_nil)))) va_nil)) (ve_var 2)))) (fun _ _ _ _ _ => (ve_tup (va_cons (ve_callB call_len l_len rfl T.m_len rfl (va_cons (ve_var 9) va_nil)) (va_cons (ve_var 9) va_nil)))) (by decide))) va_nil))) am.n)
  (vss_cons (vs_if (vb_reprNe am rfl T.m_repr (VN.ve (vn_calC c_fewest_broken.qN am hr (va_cons (ve_var 6) va_nil))) (ve_ix (ve_ix (ve_var 10) ve_int) ve_int)) (vss_one (vs_ret ve_bl)) vss_nil)
  (vss_cons (vs_for PassesOwn.never am.c (vi_range1 rfl T.m_range (va_cons ve_int va_nil)) (pg_nm 11 am.n) (vss_cons (vs_set 9 (ve_ix (ve_var 8) (ve_calC c__law_mix am hr (va_cons (ve_var 1) (va_cons (ve_op o_add v_add ve_int (ve_var 11)) (va_cons (ve_callB call_len l_len rfl T.m_len rfl (va_cons (ve_var 8) va_nil)) va_nil))))) am.n)
  (vss_cons (vs_if (vb_w (vw_or (vb_reprNe am rfl T.m_repr (VN.ve (vn_calC c_opened.qN am hr (va_cons (ve_var 6) (va_cons (ve_var 9) va_nil)))) (VN.ve (vn_calC c__law_open am hr (va_cons (ve_var 6) (va_cons (ve_var 9) va_nil))))) (vw_or1 (vb_reprNe am rfl T.m_repr (ve_calC c_is_enough.q am hr (va_cons (ve_var 6) (va_cons (ve_var 9) va_nil))) (ve_cmp (o_eq am) v_eq (ve_callB call_len l_len rfl T.m_len rfl (va_cons (VN.ve (vn_calC c__law_open am hr (va_cons (ve_var 6) (va_cons (ve_var 9) va_nil)))) va_nil)) (ve_var 2)))))) (vss_one (vs_ret ve_bl)) vss_nil)
  (vss_cons (vs_set 12 (ve_sortSet am rfl T.m_sorted rfl T.m_set (ve_op o_add v_add (ve_var 9) (ve_lst (va_cons (ve_calC c__law_mix am hr (va_cons (ve_var 1) (va_cons (ve_op o_add v_add ve_int (ve_var 11)) (va_cons (ve_var 2) va_nil)))) va_nil)))) am.n)
  (vss_one (vs_if (vb_cmp (o_gt am) v_gt (ve_callB call_len l_len rfl T.m_len rfl (va_cons (VN.ve (vn_lc (own := [("k", 5)]) am (vi_seq (VN.ve (vn_calC c_opened.qN am hr (va_cons (ve_var 6) (va_cons (ve_var 9) va_nil))))) (blkOk_by rfl) (fun _ _ _ _ _ => (pg_nm 5 am.blk.n)) (fun _ _ _ _ _ => (vt_one (vb_cmp (o_notIn am.blk) v_notIn (ve_var 5) (VN.ve (vn_calC c_opened.qN am.blk hr (va_cons (ve_var 6) (va_cons (ve_var 12) va_nil))))))) (fun _ _ _ _ _ => (ve_var 5)) (by decide))) va_nil)) ve_int) (vss_one (vs_ret ve_bl)) vss_nil))))))
  (vss_cons (vs_setN 13 (vn_lst va_nil) am.n)
  (vss_cons (vs_for PassesOwn.never am.c (vi_range1 rfl T.m_range (va_cons (ve_var 2) va_nil)) (pg_nm 5 am.n) (vss_cons (vs_setF 15 (vn_lc (own := [("one", 14)]) am (vi_seq (VN.ve (vn_calC c__law_open am hr (va_cons (ve_var 6) (va_cons (ve_lst (va_cons (ve_var 5) va_nil)) va_nil))))) (blkOk_by rfl) (fun _ _ _ _ _ => (pg_nm 14 am.blk.n)) (fun _ _ _ _ _ => (vt_one (vb_cmp (o_in am.blk) v_in (ve_var 5) (VN.ve (vn_calC c__law_open am.blk hr (va_cons (ve_var 6) (va_cons (ve_lst (va_cons (ve_var 14) va_nil)) va_nil))))))) (fun _ _ _ _ _ => (ve_var 14)) (by decide)) am.n)
  (vss_cons (vs_lcF (own := [("one", 14)]) 17 am (vi_range1 rfl T.m_range (va_cons (ve_var 2) va_nil)) (blkOk_by rfl) (fun _ _ _ _ _ => (pg_nm 14 am.blk.n)) (fun _ _ _ _ _ => (vt_one (vb_w (vw_and (vb_cmp (o_notIn am.blk) v_notIn (ve_var 14) (ve_var 15)) (vw_and1 (vb_cmp (o_gt am.blk) v_gt (ve_callB call_len l_len rfl T.m_len rfl (va_cons (VN.ve (vn_lc (own := [("two", 16)]) am.blk (vi_seq (ve_var 15)) (blkOk_by rfl) (fun _ _ _ _ _ => (pg_nm 16 am.blk.blk.n)) (fun _ _ _ _ _ => (vt_one (vb_cmp (o_in am.blk.blk) v_in (ve_var 16) (ve_ix (ve_var 6) (ve_var 14))))) (fun _ _ _ _ _ => (ve_var 16)) (by decide))) va_nil)) ve_int)))))) (fun _ _ _ _ _ => (ve_var 14)) (by decide))
  (vss_one (vs_if (vb_w (vw_and (vb_cmp (o_eq am) v_eq (ve_var 17) (ve_lst va_nil)) (vw_and1 (vb_th (vb_cmp (o_notIn am) v_notIn (ve_var 15) (ve_var 13)))))) (vss_one (vs_append 13 (ve_var 15))) vss_nil)))))
  (vss_cons (vs_if (vb_w (vw_or (vb_th (vb_reprNe am rfl T.m_repr (VN.ve (vn_calC c_groups.qN am hr (va_cons (ve_var 6) va_nil))) (ve_var 13))) (vw_or (vb_th (vb_cmp (o_ne am) v_ne (ve_callB call_len l_len rfl T.m_len rfl (va_cons (ve_var 13) va_nil)) (ve_ix (ve_ix (ve_var 10) ve_int) ve_int))) (vw_or1 (vb_cmp (o_ne am) v_ne (ve_callB (call_reprD am) l_repr rfl T.m_repr rfl (va_cons (ve_var 6) va_nil)) (ve_var 7)))))) (vss_one (vs_ret ve_bl)) vss_nil)
  (vss_cons (vs_set 5 (ve_calC c__law_mix am hr (va_cons (ve_var 1) (va_cons ve_int (va_cons (ve_var 2) va_nil)))) am.n)
  (vss_cons (vs_for PassesOwn.never am.c (vi_range1 rfl T.m_range (va_cons ve_int va_nil)) (pg_nm 18 am.n) (vss_cons (vs_if (vb_w (vw_or (vb_cmp (o_ne am) v_ne (ve_calC c__law_fault am hr (va_cons (ve_var 18) (va_cons (ve_lst va_nil) (va_cons (ve_lst (va_cons ve_int va_nil)) va_nil)))) (ve_tup (va_cons ve_str (va_cons ve_int va_nil)))) (vw_or1 (vb_cmp (o_ne am) v_ne (ve_calC c__law_fault am hr (va_cons (ve_var 18) (va_cons (ve_op o_mul v_mul (ve_lst (va_cons (ve_lst (va_cons ve_int va_nil)) va_nil)) ve_int) (va_cons (ve_lst (va_cons ve_int va_nil)) va_nil)))) (ve_tup (va_cons ve_str (va_cons ve_int va_nil))))))) (vss_one (vs_ret ve_bl)) vss_nil)
  (vss_one (vs_for PassesOwn.never am.c (vi_seq (ve_lst (va_cons (ve_lst (va_cons (ve_var 2) va_nil)) (va_cons (ve_lst (va_cons (ve_un un_neg v_neg ve_int) va_nil)) (va_cons (ve_lst (va_cons ve_int (va_cons ve_int va_nil))) va_nil))))) (pg_nm 19 am.n) (vss_cons (vs_if (vb_cmp (o_ne am) v_ne (ve_calC c__law_fault am hr (va_cons (ve_var 18) (va_cons (ve_op o_add v_add (ve_op o_add v_add (ve_sl (ve_var 6) vo_none (vo_some (ve_var 5))) (ve_lst (va_cons (ve_var 19) va_nil))) (ve_sl (ve_var 6) (vo_some (ve_op o_add v_add (ve_var 5) ve_int)) vo_none)) (va_cons (ve_lst (va_cons ve_int va_nil)) va_nil)))) (ve_tup (va_cons ve_str (va_cons (ve_var 5) va_nil)))) (vss_one (vs_ret ve_bl)) vss_nil)
  (vss_one (vs_if (vb_w (vw_and (vb_cmp (o_gt am) v_gt (ve_var 18) ve_int) (vw_and1 (vb_cmp (o_ne am) v_ne (ve_calC c__law_fault am hr (va_cons (ve_var 18) (va_cons (ve_var 6) (va_cons (ve_var 19) va_nil)))) (ve_tup (va_cons ve_str (va_cons (ve_un un_neg v_neg ve_int) va_nil))))))) (vss_one (vs_ret ve_bl)) vss_nil)))))))
  (vss_one (vs_ret (ve_cmp (o_eq am) v_eq (VN.ve (vn_calC c_opened.qN am hr (va_cons (ve_var 6) (va_cons (ve_lst va_nil) va_nil)))) (ve_lst va_nil)))))))))))))))))))) plain
theorem all_ok (T : Tx P K mg) (d_is_set : Def K mg "is_set" (top 6) ["many", "told"]) (d_check_cabinet : Def K mg "check_cabinet" (top 7) ["cabinet"]) (d_check_broken : Def K mg "check_broken" (top 8) ["cabinet", "broken"]) (d_opened_of : Def K mg "opened_of" (top 9) ["cabinet", "broken"]) (d_opened : Def K mg "opened" (top 10) ["cabinet", "broken"]) (d_is_enough : Def K mg "is_enough" (top 11) ["cabinet", "broken"]) (d_groups_of : Def K mg "groups_of" (top 12) ["cabinet"]) (d_groups : Def K mg "groups" (top 13) ["cabinet"]) (d_fewest_broken : Def K mg "fewest_broken" (top 14) ["cabinet"]) (d__law_draws : Def K mg "_law_draws" (top 16) ["script"]) (d__law_mix : Def K mg "_law_mix" (top 17) ["draws", "k", "many"]) (d__law_open : Def K mg "_law_open" (top 18) ["cabinet", "broken"]) (d__law_fault : Def K mg "_law_fault" (top 19) ["way", "cabinet", "broken"]) (d_law : Def K mg "law" (top 20) ["script"]) (plain : ∀ ns : List Int, ns.length ≤ 63 → isTrueOut (g_law (envS 20 ns)) = true) {f : Addr} {fd : FuncData} (F : Fun K "law" "law" (top 20) f fd) : FnG P w K mg base CX0 7 f fd ["script"] (spLaw K) := by
  have c_is_set : Cal P w K mg base 1 "is_set" ["many", "told"] (spD K mg fn_is_set) := ok_is_set T d_is_set 
  have c_check_cabinet : CalX P w K mg base 2 "check_cabinet" ["cabinet"] (spD K mg fn_check_cabinet) := ok_check_cabinet T d_check_cabinet c_is_set
  have c_check_broken : CalX P w K mg base 3 "check_broken" ["cabinet", "broken"] (spD K mg fn_check_broken) := ok_check_broken T d_check_broken c_check_cabinet c_is_set
  have c_opened_of : Cal P w K mg base 1 "opened_of" ["cabinet", "broken"] (spN K mg fn_opened_of) := ok_opened_of T d_opened_of 
  have c_opened : CalX P w K mg base 4 "opened" ["cabinet", "broken"] (spN K mg fn_opened) := ok_opened T d_opened c_check_broken c_opened_of
  have c_is_enough : CalX P w K mg base 5 "is_enough" ["cabinet", "broken"] (spD K mg fn_is_enough) := ok_is_enough T d_is_enough c_opened
  have c_groups_of : Cal P w K mg base 2 "groups_of" ["cabinet"] (spN K mg fn_groups_of) := ok_groups_of T d_groups_of c_opened_of
  have c_groups : CalX P w K mg base 3 "groups" ["cabinet"] (spN K mg fn_groups) := ok_groups T d_groups c_check_cabinet c_groups_of
  have c_fewest_broken : CalX P w K mg base 3 "fewest_broken" ["cabinet"] (spN K mg fn_fewest_broken) := ok_fewest_broken T d_fewest_broken c_check_cabinet c_groups_of
  have c__law_draws : Cal P w K mg base 1 "_law_draws" ["script"] (spScr K mg fn__law_draws) := ok__law_draws T d__law_draws 
  have c__law_mix : Cal P w K mg base 1 "_law_mix" ["draws", "k", "many"] (spD K mg fn__law_mix) := ok__law_mix T d__law_mix 
  have c__law_open : Cal P w K mg base 1 "_law_open" ["cabinet", "broken"] (spN K mg fn__law_open) := ok__law_open T d__law_open 
  have c__law_fault : Cal P w K mg base 6 "_law_fault" ["way", "cabinet", "broken"] (spD K mg fn__law_fault) := ok__law_fault T d__law_fault c_fewest_broken c_groups c_is_enough c_opened
  exact ok_law T F c__law_draws c__law_mix c__law_open c_fewest_broken c_opened c_is_enough c_groups c__law_fault plain
end
theorem top_mk {P : Program} {w : World} {K : PySem.W.Frag} {mg : Str → Option Value} {fa : Addr} (hfa : mg "law" = some (.ref fa))
    (d_is_set : Def K mg "is_set" (top 6) ["many", "told"]) (d_check_cabinet : Def K mg "check_cabinet" (top 7) ["cabinet"]) (d_check_broken : Def K mg "check_broken" (top 8) ["cabinet", "broken"]) (d_opened_of : Def K mg "opened_of" (top 9) ["cabinet", "broken"]) (d_opened : Def K mg "opened" (top 10) ["cabinet", "broken"]) (d_is_enough : Def K mg "is_enough" (top 11) ["cabinet", "broken"]) (d_groups_of : Def K mg "groups_of" (top 12) ["cabinet"]) (d_groups : Def K mg "groups" (top 13) ["cabinet"]) (d_fewest_broken : Def K mg "fewest_broken" (top 14) ["cabinet"]) (d__law_draws : Def K mg "_law_draws" (top 16) ["script"]) (d__law_mix : Def K mg "_law_mix" (top 17) ["draws", "k", "many"]) (d__law_open : Def K mg "_law_open" (top 18) ["cabinet", "broken"]) (d__law_fault : Def K mg "_law_fault" (top 19) ["way", "cabinet", "broken"]) (d_law : Def K mg "law" (top 20) ["script"])
    (m_abs : mg "abs" = none) (m_all : mg "all" = none) (m_enumerate : mg "enumerate" = none) (m_int : mg "int" = none) (m_len : mg "len" = none) (m_list : mg "list" = none) (m_min : mg "min" = none) (m_range : mg "range" = none) (m_repr : mg "repr" = none) (m_set : mg "set" = none) (m_sorted : mg "sorted" = none) (m_zip : mg "zip" = none) (r_MOST_DRAWERS : GlobV K mg "MOST_DRAWERS" gd_MOST_DRAWERS)
    {S0 fI0 : Addr} {C_WrongSize : Addr} {C_BadDrawer : Addr} (su : mg "super" = none) (i_0 : PySem.SeekX.InitTxt P K S0 fI0) (s_WrongSize : PySem.SeekX.SeekTxt K mg "WrongSize" C_WrongSize S0 fI0) (s_BadDrawer : PySem.SeekX.SeekTxt K mg "BadDrawer" C_BadDrawer S0 fI0) (p_WrongSize_WrongSize : Pair K mg "WrongSize" "WrongSize") (p_WrongSize_BadDrawer : Pair K mg "WrongSize" "BadDrawer") (p_BadDrawer_WrongSize : Pair K mg "BadDrawer" "WrongSize") (p_BadDrawer_BadDrawer : Pair K mg "BadDrawer" "BadDrawer")
    (plain : ∀ ns : List Int, ns.length ≤ 63 → isTrueOut (g_law (envS 20 ns)) = true) :
    ∃ fd : FuncData, (∀ (s : Shared) (v : Value), BindsTo s fd ⟨[v], []⟩ [("script", v)]) ∧ ∀ base : Heap, K.In base → base.Ns mainGlobals mg → FnG P w K mg base CX0 7 fa fd ["script"] (spLaw K) :=
  lawHead d_law hfa fun f fd base F => all_ok ⟨trivial, m_abs, m_all, m_enumerate, m_int, m_len, m_list, m_min, m_range, m_repr, m_set, m_sorted, m_zip, r_MOST_DRAWERS, err_of su i_0 s_WrongSize, err_of su i_0 s_BadDrawer, p_WrongSize_WrongSize, p_WrongSize_BadDrawer, p_BadDrawer_WrongSize, p_BadDrawer_BadDrawer⟩ d_is_set d_check_cabinet d_check_broken d_opened_of d_opened d_is_enough d_groups_of d_groups d_fewest_broken d__law_draws d__law_mix d__law_open d__law_fault d_law plain F
end k70
open PySem PySem.W PyProof.Rows
set_option maxRecDepth 100000 in
set_option maxHeartbeats 0 in
theorem PySem.Challenge.cw_hiddenandsought_k70_whole_keys_locked_in_holds : PySem.Challenge.rw_hiddenandsought_k70_whole_keys_locked_in.Holds := by
  w_on; o_law; k_head; (case hw => w_witness2)
  k_fill
  refine PD.walkG (l := PySem.Challenge.rw_hiddenandsought_k70_whole_keys_locked_in) (k := 7) rfl rfl ⟨rfl, by decide, by decide⟩ (fun w h Y => PySem.W.kIn_of Y) ?F
  case F =>
    intro w mg fa h KX G hmg
    refine' k70.top_mk hmg ?d_is_set ?d_check_cabinet ?d_check_broken ?d_opened_of ?d_opened ?d_is_enough ?d_groups_of ?d_groups ?d_fewest_broken ?d__law_draws ?d__law_mix ?d__law_open ?d__law_fault ?d_law ?m_abs ?m_all ?m_enumerate ?m_int ?m_len ?m_list ?m_min ?m_range ?m_repr ?m_set ?m_sorted ?m_zip ?r_MOST_DRAWERS ?su ?i_0 ?s_WrongSize ?s_BadDrawer ?p_WrongSize_WrongSize ?p_WrongSize_BadDrawer ?p_BadDrawer_WrongSize ?p_BadDrawer_BadDrawer k70.plain
    case d_is_set => (refine' PD.Def.mk' KX G ?a ?l ?c ?k (fun us hl => match us, hl with | [_, _], _ => rfl)); (case a => k_is); (case l => k_is); (case c => k_is); (case k => k_is)
    case d_check_cabinet => (refine' PD.Def.mk' KX G ?a ?l ?c ?k (fun us hl => match us, hl with | [_], _ => rfl)); (case a => k_is); (case l => k_is); (case c => k_is); (case k => k_is)
    case d_check_broken => (refine' PD.Def.mk' KX G ?a ?l ?c ?k (fun us hl => match us, hl with | [_, _], _ => rfl)); (case a => k_is); (case l => k_is); (case c => k_is); (case k => k_is)
    case d_opened_of => (refine' PD.Def.mk' KX G ?a ?l ?c ?k (fun us hl => match us, hl with | [_, _], _ => rfl)); (case a => k_is); (case l => k_is); (case c => k_is); (case k => k_is)
    case d_opened => (refine' PD.Def.mk' KX G ?a ?l ?c ?k (fun us hl => match us, hl with | [_, _], _ => rfl)); (case a => k_is); (case l => k_is); (case c => k_is); (case k => k_is)
    case d_is_enough => (refine' PD.Def.mk' KX G ?a ?l ?c ?k (fun us hl => match us, hl with | [_, _], _ => rfl)); (case a => k_is); (case l => k_is); (case c => k_is); (case k => k_is)
    case d_groups_of => (refine' PD.Def.mk' KX G ?a ?l ?c ?k (fun us hl => match us, hl with | [_], _ => rfl)); (case a => k_is); (case l => k_is); (case c => k_is); (case k => k_is)
    case d_groups => (refine' PD.Def.mk' KX G ?a ?l ?c ?k (fun us hl => match us, hl with | [_], _ => rfl)); (case a => k_is); (case l => k_is); (case c => k_is); (case k => k_is)
    case d_fewest_broken => (refine' PD.Def.mk' KX G ?a ?l ?c ?k (fun us hl => match us, hl with | [_], _ => rfl)); (case a => k_is); (case l => k_is); (case c => k_is); (case k => k_is)
    case d__law_draws => (refine' PD.Def.mk' KX G ?a ?l ?c ?k (fun us hl => match us, hl with | [_], _ => rfl)); (case a => k_is); (case l => k_is); (case c => k_is); (case k => k_is)
    case d__law_mix => (refine' PD.Def.mk' KX G ?a ?l ?c ?k (fun us hl => match us, hl with | [_, _, _], _ => rfl)); (case a => k_is); (case l => k_is); (case c => k_is); (case k => k_is)
    case d__law_open => (refine' PD.Def.mk' KX G ?a ?l ?c ?k (fun us hl => match us, hl with | [_, _], _ => rfl)); (case a => k_is); (case l => k_is); (case c => k_is); (case k => k_is)
    case d__law_fault => (refine' PD.Def.mk' KX G ?a ?l ?c ?k (fun us hl => match us, hl with | [_, _, _], _ => rfl)); (case a => k_is); (case l => k_is); (case c => k_is); (case k => k_is)
    case d_law => (refine' PD.Def.mk' KX G ?a ?l ?c ?k (fun us hl => match us, hl with | [_], _ => rfl)); (case a => k_is); (case l => k_is); (case c => k_is); (case k => k_is)
    case m_abs => (refine' PySem.W.mg_none_of KX G ?a); (case a => k_is)
    case m_all => (refine' PySem.W.mg_none_of KX G ?a); (case a => k_is)
    case m_enumerate => (refine' PySem.W.mg_none_of KX G ?a); (case a => k_is)
    case m_int => (refine' PySem.W.mg_none_of KX G ?a); (case a => k_is)
    case m_len => (refine' PySem.W.mg_none_of KX G ?a); (case a => k_is)
    case m_list => (refine' PySem.W.mg_none_of KX G ?a); (case a => k_is)
    case m_min => (refine' PySem.W.mg_none_of KX G ?a); (case a => k_is)
    case m_range => (refine' PySem.W.mg_none_of KX G ?a); (case a => k_is)
    case m_repr => (refine' PySem.W.mg_none_of KX G ?a); (case a => k_is)
    case m_set => (refine' PySem.W.mg_none_of KX G ?a); (case a => k_is)
    case m_sorted => (refine' PySem.W.mg_none_of KX G ?a); (case a => k_is)
    case m_zip => (refine' PySem.W.mg_none_of KX G ?a); (case a => k_is)
    case r_MOST_DRAWERS => (refine' PD.GlobV.int KX G ?a); (case a => k_is)
    case su => (refine' PySem.W.mg_none_of KX G ?a); (case a => k_is)
    case i_0 => (refine' PD.initTxt ?aS ?iS ?l1 ?c1 ?ln ?lc ?v2 ?hf ?cell ?isS ?top ?tp); (case aS => k_is); (case iS => k_is); (case l1 => k_is); (case c1 => k_is); (case ln => rfl); (case lc => k_is); (case v2 => rfl); (case hf => first | rfl | decide +kernel); (case cell => k_is); (case isS => k_is); (case top => first | rfl | decide +kernel); (case tp => k_is)
    case s_WrongSize => (refine' PD.seekTxt KX G ?aC ?xL ?rV ?sa ?ga ?gg ?no ?iC ?tC ?kC ?exC ?veC ?tyC ?hdC ?msS ?sup); (case aC => k_is); (case xL => k_is); (case rV => decide +kernel); (case sa => k_is); (case ga => k_is); (case gg => k_is); (case no => k_is); (case iC => k_is); (case tC => k_is); (case kC => k_is); (case exC => k_is); (case veC => k_is); (case tyC => k_is); (case hdC => k_is); (case msS => k_is); (case sup => first | ks_is | rfl | decide +kernel)
    case s_BadDrawer => (refine' PD.seekTxt KX G ?aC ?xL ?rV ?sa ?ga ?gg ?no ?iC ?tC ?kC ?exC ?veC ?tyC ?hdC ?msS ?sup); (case aC => k_is); (case xL => k_is); (case rV => decide +kernel); (case sa => k_is); (case ga => k_is); (case gg => k_is); (case no => k_is); (case iC => k_is); (case tC => k_is); (case kC => k_is); (case exC => k_is); (case veC => k_is); (case tyC => k_is); (case hdC => k_is); (case msS => k_is); (case sup => first | ks_is | rfl | decide +kernel)
    case p_WrongSize_WrongSize => (refine' PD.pair_of (b := true) KX G ?aC ?aY ?s ?hb); (case aC => k_is); (case aY => k_is); (case s => first | k_is | rfl | decide +kernel); (case hb => decide)
    case p_WrongSize_BadDrawer => (refine' PD.pair_of (b := false) KX G ?aC ?aY ?s ?hb); (case aC => k_is); (case aY => k_is); (case s => first | k_is | rfl | decide +kernel); (case hb => decide)
    case p_BadDrawer_WrongSize => (refine' PD.pair_of (b := false) KX G ?aC ?aY ?s ?hb); (case aC => k_is); (case aY => k_is); (case s => first | k_is | rfl | decide +kernel); (case hb => decide)
    case p_BadDrawer_BadDrawer => (refine' PD.pair_of (b := true) KX G ?aC ?aY ?s ?hb); (case aC => k_is); (case aY => k_is); (case s => first | k_is | rfl | decide +kernel); (case hb => decide)

