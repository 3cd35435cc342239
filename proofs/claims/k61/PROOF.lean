import PyProof.Rows.All
import Wide.All
import OpenK.AllK
import Wide.FinOn
import HandS.ForMost
import HandS.Flow
import KE.DataEq
import KE.DataCmp
import HandS.CallSlots
import HandS.TryOnly
import HandS.TupAny
import HandS.Style
import HandS.Star
import HandS.Wide
import KE.DataAny
import KE.DataMinMax
import KE.DataFind
import KE.SortData
import PyProof.ReprRoads
import HandS.Text
import KE.GoesZip
import KE.GoesMore
import HandS.Zip
import HandS.Conv
import HandS.RaiseMore
import PyProof.ReprLen
import PyProof.Claim2Refuses
import HandS.Ends
import HandS.Words
import PySem.Challenge.RW_hiddenandsought_k61_whole_rows_that_meet
set_option Elab.async false
set_option linter.all false
set_option maxRecDepth 100000
set_option maxHeartbeats 4000000
set_option autoImplicit false
/-! Plain data: every def of the text as a plain function over PyData. Part 1: results, relations, environments, readings. -/
namespace PD
open PySem PySem.Spec PyProof.Rows L2

/-! ### results -/
inductive Rs (α : Type) where
  | ok (a : α)
  | er (c : Str) (a : Int)
  | no
namespace Rs
variable {α β γ : Type}
def bind (r : Rs α) (k : α → Rs β) : Rs β := match r with
  | .ok a => k a
  | .er c n => .er c n
  | .no => .no
def quiet (r : Rs α) : Rs α := match r with
  | .ok a => .ok a
  | _ => .no
def ofO (o : Option α) : Rs α := match o with
  | some a => .ok a
  | none => .no
@[simp] theorem bind_ok (a : α) (k : α → Rs β) : (Rs.ok a).bind k = k a := rfl
@[simp] theorem bind_er (c : Str) (n : Int) (k : α → Rs β) : (Rs.er c n : Rs α).bind k = .er c n := rfl
@[simp] theorem bind_no (k : α → Rs β) : (Rs.no : Rs α).bind k = .no := rfl
theorem bind_assoc (r : Rs α) (k : α → Rs β) (l : β → Rs γ) : (r.bind k).bind l = r.bind fun a => (k a).bind l := by cases r <;> rfl
@[simp] theorem ofO_some (a : α) : ofO (some a) = .ok a := rfl
@[simp] theorem ofO_none : ofO (none : Option α) = .no := rfl
@[simp] theorem quiet_ok (a : α) : (Rs.ok a).quiet = .ok a := rfl
end Rs

abbrev D := PyData

/-! ### values that stand for data -/
mutual
inductive Rp (K : PySem.W.Frag) (H : Hp) : V → D → Prop
  | non : Rp K H .non .none
  | bl (b : Bool) : Rp K H (.bl b) (.bool b)
  | int (i : Int) : Rp K H (.int i) (.int i)
  | str (x : Str) : Rp K H (.str x) (.str x)
  | lst {a : Addr} {xs : List V} {ds : List D} : H a = some (.lst xs) → RpAll K H xs ds → Rp K H (.ref a) (.list ds)
  | tup {a : Addr} {xs : List V} {ds : List D} : SqT K H a xs → RpAll K H xs ds → Rp K H (.ref a) (.tuple ds)
inductive RpAll (K : PySem.W.Frag) (H : Hp) : List V → List D → Prop
  | nil : RpAll K H [] []
  | cons {v : V} {vs : List V} {d : D} {ds : List D} : Rp K H v d → RpAll K H vs ds → RpAll K H (v :: vs) (d :: ds)
end

theorem Same.sqt {K : PySem.W.Frag} {H H' : Hp} {a : Addr} {xs : List V} (e : Same H H') (h : SqT K H a xs) : SqT K H' a xs := by
  rcases h with (h | ⟨o, h⟩) | h
  · exact .inl (.inl (e _ _ h))
  · exact .inl (.inr ⟨o, e _ _ h⟩)
  · exact .inr h

section
variable {K : PySem.W.Frag} {H H' : Hp}
mutual
theorem Rp.mono (s : Same H H') : ∀ (d : D) (v : V), Rp K H v d → Rp K H' v d
  | .none, _, h => by cases h; exact .non
  | .bool _, _, h => by cases h; exact .bl _
  | .int _, _, h => by cases h; exact .int _
  | .str _, _, h => by cases h; exact .str _
  | .list ds, _, h => by
    cases h with
    | lst e r => exact .lst (s _ _ e) (RpAll.mono s ds _ r)
  | .tuple ds, _, h => by
    cases h with
    | tup e r => exact .tup (Same.sqt s e) (RpAll.mono s ds _ r)
  | .dict _, _, h => by cases h
theorem RpAll.mono (s : Same H H') : ∀ (ds : List D) (vs : List V), RpAll K H vs ds → RpAll K H' vs ds
  | [], _, h => by cases h; exact .nil
  | d :: ds, _, h => by
    cases h with
    | cons a b => exact .cons (Rp.mono s d _ a) (RpAll.mono s ds _ b)
end
mutual
theorem Rp.dp : ∀ (d : D) (v : V), Rp K H v d → Dp K H v d
  | .none, _, h => by cases h; exact .non
  | .bool _, _, h => by cases h; exact .bl _
  | .int _, _, h => by cases h; exact .int _
  | .str _, _, h => by cases h; exact .str _
  | .list ds, _, h => by
    cases h with
    | lst e r => exact .lst (SqL.of e) (RpAll.dp ds _ r)
  | .tuple ds, _, h => by
    cases h with
    | tup e r => exact .tup e (RpAll.dp ds _ r)
  | .dict _, _, h => by cases h
theorem RpAll.dp : ∀ (ds : List D) (vs : List V), RpAll K H vs ds → DpAll K H vs ds
  | [], _, h => by cases h; exact .nil
  | d :: ds, _, h => by
    cases h with
    | cons a b => exact .cons (Rp.dp d _ a) (RpAll.dp ds _ b)
end
theorem RpAll.length : ∀ {ds : List D} {vs : List V}, RpAll K H vs ds → vs.length = ds.length
  | [], _, h => by cases h; rfl
  | _ :: _, _, h => by
    cases h with
    | cons a b => simp [b.length]
theorem RpAll.get : ∀ {ds : List D} {vs : List V} {i : Nat} {d : D}, RpAll K H vs ds → ds[i]? = some d → ∃ v, vs[i]? = some v ∧ Rp K H v d
  | [], _, _, _, _, e => by simp at e
  | _ :: _, _, 0, _, h, e => by
    cases h with
    | cons a b => simp at e; subst e; exact ⟨_, rfl, a⟩
  | _ :: _, _, i + 1, _, h, e => by
    cases h with
    | cons a b =>
      obtain ⟨v, h1, h2⟩ := b.get (i := i) (by simpa using e)
      exact ⟨v, by simpa using h1, h2⟩
theorem RpAll.append : ∀ {ds es : List D} {vs ws : List V}, RpAll K H vs ds → RpAll K H ws es → RpAll K H (vs ++ ws) (ds ++ es)
  | [], _, _, _, h, k => by cases h; exact k
  | _ :: _, _, _, _, h, k => by
    cases h with
    | cons a b => exact .cons a (b.append k)
theorem RpAll.take : ∀ {ds : List D} {vs : List V} (n : Nat), RpAll K H vs ds → RpAll K H (vs.take n) (ds.take n)
  | _, _, 0, _ => by simpa using RpAll.nil
  | [], _, n + 1, h => by cases h; exact .nil
  | _ :: _, _, n + 1, h => by
    cases h with
    | cons a b => exact .cons a (b.take n)
theorem RpAll.drop : ∀ {ds : List D} {vs : List V} (n : Nat), RpAll K H vs ds → RpAll K H (vs.drop n) (ds.drop n)
  | _, _, 0, h => h
  | [], _, n + 1, h => by cases h; exact .nil
  | _ :: _, _, n + 1, h => by
    cases h with
    | cons a b => exact b.drop n
theorem RpAll.reverse : ∀ {ds : List D} {vs : List V}, RpAll K H vs ds → RpAll K H vs.reverse ds.reverse
  | [], _, h => by cases h; exact .nil
  | _ :: _, _, h => by
    cases h with
    | cons a b =>
      rw [List.reverse_cons, List.reverse_cons]
      exact b.reverse.append (.cons a .nil)
theorem RpAll.set : ∀ {ds : List D} {vs : List V} (i : Nat) {v : V} {d : D}, Rp K H v d → RpAll K H vs ds → RpAll K H (vs.set i v) (ds.set i d)
  | [], _, _, _, _, _, h => by cases h; exact .nil
  | _ :: _, _, 0, _, _, r, h => by
    cases h with
    | cons a b => exact .cons r b
  | _ :: _, _, i + 1, _, _, r, h => by
    cases h with
    | cons a b => exact .cons a (b.set i r)
theorem RpAll.eraseIdx : ∀ {ds : List D} {vs : List V} (i : Nat), RpAll K H vs ds → RpAll K H (vs.eraseIdx i) (ds.eraseIdx i)
  | [], _, _, h => by cases h; exact .nil
  | _ :: _, _, 0, h => by
    cases h with
    | cons a b => exact b
  | _ :: _, _, i + 1, h => by
    cases h with
    | cons a b => exact .cons a (b.eraseIdx i)
theorem RpAll.dropLast {ds : List D} {vs : List V} (h : RpAll K H vs ds) : RpAll K H vs.dropLast ds.dropLast := by
  rw [List.dropLast_eq_take, List.dropLast_eq_take, h.length]
  exact h.take _
theorem RpAll.rep {ds : List D} {vs : List V} (h : RpAll K H vs ds) : ∀ k : Nat, RpAll K H (List.replicate k vs).flatten (List.replicate k ds).flatten
  | 0 => .nil
  | k + 1 => by
    rw [List.replicate_succ, List.replicate_succ, List.flatten_cons, List.flatten_cons]
    exact h.append (h.rep k)
theorem RpAll.mem : ∀ {ds : List D} {vs : List V} {v : V}, RpAll K H vs ds → v ∈ vs → ∃ d, d ∈ ds ∧ Rp K H v d
  | [], _, _, h, m => by cases h; cases m
  | _ :: _, _, _, h, m => by
    cases h with
    | cons a b =>
      rcases List.mem_cons.mp m with e | m
      · subst e; exact ⟨_, List.mem_cons_self, a⟩
      · obtain ⟨d, h1, h2⟩ := b.mem m
        exact ⟨d, List.mem_cons_of_mem _ h1, h2⟩
end

/-! ### the heap grows -/
structure Ext (F H F' H' : Hp) : Prop where
  f : Same F F'
  h : Same H H'
  s : Same F' H'
  n : ∀ a o, F' a = some o → F a = some o ∨ H a = none
section
variable {F H F1 H1 F2 H2 : Hp}
theorem Ext.refl (s : Same F H) : Ext F H F H := ⟨Same.refl _, Same.refl _, s, fun _ _ e => .inl e⟩
theorem Ext.trans (a : Ext F H F1 H1) (b : Ext F1 H1 F2 H2) : Ext F H F2 H2 :=
  ⟨a.f.trans b.f, a.h.trans b.h, b.s, fun c o e => by
    rcases b.n c o e with h | h
    · exact a.n c o h
    · exact .inr (a.h.free h)⟩
/-- a new object, frozen -/
theorem same_upd {p : Addr} {o : HO} (h : H p = none) : Same H (upd H p o) := fun b x e => by
  rw [upd_ne (ne_of_none e h)]
  exact e
theorem Ext.new {p : Addr} {o : HO} (s : Same F H) (h : H p = none) : Ext F H (upd F p o) (upd H p o) := by
  refine ⟨same_upd (s.free h), same_upd h, fun b x e => ?_, fun a x e => ?_⟩
  · by_cases q : b = p
    · subst q; rw [upd_same] at e; rw [upd_same]; exact e
    · rw [upd_ne q] at e; rw [upd_ne q]; exact s _ _ e
  · by_cases q : a = p
    · subst q; exact .inr h
    · rw [upd_ne q] at e; exact .inl e
/-- .. not frozen -/
theorem Ext.laid {p : Addr} {o : HO} (s : Same F H) (h : H p = none) : Ext F H F (upd H p o) :=
  ⟨Same.refl _, same_upd h, s.trans (same_upd h), fun _ _ e => .inl e⟩
end

/-! ### environments -/
inductive Sl where
  | un
  | sh (d : D)
  | own (l : List D)
  | scr (ns : List Int)

structure Ct where
  G : Hp
  H : Hp
  E : L2.St → XK
abbrev Ct.nox (C : Ct) : Ct := { C with E := fun _ => E0 }

def SlR (K : PySem.W.Frag) (C : Ct) (F H : Hp) (v : Option (Option V)) : Sl → Prop
  | .un => True
  | .sh d => ∃ x, v = some (some x) ∧ Rp K F x d
  | .own l => ∃ a xs, v = some (some (.ref a)) ∧ H a = some (.lst xs) ∧ F a = none ∧ C.H a = none ∧ RpAll K F xs l
  | .scr ns => ∃ a, v = some (some (.ref a)) ∧ SqL K C.H a (ns.map V.int)

structure REnv (K : PySem.W.Frag) (C : Ct) (F : Hp) (σ : L2.St) (H : Hp) (env : List Sl) : Prop where
  ext : Ext C.G C.H F H
  len : σ.length = env.length
  get : ∀ (i : Nat) (s : Sl), env[i]? = some s → SlR K C F H σ[i]? s
  apart : ∀ (i j : Nat) (l m : List D), i ≠ j → env[i]? = some (.own l) → env[j]? = some (.own m) → σ[i]? ≠ σ[j]?

section
variable {K : PySem.W.Frag} {C : Ct} {F H F' H' : Hp} {σ : L2.St} {env : List Sl}
theorem SlR.ext {v : Option (Option V)} {s : Sl} (e : Ext F H F' H') (h : SlR K C F H v s) : SlR K C F' H' v s := by
  cases s with
  | un => trivial
  | sh d => obtain ⟨x, h1, h2⟩ := h; exact ⟨x, h1, Rp.mono e.f _ _ h2⟩
  | own l =>
    obtain ⟨a, xs, h1, h2, h3, h4, h5⟩ := h
    refine ⟨a, xs, h1, e.h _ _ h2, ?_, h4, RpAll.mono e.f _ _ h5⟩
    cases q : F' a with
    | none => rfl
    | some o =>
      rcases e.n _ _ q with z | z
      · rw [h3] at z; cases z
      · rw [h2] at z; cases z
  | scr ns => exact h
theorem REnv.go (r : REnv K C F σ H env) (e : Ext F H F' H') : REnv K C F' σ H' env :=
  ⟨r.ext.trans e, r.len, fun i s h => (r.get i s h).ext e, r.apart⟩
theorem REnv.same (r : REnv K C F σ H env) : Same F H := r.ext.s
theorem REnv.sh {i : Nat} {d : D} (r : REnv K C F σ H env) (h : env[i]? = some (.sh d)) : ∃ x, σ[i]? = some (some x) ∧ Rp K F x d := r.get i _ h
theorem REnv.own {i : Nat} {l : List D} (r : REnv K C F σ H env) (h : env[i]? = some (.own l)) : ∃ a xs, σ[i]? = some (some (.ref a)) ∧ H a = some (.lst xs) ∧ F a = none ∧ C.H a = none ∧ RpAll K F xs l := r.get i _ h
/-- a name is stored -/
theorem REnv.set {i : Nat} {v : V} {s : Sl} (r : REnv K C F σ H env) (h : SlR K C F H (some (some v)) s) (ho : ∀ (l : List D), s = .own l → ∀ (j : Nat), σ[j]? = some (some v) → ∀ (m : List D), env[j]? ≠ some (.own m)) : REnv K C F (σ.set i (some v)) H (env.set i s) := by
  refine ⟨r.ext, by rw [List.length_set, List.length_set]; exact r.len, fun j t e => ?_, fun j k l m ne e1 e2 => ?_⟩
  · by_cases q : i = j
    · subst q
      have hi : i < env.length := by
        rcases Nat.lt_or_ge i env.length with z | z
        · exact z
        · rw [List.getElem?_eq_none (by rw [List.length_set]; exact z)] at e; cases e
      rw [List.getElem?_set_self hi] at e
      cases e
      rw [List.getElem?_set_self (by rw [r.len]; exact hi)]
      exact h
    · rw [List.getElem?_set_ne q] at e ⊢
      exact r.get j t e
  · have key : ∀ (j k : Nat) (l m : List D), i = j → i ≠ k → (env.set i s)[j]? = some (.own l) → (env.set i s)[k]? = some (.own m) → (σ.set i (some v))[j]? ≠ (σ.set i (some v))[k]? := by
      intro j k l m e ne e1 e2
      subst e
      rw [List.getElem?_set_ne ne] at e2 ⊢
      have hi : i < env.length := by
        rcases Nat.lt_or_ge i env.length with z | z
        · exact z
        · rw [List.getElem?_eq_none (by rw [List.length_set]; exact z)] at e1; cases e1
      rw [List.getElem?_set_self hi] at e1
      rw [List.getElem?_set_self (by rw [r.len]; exact hi)]
      intro z
      exact ho l (Option.some.inj e1) k z.symm m e2
    by_cases q : i = j
    · exact key j k l m q (fun z => ne (q.symm.trans z)) e1 e2
    · by_cases q2 : i = k
      · exact fun z => key k j m l q2 q e2 e1 z.symm
      · rw [List.getElem?_set_ne q] at e1 ⊢
        rw [List.getElem?_set_ne q2] at e2 ⊢
        exact r.apart j k l m ne e1 e2
theorem REnv.setSh {i : Nat} {v : V} {d : D} (r : REnv K C F σ H env) (h : Rp K F v d) : REnv K C F (σ.set i (some v)) H (env.set i (.sh d)) :=
  r.set ⟨v, rfl, h⟩ fun l e => by cases e
/-- a new list is stored -/
theorem REnv.setOwn {i : Nat} {p : Addr} {xs : List V} {l : List D} (r : REnv K C F σ H env) (h : H p = some (.lst xs)) (hf : F p = none) (hc : C.H p = none) (ha : RpAll K F xs l)
    (ho : ∀ (j : Nat) (m : List D), σ[j]? = some (some (.ref p)) → env[j]? ≠ some (.own m)) : REnv K C F (σ.set i (some (.ref p))) H (env.set i (.own l)) :=
  r.set ⟨p, xs, rfl, h, hf, hc, ha⟩ fun _ _ j e m => ho j m e
end

/-! ### readings -/
abbrev Rel (β α : Type) := Hp → Hp → Hp → Hp → β → α → Prop
def RMono {β α : Type} (R : Rel β α) : Prop := ∀ F H F1 H1 F' H' b a, Ext F H F1 H1 → Ext F1 H1 F' H' → R F1 H1 F' H' b a → R F H F' H' b a
/-- what is wanted of an exception -/
def XW (mg : Str → Option Value) (C : Ct) (σ : L2.St) (H : Hp) (c : Str) (n : Int) : Prop := ∀ u H' dx, mg c = some u → Same H H' → H dx = none → H' dx = some (.xd [("at", .int n)]) → C.E σ u (some dx) H'
def Sat {α β : Type} (mg : Str → Option Value) (C : Ct) (R : Rel β α) (r : Rs α) (σ : L2.St) (F H : Hp) (Q : β → Hp → Prop) : Prop := match r with
  | .ok a => ∀ b H' F', Ext F H F' H' → R F H F' H' b a → Q b H'
  | .er c n => XW mg C σ H c n
  | .no => False
def RD (K : PySem.W.Frag) : Rel V D := fun _ _ F' _ v d => Rp K F' v d
def RDs (K : PySem.W.Frag) : Rel (List V) (List D) := fun _ _ F' _ v d => RpAll K F' v d
def RB : Rel Bool Bool := fun _ _ _ _ b c => b = c
/-- a new list -/
def RN (K : PySem.W.Frag) : Rel V D := fun _ H F' H' v d => ∃ p xs l, v = .ref p ∧ d = .list l ∧ H' p = some (.lst xs) ∧ F' p = none ∧ H p = none ∧ RpAll K F' xs l
theorem RD.mono {K : PySem.W.Frag} : RMono (RD K) := fun _ _ _ _ _ _ _ _ _ _ h => h
theorem RDs.mono {K : PySem.W.Frag} : RMono (RDs K) := fun _ _ _ _ _ _ _ _ _ _ h => h
theorem RB.mono : RMono RB := fun _ _ _ _ _ _ _ _ _ _ h => h
theorem RN.mono {K : PySem.W.Frag} : RMono (RN K) := fun _ _ _ _ _ _ _ _ e _ ⟨p, xs, l, a, b, c, d, f, g⟩ => ⟨p, xs, l, a, b, c, d, e.h.free f, g⟩

section
variable {mg : Str → Option Value} {K : PySem.W.Frag} {C : Ct} {F H F' H' : Hp} {σ : L2.St} {env : List Sl} {α β γ δ : Type}
theorem XW.mono {c : Str} {n : Int} (s : Same H H') (h : XW mg C σ H c n) : XW mg C σ H' c n := fun u H2 dx m s2 e x => h u H2 dx m (s.trans s2) (s.free e) x
theorem Sat.imp {R : Rel β α} {r : Rs α} {Q Q' : β → Hp → Prop} (h : Sat mg C R r σ F H Q) (i : ∀ b H', Q b H' → Q' b H') : Sat mg C R r σ F H Q' := by
  cases r with
  | ok a => exact fun b H' F' e q => i _ _ (h b H' F' e q)
  | er c n => exact h
  | no => exact h
theorem Sat.go {R : Rel β α} {r : Rs α} {Q : β → Hp → Prop} (m : RMono R) (h : Sat mg C R r σ F H Q) (e : Ext F H F' H') : Sat mg C R r σ F' H' Q := by
  cases r with
  | ok a => exact fun b H2 F2 e2 q => h b H2 F2 (e.trans e2) (m _ _ _ _ _ _ _ _ e e2 q)
  | er c n => exact XW.mono e.h h
  | no => exact h
theorem Sat.bind {R : Rel β α} {R' : Rel δ γ} {r : Rs α} {k : α → Rs γ} {P : β → Hp → Prop} {Q : δ → Hp → Prop} (m : RMono R') (h : Sat mg C R' (r.bind k) σ F H Q)
    (hk : ∀ a b F1 H1, Ext F H F1 H1 → R F H F1 H1 b a → Sat mg C R' (k a) σ F1 H1 Q → P b H1) : Sat mg C R r σ F H P := by
  cases r with
  | ok a => exact fun b H1 F1 e q => hk a b F1 H1 e q (Sat.go m h e)
  | er c n => exact h
  | no => exact h
theorem Sat.ofO {R : Rel β α} {o : Option α} {Q : β → Hp → Prop} (h : Sat mg C R (Rs.ofO o) σ F H Q) : ∃ a, o = some a ∧ ∀ b H' F', Ext F H F' H' → R F H F' H' b a → Q b H' := by
  cases o with
  | none => exact h.elim
  | some a => exact ⟨a, rfl, h⟩
end

abbrev FE := List Sl → Rs D
abbrev FB := List Sl → Rs Bool
abbrev FA := List Sl → Rs (List D)
section
variable (K : PySem.W.Frag) (mg : Str → Option Value) (C : Ct)
def T (f : FE) : TE := fun σ H Q => ∃ F env, REnv K C F σ H env ∧ Sat mg C (RD K) (f env) σ F H Q
def TN (f : FE) : TE := fun σ H Q => ∃ F env, REnv K C F σ H env ∧ Sat mg C (RN K) (f env) σ F H Q
def TB (f : FB) : TT := fun σ H Q => ∃ F env, REnv K C F σ H env ∧ Sat mg C RB (f env) σ F H Q
def TL (f : FA) : TA := fun σ H Q => ∃ F env, REnv K C F σ H env ∧ Sat mg C (RDs K) (f env) σ F H Q
end
abbrev VE (X : Cx) (C : Ct) (e : Expr) (f : FE) : Prop := PE X e (T X.K X.mg C f)
abbrev VN (X : Cx) (C : Ct) (e : Expr) (f : FE) : Prop := PE X e (TN X.K X.mg C f)
abbrev VB (X : Cx) (C : Ct) (e : Expr) (f : FB) : Prop := PT X e (TB X.K X.mg C f)
abbrev VA (X : Cx) (C : Ct) (es : List Expr) (f : FA) : Prop := PA X es (TL X.K X.mg C f)

section
variable {X : Cx} {C : Ct} {e : Expr} {es : List Expr}
/-- another reading, a stronger one -/
theorem PE.of {t u : TE} (h : PE X e t) (i : ∀ σ H Q, u σ H Q → t σ H Q) : PE X e u := ⟨fun pins s σ H Q I q => h.run pins s σ H Q I (i _ _ _ q)⟩
theorem PT.of {t u : TT} (h : PT X e t) (i : ∀ σ H Q, u σ H Q → t σ H Q) : PT X e u := ⟨fun pins s σ H Q I q => h.run pins s σ H Q I (i _ _ _ q)⟩
theorem PA.of {t u : TA} (h : PA X es t) (i : ∀ σ H Q, u σ H Q → t σ H Q) : PA X es u := ⟨fun pos pins s σ H Q I q => h.run pos pins s σ H Q I (i _ _ _ q)⟩
/-- a new list, frozen -/
theorem VN.ve {f : FE} (h : VN X C e f) : VE X C e f := PE.of h fun σ H Q ⟨F, env, r, q⟩ => ⟨F, env, r, by
  revert q
  cases f env with
  | ok d =>
    intro q b H' F' x ⟨p, xs, l, e1, e2, e3, e4, e5, e6⟩
    subst e1 e2
    have x2 : Ext F H (upd F' p (.lst xs)) H' := by
      refine ⟨fun b o z => ?_, x.h, fun b o z => ?_, fun b o z => ?_⟩
      · rw [upd_ne (ne_of_none (x.f _ _ z) e4)]
        exact x.f _ _ z
      · by_cases q : b = p
        · subst q; rw [upd_same] at z; rw [← z]; exact e3
        · rw [upd_ne q] at z; exact x.s _ _ z
      · by_cases q : b = p
        · subst q; exact .inr e5
        · rw [upd_ne q] at z; exact x.n _ _ z
    refine q _ H' _ x2 (.lst (a := p) (xs := xs) upd_same (RpAll.mono (same_upd e4) _ _ e6))
  | er c n => exact fun q => q
  | no => exact fun q => q⟩
end
end PD

/-! Part 2: expressions -/
namespace PD
open PySem PySem.Spec PyProof.Rows L2

/-- what a body stands on -/
structure Am (X : Cx) : Prop where
  g : X.A.guards = some []
  r : Room 0 X.A
  c : X.calm = true
  n : X.N.Nodup

def LINE : Nat := 16777216
theorem line_eq : sizeLine = LINE := sizeLine_eq

/-! ### names, constants -/
def fVar (i : Nat) : FE := fun env => match env[i]? with
  | some (.sh d) => .ok d
  | _ => .no
def fC (d : D) : FE := fun _ => .ok d
section
variable {X : Cx} {C : Ct} {x : Str} {pos : Pos}
theorem ve_var (i : Nat) (hN : X.N[i]? = some x := by rfl) (hv : Vis X.env.scope x := by first | exact Or.inl rfl | exact Or.inr (Or.inl rfl) | exact Or.inr (Or.inr rfl)) (hd : (x == ("__debug__" : Str)) = false := by decide)
    (hcd : (x == ("__classdict__" : Str)) = false := by decide) : VE X C (.Name x pos) (fVar i) := PE.of (pe_var hN hv hd hcd) fun σ H Q ⟨F, env, r, q⟩ => by
  unfold fVar at q
  split at q
  · rename_i d e
    obtain ⟨v, h1, h2⟩ := r.sh e
    exact ⟨v, h1, q v H F (Ext.refl r.same) h2⟩
  · exact q.elim
theorem ve_c {e : Expr} {v : V} {d : D} (h : PE X e (tC v)) (hv : ∀ H, Rp X.K H v d) : VE X C e (fC d) := PE.of h fun σ H Q ⟨F, env, r, q⟩ => q v H F (Ext.refl r.same) (hv F)
theorem ve_int {i : Int} {j : Nat} : VE X C (.Constant (.int i) j pos) (fC (.int i)) := ve_c pe_int fun _ => .int i
theorem ve_bl {b : Bool} {j : Nat} : VE X C (.Constant (.bool b) j pos) (fC (.bool b)) := ve_c pe_bl fun _ => .bl b
theorem ve_non {j : Nat} : VE X C (.Constant .none j pos) (fC .none) := ve_c pe_non fun _ => .non
theorem ve_str {s : Str} {j : Nat} : VE X C (.Constant (.str s) j pos) (fC (.str s)) := ve_c pe_str fun _ => .str s
theorem ve_glob {v : V} {u : Value} {d : D} (hg : Gl X x) (hm : X.mg x = some u) (r : RelV v u) (hv : ∀ H, Rp X.K H v d) (hd : (x == ("__debug__" : Str)) = false := by decide) : VE X C (.Name x pos) (fC d) := ve_c (pe_glob hg hm r hd) hv
end

/-! ### operations on two values -/
def V2 (K : PySem.W.Frag) (r : R2) (g : D → D → Option D) : Prop := ∀ (F H : Hp) (x y : V) (d e c : D) (Q : VK), Same F H → Rp K F x d → Rp K F y e → g d e = some c → (∀ v H' F', Ext F H F' H' → Rp K F' v c → Q v H') → r x y H Q
def f2 (g : D → D → Option D) (f f' : FE) : FE := fun env => (f env).bind fun a => (f' env).bind fun b => Rs.ofO (g a b)
section
variable {X : Cx} {C : Ct} {K : PySem.W.Frag} {mg : Str → Option Value} {σ : L2.St} {H : Hp} {Q : VK} {f f' : FE} {r : R2} {g : D → D → Option D} {a b : Expr} {pos : Pos}
theorem t_op2 (hv : V2 K r g) : T K mg C (f2 g f f') σ H Q → tOp r (T K mg C f) (T K mg C f') σ H Q := fun ⟨F, env, re, q⟩ =>
  ⟨F, env, re, Sat.bind RD.mono q fun d v F1 H1 x1 r1 q1 => ⟨F1, env, re.go x1, Sat.bind RD.mono q1 fun e w F2 H2 x2 r2 q2 => by
    obtain ⟨c, hc, q3⟩ := Sat.ofO q2
    exact hv F2 H2 v w d e c Q (re.go (x1.trans x2)).same (Rp.mono x2.f _ _ r1) r2 hc q3⟩⟩
theorem ve_op {op : Operator} (ho : OpR X (binaryOp op) r) (hv : V2 X.K r g) (ha : VE X C a f) (hb : VE X C b f') : VE X C (.BinOp a op b pos) (f2 g f f') := PE.of (pe_op ho ha hb) fun _ _ _ => t_op2 hv
theorem ve_cmp {op : CmpOp} (ho : OpR X (compareOp op) r) (hv : V2 X.K r g) (ha : VE X C a f) (hb : VE X C b f') (hm : behindInMarks op b = false := by first | exact nomark _ | with_unfolding_all rfl) : VE X C (.Compare a [op] [b] pos) (f2 g f f') := PE.of (pe_cmpR ho ha hb hm) fun _ _ _ => t_op2 hv
end

/-! ### tests -/
def asB : D → Rs Bool
  | .bool b => .ok b
  | _ => .no
def fB (f : FE) : FB := fun env => (f env).bind asB
def truD : D → Option Bool
  | .none => some false
  | .bool b => some b
  | .int i => some (i != 0)
  | .str x => if x.length ≤ LINE then some ((x.length : Int) != 0) else none
  | .list l => some (!l.isEmpty)
  | .tuple l => some (!l.isEmpty)
  | .dict _ => none
def fTru (f : FE) : FB := fun env => (f env).bind fun d => Rs.ofO (truD d)
section
variable {X : Cx} {C : Ct} {K : PySem.W.Frag} {mg : Str → Option Value} {σ : L2.St} {H : Hp} {f f' : FE} {g g' : FB} {r r' : R2} {a b c : Expr} {rest : List Expr} {pos : Pos}
theorem Rp.isB {F : Hp} {v : V} {b : Bool} (h : Rp K F v (.bool b)) : v = .bl b := by cases h; rfl
theorem t_test {Q : Bool → Hp → Prop} : TB K mg C (fB f) σ H Q → T K mg C f σ H fun x H' => ∃ k, x = .bl k ∧ Q k H' := fun ⟨F, env, re, q⟩ =>
  ⟨F, env, re, Sat.bind RB.mono q fun d v F1 H1 x1 r1 q1 => by
    cases d with
    | bool b => exact ⟨b, Rp.isB r1, q1 b H1 F1 (Ext.refl (re.go x1).same) rfl⟩
    | _ => exact q1.elim⟩
theorem truV_of {F H : Hp} {v : V} {d : D} {k : Bool} (s : Same F H) (h : Rp K F v d) (e : truD d = some k) : TruV K v H k := by
  cases d with
  | none => cases h; cases e; exact rfl
  | bool b => cases h; cases e; exact rfl
  | int i => cases h; cases e; exact rfl
  | str x =>
    cases h
    simp only [truD] at e
    split at e
    · rename_i hl
      cases e
      exact ⟨by rw [line_eq]; exact hl, rfl⟩
    · cases e
  | list l =>
    cases h with
    | lst h1 h2 =>
      cases e
      refine .inl ⟨_, SqL.of (s _ _ h1), ?_⟩
      cases h2 <;> rfl
  | tuple l =>
    cases h with
    | tup h1 h2 =>
      cases e
      refine .inr (.inl ⟨_, Same.sqt s h1, ?_⟩)
      cases h2 <;> rfl
  | dict _ => cases e
theorem t_tru {Q : Bool → Hp → Prop} : TB K mg C (fTru f) σ H Q → T K mg C f σ H fun x H' => ∃ k, TruV K x H' k ∧ Q k H' := fun ⟨F, env, re, q⟩ =>
  ⟨F, env, re, Sat.bind RB.mono q fun d v F1 H1 x1 r1 q1 => by
    obtain ⟨k, hk, q2⟩ := Sat.ofO q1
    exact ⟨k, truV_of (re.go x1).same r1 hk, q2 k H1 F1 (Ext.refl (re.go x1).same) rfl⟩⟩
theorem vb_tru (h : VE X C a f) (he : ∀ whole, isTrue a X.env whole = (do let v ← whole; standAt a.pos; holding [v] (truthy v)) := by intro _; rfl) : VB X C a (fTru f) := PT.of (pt_truth h he) fun _ _ _ => t_tru
theorem vb_cmp {op : CmpOp} {k : D → D → Option D} (ho : OpR X (compareOp op) r) (hv : V2 X.K r k) (ha : VE X C a f) (hb : VE X C b f') (hm : behindInMarks op b = false := by first | exact nomark _ | with_unfolding_all rfl) : VB X C (.Compare a [op] [b] pos) (fB (f2 k f f')) :=
  PT.of (pt_cmpR ho ha hb hm) fun σ H Q h => t_op2 hv (t_test h)
/-- a op1 b op2 c -/
def f3 (k k' : D → D → Option D) (f f' f'' : FE) : FE := fun env => (f env).bind fun a => (f' env).bind fun b => (Rs.ofO (k a b)).bind fun t => (asB t).bind fun t => if t = true then (f'' env).bind fun c => Rs.ofO (k' b c) else .ok (.bool false)
theorem t_chain {k k' : D → D → Option D} {f'' : FE} {Q : VK} (hv : V2 K r k) (hv' : V2 K r' k') : T K mg C (f3 k k' f f' f'') σ H Q → tChain r r' (T K mg C f) (T K mg C f') (T K mg C f'') σ H Q := fun ⟨F, env, re, q⟩ =>
  ⟨F, env, re, Sat.bind RD.mono q fun d v F1 H1 x1 r1 q1 => ⟨F1, env, re.go x1, Sat.bind RD.mono q1 fun e w F2 H2 x2 r2 q2 => by
    have re2 := re.go (x1.trans x2)
    cases hk : k d e with
    | none => rw [hk] at q2; exact q2.elim
    | some t =>
      rw [hk] at q2
      cases t with
      | bool t =>
        refine hv F2 H2 v w d e _ _ re2.same (Rp.mono x2.f _ _ r1) r2 hk fun u H3 F3 x3 r3 => ⟨t, Rp.isB r3, ?_⟩
        have q2 : Sat mg C (RD K) (if t = true then (f'' env).bind fun c => Rs.ofO (k' e c) else .ok (.bool false)) σ F2 H2 Q := q2
        cases t with
        | false =>
          rw [if_neg Bool.false_ne_true] at q2 ⊢
          exact q2 _ H3 F3 x3 (.bl false)
        | true =>
          rw [if_pos rfl] at q2 ⊢
          refine ⟨F3, env, re2.go x3, Sat.bind RD.mono (Sat.go RD.mono q2 x3) fun c z F4 H4 x4 r4 q4 => ?_⟩
          obtain ⟨m, hm, q5⟩ := Sat.ofO q4
          exact hv' F4 H4 w z e c m Q (re2.go (x3.trans x4)).same (Rp.mono (x3.trans x4).f _ _ r2) r4 hm q5
      | _ => exact q2.elim⟩⟩
theorem ve_chain {op op' : CmpOp} {k k' : D → D → Option D} {f'' : FE} (ho : OpR X (compareOp op) r) (hv : V2 X.K r k) (ho' : OpR X (compareOp op') r') (hv' : V2 X.K r' k') (ha : VE X C a f) (hb : VE X C b f') (hc : VE X C c f'')
    (hm : lastMarks [op, op'] [b, c] = false := by with_unfolding_all rfl) : VE X C (.Compare a [op, op'] [b, c] pos) (f3 k k' f f' f'') := PE.of (pe_chain ho ho' ha hb hc hm) fun _ _ _ => t_chain hv hv'
theorem vb_chain {op op' : CmpOp} {k k' : D → D → Option D} {f'' : FE} (ho : OpR X (compareOp op) r) (hv : V2 X.K r k) (ho' : OpR X (compareOp op') r') (hv' : V2 X.K r' k') (ha : VE X C a f) (hb : VE X C b f') (hc : VE X C c f'')
    (hm : lastMarks [op, op'] [b, c] = false := by with_unfolding_all rfl) : VB X C (.Compare a [op, op'] [b, c] pos) (fB (f3 k k' f f' f'')) := PT.of (pt_chain ho ho' ha hb hc hm) fun σ H Q h => t_chain hv hv' (t_test h)
/-- and, or, not as tests -/
def fAnd (g g' : FB) : FB := fun env => (g env).bind fun t => if t = true then g' env else .ok false
def fOr (g g' : FB) : FB := fun env => (g env).bind fun t => if t = true then .ok true else g' env
def fNot (g : FB) : FB := fun env => (g env).bind fun t => .ok (!t)
abbrev VW (X : Cx) (C : Ct) (e : Expr) (f : FB) : Prop := PW X e (TB X.K X.mg C f)
theorem PW.of {e : Expr} {t u : TT} (h : PW X e t) (i : ∀ σ H Q, u σ H Q → t σ H Q) : PW X e u := ⟨fun wh pins s σ H Q I q => h.run wh pins s σ H Q I (i _ _ _ q)⟩
theorem vw_and1 (h : VB X C a g) : VW X C (.BoolOp .And [a] pos) g := pw_and1 h
theorem vw_or1 (h : VB X C a g) : VW X C (.BoolOp .Or [a] pos) g := pw_or1 h
theorem t_and {Q : Bool → Hp → Prop} : TB K mg C (fAnd g g') σ H Q → tAnd (TB K mg C g) (TB K mg C g') σ H Q := fun ⟨F, env, re, q⟩ =>
  ⟨F, env, re, Sat.bind RB.mono q fun t b F1 H1 x1 r1 q1 => by
    have e : b = t := r1
    subst e
    cases b with
    | true => rw [if_pos rfl] at q1 ⊢; exact ⟨F1, env, re.go x1, q1⟩
    | false => rw [if_neg Bool.false_ne_true] at q1 ⊢; exact q1 false H1 F1 (Ext.refl (re.go x1).same) rfl⟩
theorem t_or {Q : Bool → Hp → Prop} : TB K mg C (fOr g g') σ H Q → tOr (TB K mg C g) (TB K mg C g') σ H Q := fun ⟨F, env, re, q⟩ =>
  ⟨F, env, re, Sat.bind RB.mono q fun t b F1 H1 x1 r1 q1 => by
    have e : b = t := r1
    subst e
    cases b with
    | true => rw [if_pos rfl] at q1 ⊢; exact q1 true H1 F1 (Ext.refl (re.go x1).same) rfl
    | false => rw [if_neg Bool.false_ne_true] at q1 ⊢; exact ⟨F1, env, re.go x1, q1⟩⟩
theorem vw_and (h : VB X C a g) (h' : VW X C (.BoolOp .And (b :: rest) pos) g') : VW X C (.BoolOp .And (a :: b :: rest) pos) (fAnd g g') := PW.of (pw_and h h') fun _ _ _ => t_and
theorem vw_or (h : VB X C a g) (h' : VW X C (.BoolOp .Or (b :: rest) pos) g') : VW X C (.BoolOp .Or (a :: b :: rest) pos) (fOr g g') := PW.of (pw_or h h') fun _ _ _ => t_or
theorem vb_w (h : VW X C a g) : VB X C a g := PW.pt h
theorem t_not {Q : Bool → Hp → Prop} : TB K mg C (fNot g) σ H Q → tNot (TB K mg C g) σ H Q := fun ⟨F, env, re, q⟩ =>
  ⟨F, env, re, Sat.bind RB.mono q fun t b F1 H1 x1 r1 q1 => by
    have e : b = t := r1
    subst e
    exact q1 (!b) H1 F1 (Ext.refl (re.go x1).same) rfl⟩
theorem vb_not (h : VB X C a g) : VB X C (.UnaryOp .Not a pos) (fNot g) := PT.of (pt_not h) fun _ _ _ => t_not
/-- .. as values -/
def fOrV (f f' : FE) : FE := fun env => (f env).bind fun d => (Rs.ofO (truD d)).bind fun t => if t = true then .ok d else f' env
def fAndV (f f' : FE) : FE := fun env => (f env).bind fun d => (Rs.ofO (truD d)).bind fun t => if t = true then f' env else .ok d
theorem ve_orV (ha : VE X C a f) (hb : VE X C (.BoolOp .Or (b :: rest) pos) f') : VE X C (.BoolOp .Or (a :: b :: rest) pos) (fOrV f f') := PE.of (pe_orT ha hb) fun σ H Q ⟨F, env, re, q⟩ =>
  ⟨F, env, re, Sat.bind RD.mono q fun d v F1 H1 x1 r1 q1 => by
    cases hk : truD d with
    | none => rw [hk] at q1; exact q1.elim
    | some k =>
      rw [hk] at q1
      refine ⟨k, truV_of (re.go x1).same r1 hk, ?_⟩
      have q1 : Sat X.mg C (RD X.K) (if k = true then .ok d else f' env) σ F1 H1 Q := q1
      cases k with
      | true => rw [if_pos rfl] at q1 ⊢; exact q1 v H1 F1 (Ext.refl (re.go x1).same) r1
      | false => rw [if_neg Bool.false_ne_true] at q1 ⊢; exact ⟨F1, env, re.go x1, q1⟩⟩
theorem ve_andV (ha : VE X C a f) (hb : VE X C (.BoolOp .And (b :: rest) pos) f') : VE X C (.BoolOp .And (a :: b :: rest) pos) (fAndV f f') := PE.of (pe_andT ha hb) fun σ H Q ⟨F, env, re, q⟩ =>
  ⟨F, env, re, Sat.bind RD.mono q fun d v F1 H1 x1 r1 q1 => by
    cases hk : truD d with
    | none => rw [hk] at q1; exact q1.elim
    | some k =>
      rw [hk] at q1
      refine ⟨k, truV_of (re.go x1).same r1 hk, ?_⟩
      have q1 : Sat X.mg C (RD X.K) (if k = true then f' env else .ok d) σ F1 H1 Q := q1
      cases k with
      | true => rw [if_pos rfl] at q1 ⊢; exact ⟨F1, env, re.go x1, q1⟩
      | false => rw [if_neg Bool.false_ne_true] at q1 ⊢; exact q1 v H1 F1 (Ext.refl (re.go x1).same) r1⟩
theorem ve_one {op : BoolOp} (h : VE X C a f) : VE X C (.BoolOp op [a] pos) f := pe_one h
def fNotV (f : FE) : FE := fun env => (f env).bind fun d => (asB d).bind fun t => .ok (.bool (!t))
theorem ve_notV (ha : VE X C a f) : VE X C (.UnaryOp .Not a pos) (fNotV f) := PE.of (pe_not ha) fun σ H Q ⟨F, env, re, q⟩ =>
  ⟨F, env, re, Sat.bind RD.mono q fun d v F1 H1 x1 r1 q1 => by
    cases d with
    | bool t => exact ⟨t, Rp.isB r1, q1 _ H1 F1 (Ext.refl (re.go x1).same) (.bl _)⟩
    | _ => exact q1.elim⟩
/-- a if c else b -/
def fIf (g : FB) (f f' : FE) : FE := fun env => (g env).bind fun t => if t = true then f env else f' env
theorem ve_if (hc : VB X C c g) (ha : VE X C a f) (hb : VE X C b f') : VE X C (.IfExp c a b pos) (fIf g f f') := PE.of (pe_ifExp hc ha hb) fun σ H Q ⟨F, env, re, q⟩ =>
  ⟨F, env, re, Sat.bind RD.mono q fun t b F1 H1 x1 r1 q1 => by
    have e : b = t := r1
    subst e
    cases b with
    | true => rw [if_pos rfl] at q1 ⊢; exact ⟨F1, env, re.go x1, q1⟩
    | false => rw [if_neg Bool.false_ne_true] at q1 ⊢; exact ⟨F1, env, re.go x1, q1⟩⟩
/-- one operand -/
def V1 (K : PySem.W.Frag) (r : V → Hp → VK → Prop) (g : D → Option D) : Prop := ∀ (F H : Hp) (x : V) (d c : D) (Q : VK), Same F H → Rp K F x d → g d = some c → (∀ v H' F', Ext F H F' H' → Rp K F' v c → Q v H') → r x H Q
def f1 (g : D → Option D) (f : FE) : FE := fun env => (f env).bind fun a => Rs.ofO (g a)
theorem ve_un {op : UnaryOp} {r : V → Hp → VK → Prop} {k : D → Option D} (ho : UnR X (unaryOp op) r) (hv : V1 X.K r k) (ha : VE X C a f) : VE X C (.UnaryOp op a pos) (f1 k f) := PE.of (pe_un ho ha) fun σ H Q ⟨F, env, re, q⟩ =>
  ⟨F, env, re, Sat.bind RD.mono q fun d v F1 H1 x1 r1 q1 => by
    obtain ⟨c, hc, q3⟩ := Sat.ofO q1
    exact hv F1 H1 v d c Q (re.go x1).same r1 hc q3⟩
end

/-! ### argument lists, displays -/
def aNil : FA := fun _ => .ok []
def aCons (f : FE) (fa : FA) : FA := fun env => (f env).bind fun d => (fa env).bind fun ds => .ok (d :: ds)
def fLst (fa : FA) : FE := fun env => (fa env).bind fun ds => if ds.length ≤ LINE then .ok (.list ds) else .no
def fTup (fa : FA) : FE := fun env => (fa env).bind fun ds => if ds.length ≤ LINE then .ok (.tuple ds) else .no
section
variable {X : Cx} {C : Ct} {f : FE} {fa : FA} {e : Expr} {es : List Expr} {pos : Pos}
theorem va_nil : VA X C [] aNil := PA.of pa_nil fun σ H Q ⟨F, env, re, q⟩ => q [] H F (Ext.refl re.same) .nil
theorem va_cons (h : VE X C e f) (h' : VA X C es fa) (hs : starEach (e :: es) X.env = (false, eval e X.env) :: starEach es X.env := by rfl) : VA X C (e :: es) (aCons f fa) := PA.of (pa_cons h h' hs) fun σ H Q ⟨F, env, re, q⟩ =>
  ⟨F, env, re, Sat.bind RDs.mono q fun d v F1 H1 x1 r1 q1 => ⟨F1, env, re.go x1, Sat.bind RDs.mono q1 fun ds vs F2 H2 x2 r2 q2 =>
    q2 (v :: vs) H2 F2 (Ext.refl (re.go (x1.trans x2)).same) (.cons (Rp.mono x2.f _ _ r1) r2)⟩⟩
theorem vn_lst (h : VA X C es fa) : VN X C (.List es pos) (fLst fa) := PE.of (pe_lst h) fun σ H Q ⟨F, env, re, q⟩ =>
  ⟨F, env, re, Sat.bind RN.mono q fun ds vs F1 H1 x1 r1 q1 => by
    by_cases hl : ds.length ≤ LINE
    · rw [if_pos hl] at q1
      refine ⟨by rw [r1.length, line_eq]; exact hl, fun p hp => ?_⟩
      exact q1 _ _ F1 (Ext.laid (re.go x1).same hp) ⟨p, vs, ds, rfl, rfl, upd_same, (re.go x1).same.free hp, hp, r1⟩
    · rw [if_neg hl] at q1; exact q1.elim⟩
theorem ve_lst (h : VA X C es fa) : VE X C (.List es pos) (fLst fa) := VN.ve (vn_lst h)
theorem ve_tup {k : Nat} (h : VA X C es fa) : VE X C (.Tuple es k pos) (fTup fa) := PE.of (pe_tup h) fun σ H Q ⟨F, env, re, q⟩ =>
  ⟨F, env, re, Sat.bind RD.mono q fun ds vs F1 H1 x1 r1 q1 => by
    by_cases hl : ds.length ≤ LINE
    · rw [if_pos hl] at q1
      refine ⟨by rw [r1.length, line_eq]; exact hl, fun p hp => ?_⟩
      have s := (re.go x1).same
      exact q1 _ _ _ (Ext.new s hp) (.tup (SqT.of upd_same) (RpAll.mono (same_upd (s.free hp)) _ _ r1))
    · rw [if_neg hl] at q1; exact q1.elim⟩
end

/-! ### calls of built-ins -/
def VL (K : PySem.W.Frag) (r : List V → Hp → VK → Prop) (g : List D → Option D) : Prop := ∀ (F H : Hp) (xs : List V) (ds : List D) (c : D) (Q : VK), Same F H → RpAll K F xs ds → g ds = some c → (∀ v H' F', Ext F H F' H' → Rp K F' v c → Q v H') → r xs H Q
/-- .. that hand back a new list -/
def VLN (K : PySem.W.Frag) (r : List V → Hp → VK → Prop) (g : List D → Option D) : Prop := ∀ (F H : Hp) (xs : List V) (ds : List D) (c : D) (Q : VK), Same F H → RpAll K F xs ds → g ds = some c → (∀ v H' F', Ext F H F' H' → RN K F H F' H' v c → Q v H') → r xs H Q
def fCB (g : List D → Option D) (fa : FA) : FE := fun env => (fa env).bind fun ds => Rs.ofO (g ds)
section
variable {X : Cx} {C : Ct} {K : PySem.W.Frag} {mg : Str → Option Value} {fa : FA} {x : Str} {e : Expr} {es : List Expr} {p pos : Pos} {id T : String} {r : List V → Hp → VK → Prop} {g : List D → Option D}
theorem t_cb (hv : VL K r g) {σ : L2.St} {H : Hp} {Q : VK} : PD.T K mg C (fCB g fa) σ H Q → tCB r (TL K mg C fa) σ H Q := fun ⟨F, env, re, q⟩ =>
  ⟨F, env, re, Sat.bind RD.mono q fun ds vs F1 H1 x1 r1 q1 => by
    obtain ⟨c, hc, q3⟩ := Sat.ofO q1
    exact hv F1 H1 vs ds c Q (re.go x1).same r1 hc q3⟩
theorem t_cbN (hv : VLN K r g) {σ : L2.St} {H : Hp} {Q : VK} : TN K mg C (fCB g fa) σ H Q → tCB r (TL K mg C fa) σ H Q := fun ⟨F, env, re, q⟩ =>
  ⟨F, env, re, Sat.bind RN.mono q fun ds vs F1 H1 x1 r1 q1 => by
    obtain ⟨c, hc, q3⟩ := Sat.ofO q1
    exact hv F1 H1 vs ds c Q (re.go x1).same r1 hc q3⟩
theorem ve_callB (hc : CallR X (.builtin id) r) (hv : VL X.K r g) (hg : Gl X x) (hm : X.mg x = none) (hb : bootBuiltins x = some (.builtin id)) (ha : VA X C (e :: es) fa) (hn : x ≠ "__name__" := by decide) (hdb : (x == ("__debug__" : Str)) = false := by decide)
    (he : starEach (e :: es) X.env = (false, eval e X.env) :: starEach es X.env := by rfl) (hpl : (backTo pos (starEach es X.env)).any (·.1) = false := by rfl) : VE X C (.Call (.Name x p) (e :: es) [] pos) (fCB g fa) := PE.of (pe_callB hc hg hm hb ha hn hdb he hpl) fun _ _ _ => t_cb hv
theorem ve_callT (hc : CallR X (.type T) r) (hv : VL X.K r g) (hg : Gl X x) (hm : X.mg x = none) (hb : bootBuiltins x = some (.type T)) (ha : VA X C (e :: es) fa) (hn : x ≠ "__name__" := by decide) (hdb : (x == ("__debug__" : Str)) = false := by decide)
    (he : starEach (e :: es) X.env = (false, eval e X.env) :: starEach es X.env := by rfl) (hpl : (backTo pos (starEach es X.env)).any (·.1) = false := by rfl) : VE X C (.Call (.Name x p) (e :: es) [] pos) (fCB g fa) := PE.of (pe_callTy hc hg hm hb ha hn hdb he hpl) fun _ _ _ => t_cb hv
theorem vn_callB (hc : CallR X (.builtin id) r) (hv : VLN X.K r g) (hg : Gl X x) (hm : X.mg x = none) (hb : bootBuiltins x = some (.builtin id)) (ha : VA X C (e :: es) fa) (hn : x ≠ "__name__" := by decide) (hdb : (x == ("__debug__" : Str)) = false := by decide)
    (he : starEach (e :: es) X.env = (false, eval e X.env) :: starEach es X.env := by rfl) (hpl : (backTo pos (starEach es X.env)).any (·.1) = false := by rfl) : VN X C (.Call (.Name x p) (e :: es) [] pos) (fCB g fa) := PE.of (pe_callB hc hg hm hb ha hn hdb he hpl) fun _ _ _ => t_cbN hv
theorem vn_callT (hc : CallR X (.type T) r) (hv : VLN X.K r g) (hg : Gl X x) (hm : X.mg x = none) (hb : bootBuiltins x = some (.type T)) (ha : VA X C (e :: es) fa) (hn : x ≠ "__name__" := by decide) (hdb : (x == ("__debug__" : Str)) = false := by decide)
    (he : starEach (e :: es) X.env = (false, eval e X.env) :: starEach es X.env := by rfl) (hpl : (backTo pos (starEach es X.env)).any (·.1) = false := by rfl) : VN X C (.Call (.Name x p) (e :: es) [] pos) (fCB g fa) := PE.of (pe_callTy hc hg hm hb ha hn hdb he hpl) fun _ _ _ => t_cbN hv
end

/-! ### defs -/
structure FnG (P : Program) (w : World) (K : PySem.W.Frag) (mg : Str → Option Value) (base : Heap) (CX : CXT) (k : Nat) (f : Addr) (fd : FuncData) (ps : List Str) (sp : Sp) : Prop where
  len : ∀ vs H Q E, sp vs H Q E → vs.length = ps.length
  run : ∀ (A : Around) (outer : List Env) (s : Shared) (H : Hp) (args : Args) (us : List Value) (vs : List V) (Q : VK) (E : XK), A.guards = some [] → Room k A → Env0 P w K mg base A outer s H → BindsTo s fd args (ps.zip us) → Vals vs us → sp vs H Q E →
    codeAny (model P w) A (.call (.ref f) args) (CR CX outer P w H s Q E) s
theorem FnG.of {P : Program} {w : World} {K : PySem.W.Frag} {mg : Str → Option Value} {base : Heap} {CX : CXT} {k : Nat} {f : Addr} {fd : FuncData} {ps : List Str} {sp : Sp} (F : FnOk P w K mg base CX k f fd ps sp) : FnG P w K mg base CX k f fd ps sp :=
  ⟨F.len, fun A outer s H args us vs Q E _ => F.run A outer s H args us vs Q E⟩
theorem FnG.mono {P : Program} {w : World} {K : PySem.W.Frag} {mg : Str → Option Value} {base : Heap} {CX : CXT} {j k : Nat} {f : Addr} {fd : FuncData} {ps : List Str} {sp : Sp} (F : FnG P w K mg base CX j f fd ps sp) (h : j ≤ k) : FnG P w K mg base CX k f fd ps sp :=
  ⟨F.len, fun A outer s H args us vs Q E hg hr => F.run A outer s H args us vs Q E hg (hr.mono h)⟩
theorem FnG.imp {P : Program} {w : World} {K : PySem.W.Frag} {mg : Str → Option Value} {base : Heap} {CX : CXT} {k : Nat} {f : Addr} {fd : FuncData} {ps : List Str} {sp sp' : Sp} (F : FnG P w K mg base CX k f fd ps sp)
    (h : ∀ vs H Q E, sp' vs H Q E → sp vs H Q E) : FnG P w K mg base CX k f fd ps sp' :=
  ⟨fun vs H Q E q => F.len vs H Q E (h _ _ _ _ q), fun A outer s H args us vs Q E hg hr he hb hv hs => F.run A outer s H args us vs Q E hg hr he hb hv (h _ _ _ _ hs)⟩
/-- a def's promise, by its function on data -/
def spD (K : PySem.W.Frag) (mg : Str → Option Value) (Fn : List D → Rs D) : Sp := fun vs H Q E => ∃ G ds, Same G H ∧ RpAll K G vs ds ∧ Sat mg ⟨G, H, fun _ => E⟩ (RD K) (Fn ds) [] G H Q
/-- .. that hands back a new list -/
def spN (K : PySem.W.Frag) (mg : Str → Option Value) (Fn : List D → Rs D) : Sp := fun vs H Q E => ∃ G ds, Same G H ∧ RpAll K G vs ds ∧ Sat mg ⟨G, H, fun _ => E⟩ (RN K) (Fn ds) [] G H Q
def fCall (Fn : List D → Rs D) (fa : FA) : FE := fun env => (fa env).bind Fn
section
variable {X : Cx} {C : Ct} {K : PySem.W.Frag} {mg : Str → Option Value} {fa : FA} {x : Str} {e : Expr} {es : List Expr} {p pos : Pos} {k n : Nat} {f : Addr} {fd : FuncData} {ps : List Str} {CX : CXT} {sp : Sp} {Fn : List D → Rs D}
def tCallG (sp : Sp) (E : L2.St → XK) (t : TA) : TE := fun σ H Q => t σ H fun vs H1 => sp vs H1 Q (E σ)
theorem run_fnG {pins : List (Addr × Obj)} {σ : L2.St} {H : Hp} {s : Shared} {Q : VK} {us : List Value} {vs : List V} {E : XK} (F : FnG X.prog X.w X.K X.mg X.base CX k f fd ps sp) (hg : X.A.guards = some []) (hr : Room k X.A) (hb : Binds X.K fd ps []) (hx : PassesAt CX X σ E)
    (I : Inv X pins σ H s) (r : Vals vs us) (h : sp vs H Q E) : wpAny (model X.prog X.w) X.A (call (.ref f) us) (EP X pins σ Q) X.xe s := by
  have hl : (us ++ []).length = ps.length := by rw [List.append_nil, ← r.length]; exact F.len _ _ _ _ h
  have hb' : BindsTo s fd ⟨us, []⟩ (ps.zip us) := by have z := hb s us I.kIn hl; rw [List.append_nil] at z; exact z
  refine wpAny_call (codeAny_mono (F.run X.A X.stack s H ⟨us, []⟩ us vs Q E hg hr I.env0 hb' r h) fun r s' hq => ?_)
  cases r with
  | error e => exact hx pins H s e s' I hq
  | ok fl =>
    cases fl with
    | ret u => exact I.after hq
    | next => exact False.elim hq
    | brk => exact False.elim hq
    | cont => exact False.elim hq
theorem pe_callG {t : TA} {E : L2.St → XK} (F : FnG X.prog X.w X.K X.mg X.base CX k f fd ps sp) (hgd : X.A.guards = some []) (hr : Room k X.A) (hg : Gl X x) (hm : X.mg x = some (.ref f)) (hk : PySem.W.keepIn X.K (.ref f) = true) (hb : Binds X.K fd ps []) (hx : ∀ σ, PassesAt CX X σ (E σ))
    (ha : PA X (e :: es) t) (hdb : (x == ("__debug__" : Str)) = false := by decide) (he : starEach (e :: es) X.env = (false, eval e X.env) :: starEach es X.env := by rfl) (hpl : (backTo pos (starEach es X.env)).any (·.1) = false := by rfl) :
    PE X (.Call (.Name x p) (e :: es) [] pos) (tCallG sp E t) := by
  refine ⟨fun pins s σ H Q I h => ?_⟩
  refine wpAny_Call_Name_kw (ld_glob I hg hm ?_ hdb)
  refine PySem.W.callWith_K (h₀ := X.base) I.ok.mod.kin hk (thn (ha.run pos pins s σ H _ I h) fun us s1 ⟨vs, H1, I1, r, q⟩ => ⟨I1.kIn, ?_⟩) he hpl
  exact run_fnG F hgd hr hb (hx σ) I1 r q
theorem Sat.call {R : Rel V D} {σ : L2.St} {F H : Hp} {r : Rs D} {Q : VK} (q : Sat mg C R r σ F H Q) : Sat mg ⟨F, H, fun _ => C.E σ⟩ R r [] F H Q := by
  cases r with
  | ok a => exact q
  | er c m => exact q
  | no => exact q
theorem t_call {σ : L2.St} {H : Hp} {Q : VK} : T K mg C (fCall Fn fa) σ H Q → tCallG (spD K mg Fn) C.E (TL K mg C fa) σ H Q := fun ⟨F, env, re, q⟩ =>
  ⟨F, env, re, Sat.bind RD.mono q fun ds vs F1 H1 x1 r1 q1 => ⟨F1, ds, (re.go x1).same, r1, Sat.call q1⟩⟩
theorem t_callN {σ : L2.St} {H : Hp} {Q : VK} : TN K mg C (fCall Fn fa) σ H Q → tCallG (spN K mg Fn) C.E (TL K mg C fa) σ H Q := fun ⟨F, env, re, q⟩ =>
  ⟨F, env, re, Sat.bind RN.mono q fun ds vs F1 H1 x1 r1 q1 => ⟨F1, ds, (re.go x1).same, r1, Sat.call q1⟩⟩
theorem ve_call (F : FnG X.prog X.w X.K X.mg X.base CX k f fd ps (spD X.K X.mg Fn)) (am : Am X) (hr : Room k X.A) (hg : Gl X x) (hm : X.mg x = some (.ref f)) (hk : PySem.W.keepIn X.K (.ref f) = true) (hb : Binds X.K fd ps []) (hx : ∀ σ, PassesAt CX X σ (C.E σ))
    (ha : VA X C (e :: es) fa) (hdb : (x == ("__debug__" : Str)) = false := by decide) (he : starEach (e :: es) X.env = (false, eval e X.env) :: starEach es X.env := by rfl) (hpl : (backTo pos (starEach es X.env)).any (·.1) = false := by rfl) :
    VE X C (.Call (.Name x p) (e :: es) [] pos) (fCall Fn fa) := PE.of (pe_callG F am.g hr hg hm hk hb hx ha hdb he hpl) fun _ _ _ => t_call
theorem vn_call (F : FnG X.prog X.w X.K X.mg X.base CX k f fd ps (spN X.K X.mg Fn)) (am : Am X) (hr : Room k X.A) (hg : Gl X x) (hm : X.mg x = some (.ref f)) (hk : PySem.W.keepIn X.K (.ref f) = true) (hb : Binds X.K fd ps []) (hx : ∀ σ, PassesAt CX X σ (C.E σ))
    (ha : VA X C (e :: es) fa) (hdb : (x == ("__debug__" : Str)) = false := by decide) (he : starEach (e :: es) X.env = (false, eval e X.env) :: starEach es X.env := by rfl) (hpl : (backTo pos (starEach es X.env)).any (·.1) = false := by rfl) :
    VN X C (.Call (.Name x p) (e :: es) [] pos) (fCall Fn fa) := PE.of (pe_callG F am.g hr hg hm hk hb hx ha hdb he hpl) fun _ _ _ => t_callN
end
end PD

/-! Part 3: statements, loops, comprehensions, bodies -/
namespace PD
open PySem PySem.Spec PyProof.Rows L2

inductive Out where
  | nx (e : List Sl)
  | rt (d : D)
  | rn (d : D)
  | bk (e : List Sl)
  | ct (e : List Sl)
  | er (c : Str) (a : Int)
  | no
def bindO {α : Type} (r : Rs α) (k : α → Out) : Out := match r with
  | .ok a => k a
  | .er c n => .er c n
  | .no => .no
@[simp] theorem bindO_ok {α : Type} (a : α) (k : α → Out) : bindO (.ok a) k = k a := rfl
@[simp] theorem bindO_er {α : Type} (c : Str) (n : Int) (k : α → Out) : bindO (.er c n) k = .er c n := rfl
@[simp] theorem bindO_no {α : Type} (k : α → Out) : bindO .no k = .no := rfl
def Out.seq (o : Out) (k : List Sl → Out) : Out := match o with
  | .nx e => k e
  | o => o
@[simp] theorem seq_nx (e : List Sl) (k : List Sl → Out) : (Out.nx e).seq k = k e := rfl
@[simp] theorem seq_rt (d : D) (k : List Sl → Out) : (Out.rt d).seq k = .rt d := rfl
@[simp] theorem seq_rn (d : D) (k : List Sl → Out) : (Out.rn d).seq k = .rn d := rfl

abbrev FS := List Sl → Out
def RNe (K : PySem.W.Frag) (C : Ct) (F' H' : Hp) (v : V) (d : D) : Prop := ∃ p xs l, v = .ref p ∧ d = .list l ∧ H' p = some (.lst xs) ∧ F' p = none ∧ C.H p = none ∧ RpAll K F' xs l
def SatS (K : PySem.W.Frag) (mg : Str → Option Value) (C : Ct) (o : Out) (F : Hp) (D : Ends) : Prop := match o with
  | .nx e => ∀ σ' H' F', Same F F' → REnv K C F' σ' H' e → D.nx σ' H'
  | .bk e => ∀ σ' H' F', Same F F' → REnv K C F' σ' H' e → D.bk σ' H'
  | .ct e => ∀ σ' H' F', Same F F' → REnv K C F' σ' H' e → D.ct σ' H'
  | .rt d => ∀ v H' F', Ext C.G C.H F' H' → Rp K F' v d → D.rt v H'
  | .rn d => ∀ v H' F', Ext C.G C.H F' H' → RNe K C F' H' v d → D.rt v H'
  | .er c n => ∀ σ', XW mg C σ' C.H c n
  | .no => False
def TSt (K : PySem.W.Frag) (mg : Str → Option Value) (C : Ct) (g : FS) : TS := fun D σ H => ∃ F env, REnv K C F σ H env ∧ SatS K mg C (g env) F D
abbrev VS (X : Cx) (C : Ct) (st : Stmt) (g : FS) : Prop := PS X st (TSt X.K X.mg C g)
abbrev VSs (X : Cx) (C : Ct) (st : List Stmt) (g : FS) : Prop := PSs X st (TSt X.K X.mg C g)

section
variable {K : PySem.W.Frag} {mg : Str → Option Value} {C : Ct} {F F' H : Hp} {σ : L2.St} {env : List Sl} {D D' : Ends}
theorem SatS.go {o : Out} (h : SatS K mg C o F D) (s : Same F F') : SatS K mg C o F' D := by
  cases o with
  | nx e => exact fun σ' H' F2 s2 r => h σ' H' F2 (s.trans s2) r
  | bk e => exact fun σ' H' F2 s2 r => h σ' H' F2 (s.trans s2) r
  | ct e => exact fun σ' H' F2 s2 r => h σ' H' F2 (s.trans s2) r
  | rt d => exact h
  | rn d => exact h
  | er c n => exact h
  | no => exact h
theorem SatS.bind {α β : Type} {R : Rel β α} {r : Rs α} {k : α → Out} {P : β → Hp → Prop} (re : REnv K C F σ H env) (h : SatS K mg C (bindO r k) F D)
    (hk : ∀ a b F1 H1, Ext F H F1 H1 → R F H F1 H1 b a → SatS K mg C (k a) F1 D → P b H1) : Sat mg C R r σ F H P := by
  cases r with
  | ok a => exact fun b H1 F1 e q => hk a b F1 H1 e q (SatS.go h e.f)
  | er c n => exact XW.mono re.ext.h (h σ)
  | no => exact h
theorem PS.of {X : Cx} {st : Stmt} {t u : TS} (h : PS X st t) (i : ∀ D σ H, u D σ H → t D σ H) : PS X st u := ⟨fun pins s σ H D I q => h.run pins s σ H D I (i _ _ _ q)⟩
theorem PSs.of {X : Cx} {st : List Stmt} {t u : TS} (h : PSs X st t) (i : ∀ D σ H, u D σ H → t D σ H) : PSs X st u := ⟨fun pins s σ H D I q => h.run pins s σ H D I (i _ _ _ q)⟩
end

/-! ### small statements -/
def sNext : FS := fun env => .nx env
def sSeq (g g' : FS) : FS := fun env => (g env).seq g'
def sSet (i : Nat) (f : FE) : FS := fun env => bindO (f env) fun d => .nx (env.set i (.sh d))
def ownD : D → Option Sl
  | .list l => some (.own l)
  | _ => none
def sSetN (i : Nat) (f : FE) : FS := fun env => bindO (f env) fun d => match ownD d with
  | some s => .nx (env.set i s)
  | none => .no
def sDrop (f : FE) : FS := fun env => bindO (f env) fun _ => .nx env
def sIf (c : FB) (g g' : FS) : FS := fun env => bindO (c env) fun b => if b = true then g env else g' env
def sRet (f : FE) : FS := fun env => bindO (f env) .rt
def sRetN (f : FE) : FS := fun env => bindO (f env) .rn
def sRetO (i : Nat) : FS := fun env => match env[i]? with
  | some (.own l) => .rn (.list l)
  | _ => .no
def sNone : FS := fun _ => .rt .none
def sBrk : FS := fun env => .bk env
def sCnt : FS := fun env => .ct env
def sNo : FS := fun _ => .no
/-- from now on the list in slot i is not changed -/
def frz1 (i : Nat) (env : List Sl) : List Sl := match env[i]? with
  | some (.own l) => env.set i (.sh (.list l))
  | _ => env
def sFrz (i : Nat) (g : FS) : FS := fun env => g (frz1 i env)
section
variable {X : Cx} {C : Ct} {st : Stmt} {rest a b : List Stmt} {g g' : FS} {f : FE} {c : FB} {e : Expr} {x : Str} {pos pos' : Pos}
theorem vss_nil : VSs X C [] sNext := PSs.of pss_nil fun D σ H ⟨F, env, re, q⟩ => q σ H F (Same.refl _) re
theorem vss_cons (h1 : VS X C st g) (h2 : VSs X C rest g') : VSs X C (st :: rest) (sSeq g g') := PSs.of (pss_cons h1 h2) fun D σ H ⟨F, env, re, q⟩ => ⟨F, env, re, by
  have q' : SatS X.K X.mg C ((g env).seq g') F D := q
  cases hg : g env with
  | nx e' =>
    rw [hg] at q'
    exact fun σ' H' F' s r => ⟨F', e', r, SatS.go q' s⟩
  | rt d => rw [hg] at q'; exact q'
  | rn d => rw [hg] at q'; exact q'
  | bk d => rw [hg] at q'; exact q'
  | ct d => rw [hg] at q'; exact q'
  | er d n => rw [hg] at q'; exact q'
  | no => rw [hg] at q'; exact q'⟩
theorem vss_one (h1 : VS X C st g) : VSs X C [st] g := pss_one h1
theorem vs_pass : VS X C (.Pass pos) sNext := PS.of ps_pass fun D σ H ⟨F, env, re, q⟩ => q σ H F (Same.refl _) re
theorem vs_break : VS X C (.Break pos) sBrk := PS.of ps_break fun D σ H ⟨F, env, re, q⟩ => q σ H F (Same.refl _) re
theorem vs_continue : VS X C (.Continue pos) sCnt := PS.of ps_continue fun D σ H ⟨F, env, re, q⟩ => q σ H F (Same.refl _) re
theorem vs_never : VS X C st sNo := PS.of ps_never fun D σ H ⟨F, env, re, q⟩ => q
theorem vss_never {sts : List Stmt} : VSs X C sts sNo := PSs.of pss_never fun D σ H ⟨F, env, re, q⟩ => q
theorem vs_expr (h : VE X C e f) (hs : swapsWith e none pos.line X.env = pure false := by rfl) : VS X C (.Expr e pos) (sDrop f) := PS.of (ps_expr h hs) fun D σ H ⟨F, env, re, q⟩ =>
  ⟨F, env, re, SatS.bind re q fun d v F1 H1 x1 r1 q1 => q1 σ H1 F1 (Same.refl _) (re.go x1)⟩
theorem vs_ret (h : VE X C e f) : VS X C (.Return (some e) pos) (sRet f) := PS.of (ps_ret h) fun D σ H ⟨F, env, re, q⟩ =>
  ⟨F, env, re, SatS.bind re q fun d v F1 H1 x1 r1 q1 => q1 v H1 F1 (re.go x1).ext r1⟩
theorem vs_retN (h : VN X C e f) : VS X C (.Return (some e) pos) (sRetN f) := PS.of (ps_ret h) fun D σ H ⟨F, env, re, q⟩ =>
  ⟨F, env, re, SatS.bind (R := RN X.K) re q fun d v F1 H1 x1 ⟨p, xs, l, e1, e2, e3, e4, e5, e6⟩ q1 => q1 v H1 F1 (re.go x1).ext ⟨p, xs, l, e1, e2, e3, e4, re.ext.h.free e5, e6⟩⟩
theorem vs_none : VS X C (.Return none pos) sNone := PS.of ps_retN fun D σ H ⟨F, env, re, q⟩ => q .non H F re.ext .non
theorem vs_retO (i : Nat) (hN : X.N[i]? = some x := by rfl) (hv : Vis X.env.scope x := by first | exact Or.inl rfl | exact Or.inr (Or.inl rfl) | exact Or.inr (Or.inr rfl)) (hd : (x == ("__debug__" : Str)) = false := by decide)
    (hcd : (x == ("__classdict__" : Str)) = false := by decide) : VS X C (.Return (some (.Name x pos')) pos) (sRetO i) := PS.of (ps_ret (pe_var hN hv hd hcd)) fun D σ H ⟨F, env, re, q⟩ => by
  unfold sRetO at q
  split at q
  · rename_i l e
    obtain ⟨p, xs, h1, h2, h3, h4, h5⟩ := re.own e
    exact ⟨.ref p, h1, q _ H F re.ext ⟨p, xs, l, rfl, rfl, h2, h3, h4, h5⟩⟩
  · exact q.elim
theorem vs_if (hc : VB X C e c) (ha : VSs X C a g) (hb : VSs X C b g') : VS X C (.If e a b pos) (sIf c g g') := PS.of (ps_if hc ha hb) fun D σ H ⟨F, env, re, q⟩ =>
  ⟨F, env, re, SatS.bind (R := RB) re q fun t k F1 H1 x1 r1 q1 => by
    have e : k = t := r1
    subst e
    cases k with
    | true => rw [if_pos rfl] at q1 ⊢; exact ⟨F1, env, re.go x1, q1⟩
    | false => rw [if_neg Bool.false_ne_true] at q1 ⊢; exact ⟨F1, env, re.go x1, q1⟩⟩
theorem vs_set (i : Nat) (h : VE X C e f) (hN : X.N.Nodup) (hi : X.N[i]? = some x := by rfl) (hx : Loc X.env.scope x := by first | exact Or.inl rfl | exact Or.inr rfl) (hs : swapsWith e (some (.Name x pos')) pos.line X.env = pure false := by rfl) (hf : X.fn x = true ∨ X.env.scope.names.lookup x = some .local := by first | exact .inl rfl | exact .inr rfl | assumption) :
    VS X C (.Assign [.Name x pos'] e pos) (sSet i f) := PS.of (ps_set hN hi hx h hs hf) fun D σ H ⟨F, env, re, q⟩ =>
  ⟨F, env, re, SatS.bind re q fun d v F1 H1 x1 r1 q1 => q1 _ H1 F1 (Same.refl _) ((re.go x1).setSh r1)⟩
/-- a new list at a free place is in no slot that is owned -/
theorem REnv.newSlot {K : PySem.W.Frag} {F H : Hp} {σ : L2.St} {env : List Sl} {p : Addr} (re : REnv K C F σ H env) (hp : H p = none) (j : Nat) (m : List D) (h : σ[j]? = some (some (.ref p))) : env[j]? ≠ some (.own m) := fun e => by
  obtain ⟨a, xs, h1, h2, _⟩ := re.own e
  rw [h] at h1
  cases h1
  rw [hp] at h2
  cases h2
theorem t_setN {K : PySem.W.Frag} {mg : Str → Option Value} {i : Nat} {D : Ends} {σ : L2.St} {H : Hp} : TSt K mg C (sSetN i f) D σ H → TN K mg C f σ H (fun x H1 => gName i x σ H1 D.nx) := fun ⟨F, env, re, q⟩ =>
  ⟨F, env, re, SatS.bind (R := RN K) re q fun d v F1 H1 x1 ⟨p, xs, l, e1, e2, e3, e4, e5, e6⟩ q1 => by
    subst e1 e2
    refine q1 _ H1 F1 (Same.refl _) ((re.go x1).setOwn e3 e4 (re.ext.h.free e5) e6 fun j m h e => ?_)
    exact re.newSlot e5 j m h e⟩
theorem vs_setN (i : Nat) (h : VN X C e f) (hN : X.N.Nodup) (hi : X.N[i]? = some x := by rfl) (hx : Loc X.env.scope x := by first | exact Or.inl rfl | exact Or.inr rfl) (hs : swapsWith e (some (.Name x pos')) pos.line X.env = pure false := by rfl) (hf : X.fn x = true ∨ X.env.scope.names.lookup x = some .local := by first | exact .inl rfl | exact .inr rfl | assumption) :
    VS X C (.Assign [.Name x pos'] e pos) (sSetN i f) := PS.of (ps_set hN hi hx h hs hf) fun D σ H h => t_setN h
end

/-! ### freezing -/
section
variable {K : PySem.W.Frag} {mg : Str → Option Value} {C : Ct} {F H : Hp} {σ : L2.St} {env : List Sl}
/-- an owned list is written -/
theorem REnv.write {i : Nat} {l l' : List D} {a : Addr} {xs' : List V} (re : REnv K C F σ H env) (e : env[i]? = some (.own l)) (ha : σ[i]? = some (some (.ref a))) (hF : F a = none) (hC : C.H a = none) (r : RpAll K F xs' l') :
    REnv K C F σ (upd H a (.lst xs')) (env.set i (.own l')) := by
  have hi : i < env.length := (List.getElem?_eq_some_iff.mp e).1
  refine ⟨⟨re.ext.f, fun b o h => ?_, fun b o h => ?_, re.ext.n⟩, by rw [List.length_set]; exact re.len, fun j s h => ?_, fun j k m n ne h1 h2 => ?_⟩
  · rw [upd_ne (ne_of_none h hC)]; exact re.ext.h _ _ h
  · rw [upd_ne (ne_of_none h hF)]; exact re.ext.s _ _ h
  · by_cases q : i = j
    · subst q
      rw [List.getElem?_set_self hi] at h
      cases h
      exact ⟨a, xs', ha, upd_same, hF, hC, r⟩
    · rw [List.getElem?_set_ne q] at h
      have z := re.get j s h
      cases s with
      | un => trivial
      | sh d => exact z
      | own m =>
        obtain ⟨b, ys, h1, h2, h3, h4, h5⟩ := z
        refine ⟨b, ys, h1, ?_, h3, h4, h5⟩
        have nb : b ≠ a := fun z => re.apart i j l m q e h (by rw [ha, h1, z])
        rw [upd_ne nb]; exact h2
      | scr ns => exact z
  · by_cases q1 : i = j
    · by_cases q2 : i = k
      · exact absurd (q1.symm.trans q2) ne
      · subst q1
        rw [List.getElem?_set_ne q2] at h2
        exact re.apart i k l n ne e h2
    · rw [List.getElem?_set_ne q1] at h1
      by_cases q2 : i = k
      · subst q2
        exact fun z => re.apart i j l m q1 e h1 z.symm
      · rw [List.getElem?_set_ne q2] at h2
        exact re.apart j k m n ne h1 h2
theorem REnv.frz1 (re : REnv K C F σ H env) (i : Nat) : ∃ F', Same F F' ∧ REnv K C F' σ H (frz1 i env) := by
  unfold PD.frz1
  split
  · rename_i l e
    obtain ⟨a, xs, h1, h2, h3, h4, h5⟩ := re.own e
    have hi : i < env.length := (List.getElem?_eq_some_iff.mp e).1
    have sF : Same F (upd F a (.lst xs)) := same_upd h3
    refine ⟨upd F a (.lst xs), sF, ⟨re.ext.f.trans sF, re.ext.h, fun b o h => ?_, fun b o h => ?_⟩, by rw [List.length_set]; exact re.len, fun j s h => ?_, fun j k m n ne e1 e2 => ?_⟩
    · by_cases q : b = a
      · subst q; rw [upd_same] at h; rw [← h]; exact h2
      · rw [upd_ne q] at h; exact re.ext.s _ _ h
    · by_cases q : b = a
      · subst q; exact .inr h4
      · rw [upd_ne q] at h; exact re.ext.n _ _ h
    · by_cases q : i = j
      · subst q
        rw [List.getElem?_set_self hi] at h
        cases h
        exact ⟨.ref a, h1, .lst (a := a) (xs := xs) upd_same (RpAll.mono sF _ _ h5)⟩
      · rw [List.getElem?_set_ne q] at h
        have z := re.get j s h
        cases s with
        | un => trivial
        | sh d => obtain ⟨x, y1, y2⟩ := z; exact ⟨x, y1, Rp.mono sF _ _ y2⟩
        | own m =>
          obtain ⟨b, ys, y1, y2, y3, y4, y5⟩ := z
          have nb : b ≠ a := fun z => re.apart i j l m q e h (by rw [h1, y1, z])
          exact ⟨b, ys, y1, y2, by rw [upd_ne nb]; exact y3, y4, RpAll.mono sF _ _ y5⟩
        | scr ns => exact z
    · by_cases q1 : i = j
      · subst q1; rw [List.getElem?_set_self hi] at e1; cases e1
      · by_cases q2 : i = k
        · subst q2; rw [List.getElem?_set_self hi] at e2; cases e2
        · rw [List.getElem?_set_ne q1] at e1
          rw [List.getElem?_set_ne q2] at e2
          exact re.apart j k m n ne e1 e2
  · exact ⟨F, Same.refl _, re⟩
theorem t_frz (i : Nat) {g : FS} {D : Ends} : TSt K mg C (sFrz i g) D σ H → TSt K mg C g D σ H := fun ⟨F, env, re, q⟩ => by
  obtain ⟨F', s, re'⟩ := re.frz1 i
  exact ⟨F', _, re', SatS.go q s⟩
theorem vs_frz {X : Cx} {st : Stmt} {g : FS} (i : Nat) (h : VS X C st g) : VS X C st (sFrz i g) := PS.of h fun _ _ _ q => t_frz i q
theorem vss_frz {X : Cx} {st : List Stmt} {g : FS} (i : Nat) (h : VSs X C st g) : VSs X C st (sFrz i g) := PSs.of h fun _ _ _ q => t_frz i q
/-- all lists frozen, for an expression whose value bears no object -/
def thaw : List Sl → List Sl
  | [] => []
  | .own l :: r => .sh (.list l) :: thaw r
  | s :: r => s :: thaw r
def scalD : D → Bool
  | .none => true
  | .bool _ => true
  | .int _ => true
  | .str _ => true
  | _ => false
def fScal (f : FE) : FE := fun env => (f (thaw env)).bind fun d => if scalD d = true then .ok d else .no
def fThB (f : FB) : FB := fun env => f (thaw env)
theorem thaw_get : ∀ (env : List Sl) (i : Nat), (thaw env)[i]? = (env[i]?).map fun s => match s with | .own l => .sh (.list l) | s => s
  | [], i => by simp [thaw]
  | .own l :: r, 0 => rfl
  | .un :: r, 0 => rfl
  | .sh d :: r, 0 => rfl
  | .scr d :: r, 0 => rfl
  | .own l :: r, i + 1 => thaw_get r i
  | .un :: r, i + 1 => thaw_get r i
  | .sh d :: r, i + 1 => thaw_get r i
  | .scr d :: r, i + 1 => thaw_get r i
theorem thaw_len : ∀ env : List Sl, (thaw env).length = env.length
  | [] => rfl
  | .own l :: r => congrArg (· + 1) (thaw_len r)
  | .un :: r => congrArg (· + 1) (thaw_len r)
  | .sh d :: r => congrArg (· + 1) (thaw_len r)
  | .scr d :: r => congrArg (· + 1) (thaw_len r)
open Classical in
theorem REnv.thaw (re : REnv K C F σ H env) : ∃ F', Same F F' ∧ REnv K C F' σ H (thaw env) := by
  have hs : Same F (fun a => if (∃ (i : Nat) (l : List D), env[i]? = some (Sl.own l) ∧ σ[i]? = some (some (V.ref a))) then H a else F a) := fun b o h => by
    show (if (∃ (i : Nat) (l : List D), env[i]? = some (Sl.own l) ∧ σ[i]? = some (some (V.ref b))) then H b else F b) = some o
    split
    · exact re.ext.s _ _ h
    · exact h
  refine ⟨_, hs, ⟨re.ext.f.trans hs, re.ext.h, fun b o h => ?_, fun b o h => ?_⟩, by rw [thaw_len]; exact re.len, fun j s h => ?_, fun j k m n ne e1 e2 => ?_⟩
  · have h : (if (∃ (i : Nat) (l : List D), env[i]? = some (Sl.own l) ∧ σ[i]? = some (some (V.ref b))) then H b else F b) = some o := h
    split at h
    · exact h
    · exact re.ext.s _ _ h
  · have h : (if (∃ (i : Nat) (l : List D), env[i]? = some (Sl.own l) ∧ σ[i]? = some (some (V.ref b))) then H b else F b) = some o := h
    split at h
    · rename_i q
      obtain ⟨i, l, q1, q2⟩ := q
      obtain ⟨a, xs, z1, z2, z3, z4, z5⟩ := re.own q1
      rw [q2] at z1; cases z1
      exact .inr z4
    · exact re.ext.n _ _ h
  · rw [thaw_get] at h
    cases e : env[j]? with
    | none => rw [e] at h; cases h
    | some t =>
      rw [e] at h
      have z := re.get j t e
      cases t with
      | un => cases h; trivial
      | sh d => cases h; obtain ⟨x, y1, y2⟩ := z; exact ⟨x, y1, Rp.mono hs _ _ y2⟩
      | own l =>
        cases h
        obtain ⟨a, xs, z1, z2, z3, z4, z5⟩ := z
        refine ⟨.ref a, z1, .lst (a := a) (xs := xs) ?_ (RpAll.mono hs _ _ z5)⟩
        show (if (∃ (i : Nat) (l : List D), env[i]? = some (Sl.own l) ∧ σ[i]? = some (some (V.ref a))) then H a else F a) = _
        rw [if_pos ⟨j, l, e, z1⟩]
        exact z2
      | scr ns => cases h; exact z
  · rw [thaw_get] at e1
    cases e : env[j]? with
    | none => rw [e] at e1; cases e1
    | some t => rw [e] at e1; cases t <;> cases e1
theorem Rp.scal {F F' : Hp} {v : V} {d : D} (s : scalD d = true) (h : Rp K F' v d) : Rp K F v d := by
  cases d with
  | none => cases h; exact .non
  | bool b => cases h; exact .bl _
  | int b => cases h; exact .int _
  | str b => cases h; exact .str _
  | _ => cases s
theorem ve_scal {X : Cx} {e : Expr} {f : FE} (h : VE X C e f) : VE X C e (fScal f) := PE.of h fun σ H Q ⟨F, env, re, q⟩ => by
  obtain ⟨F', s, re'⟩ := re.thaw
  refine ⟨F', _, re', ?_⟩
  have q : Sat X.mg C (RD X.K) ((f (thaw env)).bind fun d => if scalD d = true then .ok d else .no) σ F H Q := q
  cases hf : f (thaw env) with
  | ok d =>
    rw [hf] at q
    have q : Sat X.mg C (RD X.K) (if scalD d = true then .ok d else .no) σ F H Q := q
    by_cases hd : scalD d = true
    · rw [if_pos hd] at q
      exact fun v H1 F1 x1 r1 => q v H1 F ⟨Same.refl _, x1.h, re.same.trans x1.h, fun _ _ z => .inl z⟩ (Rp.scal hd r1)
    · rw [if_neg hd] at q; exact q.elim
  | er c n => rw [hf] at q; exact q
  | no => rw [hf] at q; exact q
theorem vb_th {X : Cx} {e : Expr} {f : FB} (h : VB X C e f) : VB X C e (fThB f) := PT.of h fun σ H Q ⟨F, env, re, q⟩ => by
  obtain ⟨F', s, re'⟩ := re.thaw
  refine ⟨F', _, re', ?_⟩
  have q : Sat X.mg C RB (f (thaw env)) σ F H Q := q
  cases hf : f (thaw env) with
  | ok d =>
    rw [hf] at q
    exact fun v H1 F1 x1 r1 => q v H1 F ⟨Same.refl _, x1.h, re.same.trans x1.h, fun _ _ z => .inl z⟩ r1
  | er c n => rw [hf] at q; exact q
  | no => rw [hf] at q; exact q
end

/-! ### owned lists by their methods -/
def sApp (i : Nat) (f : FE) : FS := fun env => match env[i]? with
  | some (.own l) => bindO (f env) fun d => if l.length < LINE then .nx (env.set i (.own (l ++ [d]))) else .no
  | _ => .no
section
variable {X : Cx} {C : Ct} {e : Expr} {f : FE} {x : Str} {pos p1 p2 p3 : Pos}
theorem vs_append (i : Nat) (h : VE X C e f) (hN : X.N[i]? = some x := by rfl) (hv : Vis X.env.scope x := by first | exact Or.inl rfl | exact Or.inr (Or.inl rfl) | exact Or.inr (Or.inr rfl)) (hd : (x == ("__debug__" : Str)) = false := by decide)
    (hcd : (x == ("__classdict__" : Str)) = false := by decide) (he : starEach [e] X.env = (false, eval e X.env) :: starEach [] X.env := by rfl)
    (ht : ∀ {to : TE} {t : TA}, PE X (.Name x p3) to → PA X [e] t → PE X (.Call (.Attribute (.Name x p3) "append" p1) [e] [] p2) (tBM X.K "list" rAppend to t) := by
      intro to t ho ha; exact pe_bm PySem.F.plainAttrs_list PySem.F.slot_list_append PySem.F.type_list_append mt_append ho ha)
    (hs : swapsWith (.Call (.Attribute (.Name x p3) "append" p1) [e] [] p2) none pos.line X.env = pure false := by rfl) :
    VS X C (.Expr (.Call (.Attribute (.Name x p3) "append" p1) [e] [] p2) pos) (sApp i f) := PS.of (ps_expr (ht (pe_var hN hv hd hcd) (pa_cons h pa_nil he)) hs) fun D σ H ⟨F, env, re, q⟩ => by
  unfold sApp at q
  split at q
  · rename_i l e1
    obtain ⟨a, xs, h1, h2, h3, h4, h5⟩ := re.own e1
    refine ⟨.ref a, h1, .inl ⟨rfl, _, SqL.of h2⟩, F, env, re, SatS.bind re q fun d v F1 H1 x1 r1 q1 => ?_⟩
    by_cases hl : l.length < LINE
    · rw [if_pos hl] at q1
      obtain ⟨a', xs', g1, g2, g3, g4, g5⟩ := (re.go x1).own e1
      rw [h1] at g1; cases g1
      refine ⟨a, xs', v, rfl, rfl, g2, by rw [g5.length, line_eq]; exact hl, ?_⟩
      exact q1 σ _ F1 (Same.refl _) ((re.go x1).write e1 h1 g3 g4 (g5.append (.cons r1 .nil)))
    · rw [if_neg hl] at q1; exact q1.elim
  · exact q.elim
end
end PD

/-! Part 4: targets, loops, comprehensions, bodies -/
namespace PD
open PySem PySem.Spec PyProof.Rows L2

/-! ### targets -/
inductive Tgt where
  | nm (i : Nat)
  | tp (is : List Nat)
  | np (i : Nat) (is : List Nat)
def setE : List Nat → List D → List Sl → List Sl
  | i :: is, d :: ds, env => setE is ds (env.set i (.sh d))
  | _, _, env => env
def setV : List Nat → List V → L2.St → L2.St
  | i :: is, v :: vs, σ => setV is vs (σ.set i (some v))
  | _, _, σ => σ
def Tgt.slots : Tgt → List Nat
  | .nm i => [i]
  | .tp is => is
  | .np i is => i :: is
def npD : D → Option (D × List D)
  | .tuple [a, .tuple l] => some (a, l)
  | _ => none
theorem npD_some {d a : D} {l : List D} (h : npD d = some (a, l)) : d = .tuple [a, .tuple l] := by
  unfold npD at h
  split at h
  · cases h; rfl
  · cases h
def Tgt.put (t : Tgt) (d : D) (env : List Sl) : Option (List Sl) := match t with
  | .nm i => some (env.set i (.sh d))
  | .tp is => match d with
    | .tuple l => if l.length = is.length then some (setE is l env) else none
    | .list l => if l.length = is.length then some (setE is l env) else none
    | _ => none
  | .np i is => match npD d with
    | some (a, l) => if l.length = is.length then some (setE is l (env.set i (.sh a))) else none
    | none => none
/-- the target's reading: Q at the slots set -/
def Tgt.g (K : PySem.W.Frag) (t : Tgt) : TG := fun v σ H Q => match t with
  | .nm i => Q (σ.set i (some v)) H
  | .tp is => ∃ a xs, v = .ref a ∧ (SqT K H a xs ∨ SqL K H a xs) ∧ xs.length = is.length ∧ Q (setV is xs σ) H
  | .np i is => ∃ a x b xs, v = .ref a ∧ SqT K H a [x, .ref b] ∧ SqT K H b xs ∧ xs.length = is.length ∧ Q (setV (i :: is) (x :: xs) σ) H
section
variable {K : PySem.W.Frag} {C : Ct} {F H : Hp} {σ : L2.St} {env : List Sl}
theorem REnv.setAll : ∀ (is : List Nat) (ds : List D) (vs : List V) (σ : L2.St) (env : List Sl), RpAll K F vs ds → REnv K C F σ H env → REnv K C F (setV is vs σ) H (setE is ds env)
  | [], [], _, _, _, h, r => by cases h; exact r
  | [], _ :: _, _, _, _, h, r => by cases h; exact r
  | _ :: _, [], _, _, _, h, r => by cases h; exact r
  | i :: is, d :: ds, _, σ, env, h, r => by
    cases h with
    | cons a b => exact REnv.setAll is ds _ _ _ b (r.setSh a)
theorem Tgt.go {t : Tgt} {d : D} {v : V} {e : List Sl} {Q : L2.St → Hp → Prop} (re : REnv K C F σ H env) (r : Rp K F v d) (h : t.put d env = some e)
    (q : ∀ vs : List V, REnv K C F (setV t.slots vs σ) H e → Q (setV t.slots vs σ) H) : t.g K v σ H Q := by
  cases t with
  | nm i =>
    have e' : env.set i (.sh d) = e := Option.some.inj h
    subst e'
    exact q [v] (re.setSh r)
  | tp is =>
    cases d with
    | tuple l =>
      have h : (if l.length = is.length then some (setE is l env) else none) = some e := h
      by_cases hl : l.length = is.length
      · rw [if_pos hl] at h
        cases h
        cases r with
        | @tup a xs _ h1 h2 => exact ⟨a, xs, rfl, .inl (Same.sqt re.same h1), by rw [h2.length, hl], q xs (REnv.setAll is l xs σ env h2 re)⟩
      · rw [if_neg hl] at h; cases h
    | list l =>
      have h : (if l.length = is.length then some (setE is l env) else none) = some e := h
      by_cases hl : l.length = is.length
      · rw [if_pos hl] at h
        cases h
        cases r with
        | @lst a xs _ h1 h2 => exact ⟨a, xs, rfl, .inr (SqL.of (re.same _ _ h1)), by rw [h2.length, hl], q xs (REnv.setAll is l xs σ env h2 re)⟩
      · rw [if_neg hl] at h; cases h
    | _ => cases h
  | np i is =>
    unfold Tgt.put at h
    cases hn : npD d with
    | none => simp only [hn] at h; cases h
    | some p =>
      obtain ⟨c, l⟩ := p
      simp only [hn] at h
      have hd := npD_some hn
      subst hd
      by_cases hl : l.length = is.length
      · rw [if_pos hl] at h
        cases h
        cases r with
        | @tup a xs _ h1 h2 =>
          cases h2 with
          | cons hx ht =>
            cases ht with
            | cons hy hn =>
              cases hn
              cases hy with
              | @tup b ys _ g1 g2 => exact ⟨a, _, b, ys, rfl, Same.sqt re.same h1, Same.sqt re.same g1, by rw [g2.length, hl], q _ (REnv.setAll is l ys _ _ g2 (re.setSh hx))⟩
      · rw [if_neg hl] at h; cases h
/-- the slots of a block's own names forgotten -/
def wipeE (env : List Sl) : List Nat → List Sl
  | [] => env
  | v :: vs => (wipeE env vs).set v .un
theorem REnv.unset {i : Nat} (re : REnv K C F σ H env) : REnv K C F (σ.set i none) H (env.set i .un) := by
  refine ⟨re.ext, by rw [List.length_set, List.length_set]; exact re.len, fun j s h => ?_, fun j k m n ne e1 e2 => ?_⟩
  · by_cases q : i = j
    · subst q
      have hi : i < env.length := by
        rcases Nat.lt_or_ge i env.length with z | z
        · exact z
        · rw [List.getElem?_eq_none (by rw [List.length_set]; exact z)] at h; cases h
      rw [List.getElem?_set_self hi] at h
      cases h
      trivial
    · rw [List.getElem?_set_ne q] at h ⊢
      exact re.get j s h
  · have no : ∀ (k : Nat) (m : List D), (env.set i .un)[k]? = some (.own m) → i ≠ k := fun k m e q => by
      subst q
      have hi : i < env.length := by
        rcases Nat.lt_or_ge i env.length with z | z
        · exact z
        · rw [List.getElem?_eq_none (by rw [List.length_set]; exact z)] at e; cases e
      rw [List.getElem?_set_self hi] at e
      cases e
    have n1 := no j m e1
    have n2 := no k n e2
    rw [List.getElem?_set_ne n1] at e1 ⊢
    rw [List.getElem?_set_ne n2] at e2 ⊢
    exact re.apart j k m n ne e1 e2
theorem REnv.wipe (re : REnv K C F σ H env) : ∀ vs : List Nat, REnv K C F (L2.wipe σ vs) H (wipeE env vs)
  | [] => re
  | v :: vs => (re.wipe vs).unset
theorem wipe_set (σ : L2.St) {i : Nat} (x : Option V) : ∀ {vs : List Nat}, i ∈ vs → L2.wipe (σ.set i x) vs = L2.wipe σ vs
  | v :: vs, h => by
    show (L2.wipe (σ.set i x) vs).set v none = (L2.wipe σ vs).set v none
    by_cases q : i ∈ vs
    · rw [wipe_set σ x q]
    · have e : v = i := by
        rcases List.mem_cons.mp h with e | e
        · exact e.symm
        · exact absurd e q
      subst e
      have z : ∀ (vs : List Nat), v ∉ vs → L2.wipe (σ.set v x) vs = (L2.wipe σ vs).set v x := by
        intro vs
        induction vs with
        | nil => intro _; rfl
        | cons u us ih =>
          intro hn
          have h1 : v ≠ u := fun z => hn (by rw [z]; exact List.mem_cons_self)
          have h2 : v ∉ us := fun z => hn (List.mem_cons_of_mem _ z)
          show (L2.wipe (σ.set v x) us).set u none = ((L2.wipe σ us).set u none).set v x
          rw [ih h2, List.set_comm _ _ h1]
      rw [z vs q, List.set_set]
theorem wipe_setV (vs : List Nat) : ∀ (is : List Nat) (xs : List V) (σ : L2.St), (∀ i ∈ is, i ∈ vs) → L2.wipe (setV is xs σ) vs = L2.wipe σ vs
  | [], _, _, _ => rfl
  | _ :: _, [], _, _ => rfl
  | i :: is, x :: xs, σ, h => by
    show L2.wipe (setV is xs (σ.set i (some x))) vs = _
    rw [wipe_setV vs is xs _ fun j hj => h j (List.mem_cons_of_mem _ hj), wipe_set σ _ (h i List.mem_cons_self)]
end
section
variable {X : Cx}
theorem pg_nm (i : Nat) {x : Str} {pos : Pos} (hN : X.N.Nodup) (hi : X.N[i]? = some x := by rfl) (hx : Loc X.env.scope x := by first | exact Or.inl rfl | exact Or.inr rfl) (hf : X.fn x = true ∨ X.env.scope.names.lookup x = some .local := by first | exact .inl rfl | exact .inr rfl | assumption) :
    PG X (.Name x pos) (Tgt.g X.K (.nm i)) := pg_name hN hi hx hf
/-- several names, one behind the other -/
structure PNs (X : Cx) (ts : List Expr) (is : List Nat) : Prop where
  run : PGs X ts (fun vs σ H Q => vs.length = is.length ∧ Q (setV is vs σ) H)
theorem pns_nil : PNs X [] [] := ⟨⟨fun pins s σ H vs us Q I r h => pgs_nil.run pins s σ H vs us Q I r ⟨List.eq_nil_of_length_eq_zero h.1, by
  have e := List.eq_nil_of_length_eq_zero h.1
  subst e
  exact h.2⟩⟩⟩
theorem pns_cons (i : Nat) {x : Str} {pos : Pos} {ts : List Expr} {is : List Nat} (h : PNs X ts is) (hN : X.N.Nodup) (hi : X.N[i]? = some x := by rfl) (hx : Loc X.env.scope x := by first | exact Or.inl rfl | exact Or.inr rfl) (hf : X.fn x = true ∨ X.env.scope.names.lookup x = some .local := by first | exact .inl rfl | exact .inr rfl | assumption)
    (hs : (assignEach (.Name x pos :: ts) X.env).map (·.2) = assign (.Name x pos) X.env :: (assignEach ts X.env).map (·.2) := by rfl) : PNs X (.Name x pos :: ts) (i :: is) := ⟨⟨fun pins s σ H vs us Q I r hq => by
  cases vs with
  | nil => exact absurd hq.1 (by simp)
  | cons v vs =>
    refine (pgs_cons (pg_name (pos := pos) hN hi hx hf) h.run hs).run pins s σ H _ us Q I r ⟨v, vs, rfl, ?_⟩
    exact ⟨by simpa using hq.1, hq.2⟩⟩⟩
theorem pg_tp {es : List Expr} {k : Nat} {pos : Pos} {is : List Nat} (hc : X.calm = true) (h : PNs X es is) (hn : (assignEach es X.env).length = is.length := by rfl) (hst : (assignEach es X.env).findIdx? (·.1) = none := by rfl) : PG X (.Tuple es k pos) (Tgt.g X.K (.tp is)) :=
  ⟨fun pins s σ H v u Q I r hq => by
    obtain ⟨a, xs, e1, e2 | e2, e3, e4⟩ := hq
    · exact (pg_tup hc h.run hn hst).run pins s σ H v u Q I r ⟨a, xs, e1, e2, e3, e3, e4⟩
    · exact (pg_lst hc h.run hn hst).run pins s σ H v u Q I r ⟨a, xs, e1, e2, e3, e3, e4⟩⟩
end

section
variable {X : Cx}
theorem pg_np (i : Nat) {x : Str} {p1 : Pos} {es : List Expr} {k k2 : Nat} {pos pos2 : Pos} {is : List Nat} (hc : X.calm = true) (hN : X.N.Nodup) (h : PNs X es is) (hi : X.N[i]? = some x := by rfl) (hx : Loc X.env.scope x := by first | exact Or.inl rfl | exact Or.inr rfl) (hf : X.fn x = true ∨ X.env.scope.names.lookup x = some .local := by first | exact .inl rfl | exact .inr rfl | assumption)
    (hn : (assignEach es X.env).length = is.length := by rfl) (hst : (assignEach es X.env).findIdx? (·.1) = none := by rfl)
    (hs1 : (assignEach [.Tuple es k pos] X.env).map (·.2) = assign (.Tuple es k pos) X.env :: (assignEach [] X.env).map (·.2) := by rfl)
    (hs2 : (assignEach [.Name x p1, .Tuple es k pos] X.env).map (·.2) = assign (.Name x p1) X.env :: (assignEach [.Tuple es k pos] X.env).map (·.2) := by rfl)
    (hn2 : (assignEach [.Name x p1, .Tuple es k pos] X.env).length = 2 := by rfl) (hst2 : (assignEach [.Name x p1, .Tuple es k pos] X.env).findIdx? (·.1) = none := by rfl) : PG X (.Tuple [.Name x p1, .Tuple es k pos] k2 pos2) (Tgt.g X.K (.np i is)) :=
  ⟨fun pins s σ H v u Q I r hq => (pg_tup hc (pgs_cons (pg_name hN hi hx hf) (pgs_cons (pg_tup hc h.run hn hst) pgs_nil hs1) hs2) hn2 hst2).run pins s σ H v u Q I r (by
    obtain ⟨a, y, b, xs, e1, e2, e3, e4, e5⟩ := hq
    exact ⟨a, _, e1, e2, rfl, y, _, rfl, .ref b, [], rfl, b, xs, rfl, e3, e4, e4, rfl, e5⟩)⟩
end

/-! ### assignment to a tuple of names -/
def sAsg (t : Tgt) (f : FE) : FS := fun env => bindO (f env) fun d => match t.put d env with
  | some e => .nx e
  | none => .no
theorem vs_asg {X : Cx} {C : Ct} {t : Tgt} {f : FE} {tg e : Expr} {pos : Pos} (h : VE X C e f) (hg : PG X tg (t.g X.K)) (hs : swapsWithSole [tg] e pos.line X.env = pure false := by rfl) (hw : swappedStores [tg] e X.env = pure none := by rfl)
    (h1 : (assignEach [tg] X.env).map (·.2) = [assign tg X.env] := by rfl) : VS X C (.Assign [tg] e pos) (sAsg t f) := PS.of (ps_asg h hg hs hw h1) fun D σ H ⟨F, env, re, q⟩ =>
  ⟨F, env, re, SatS.bind re q fun d v F1 H1 x1 r1 q1 => by
    cases hp : t.put d env with
    | none => rw [hp] at q1; exact q1.elim
    | some e' =>
      rw [hp] at q1
      exact Tgt.go (re.go x1) r1 hp fun vs re2 => q1 _ H1 F1 (Same.refl _) re2⟩

/-! ### what is walked -/
structure ItD (K : PySem.W.Frag) (F : Hp) (J : It) (ds : List D) : Prop where
  go : ∀ F' H' (i : Nat) (d : D), Same F F' → Same F' H' → ds[i]? = some d → J.go i H' ∧ ∀ x H2, J.yld i H' x H2 → ∃ F2, Ext F' H' F2 H2 ∧ Rp K F2 x d
  stop : ∀ F' H' (i : Nat), Same F F' → Same F' H' → ds.length = i → J.stop i H'
theorem ItD.mono {K : PySem.W.Frag} {F F' : Hp} {J : It} {ds : List D} (h : ItD K F J ds) (s : Same F F') : ItD K F' J ds :=
  ⟨fun F2 H2 i d s2 => h.go F2 H2 i d (s.trans s2), fun F2 H2 i s2 => h.stop F2 H2 i (s.trans s2)⟩
def RI (K : PySem.W.Frag) : Rel It (List D) := fun _ _ F' _ J ds => ItD K F' J ds
theorem RI.mono {K : PySem.W.Frag} : RMono (RI K) := fun _ _ _ _ _ _ _ _ _ _ h => h
def TIt (K : PySem.W.Frag) (mg : Str → Option Value) (C : Ct) (g : FA) : TI := fun σ H R => ∃ F env, REnv K C F σ H env ∧ Sat mg C (RI K) (g env) σ F H R
abbrev VI (X : Cx) (C : Ct) (tg e : Expr) (g : FA) : Prop := PI X tg e (TIt X.K X.mg C g)
theorem PI.of {X : Cx} {tg e : Expr} {t u : TI} (h : PI X tg e t) (i : ∀ σ H R, u σ H R → t σ H R) : PI X tg e u := ⟨fun pins s σ H R I q => h.run pins s σ H R I (i _ _ _ q)⟩
section
variable {K : PySem.W.Frag}
theorem itd_list {F : Hp} {a : Addr} {xs : List V} {ds : List D} (h : F a = some (.lst xs)) (r : RpAll K F xs ds) : ItD K F (Itl K a) ds := by
  have q : ∀ {F' H' : Hp}, Same F F' → Same F' H' → SqL K H' a xs := fun s s' => SqL.of (s' _ _ (s _ _ h))
  refine ⟨fun F' H' i d s s' e => ?_, fun F' H' i s s' e => ⟨xs, q s s', by rw [r.length]; exact Nat.le_of_eq e⟩⟩
  obtain ⟨v, h1, h2⟩ := r.get e
  refine ⟨⟨xs, v, q s s', h1⟩, fun x H2 y => ?_⟩
  obtain ⟨e1, e2⟩ := y
  subst e1
  have e3 := e2 xs (q s s')
  rw [h1] at e3
  cases e3
  exact ⟨F', Ext.refl s', Rp.mono s _ _ h2⟩
theorem itd_tup {F : Hp} {a : Addr} {xs : List V} {ds : List D} (h : SqT K F a xs) (r : RpAll K F xs ds) : ItD K F (Itt K a) ds := by
  have q : ∀ {F' H' : Hp}, Same F F' → Same F' H' → SqT K H' a xs := fun s s' => Same.sqt (s.trans s') h
  refine ⟨fun F' H' i d s s' e => ?_, fun F' H' i s s' e => ⟨xs, q s s', by rw [r.length]; exact Nat.le_of_eq e⟩⟩
  obtain ⟨v, h1, h2⟩ := r.get e
  refine ⟨⟨xs, v, q s s', h1⟩, fun x H2 y => ?_⟩
  obtain ⟨e1, e2⟩ := y
  subst e1
  have e3 := e2 xs (q s s')
  rw [h1] at e3
  cases e3
  exact ⟨F', Ext.refl s', Rp.mono s _ _ h2⟩
theorem itd_range {F : Hp} (lo : Int) (n : Nat) : ItD K F (Itr lo n) ((List.range n).map fun i => .int (lo + (i : Nat))) := by
  refine ⟨fun F' H' i d s s' e => ?_, fun F' H' i s s' e => ?_⟩
  · rw [List.getElem?_map] at e
    have hi : i < n := by
      rcases Nat.lt_or_ge i n with h | h
      · exact h
      · rw [List.getElem?_eq_none (by simpa using h)] at e; cases e
    rw [List.getElem?_range hi] at e
    cases e
    refine ⟨hi, fun x H2 y => ?_⟩
    obtain ⟨e1, e2⟩ := y
    subst e1 e2
    exact ⟨F', Ext.refl s', .int _⟩
  · rw [List.length_map, List.length_range] at e
    exact Nat.le_of_eq e
def oneS (c : Nat) : D := .str ⟨#[c]⟩
theorem itd_str {F : Hp} (x : Str) : ItD K F (Its x) (x.cps.toList.map oneS) := by
  refine ⟨fun F' H' i d s s' e => ?_, fun F' H' i s s' e => ?_⟩
  · rw [List.getElem?_map] at e
    cases h : x.cps.toList[i]? with
    | none => rw [h] at e; cases e
    | some c =>
      rw [h] at e
      cases e
      have h' : x.cps[i]? = some c := by rw [← Array.getElem?_toList]; exact h
      refine ⟨(Array.getElem?_eq_some_iff.mp h').1, fun y H2 z => ?_⟩
      obtain ⟨e1, c', e2, e3⟩ := z
      subst e1 e3
      rw [h'] at e2
      cases e2
      exact ⟨F', Ext.refl s', .str _⟩
  · rw [List.length_map, Array.length_toList] at e
    exact Nat.le_of_eq e
end
/-- a list, a tuple, a text, walked -/
def seqD : D → Option (List D)
  | .list l => some l
  | .tuple l => some l
  | .str x => some (x.cps.toList.map oneS)
  | _ => none
def iSeq (f : FE) : FA := fun env => (f env).bind fun d => Rs.ofO (seqD d)
def iSeqT (K : PySem.W.Frag) (tl : TE) : TI := fun σ H R => tl σ H fun x H1 => (∃ a, x = .ref a ∧ (∃ xs, SqL K H1 a xs) ∧ R (Itl K a) H1) ∨ (∃ a, x = .ref a ∧ (∃ xs, SqT K H1 a xs) ∧ R (Itt K a) H1) ∨ (∃ z, x = .str z ∧ R (Its z) H1)
section
variable {X : Cx} {C : Ct} {tg l : Expr}
theorem pi_seq {tl : TE} (hl : PE X l tl) : PI X tg l (iSeqT X.K tl) := by
  refine ⟨fun pins s σ H R I h => ?_⟩
  refine thn (hl.run pins s σ H _ I h) fun v s1 ⟨x, H1, I1, r1, q1⟩ => ?_
  rcases q1 with ⟨a, e, ⟨xs, hq⟩, q⟩ | ⟨a, e, ⟨xs, hq⟩, q⟩ | ⟨z, e, q⟩
  · subst e
    cases r1
    obtain ⟨its, rv, p, hz⟩ := I1.list hq
    refine wpAny_pyIter_list p.isList ?_
    exact pi_one (tk := s1.toks) I1 _ (turn_list a _) ⟨_, Heap.get?_push_size _ rfl, rfl, rfl⟩ q
  · subst e
    cases r1
    obtain ⟨its, rv, p, hz⟩ := I1.tuple hq
    refine wpAny_pyIter_tuple (show s1.heap.IsTuple a its.toArray from p) ?_
    exact pi_one (tk := s1.toks) I1 _ (turn_tuple a _) ⟨_, Heap.get?_push_size _ rfl, rfl, rfl⟩ q
  · subst e
    obtain ⟨t, rfl⟩ := r1
    cases ha : z.cps.all (· < 128)
    · exact wpAny_pyIter_wide ha (pi_one (tk := s1.toks) I1 _ (turn_str _ z t "str_iterator" (.inr rfl)) ⟨_, Heap.get?_push_size _ rfl, rfl, rfl⟩ q)
    · exact wpAny_pyIter_ascii ha (pi_one (tk := s1.toks) I1 _ (turn_str _ z t "str_ascii_iterator" (.inl rfl)) ⟨_, Heap.get?_push_size _ rfl, rfl, rfl⟩ q)
theorem vi_seq {f : FE} (h : VE X C l f) : VI X C tg l (iSeq f) := PI.of (pi_seq h) fun σ H R ⟨F, env, re, q⟩ =>
  ⟨F, env, re, Sat.bind RI.mono q fun d v F1 H1 x1 r1 q1 => by
    have s1 := (re.go x1).same
    cases d with
    | list ds =>
      cases r1 with
      | @lst a xs _ h1 h2 => exact .inl ⟨a, rfl, ⟨xs, SqL.of (s1 _ _ h1)⟩, q1 _ H1 F1 (Ext.refl s1) (itd_list h1 h2)⟩
    | tuple ds =>
      cases r1 with
      | @tup a xs _ h1 h2 => exact .inr (.inl ⟨a, rfl, ⟨xs, Same.sqt s1 h1⟩, q1 _ H1 F1 (Ext.refl s1) (itd_tup h1 h2)⟩)
    | str x =>
      cases r1
      exact .inr (.inr ⟨x, rfl, q1 _ H1 F1 (Ext.refl s1) (itd_str x)⟩)
    | _ => exact q1.elim⟩
/-- range(n), range(a, b) -/
def rng (lo : Int) (n : Nat) : List D := (List.range n).map fun i => .int (lo + (i : Nat))
def BIG : Nat := 1000000
def iRng1D : List D → Option (List D)
  | [.int j] => if j.natAbs ≤ BIG then some (rng 0 j.toNat) else none
  | _ => none
def iRng2D : List D → Option (List D)
  | [.int i, .int j] => if i.natAbs ≤ BIG ∧ j.natAbs ≤ BIG then some (rng i (j - i).toNat) else none
  | _ => none
def iRng1F (fa : FA) : FA := fun env => (fa env).bind fun ds => Rs.ofO (iRng1D ds)
def iRng2F (fa : FA) : FA := fun env => (fa env).bind fun ds => Rs.ofO (iRng2D ds)
theorem RpAll.ints1 {K : PySem.W.Frag} {F : Hp} {vs : List V} {j : Int} (h : RpAll K F vs [.int j]) : vs = [.int j] := by
  cases h with
  | cons a b => cases a; cases b; rfl
theorem RpAll.ints2 {K : PySem.W.Frag} {F : Hp} {vs : List V} {i j : Int} (h : RpAll K F vs [.int i, .int j]) : vs = [.int i, .int j] := by
  cases h with
  | cons a b => cases a; rw [b.ints1]
theorem vi_range1 {a : Expr} {fa : FA} {p pos : Pos} (hg : Gl X "range") (hm : X.mg "range" = none) (ha : VA X C [a] fa) (hs : starEach [a] X.env = [(false, eval a X.env)] := by rfl) : VI X C tg (.Call (.Name "range" p) [a] [] pos) (iRng1F fa) :=
  PI.of (pi_range1 hg hm ha hs) fun σ H R ⟨F, env, re, q⟩ => ⟨F, env, re, Sat.bind RI.mono q fun ds vs F1 H1 x1 r1 q1 => by
    obtain ⟨c, hc, q2⟩ := Sat.ofO q1
    unfold iRng1D at hc
    split at hc
    · rename_i j
      split at hc
      · rename_i hb
        cases hc
        have e := r1.ints1
        subst e
        refine ⟨j, rfl, by unfold BIG at hb; omega, by unfold BIG at hb; omega, q2 _ H1 F1 (Ext.refl (re.go x1).same) ?_⟩
        exact itd_range 0 j.toNat
      · cases hc
    · cases hc⟩
theorem vi_range2 {a b : Expr} {fa : FA} {p pos : Pos} (hg : Gl X "range") (hm : X.mg "range" = none) (ha : VA X C [a, b] fa) (hs : starEach [a, b] X.env = [(false, eval a X.env), (false, eval b X.env)] := by rfl) (hs2 : starEach [b] X.env = [(false, eval b X.env)] := by rfl) : VI X C tg (.Call (.Name "range" p) [a, b] [] pos) (iRng2F fa) :=
  PI.of (pi_range2 hg hm ha hs hs2) fun σ H R ⟨F, env, re, q⟩ => ⟨F, env, re, Sat.bind RI.mono q fun ds vs F1 H1 x1 r1 q1 => by
    obtain ⟨c, hc, q2⟩ := Sat.ofO q1
    unfold iRng2D at hc
    split at hc
    · rename_i i j
      split at hc
      · rename_i hb
        cases hc
        have e := r1.ints2
        subst e
        refine ⟨i, j, rfl, by unfold BIG at hb; omega, q2 _ H1 F1 (Ext.refl (re.go x1).same) ?_⟩
        exact itd_range i (j - i).toNat
      · cases hc
    · cases hc⟩
end

/-! ### for -/
def loopF (t : Tgt) (body : FS) : List D → List Sl → Out
  | [], env => .nx env
  | d :: ds, env => match t.put d env with
    | none => .no
    | some e => match body e with
      | .nx e' => loopF t body ds e'
      | .ct e' => loopF t body ds e'
      | .bk e' => .nx e'
      | o => o
def sFor (t : Tgt) (gi : FA) (body : FS) : FS := fun env => bindO (gi env) fun ds => loopF t body ds env
section
variable {X : Cx} {C : Ct}
theorem vs_for {t : Tgt} {tg iter : Expr} {gi : FA} {g : FS} {body : List Stmt} {pos : Pos} (hp : PassesOwn (model X.prog X.w) X.A X.env X.xe) (hc : X.calm = true) (hi : VI X C tg iter gi) (hg : PG X tg (t.g X.K)) (hb : VSs X C body g)
    (hs : ∀ x, foldedSetIterable iter X.env x = pure x := by intro _; rfl) : VS X C (.For tg iter body [] pos) (sFor t gi g) := PS.of (ps_for hp hc hi hg hb hs) fun D σ H ⟨F, env, re, q⟩ =>
  ⟨F, env, re, SatS.bind (R := RI X.K) re q fun ds J F1 H1 x1 r1 q1 => by
    refine ⟨fun i m σ H => m + i = ds.length ∧ ∃ F env, Same F1 F ∧ REnv X.K C F σ H env ∧ SatS X.K X.mg C (loopF t g (ds.drop i) env) F D, ⟨ds.length, by omega, F1, env, Same.refl _, re.go x1, q1⟩, ?_⟩
    rintro i m σ2 H2 ⟨hm, F2, env2, sF, re2, q2⟩
    by_cases hlt : i < ds.length
    · have hd : ds[i]? = some ds[i] := List.getElem?_eq_getElem hlt
      obtain ⟨g1, g2⟩ := r1.go F2 H2 i ds[i] sF re2.same hd
      refine .inr ⟨g1, fun σ' H' => ∃ F env, Same F1 F ∧ REnv X.K C F σ' H' env ∧ SatS X.K X.mg C (loopF t g (ds.drop (i + 1)) env) F D, fun σ' H' n => ⟨m - 1, by omega, by omega, n⟩, fun x H3 y => ?_⟩
      obtain ⟨F3, x3, r3⟩ := g2 x H3 y
      have re3 := re2.go x3
      rw [List.drop_eq_getElem_cons hlt] at q2
      cases hp : t.put ds[i] env2 with
      | none => simp only [loopF, hp] at q2; exact q2.elim
      | some e =>
        refine Tgt.go re3 r3 hp fun vs re4 => ⟨F3, e, re4, ?_⟩
        simp only [loopF, hp] at q2
        have q3 := SatS.go q2 x3.f
        cases hb : g e with
        | nx e' => rw [hb] at q3; exact fun σ' H' F' s r => ⟨F', e', (sF.trans x3.f).trans s, r, SatS.go q3 s⟩
        | ct e' => rw [hb] at q3; exact fun σ' H' F' s r => ⟨F', e', (sF.trans x3.f).trans s, r, SatS.go q3 s⟩
        | bk e' => rw [hb] at q3; exact q3
        | rt d => rw [hb] at q3; exact q3
        | rn d => rw [hb] at q3; exact q3
        | er c n => rw [hb] at q3; exact q3
        | no => rw [hb] at q3; exact q3
    · have e : ds.drop i = [] := List.drop_eq_nil_of_le (by omega)
      rw [e] at q2
      exact .inl ⟨r1.stop F2 H2 i sF re2.same (by omega), q2 σ2 H2 F2 (Same.refl _) re2⟩⟩

/-! ### while -/
def loopW (c : FB) (body : FS) : Nat → List Sl → Out
  | 0, _ => .no
  | n + 1, env => bindO (c env) fun b => if b = true then (match body env with
      | .nx e => loopW c body n e
      | .ct e => loopW c body n e
      | .bk e => .nx e
      | o => o) else .nx env
def sWhile (n : Nat) (c : FB) (body : FS) : FS := fun env => loopW c body n env
theorem vs_while (n : Nat) {c : Expr} {fc : FB} {g : FS} {body : List Stmt} {pos : Pos} (hp : PassesOwn (model X.prog X.w) X.A X.env X.xe) (hc : VB X C c fc) (hb : VSs X C body g) : VS X C (.While c body [] pos) (sWhile n fc g) := PS.of (ps_while hp hc hb) fun D σ H ⟨F, env, re, q⟩ => by
  refine ⟨fun m σ H => ∃ F env, REnv X.K C F σ H env ∧ SatS X.K X.mg C (loopW fc g m env) F D, ⟨n, F, env, re, q⟩, ?_⟩
  rintro m σ2 H2 ⟨F2, env2, re2, q2⟩
  cases m with
  | zero => exact q2.elim
  | succ m =>
    refine ⟨F2, env2, re2, SatS.bind (R := RB) re2 q2 fun t k F3 H3 x3 r3 q3 => ?_⟩
    have e : k = t := r3
    subst e
    have re3 := re2.go x3
    cases k with
    | false => rw [if_neg Bool.false_ne_true] at q3 ⊢; exact q3 σ2 H3 F3 (Same.refl _) re3
    | true =>
      rw [if_pos rfl] at q3 ⊢
      refine ⟨fun σ' H' => ∃ F env, REnv X.K C F σ' H' env ∧ SatS X.K X.mg C (loopW fc g m env) F D, fun σ' H' w => ⟨m, Nat.lt_succ_self _, w⟩, F3, env2, re3, ?_⟩
      cases hb : g env2 with
      | nx e' => rw [hb] at q3; exact fun σ' H' F' s r => ⟨F', e', r, SatS.go q3 s⟩
      | ct e' => rw [hb] at q3; exact fun σ' H' F' s r => ⟨F', e', r, SatS.go q3 s⟩
      | bk e' => rw [hb] at q3; exact q3
      | rt d => rw [hb] at q3; exact q3
      | rn d => rw [hb] at q3; exact q3
      | er c n => rw [hb] at q3; exact q3
      | no => rw [hb] at q3; exact q3
end

/-! ### comprehensions -/
/-- what the turns make -/
def lcGo (t : Tgt) (tt : FB) (k : List Sl → Rs (List D)) (env : List Sl) : List D → Rs (List D)
  | [] => .ok []
  | d :: ds => match t.put d env with
    | none => .no
    | some e => (tt e).bind fun b => if b = true then (k e).bind fun ys => (lcGo t tt k env ds).bind fun r => .ok (ys ++ r) else lcGo t tt k env ds
def one (f : FE) : List Sl → Rs (List D) := fun e => (f e).bind fun y => .ok [y]
def fLc (gi : FA) (t : Tgt) (tt : FB) (f : FE) (vs : List Nat) : FE := fun env => (gi env).bind fun ds => (lcGo t tt (one f) (wipeE env vs) ds).quiet.bind fun out => if out.length ≤ LINE then .ok (.list out) else .no
def bYes : FB := fun _ => .ok true
abbrev VT (X : Cx) (C : Ct) (ifs : List Expr) (g : FB) : Prop := PTs X ifs (TB X.K X.mg C g)
theorem vt_nil {X : Cx} {C : Ct} : VT X C [] bYes := ⟨fun pins s σ H Q I ⟨F, env, re, q⟩ => pts_nil.run pins s σ H Q I (q true H F (Ext.refl re.same) rfl)⟩
theorem vt_one {X : Cx} {C : Ct} {c : Expr} {g : FB} (h : VB X C c g) : VT X C [c] g := pts_one h
section
variable {X : Cx} {C : Ct}
theorem lcGo_cons_yes {t : Tgt} {tt : FB} {k : List Sl → Rs (List D)} {env e : List Sl} {d : D} {ds out : List D} (hp : t.put d env = some e) (h : lcGo t tt k env (d :: ds) = .ok out) :
    ∃ b, tt e = .ok b ∧ if b = true then ∃ ys r, k e = .ok ys ∧ lcGo t tt k env ds = .ok r ∧ out = ys ++ r else lcGo t tt k env ds = .ok out := by
  unfold lcGo at h
  rw [hp] at h
  have h : ((tt e).bind fun b => if b = true then (k e).bind fun ys => (lcGo t tt k env ds).bind fun r => .ok (ys ++ r) else lcGo t tt k env ds) = .ok out := h
  cases hb : tt e with
  | ok b =>
    rw [hb] at h
    refine ⟨b, rfl, ?_⟩
    have h : (if b = true then (k e).bind fun ys => (lcGo t tt k env ds).bind fun r => .ok (ys ++ r) else lcGo t tt k env ds) = .ok out := h
    cases b with
    | false => rw [if_neg Bool.false_ne_true] at h ⊢; exact h
    | true =>
      rw [if_pos rfl] at h ⊢
      cases hk : k e with
      | ok ys =>
        rw [hk] at h
        cases hr : lcGo t tt k env ds with
        | ok r =>
          rw [hr] at h
          have h : Rs.ok (ys ++ r) = .ok out := h
          cases h
          exact ⟨ys, r, rfl, rfl, rfl⟩
        | er c n => rw [hr] at h; cases h
        | no => rw [hr] at h; cases h
      | er c n => rw [hk] at h; cases h
      | no => rw [hk] at h; cases h
  | er c n => rw [hb] at h; cases h
  | no => rw [hb] at h; cases h
theorem REnv.nox {K : PySem.W.Frag} {F H : Hp} {σ : L2.St} {env : List Sl} (re : REnv K C F σ H env) : REnv K C.nox F σ H env := ⟨re.ext, re.len, fun i s h => by
  have z := re.get i s h
  cases s <;> exact z, re.apart⟩
theorem t_lc {K : PySem.W.Frag} {mg : Str → Option Value} {gi : FA} {t : Tgt} {tt : FB} {f : FE} {vs : List Nat} (hv : ∀ i ∈ t.slots, i ∈ vs) {σ : L2.St} {H : Hp} {Q : VK} :
    TN K mg C (fLc gi t tt f vs) σ H Q → tLc (TIt K mg C gi) (t.g K) (TB K mg C.nox tt) (T K mg C.nox f) vs σ H Q := fun ⟨F, env, re, q⟩ =>
  ⟨F, env, re, Sat.bind (R := RI K) RN.mono q fun ds J F1 H1 x1 r1 q1 Dd hD => by
    have re1 := re.go x1
    cases hout : lcGo t tt (one f) (wipeE env vs) ds with
    | er c n => rw [hout] at q1; exact q1.elim
    | no => rw [hout] at q1; exact q1.elim
    | ok out =>
      rw [hout] at q1
      have q1 : Sat mg C (RN K) (if out.length ≤ LINE then .ok (.list out) else .no) σ F1 H1 Q := q1
      by_cases hl : out.length ≤ LINE
      · rw [if_pos hl] at q1
        have fD : F1 Dd = none := re1.same.free hD
        have cD : C.H Dd = none := re1.ext.h.free hD
        -- behind i turns
        refine ⟨fun i m H => m + i = ds.length ∧ ∃ F acc xs, Ext F1 H1 F H ∧ H Dd = some (.lst xs) ∧ F Dd = none ∧ RpAll K F xs acc ∧ ∃ r, lcGo t tt (one f) (wipeE env vs) (ds.drop i) = .ok r ∧ acc ++ r = out,
          ⟨ds.length, by omega, F1, [], [], Ext.laid re1.same hD, upd_same, fD, .nil, out, hout, rfl⟩, ?_⟩
        rintro i m H2 ⟨hm, F2, acc, xs, x2, hH, hF, ra, r, hr, er⟩
        have re2 := re1.go x2
        by_cases hlt : i < ds.length
        · have hd : ds[i]? = some ds[i] := List.getElem?_eq_getElem hlt
          obtain ⟨g1, g2⟩ := r1.go F2 H2 i ds[i] x2.f re2.same hd
          refine .inr ⟨g1, fun H' => ∃ F acc xs, Ext F1 H1 F H' ∧ H' Dd = some (.lst xs) ∧ F Dd = none ∧ RpAll K F xs acc ∧ ∃ r, lcGo t tt (one f) (wipeE env vs) (ds.drop (i + 1)) = .ok r ∧ acc ++ r = out, fun H' n => ⟨m - 1, by omega, by omega, n⟩, fun x H3 y => ?_⟩
          obtain ⟨F3, x3, r3⟩ := g2 x H3 y
          have re3 := (re2.go x3).wipe vs
          rw [List.drop_eq_getElem_cons hlt] at hr
          cases hp : t.put ds[i] (wipeE env vs) with
          | none => unfold lcGo at hr; rw [hp] at hr; cases hr
          | some e =>
            obtain ⟨b, hb, hr⟩ := lcGo_cons_yes hp hr
            refine Tgt.go re3 r3 hp fun ws re4 => ⟨(wipe_setV vs _ _ _ hv).trans (by
              have z : ∀ (vs : List Nat) (σ : L2.St), L2.wipe (L2.wipe σ vs) vs = L2.wipe σ vs := fun vs σ => by
                refine List.ext_getElem? fun j => ?_
                by_cases hj : j ∈ vs
                · have w : ∀ (σ : L2.St) (us : List Nat), j ∈ us → (L2.wipe σ us)[j]? = if j < σ.length then some none else none := by
                    intro σ us
                    induction us with
                    | nil => intro h; cases h
                    | cons u us ih =>
                      intro h
                      show ((L2.wipe σ us).set u none)[j]? = _
                      by_cases q : u = j
                      · subst q
                        by_cases hlen : u < σ.length
                        · rw [List.getElem?_set_self (by rw [L2.wipe_length]; exact hlen), if_pos hlen]
                        · rw [List.getElem?_eq_none (by rw [List.length_set, L2.wipe_length]; omega), if_neg hlen]
                      · rw [List.getElem?_set_ne q]
                        exact ih (by
                          rcases List.mem_cons.mp h with e | e
                          · exact absurd e.symm q
                          · exact e)
                  rw [w _ vs hj, w _ vs hj, L2.wipe_length]
                · rw [wipe_out hj, wipe_out hj]
              exact z vs σ), F3, e, re4.nox, ?_⟩
            rw [hb]
            refine fun b' H4 F4 x4 eb => ?_
            have eb : b' = b := eb
            subst eb
            dsimp only
            have re5 := re4.go x4
            have hD4 : H4 Dd = some (.lst xs) := x4.h _ _ (x3.h _ _ hH)
            have keepF : ∀ {F5 H5 : Hp}, Ext F3 H3 F5 H5 → F5 Dd = none := fun {F5 H5} x5 => by
              cases z : F5 Dd with
              | none => rfl
              | some o =>
                rcases (x3.trans x5).n _ _ z with w | w
                · rw [hF] at w; cases w
                · rw [hH] at w; cases w
            cases b' with
            | false =>
              rw [if_neg Bool.false_ne_true] at hr ⊢
              exact ⟨F4, acc, xs, x2.trans (x3.trans x4), hD4, keepF x4, RpAll.mono (x3.trans x4).f _ _ ra, r, hr, er⟩
            | true =>
              rw [if_pos rfl] at hr ⊢
              obtain ⟨ys, r', hk, hr', eo⟩ := hr
              subst eo
              unfold one at hk
              cases hf : f e with
              | ok yd =>
                rw [hf] at hk
                have hk : Rs.ok [yd] = .ok ys := hk
                cases hk
                refine ⟨F4, e, re5.nox, ?_⟩
                rw [hf]
                refine fun yv H5 F5 x5 ry => ⟨xs, x5.h _ _ hD4, ?_, F5, acc ++ [yd], xs ++ [yv], ?_, upd_same, keepF (x4.trans x5), ?_, r', hr', by rw [List.append_assoc]; exact er⟩
                · have z := congrArg List.length er
                  rw [List.length_append, List.length_append, List.length_singleton] at z
                  rw [ra.length, line_eq]
                  omega
                · have x6 := x2.trans (x3.trans (x4.trans x5))
                  refine ⟨x6.f, fun c o h => ?_, fun c o h => ?_, x6.n⟩
                  · rw [upd_ne (ne_of_none h hD)]; exact x6.h _ _ h
                  · rw [upd_ne (ne_of_none h (keepF (x4.trans x5)))]; exact x6.s _ _ h
                · exact (RpAll.mono (x3.trans (x4.trans x5)).f _ _ ra).append (.cons ry .nil)
              | er c n => rw [hf] at hk; cases hk
              | no => rw [hf] at hk; cases hk
        · have e : ds.drop i = [] := List.drop_eq_nil_of_le (by omega)
          rw [e] at hr
          cases hr
          rw [List.append_nil] at er
          subst er
          exact .inl ⟨r1.stop F2 H2 i x2.f re2.same (by omega), q1 _ H2 F2 x2 ⟨Dd, xs, acc, rfl, rfl, hH, hF, hD, ra⟩⟩
      · rw [if_neg hl] at q1; exact q1.elim⟩
theorem vn_lc {elt tg iter : Expr} {ifs : List Expr} {scope : Scope} {own : List (Str × Nat)} {pos : Pos} {gi : FA} {t : Tgt} {tt : FB} {f : FE} (am : Am X) (hi : VI X C tg iter gi) (ok : BlkOk X.N X.env.scope scope own)
    (hg : ∀ (s : Shared) (H : Hp) (Cc : Addr) (cl : List (Str × Addr)) (fp : List Addr), PG (X.blk s H scope (compEnvC scope cl Cc X.env) fp) tg (t.g X.K)) (ht : ∀ (s : Shared) (H : Hp) (Cc : Addr) (cl : List (Str × Addr)) (fp : List Addr), VT (X.blk s H scope (compEnvC scope cl Cc X.env) fp) C.nox ifs tt)
    (he : ∀ (s : Shared) (H : Hp) (Cc : Addr) (cl : List (Str × Addr)) (fp : List Addr), VE (X.blk s H scope (compEnvC scope cl Cc X.env) fp) C.nox elt f) (hv : ∀ i ∈ t.slots, i ∈ own.map (·.2)) (hs : ∀ x, foldedSetIterable iter X.env x = pure x := by intro _; rfl) :
    VN X C (.ListComp elt [⟨tg, iter, ifs, 0⟩] scope pos) (fLc gi t tt f (own.map (·.2))) := PE.of (pe_lc am.c am.n hi ok hg ht he hs) fun σ H Q h => t_lc hv h
end
end PD

/-! Part 5: bodies; operations by values -/
namespace PD
open PySem PySem.Spec PyProof.Rows L2

/-! ### a def's body -/
section
variable {P : Program} {w : World} {K : PySem.W.Frag} {mg : Str → Option Value} {base : Heap}
theorem fn_ofG {CX : CXT} {k : Nat} {f : Addr} {name qual : Str} {params : Arguments} {body : List Stmt} {scope : Scope} {dV kV doc pm cdv ct oc : Value} {an od : Option Addr}
    {osl : Array (Option Value)} {N ps : List Str} {sp : Sp} (lk : K.lookup f = some ⟨oc, od, .func (PySem.W.fnOf name qual params body scope dV kV doc pm an cdv ct), osl⟩) (hcd : PySem.W.codeIn K cdv qual = true) (S : FnScope N ps scope)
    (len : ∀ vs H Q E, sp vs H Q E → vs.length = ps.length)
    (hbody : ∀ (A : Around) (outer : List Env) (s : Shared) (H : Hp) (vs : List V) (Q : VK) (E : XK), A.guards = some [] → Room k (A.deeper (envOfC qual scope s.heap.objs.size f cdv)) → sp vs H Q E →
      ∃ t, PSs (cxOf CX P w K mg base N qual scope f cdv A outer s H E) body t ∧ t { nx := fun _ H' => Q .non H', rt := Q } (L2.start N vs) H) :
    FnG P w K mg base CX (k + 1) f (PySem.W.fnOf name qual params body scope dV kV doc pm an cdv ct) ps sp := by
  refine ⟨len, fun A outer s H args us vs Q E hg hr e0 hb r hsp => ?_⟩
  have hl := len _ _ _ _ hsp
  have KX : K.In s.heap := e0.mod.kin.keeps fun b o e => (e0.bs b o e).1
  have lim : s.heap.NoLimit := e0.mod.nolimit.keeps fun b o e => (e0.bs b o e).1
  have hkind : ∀ y ∈ ps.zip us, scope.names.lookup y.1 = some .local ∨ (scope.names.lookup y.1 = some .cell ∧ ((cellsFrom (s.heap.objs.size + 1) scope.names []).lookup y.1).isSome = true) := fun ⟨n, v⟩ hy => by
    rcases S.par n (List.of_mem_zip hy).1 with q | q
    · exact .inl q
    · exact .inr ⟨q, PySem.W.cellsFrom_some _ _ _ (.inl q)⟩
  refine codeAny_call_function hr.depth (KX _ _ lk) rfl S.co S.gen rfl (PySem.W.codeRec_of KX hcd) (hb _ _ _ _ ?_)
  refine wpAny_newFunctionEnv_cells S.kind hkind fun env he s1 x => ?_
  subst he
  refine ⟨lim.keeps x.toInCall.keep, codeAny_func ?_⟩
  obtain ⟨t, ht, hq⟩ := hbody A outer s H vs Q E hg (hr.deeper _) hsp
  have I : Inv (cxOf CX P w K mg base N qual scope f cdv A outer s H E) [] (L2.start N vs) H s1 := inv_start S hr.hd e0 hl r x
  refine wpAny_mono (ht.run [] s1 (L2.start N vs) H _ I hq) (fun fl s' hs => ?_) fun e s' hs => hs
  have fin : ∀ {σ' : L2.St} {H' : Hp} {v : V} {u : Value}, Inv (cxOf CX P w K mg base N qual scope f cdv A outer s H E) [] σ' H' s' → RelV v u → Q v H' → CE outer P w H s Q u s' :=
    fun {σ' H' v u} J rv q => ⟨v, H', J.os, J.bare, J.base, J.hok, rv, q⟩
  cases fl with
  | ret u =>
    obtain ⟨v, σ', H', J, rv, q⟩ := hs
    exact fin J rv q
  | next =>
    obtain ⟨σ', H', J, q⟩ := hs
    exact fin (v := V.non) (u := Value.none) J rfl q
  | brk =>
    obtain ⟨_, _, _, q⟩ := hs
    exact False.elim q
  | cont =>
    obtain ⟨_, _, _, q⟩ := hs
    exact False.elim q

/-- the def as a function on data: m slots, n parameters -/
def env0 (m : Nat) (ds : List D) : List Sl := ds.map Sl.sh ++ List.replicate (m - ds.length) .un
def outD : Out → Rs D
  | .nx _ => .ok .none
  | .rt d => .ok d
  | .rn d => .ok d
  | .er c n => .er c n
  | _ => .no
def outN : Out → Rs D
  | .rn d => .ok d
  | .er c n => .er c n
  | _ => .no
def dfn (m n : Nat) (g : FS) : List D → Rs D := fun ds => if ds.length = n then outD (g (env0 m ds)) else .no
def dfnN (m n : Nat) (g : FS) : List D → Rs D := fun ds => if ds.length = n then outN (g (env0 m ds)) else .no
/-- .. of a def that raises nothing -/
def dfn0 (m n : Nat) (g : FS) : List D → Rs D := fun ds => if ds.length = n then (outD (g (env0 m ds))).quiet else .no
def dfn0N (m n : Nat) (g : FS) : List D → Rs D := fun ds => if ds.length = n then (outN (g (env0 m ds))).quiet else .no
theorem start_sh {K : PySem.W.Frag} {F : Hp} {vs : List V} {ds : List D} (h : RpAll K F vs ds) : ∀ (i : Nat) (s : Sl), (ds.map Sl.sh)[i]? = some s → ∃ d v, s = .sh d ∧ vs[i]? = some v ∧ Rp K F v d := fun i s e => by
  rw [List.getElem?_map] at e
  cases h' : ds[i]? with
  | none => rw [h'] at e; cases e
  | some d =>
    rw [h'] at e
    cases e
    obtain ⟨v, h1, h2⟩ := h.get h'
    exact ⟨d, v, rfl, h1, h2⟩
theorem renv0 {G H : Hp} {E : L2.St → XK} {vs : List V} {ds : List D} {N : List Str} (s : Same G H) (h : RpAll K G vs ds) (hl : ds.length ≤ N.length) : REnv K ⟨G, H, E⟩ G (L2.start N vs) H (env0 N.length ds) := by
  have hlen := h.length
  refine ⟨Ext.refl s, ?_, fun i t e => ?_, fun i j l m _ e _ => ?_⟩
  · unfold L2.start env0
    simp only [List.length_append, List.length_map, List.length_replicate]
    omega
  · unfold env0 at e
    by_cases hi : i < ds.length
    · rw [List.getElem?_append_left (by simpa using hi)] at e
      obtain ⟨d, v, rfl, h1, h2⟩ := start_sh h i t e
      refine ⟨v, ?_, h2⟩
      unfold L2.start
      rw [List.getElem?_append_left (by rw [List.length_map, hlen]; exact hi), List.getElem?_map, h1]
      rfl
    · rw [List.getElem?_append_right (by simpa using hi)] at e
      rw [List.getElem?_replicate] at e
      split at e
      · cases e; trivial
      · cases e
  · unfold env0 at e
    by_cases hi : i < ds.length
    · rw [List.getElem?_append_left (by simpa using hi)] at e
      obtain ⟨d, v, e', _⟩ := start_sh h i _ e
      cases e'
    · rw [List.getElem?_append_right (by simpa using hi)] at e
      rw [List.getElem?_replicate] at e
      split at e
      · cases e
      · cases e
/-- what a body's end gives -/
theorem satS_of {o : Out} {G H : Hp} {E : XK} {Q : VK} (s : Same G H) (q : Sat mg ⟨G, H, fun _ => E⟩ (RD K) (outD o) [] G H Q) : SatS K mg ⟨G, H, fun _ => E⟩ o G { nx := fun _ H' => Q .non H', rt := Q } := by
  cases o with
  | nx e => exact fun σ' H' F' _ r => q .non H' F' r.ext .non
  | rt d => exact fun v H' F' x r => q v H' F' x r
  | rn d =>
    refine fun v H' F' x ⟨p, xs, l, e1, e2, e3, e4, e5, e6⟩ => ?_
    subst e1 e2
    have e5 : H p = none := e5
    have x : Ext G H F' H' := x
    refine q _ H' (upd F' p (.lst xs)) ⟨fun b o z => ?_, x.h, fun b o z => ?_, fun b o z => ?_⟩ (.lst (a := p) (xs := xs) upd_same (RpAll.mono (same_upd e4) _ _ e6))
    · rw [upd_ne (ne_of_none (x.f _ _ z) e4)]; exact x.f _ _ z
    · by_cases w : b = p
      · subst w; rw [upd_same] at z; rw [← z]; exact e3
      · rw [upd_ne w] at z; exact x.s _ _ z
    · by_cases w : b = p
      · subst w; exact .inr e5
      · rw [upd_ne w] at z; exact x.n _ _ z
  | er c n => exact fun σ' => q
  | bk e => exact q.elim
  | ct e => exact q.elim
  | no => exact q.elim
theorem satSN_of {o : Out} {G H : Hp} {E : XK} {Q : VK} (s : Same G H) (q : Sat mg ⟨G, H, fun _ => E⟩ (RN K) (outN o) [] G H Q) : SatS K mg ⟨G, H, fun _ => E⟩ o G { nx := fun _ H' => Q .non H', rt := Q } := by
  cases o with
  | rn d => exact fun v H' F' x r => q v H' F' x r
  | er c n => exact fun σ' => q
  | _ => exact q.elim
theorem sat_len {ds : List D} {n : Nat} {R : Rel V D} {o : Rs D} {C : Ct} {σ : L2.St} {F H : Hp} {Q : VK} (q : Sat mg C R (if ds.length = n then o else .no) σ F H Q) : ds.length = n ∧ Sat mg C R o σ F H Q := by
  by_cases h : ds.length = n
  · rw [if_pos h] at q; exact ⟨h, q⟩
  · rw [if_neg h] at q; exact q.elim
theorem sat_quiet {R : Rel V D} {o : Rs D} {C C' : Ct} {σ σ' : L2.St} {F H : Hp} {Q : VK} (q : Sat mg C R o.quiet σ F H Q) : Sat mg C' R o σ' F H Q := by
  cases o with
  | ok d => exact q
  | er c n => exact q.elim
  | no => exact q
/-- a def that raises nothing -/
theorem def0 {x qual : Str} {st : Stmt} {f : Addr} {fd : FuncData} {N ps : List Str} {k : Nat} {g : FS} (F : Fun K x qual st f fd) (S : FnScope N ps (defScope st)) (hl : ps.length ≤ N.length)
    (hb : ∀ (cdv : Value) (A : Around) (outer : List Env) (s : Shared) (H G : Hp), Am (cxOf CX0 P w K mg base N qual (defScope st) f cdv A outer s H E0).nox → Room k (cxOf CX0 P w K mg base N qual (defScope st) f cdv A outer s H E0).nox.A →
      VSs (cxOf CX0 P w K mg base N qual (defScope st) f cdv A outer s H E0).nox ⟨G, H, fun _ => E0⟩ (defBody st) g) : FnG P w K mg base CX0 (k + 1) f fd ps (spD K mg (dfn0 N.length ps.length g)) := by
  obtain ⟨oc, od, kV, doc, pm, an, cdv, ct, osl, rfl, lk, hcd⟩ := F.ex
  refine fn_ofG lk hcd S (fun vs H Q E h => ?_) fun A outer s H vs Q E hg hr h => ?_
  · obtain ⟨G, ds, _, h2, q⟩ := h
    rw [h2.length]
    exact (sat_len q).1
  · obtain ⟨G, ds, s1, h2, q⟩ := h
    obtain ⟨hn, q⟩ := sat_len q
    have hb' := hb cdv A outer s H G ⟨hg, hr.mono (Nat.zero_le _), rfl, S.nd⟩ hr
    exact ⟨_, PSs.nox hb', G, _, renv0 s1 h2 (by omega), satS_of s1 (sat_quiet q)⟩
theorem def0N {x qual : Str} {st : Stmt} {f : Addr} {fd : FuncData} {N ps : List Str} {k : Nat} {g : FS} (F : Fun K x qual st f fd) (S : FnScope N ps (defScope st)) (hl : ps.length ≤ N.length)
    (hb : ∀ (cdv : Value) (A : Around) (outer : List Env) (s : Shared) (H G : Hp), Am (cxOf CX0 P w K mg base N qual (defScope st) f cdv A outer s H E0).nox → Room k (cxOf CX0 P w K mg base N qual (defScope st) f cdv A outer s H E0).nox.A →
      VSs (cxOf CX0 P w K mg base N qual (defScope st) f cdv A outer s H E0).nox ⟨G, H, fun _ => E0⟩ (defBody st) g) : FnG P w K mg base CX0 (k + 1) f fd ps (spN K mg (dfn0N N.length ps.length g)) := by
  obtain ⟨oc, od, kV, doc, pm, an, cdv, ct, osl, rfl, lk, hcd⟩ := F.ex
  refine fn_ofG lk hcd S (fun vs H Q E h => ?_) fun A outer s H vs Q E hg hr h => ?_
  · obtain ⟨G, ds, _, h2, q⟩ := h
    rw [h2.length]
    exact (sat_len q).1
  · obtain ⟨G, ds, s1, h2, q⟩ := h
    obtain ⟨hn, q⟩ := sat_len q
    have hb' := hb cdv A outer s H G ⟨hg, hr.mono (Nat.zero_le _), rfl, S.nd⟩ hr
    exact ⟨_, PSs.nox hb', G, _, renv0 s1 h2 (by omega), satSN_of s1 (sat_quiet q)⟩
/-- a new list may stand for a list -/
theorem spN_spD {Fn : List D → Rs D} : ∀ vs H Q E, spD K mg Fn vs H Q E → spN K mg Fn vs H Q E := fun vs H Q E ⟨G, ds, s, h, q⟩ => ⟨G, ds, s, h, by
  cases hf : Fn ds with
  | ok d =>
    rw [hf] at q
    refine fun v H' F' x ⟨p, xs, l, e1, e2, e3, e4, e5, e6⟩ => ?_
    subst e1 e2
    refine q _ H' (upd F' p (.lst xs)) ⟨fun b o z => ?_, x.h, fun b o z => ?_, fun b o z => ?_⟩ (.lst (a := p) (xs := xs) upd_same (RpAll.mono (same_upd e4) _ _ e6))
    · rw [upd_ne (ne_of_none (x.f _ _ z) e4)]; exact x.f _ _ z
    · by_cases w : b = p
      · subst w; rw [upd_same] at z; rw [← z]; exact e3
      · rw [upd_ne w] at z; exact x.s _ _ z
    · by_cases w : b = p
      · subst w; exact .inr e5
      · rw [upd_ne w] at z; exact x.n _ _ z
  | er c n => rw [hf] at q; exact q
  | no => rw [hf] at q; exact q⟩
theorem FnG.d {f : Addr} {fd : FuncData} {ps : List Str} {k : Nat} {CX : CXT} {Fn : List D → Rs D} (F : FnG P w K mg base CX k f fd ps (spN K mg Fn)) : FnG P w K mg base CX k f fd ps (spD K mg Fn) := F.imp spN_spD
end

/-! ### arithmetic -/
def BIT64 : Nat := 18446744073709551616
def dAdd : D → D → Option D
  | .int a, .int b => some (.int (a + b))
  | .str a, .str b => if a.length + b.length ≤ LINE then some (.str (a ++ b)) else none
  | .list a, .list b => if a.length + b.length ≤ LINE then some (.list (a ++ b)) else none
  | .tuple a, .tuple b => if a.length + b.length ≤ LINE then some (.tuple (a ++ b)) else none
  | _, _ => none
def dSub : D → D → Option D
  | .int a, .int b => some (.int (a - b))
  | _, _ => none
def dMul : D → D → Option D
  | .int a, .int b => if a.natAbs < BIT64 ∨ b.natAbs < BIT64 then some (.int (a * b)) else none
  | .list a, .int k => if k.natAbs ≤ 1000000 ∧ a.length * k.toNat ≤ LINE then some (.list (List.replicate k.toNat a).flatten) else none
  | .str a, .int k => if k.natAbs ≤ 1000 ∧ a.length ≤ 1000 then some (.str (Txt.mul a k)) else none
  | _, _ => none
def dDiv : D → D → Option D
  | .int a, .int b => if 0 < b ∧ b.natAbs < 1073741824 then some (.int (a / b)) else none
  | _, _ => none
def dMod : D → D → Option D
  | .int a, .int b => if 0 < b then some (.int (a % b)) else none
  | _, _ => none
def dPow : D → D → Option D
  | .int a, .int b => if 0 ≤ b ∧ b.natAbs ≤ 1000 ∧ a.natAbs < 18446744073709551616 then some (.int (a ^ b.toNat)) else none
  | _, _ => none
def dNeg : D → Option D
  | .int a => some (.int (-a))
  | _ => none
section
variable {K : PySem.W.Frag} {X : Cx}
def rAddU (K : PySem.W.Frag) : R2 := fun x y H Q => rI0 (fun i j => .int (i + j)) x y H Q ∨ (∃ i j, x = .str i ∧ y = .str j ∧ i.length + j.length ≤ sizeLine ∧ Q (.str (i ++ j)) H) ∨ rCat x y H Q ∨ rCatA K x y H Q
theorem o_add : OpR X (binaryOp .Add) (rAddU X.K) := op_add.or (op_add_str.or (op_cat.or op_catA))
theorem v_add : V2 K (rAddU K) dAdd := by
  intro F H x y d e c Q s rx ry h q
  cases d with
  | int i =>
    cases e with
    | int j => cases rx; cases ry; cases h; exact .inl ⟨i, j, rfl, rfl, q _ H F (Ext.refl s) (.int _)⟩
    | _ => cases h
  | str i =>
    cases e with
    | str j =>
      cases rx; cases ry
      simp only [dAdd] at h
      split at h
      · rename_i hl; cases h; exact .inr (.inl ⟨i, j, rfl, rfl, by rw [line_eq]; exact hl, q _ H F (Ext.refl s) (.str _)⟩)
      · cases h
    | _ => cases h
  | list i =>
    cases e with
    | list j =>
      simp only [dAdd] at h
      split at h
      · rename_i hl
        cases h
        cases rx with
        | @lst a xs _ a1 a2 =>
          cases ry with
          | @lst b ys _ b1 b2 =>
            refine .inr (.inr (.inl ⟨a, b, xs, ys, rfl, rfl, s _ _ a1, s _ _ b1, by rw [a2.length, b2.length, line_eq]; exact hl, fun p hp => ?_⟩))
            exact q _ _ _ (Ext.new s hp) (.lst upd_same (RpAll.mono (same_upd (s.free hp)) _ _ (a2.append b2)))
      · cases h
    | _ => cases h
  | tuple i =>
    cases e with
    | tuple j =>
      simp only [dAdd] at h
      split at h
      · rename_i hl
        cases h
        cases rx with
        | @tup a xs _ a1 a2 =>
          cases ry with
          | @tup b ys _ b1 b2 =>
            refine .inr (.inr (.inr ⟨a, b, xs, ys, rfl, rfl, Same.sqt s a1, Same.sqt s b1, by rw [a2.length, b2.length, line_eq]; exact hl, fun e => ?_, fun _ e => ?_, fun _ _ p hp => ?_⟩))
            · subst e
              cases a2
              exact q _ H F (Ext.refl s) (.tup b1 b2)
            · subst e
              cases b2
              rw [List.append_nil] at q
              exact q _ H F (Ext.refl s) (.tup a1 a2)
            · exact q _ _ _ (Ext.new s hp) (.tup (SqT.of upd_same) (RpAll.mono (same_upd (s.free hp)) _ _ (a2.append b2)))
      · cases h
    | _ => cases h
  | _ => cases h
/-- two whole numbers to one -/
theorem v_int {C : Int → Int → Prop} {g : Int → Int → Int} {k : D → D → Option D} (hk : ∀ d e c, k d e = some c → ∃ i j, d = .int i ∧ e = .int j ∧ C i j ∧ c = .int (g i j)) : V2 K (rI C fun i j => .int (g i j)) k := by
  intro F H x y d e c Q s rx ry h q
  obtain ⟨i, j, rfl, rfl, hc, rfl⟩ := hk d e c h
  cases rx; cases ry
  exact ⟨i, j, rfl, rfl, hc, q _ H F (Ext.refl s) (.int _)⟩
theorem v_int0 {g : Int → Int → Int} {k : D → D → Option D} (hk : ∀ d e c, k d e = some c → ∃ i j, d = .int i ∧ e = .int j ∧ c = .int (g i j)) : V2 K (rI0 fun i j => .int (g i j)) k := by
  intro F H x y d e c Q s rx ry h q
  obtain ⟨i, j, rfl, rfl, rfl⟩ := hk d e c h
  cases rx; cases ry
  exact ⟨i, j, rfl, rfl, q _ H F (Ext.refl s) (.int _)⟩
theorem v_sub : V2 K (rI0 fun i j => .int (i - j)) dSub := v_int0 fun d e c h => by
  unfold dSub at h
  split at h
  · cases h; exact ⟨_, _, rfl, rfl, rfl⟩
  · cases h
theorem v_div : V2 K (rI CDiv fun i j => .int (i / j)) dDiv := v_int fun d e c h => by
  unfold dDiv at h
  split at h
  · split at h
    · rename_i hc; cases h; exact ⟨_, _, rfl, rfl, ⟨hc.1, by have := hc.2; omega⟩, rfl⟩
    · cases h
  · cases h
theorem v_mod : V2 K (rI (fun _ j => 0 < j) fun i j => .int (i % j)) dMod := v_int fun d e c h => by
  unfold dMod at h
  split at h
  · split at h
    · rename_i hc; cases h; exact ⟨_, _, rfl, rfl, hc, rfl⟩
    · cases h
  · cases h
theorem v_pow : V2 K (rI CPow fun i j => .int (i ^ j.toNat)) dPow := v_int fun d e c h => by
  unfold dPow at h
  split at h
  · split at h
    · rename_i hc; cases h; exact ⟨_, _, rfl, rfl, ⟨hc.1, by have := hc.1; have := hc.2.1; omega, hc.2.2⟩, rfl⟩
    · cases h
  · cases h
theorem v_neg : V1 K (rU fun i => .int (-i)) dNeg := by
  intro F H x d c Q s rx h q
  unfold dNeg at h
  split at h
  · cases h; cases rx; exact ⟨_, rfl, q _ H F (Ext.refl s) (.int _)⟩
  · cases h
def rMulS : R2 := fun x y H Q => ∃ z i, x = .str z ∧ y = .int i ∧ MulOk z i ∧ Q (.str (Txt.mul z i)) H
theorem op_mulS : OpR X (binaryOp .Mult) rMulS := by
  intro pins s σ H x y v u Q I rx ry h
  obtain ⟨z, i, rfl, rfl, hc, q⟩ := h
  obtain ⟨t, rfl⟩ := rx
  obtain ⟨t', rfl⟩ := ry
  exact SB.mul hc fun t' k => ⟨.str _, H, I.tok _, ⟨_, rfl⟩, q⟩
def rMulU : R2 := fun x y H Q => rI CMul (fun i j => .int (i * j)) x y H Q ∨ rRep x y H Q ∨ rMulS x y H Q
theorem o_mul : OpR X (binaryOp .Mult) rMulU := op_mul.or (op_rep.or op_mulS)
theorem v_mul : V2 K rMulU dMul := by
  intro F H x y d e c Q s rx ry h q
  cases d with
  | int i =>
    cases e with
    | int j =>
      cases rx; cases ry
      simp only [dMul] at h
      split at h
      · rename_i hc; cases h; exact .inl ⟨i, j, rfl, rfl, by unfold BIT64 at hc; rcases hc with z | z; exact .inl (by omega); exact .inr (by omega), q _ H F (Ext.refl s) (.int _)⟩
      · cases h
    | _ => cases h
  | list i =>
    cases e with
    | int k =>
      cases ry
      simp only [dMul] at h
      split at h
      · rename_i hc
        cases h
        cases rx with
        | @lst a xs _ a1 a2 =>
          refine .inr (.inl ⟨a, k, xs, rfl, rfl, s _ _ a1, by omega, by omega, by rw [a2.length, line_eq]; exact hc.2, fun p hp => ?_⟩)
          exact q _ _ _ (Ext.new s hp) (.lst upd_same (RpAll.mono (same_upd (s.free hp)) _ _ (a2.rep _)))
      · cases h
    | _ => cases h
  | str i =>
    cases e with
    | int k =>
      cases rx; cases ry
      simp only [dMul] at h
      split at h
      · rename_i hc
        cases h
        exact .inr (.inr ⟨i, k, rfl, rfl, mulOk_of 1000 1000 hc.2 (by omega) (by omega) (by decide) (by decide), q _ H F (Ext.refl s) (.str _)⟩)
      · cases h
    | _ => cases h
  | _ => cases h
/-- list * int, the new list owned -/
theorem v_mulN : ∀ (F H : Hp) (x y : V) (d e c : D) (Q : VK), Same F H → Rp K F x d → Rp K F y e → (match d, e with | .list a, .int k => dMul (.list a) (.int k) | _, _ => none) = some c → (∀ v H' F', Ext F H F' H' → RN K F H F' H' v c → Q v H') → rMulU x y H Q := by
  intro F H x y d e c Q s rx ry h q
  cases d with
  | list i =>
    cases e with
    | int k =>
      cases ry
      simp only [dMul] at h
      split at h
      · rename_i hc
        cases h
        cases rx with
        | @lst a xs _ a1 a2 =>
          refine .inr (.inl ⟨a, k, xs, rfl, rfl, s _ _ a1, by omega, by omega, by rw [a2.length, line_eq]; exact hc.2, fun p hp => ?_⟩)
          exact q _ _ _ (Ext.laid s hp) ⟨p, _, _, rfl, rfl, upd_same, s.free hp, hp, a2.rep _⟩
      · cases h
    | _ => cases h
  | _ => cases h
end

/-! ### comparisons -/
theorem Rp.plain {K : PySem.W.Frag} {H : Hp} : ∀ (d : D) (v : V), Rp K H v d → d.plain = true
  | .none, _, _ => rfl
  | .bool _, _, _ => rfl
  | .int _, _, _ => rfl
  | .str _, _, _ => rfl
  | .list ds, _, h => by
    cases h with
    | lst _ r => exact all ds _ r
  | .tuple ds, _, h => by
    cases h with
    | tup _ r => exact all ds _ r
  | .dict _, _, h => by cases h
where all : ∀ (ds : List D) (vs : List V), RpAll K H vs ds → PyData.plainAll ds = true
  | [], _, _ => rfl
  | d :: ds, _, h => by
    cases h with
    | cons a b => simp only [PyData.plainAll, Rp.plain d _ a, all ds _ b, Bool.and_self]
def DEEP : Nat := 64
def shal (d : D) : Bool := decide (d.depth ≤ 64)
def dEq (d e : D) : Option D := if (shal d || shal e) = true then some (.bool (PyData.eqv d e)) else none
def dNe (d e : D) : Option D := if (shal d || shal e) = true then some (.bool (!PyData.eqv d e)) else none
def notNone : D → Bool
  | .none => false
  | _ => true
def dLtC (d e : D) : Bool := PySem.W.alike d e && notNone d && (shal d || shal e)
def dLt (d e : D) : Option D := if dLtC d e = true then some (.bool (PySem.W.dataLt d e)) else none
def dGt (d e : D) : Option D := if dLtC d e = true then some (.bool (PySem.W.dataLt e d)) else none
def dLe (d e : D) : Option D := if dLtC d e = true then some (.bool (!PySem.W.dataLt e d)) else none
def dGe (d e : D) : Option D := if dLtC d e = true then some (.bool (!PySem.W.dataLt d e)) else none
def dInL (d : D) (l : List D) : Bool := l.any fun y => PyData.eqv y d
/-- x in c: over a list, a tuple; one sign in a text -/
def dIn (d e : D) : Option D := match e with
  | .list l => if shal d = true then some (.bool (dInL d l)) else none
  | .tuple l => if shal d = true then some (.bool (dInL d l)) else none
  | .str z => match d with
    | .str x => some (.bool (!(Builtin.Str.occurrences z x 0 z.length 1).isEmpty))
    | _ => none
  | _ => none
def dNot : D → D
  | .bool b => .bool (!b)
  | d => d
def dNotIn (d e : D) : Option D := (dIn d e).map dNot
section
variable {K : PySem.W.Frag} {X : Cx}
/-- a rule of two values that read as data, the answer a truth value -/
def rDB (K : PySem.W.Frag) (ok : D → D → Bool) (g : D → D → Bool) : R2 := fun x y H Q => ∃ F d e, Same F H ∧ Rp K F x d ∧ Rp K F y e ∧ ok d e = true ∧ Q (.bl (g d e)) H
theorem Rp.reads {pins : List (Addr × Obj)} {σ : L2.St} {F H : Hp} {s : Shared} {d : D} {v : V} {u : Value} (I : Inv X pins σ H s) (sf : Same F H) (h : Rp X.K F v d) (r : RelV v u) : ∃ as, Reads s.heap u d as := Dp.reads I d v u (Rp.dp d v (Rp.mono sf d v h)) r
theorem min_shal {d e : D} (h : (shal d || shal e) = true) : min d.depth e.depth ≤ 64 := by
  rcases Bool.or_eq_true_iff.mp h with q | q
  · have := of_decide_eq_true (p := d.depth ≤ 64) q; omega
  · have := of_decide_eq_true (p := e.depth ≤ 64) q; omega
theorem Am.u (am : Am X) : X.A.units + 200 < cLine := by have := am.r.un; omega
theorem o_eq (am : Am X) : OpR X (compareOp .Eq) (rDB X.K (fun d e => shal d || shal e) PyData.eqv) := by
  intro pins s σ H x y v u Q I rx ry ⟨F, d, e, sf, hd, he, ok, q⟩
  obtain ⟨as, r1⟩ := hd.reads I sf rx
  obtain ⟨bs, r2⟩ := he.reads I sf ry
  have := am.u
  have := min_shal ok
  exact SeqAt.eq_plain r1 r2 (Rp.plain _ _ hd) (Rp.plain _ _ he) (by omega) ⟨.bl _, H, I, rfl, q⟩
theorem o_ne (am : Am X) : OpR X (compareOp .NotEq) (rDB X.K (fun d e => shal d || shal e) fun d e => !PyData.eqv d e) := by
  intro pins s σ H x y v u Q I rx ry ⟨F, d, e, sf, hd, he, ok, q⟩
  obtain ⟨as, r1⟩ := hd.reads I sf rx
  obtain ⟨bs, r2⟩ := he.reads I sf ry
  have := am.u
  have := min_shal ok
  exact SeqAt.ne_plain r1 r2 (Rp.plain _ _ hd) (Rp.plain _ _ he) (by omega) ⟨.bl _, H, I, rfl, q⟩
theorem ltC {d e : D} (h : dLtC d e = true) : PySem.W.alike d e = true ∧ d ≠ .none ∧ min d.depth e.depth ≤ 64 := by
  unfold dLtC at h
  simp only [Bool.and_eq_true] at h
  refine ⟨h.1.1, fun z => ?_, min_shal h.2⟩
  have := h.1.2
  rw [z] at this
  cases this
theorem o_lt (am : Am X) : OpR X (compareOp .Lt) (rDB X.K dLtC PySem.W.dataLt) := by
  intro pins s σ H x y v u Q I rx ry ⟨F, d, e, sf, hd, he, ok, q⟩
  obtain ⟨as, r1⟩ := hd.reads I sf rx
  obtain ⟨bs, r2⟩ := he.reads I sf ry
  obtain ⟨h1, h2, h3⟩ := ltC ok
  have := am.u
  exact PySem.W.lt_data r1 r2 h1 h2 (by omega) ⟨.bl _, H, I, rfl, q⟩
theorem o_gt (am : Am X) : OpR X (compareOp .Gt) (rDB X.K dLtC fun d e => PySem.W.dataLt e d) := by
  intro pins s σ H x y v u Q I rx ry ⟨F, d, e, sf, hd, he, ok, q⟩
  obtain ⟨as, r1⟩ := hd.reads I sf rx
  obtain ⟨bs, r2⟩ := he.reads I sf ry
  obtain ⟨h1, h2, h3⟩ := ltC ok
  have := am.u
  exact PySem.W.gt_data r1 r2 h1 h2 (by omega) ⟨.bl _, H, I, rfl, q⟩
theorem o_le (am : Am X) : OpR X (compareOp .LtE) (rDB X.K dLtC fun d e => !PySem.W.dataLt e d) := by
  intro pins s σ H x y v u Q I rx ry ⟨F, d, e, sf, hd, he, ok, q⟩
  obtain ⟨as, r1⟩ := hd.reads I sf rx
  obtain ⟨bs, r2⟩ := he.reads I sf ry
  obtain ⟨h1, h2, h3⟩ := ltC ok
  have := am.u
  exact PySem.W.le_data r1 r2 h1 h2 (by omega) ⟨.bl _, H, I, rfl, q⟩
theorem o_ge (am : Am X) : OpR X (compareOp .GtE) (rDB X.K dLtC fun d e => !PySem.W.dataLt d e) := by
  intro pins s σ H x y v u Q I rx ry ⟨F, d, e, sf, hd, he, ok, q⟩
  obtain ⟨as, r1⟩ := hd.reads I sf rx
  obtain ⟨bs, r2⟩ := he.reads I sf ry
  obtain ⟨h1, h2, h3⟩ := ltC ok
  have := am.u
  exact PySem.W.ge_data r1 r2 h1 h2 (by omega) ⟨.bl _, H, I, rfl, q⟩
theorem v_DB {ok g : D → D → Bool} : V2 K (rDB K ok g) fun d e => if ok d e = true then some (.bool (g d e)) else none := by
  intro F H x y d e c Q s rx ry h q
  by_cases hc : ok d e = true
  · simp only [if_pos hc] at h; cases h; exact ⟨F, d, e, s, rx, ry, hc, q _ H F (Ext.refl s) (.bl _)⟩
  · simp only [if_neg hc] at h; cases h
theorem v_eq : V2 K (rDB K (fun d e => shal d || shal e) PyData.eqv) dEq := v_DB
theorem v_ne : V2 K (rDB K (fun d e => shal d || shal e) fun d e => !PyData.eqv d e) dNe := v_DB
theorem v_lt : V2 K (rDB K dLtC PySem.W.dataLt) dLt := v_DB
theorem v_gt : V2 K (rDB K dLtC fun d e => PySem.W.dataLt e d) dGt := v_DB
theorem v_le : V2 K (rDB K dLtC fun d e => !PySem.W.dataLt e d) dLe := v_DB
theorem v_ge : V2 K (rDB K dLtC fun d e => !PySem.W.dataLt d e) dGe := v_DB
/-- in, not in -/
def inB (d e : D) : Bool := match dIn d e with
  | some (.bool b) => b
  | _ => false
def inOk (d e : D) : Bool := (dIn d e).isSome
theorem o_in (am : Am X) : OpR X (compareOp .In) (rDB X.K inOk inB) := by
  intro pins s σ H x y v u Q I rx ry ⟨F, d, e, sf, hd, he, ok, q⟩
  obtain ⟨as, r1⟩ := hd.reads I sf rx
  obtain ⟨bs, r2⟩ := he.reads I sf ry
  have hu := am.u
  cases e with
  | list l =>
    simp only [inOk, dIn] at ok
    by_cases hs : shal d = true
    · simp only [inB, dIn, if_pos hs] at q
      have hp : (PyData.list l).plain = true := Rp.plain _ _ he
      have := of_decide_eq_true (p := d.depth ≤ 64) hs
      exact SeqAt.in_list_data r2 r1 (by simpa [PyData.plain] using hp) (Rp.plain _ _ hd) (by omega) ⟨.bl _, H, I, rfl, q⟩
    · rw [if_neg hs] at ok; cases ok
  | tuple l =>
    simp only [inOk, dIn] at ok
    by_cases hs : shal d = true
    · simp only [inB, dIn, if_pos hs] at q
      have hp : (PyData.tuple l).plain = true := Rp.plain _ _ he
      have := of_decide_eq_true (p := d.depth ≤ 64) hs
      exact SeqAt.in_tuple_data r2 r1 (by simpa [PyData.plain] using hp) (Rp.plain _ _ hd) (by omega) ⟨.bl _, H, I, rfl, q⟩
    · rw [if_neg hs] at ok; cases ok
  | str z =>
    cases d with
    | str w =>
      cases hd
      cases he
      exact op_in_str pins s σ H _ _ v u Q I rx ry ⟨w, z, rfl, rfl, q⟩
    | _ => cases ok
  | _ => cases ok
theorem o_notIn (am : Am X) : OpR X (compareOp .NotIn) (rDB X.K inOk fun d e => !inB d e) := by
  intro pins s σ H x y v u Q I rx ry ⟨F, d, e, sf, hd, he, ok, q⟩
  obtain ⟨as, r1⟩ := hd.reads I sf rx
  obtain ⟨bs, r2⟩ := he.reads I sf ry
  have hu := am.u
  cases e with
  | list l =>
    simp only [inOk, dIn] at ok
    by_cases hs : shal d = true
    · simp only [inB, dIn, if_pos hs] at q
      have hp : (PyData.list l).plain = true := Rp.plain _ _ he
      have := of_decide_eq_true (p := d.depth ≤ 64) hs
      exact SeqAt.notIn_list_data r2 r1 (by simpa [PyData.plain] using hp) (Rp.plain _ _ hd) (by omega) ⟨.bl _, H, I, rfl, q⟩
    · rw [if_neg hs] at ok; cases ok
  | tuple l =>
    simp only [inOk, dIn] at ok
    by_cases hs : shal d = true
    · simp only [inB, dIn, if_pos hs] at q
      have hp : (PyData.tuple l).plain = true := Rp.plain _ _ he
      have := of_decide_eq_true (p := d.depth ≤ 64) hs
      exact SeqAt.notIn_tuple_data r2 r1 (by simpa [PyData.plain] using hp) (Rp.plain _ _ hd) (by omega) ⟨.bl _, H, I, rfl, q⟩
    · rw [if_neg hs] at ok; cases ok
  | str z =>
    cases d with
    | str w =>
      cases hd
      cases he
      exact L2.op_notin_str pins s σ H _ _ v u Q I rx ry ⟨w, z, rfl, rfl, q⟩
    | _ => cases ok
  | _ => cases ok
theorem dIn_bool {d e c : D} (h : dIn d e = some c) : ∃ b, c = .bool b := by
  unfold dIn at h
  split at h
  · split at h
    · cases h; exact ⟨_, rfl⟩
    · cases h
  · split at h
    · cases h; exact ⟨_, rfl⟩
    · cases h
  · split at h
    · cases h; exact ⟨_, rfl⟩
    · cases h
  · cases h
theorem v_in : V2 K (rDB K inOk inB) dIn := by
  intro F H x y d e c Q s rx ry h q
  obtain ⟨b, rfl⟩ := dIn_bool h
  exact ⟨F, d, e, s, rx, ry, by simp [inOk, h], by simp only [inB, h]; exact q _ H F (Ext.refl s) (.bl _)⟩
theorem v_notIn : V2 K (rDB K inOk fun d e => !inB d e) dNotIn := by
  intro F H x y d e c Q s rx ry h q
  unfold dNotIn at h
  cases h1 : dIn d e with
  | none => rw [h1] at h; cases h
  | some c' =>
    rw [h1] at h
    obtain ⟨b, rfl⟩ := dIn_bool h1
    cases h
    exact ⟨F, d, e, s, rx, ry, by simp [inOk, h1], by simp only [inB, h1]; exact q _ H F (Ext.refl s) (.bl _)⟩
/-- is, is not: None, True, False on the right -/
def isD : D → D → Option D
  | d, .none => some (.bool (!notNone d))
  | .bool a, .bool b => some (.bool (a == b))
  | .none, .bool _ => some (.bool false)
  | _, _ => none
def isNotD (d e : D) : Option D := (isD d e).map dNot
def rIsU : R2 := fun x y H Q => (y = .non ∧ Q (.bl (decide (x = .non))) H) ∨ (∃ a b, x = .bl a ∧ y = .bl b ∧ Q (.bl (a == b)) H) ∨ (∃ b, x = .non ∧ y = .bl b ∧ Q (.bl false) H)
theorem o_is : OpR X (compareOp .Is) rIsU := by
  intro pins s σ H x y v u Q I rx ry h
  rcases h with h | ⟨a, b, rfl, rfl, q⟩ | ⟨b, rfl, rfl, q⟩
  · exact op_isN pins s σ H x y v u Q I rx ry h
  · cases rx; cases ry
    refine wpAny_is_plain rfl ⟨.bl (a == b), H, I, ?_, q⟩
    show Value.bool _ = Value.bool _
    cases a <;> cases b <;> rfl
  · cases rx; cases ry
    exact wpAny_is_plain rfl ⟨.bl false, H, I, rfl, q⟩
end
end PD

/-! Part 6: is, subscripts, slices, built-ins, texts' methods -/
namespace PD
open PySem PySem.Spec PyProof.Rows L2

section
variable {K : PySem.W.Frag} {X : Cx}
theorem notNone_dec {F : Hp} {v : V} {d : D} (h : Rp K F v d) : decide (v = .non) = !notNone d := by
  cases h <;> simp [notNone]
theorem isD_cases {d e c : D} (h : isD d e = some c) : (e = .none ∧ c = .bool (!notNone d)) ∨ (∃ a b, d = .bool a ∧ e = .bool b ∧ c = .bool (a == b)) ∨ (∃ b, d = .none ∧ e = .bool b ∧ c = .bool false) := by
  unfold isD at h
  split at h
  · cases h; exact .inl ⟨rfl, rfl⟩
  · cases h; exact .inr (.inl ⟨_, _, rfl, rfl, rfl⟩)
  · cases h; exact .inr (.inr ⟨_, rfl, rfl, rfl⟩)
  · cases h
theorem v_is : V2 K rIsU isD := by
  intro F H x y d e c Q s rx ry h q
  rcases isD_cases h with ⟨rfl, rfl⟩ | ⟨a, b, rfl, rfl, rfl⟩ | ⟨b, rfl, rfl, rfl⟩
  · cases ry
    refine .inl ⟨rfl, ?_⟩
    rw [notNone_dec rx]
    exact q _ H F (Ext.refl s) (.bl _)
  · cases rx; cases ry
    exact .inr (.inl ⟨a, b, rfl, rfl, q _ H F (Ext.refl s) (.bl _)⟩)
  · cases rx; cases ry
    exact .inr (.inr ⟨b, rfl, rfl, q _ H F (Ext.refl s) (.bl _)⟩)
def rIsNotU : R2 := fun x y H Q => (y = .non ∧ Q (.bl (!decide (x = .non))) H) ∨ (∃ a b, x = .bl a ∧ y = .bl b ∧ Q (.bl (!(a == b))) H) ∨ (∃ b, x = .non ∧ y = .bl b ∧ Q (.bl true) H)
theorem o_isNot : OpR X (compareOp .IsNot) rIsNotU := by
  intro pins s σ H x y v u Q I rx ry h
  rcases h with h | ⟨a, b, rfl, rfl, q⟩ | ⟨b, rfl, rfl, q⟩
  · exact op_notN pins s σ H x y v u Q I rx ry h
  · cases rx; cases ry
    refine wpAny_isNot_plain rfl ⟨.bl (!(a == b)), H, I, ?_, q⟩
    show Value.bool _ = Value.bool _
    cases a <;> cases b <;> rfl
  · cases rx; cases ry
    exact wpAny_isNot_plain rfl ⟨.bl true, H, I, rfl, q⟩
theorem v_isNot : V2 K rIsNotU isNotD := by
  intro F H x y d e c Q s rx ry h q
  unfold isNotD at h
  cases h1 : isD d e with
  | none => rw [h1] at h; cases h
  | some c' =>
    rw [h1] at h
    cases h
    rcases isD_cases h1 with ⟨rfl, rfl⟩ | ⟨a, b, rfl, rfl, rfl⟩ | ⟨b, rfl, rfl, rfl⟩
    · cases ry
      refine .inl ⟨rfl, ?_⟩
      rw [notNone_dec rx]
      exact q _ H F (Ext.refl s) (.bl _)
    · cases rx; cases ry
      exact .inr (.inl ⟨a, b, rfl, rfl, q _ H F (Ext.refl s) (.bl _)⟩)
    · cases rx; cases ry
      exact .inr (.inr ⟨b, rfl, rfl, q _ H F (Ext.refl s) (.bl _)⟩)

/-! ### subscripts -/
def dIx (d e : D) : Option D := match e with
  | .int i => match d with
    | .list l => atI l i
    | .tuple l => atI l i
    | .str z => if z.length ≤ LINE then (atI z.cps.toList i).map oneS else none
    | _ => none
  | _ => none
theorem RpAll.atI {F : Hp} {vs : List V} {ds : List D} {i : Int} {d : D} (h : RpAll K F vs ds) (e : L2.atI ds i = some d) : ∃ v, L2.atI vs i = some v ∧ Rp K F v d := by
  unfold L2.atI at e ⊢
  rw [h.length]
  cases hj : ixN ds.length i with
  | none => rw [hj] at e; cases e
  | some j =>
    rw [hj] at e
    exact h.get e
theorem v_ix : V2 K (rIx K) dIx := by
  intro F H x y d e c Q s rx ry h q
  cases e with
  | int i =>
    cases ry
    cases d with
    | list l =>
      cases rx with
      | @lst a xs _ a1 a2 =>
        obtain ⟨v, h1, h2⟩ := a2.atI h
        exact .inl ⟨a, xs, i, v, rfl, rfl, SqL.of (s _ _ a1), h1, q v H F (Ext.refl s) h2⟩
    | tuple l =>
      cases rx with
      | @tup a xs _ a1 a2 =>
        obtain ⟨v, h1, h2⟩ := a2.atI h
        exact .inr (.inl ⟨a, xs, i, v, rfl, rfl, Same.sqt s a1, h1, q v H F (Ext.refl s) h2⟩)
    | str z =>
      cases rx
      simp only [dIx] at h
      split at h
      · rename_i hl
        cases hc : L2.atI z.cps.toList i with
        | none => rw [hc] at h; cases h
        | some cc =>
          rw [hc] at h
          cases h
          exact .inr (.inr ⟨z, i, cc, rfl, rfl, by rw [line_eq]; exact hl, hc, q _ H F (Ext.refl s) (.str _)⟩)
      · cases h
    | _ => cases h
  | _ => cases h
end
section
variable {X : Cx} {C : Ct} {f f' : FE} {a b : Expr} {x : Str} {pos p1 : Pos}
theorem ve_ix (ha : VE X C a f) (hb : VE X C b f') (hs : PlainIx b := by intro _ _; rfl) : VE X C (.Subscript a b pos) (f2 dIx f f') := PE.of (pe_ix ix_seq ha hb hs) fun _ _ _ => t_op2 v_ix
/-- an item of an owned list -/
def fIxO (i : Nat) (f' : FE) : FE := fun env => match env[i]? with
  | some (.own l) => (f' env).bind fun e => Rs.ofO (dIx (.list l) e)
  | _ => .no
theorem ve_ixO (i : Nat) (hb : VE X C b f') (hN : X.N[i]? = some x := by rfl) (hv : Vis X.env.scope x := by first | exact Or.inl rfl | exact Or.inr (Or.inl rfl) | exact Or.inr (Or.inr rfl)) (hd : (x == ("__debug__" : Str)) = false := by decide)
    (hcd : (x == ("__classdict__" : Str)) = false := by decide) (hs : PlainIx b := by intro _ _; rfl) : VE X C (.Subscript (.Name x p1) b pos) (fIxO i f') := PE.of (pe_ix ix_list (pe_var hN hv hd hcd) hb hs) fun σ H Q ⟨F, env, re, q⟩ => by
  unfold fIxO at q
  split at q
  · rename_i l e1
    obtain ⟨p, xs, h1, h2, h3, h4, h5⟩ := re.own e1
    refine ⟨.ref p, h1, F, env, re, Sat.bind RD.mono q fun d v F1 H1 x1 r1 q1 => ?_⟩
    obtain ⟨c, hc, q2⟩ := Sat.ofO q1
    obtain ⟨p', xs', g1, g2, g3, g4, g5⟩ := (re.go x1).own e1
    rw [h1] at g1
    cases g1
    cases d with
    | int k =>
      cases r1
      obtain ⟨w, w1, w2⟩ := g5.atI hc
      exact ⟨p, xs', k, w, rfl, rfl, SqL.of g2, w1, q2 w H1 F1 (Ext.refl (re.go x1).same) w2⟩
    | _ => cases hc
  · exact q.elim
end

/-! ### slices -/
abbrev FO := List Sl → Rs (Option Int)
def RO : Rel (Option Int) (Option Int) := fun _ _ _ _ b c => b = c
theorem RO.mono : RMono RO := fun _ _ _ _ _ _ _ _ _ _ h => h
def TOp (K : PySem.W.Frag) (mg : Str → Option Value) (C : Ct) (f : FO) : L2.TO := fun σ H Q => ∃ F env, REnv K C F σ H env ∧ Sat mg C RO (f env) σ F H Q
abbrev VO (X : Cx) (C : Ct) (e : Option Expr) (f : FO) : Prop := PO X e (TOp X.K X.mg C f)
theorem PO.of {X : Cx} {e : Option Expr} {t u : L2.TO} (h : PO X e t) (i : ∀ σ H Q, u σ H Q → t σ H Q) : PO X e u := ⟨fun pins s σ H Q I q => h.run pins s σ H Q I (i _ _ _ q)⟩
def oNone : FO := fun _ => .ok none
def asI : D → Rs Int
  | .int i => .ok i
  | _ => .no
def oSome (f : FE) : FO := fun env => (f env).bind fun d => (asI d).bind fun i => .ok (some i)
def cutD {α : Type} (xs : List α) (lo hi : Option Int) : List α := (xs.drop (HT.sIx xs.length 0 lo)).take (HT.sIx xs.length xs.length hi - HT.sIx xs.length 0 lo)
def dSl (d : D) (lo hi : Option Int) : Option D := match d with
  | .list l => some (.list (cutD l lo hi))
  | .tuple l => some (.tuple (cutD l lo hi))
  | .str z => if z.length ≤ LINE then some (.str (cutS z lo hi)) else none
  | _ => none
def fSl (f : FE) (g g' : FO) : FE := fun env => (f env).bind fun d => (g env).bind fun lo => (g' env).bind fun hi => Rs.ofO (dSl d lo hi)
def fSlN (f : FE) (g g' : FO) : FE := fun env => (f env).bind fun d => (g env).bind fun lo => (g' env).bind fun hi => match d with
  | .list l => .ok (.list (cutD l lo hi))
  | _ => .no
theorem RpAll.cut {K : PySem.W.Frag} {F : Hp} {vs : List V} {ds : List D} (h : RpAll K F vs ds) (lo hi : Option Int) : RpAll K F (cutV vs lo hi) (cutD ds lo hi) := by
  unfold cutV cutD
  rw [h.length]
  exact (h.drop _).take _
def rSlU (K : PySem.W.Frag) : V → Option Int → Option Int → Hp → VK → Prop := fun x lo hi H Q => rSlL K x lo hi H Q ∨ rSlA K x lo hi H Q ∨ rSlS x lo hi H Q
section
variable {X : Cx} {C : Ct} {f : FE} {g g' : FO} {a : Expr} {lo hi : Option Expr} {pos p2 : Pos}
theorem vo_none : VO X C none oNone := PO.of po_none fun σ H Q ⟨F, env, re, q⟩ => q none H F (Ext.refl re.same) rfl
theorem vo_some {e : Expr} (h : VE X C e f) : VO X C (some e) (oSome f) := PO.of (po_some h) fun σ H Q ⟨F, env, re, q⟩ =>
  ⟨F, env, re, Sat.bind RO.mono q fun d v F1 H1 x1 r1 q1 => by
    cases d with
    | int i => cases r1; exact ⟨i, rfl, q1 _ H1 F1 (Ext.refl (re.go x1).same) rfl⟩
    | _ => exact q1.elim⟩
theorem sl_u : L2.SlR X (rSlU X.K) := sl_list.or (sl_tupA.or sl_str)
theorem ve_sl (ha : VE X C a f) (hl : VO X C lo g) (hh : VO X C hi g') : VE X C (.Subscript a (.Slice lo hi none p2) pos) (fSl f g g') := PE.of (pe_slice sl_u ha hl hh) fun σ H Q ⟨F, env, re, q⟩ =>
  ⟨F, env, re, Sat.bind RD.mono q fun d v F1 H1 x1 r1 q1 => ⟨F1, env, re.go x1, Sat.bind RD.mono q1 fun l l' F2 H2 x2 r2 q2 => ⟨F2, env, (re.go x1).go x2, Sat.bind RD.mono q2 fun u u' F3 H3 x3 r3 q3 => by
    have e1 : l' = l := r2
    have e2 : u' = u := r3
    subst e1 e2
    obtain ⟨c, hc, q4⟩ := Sat.ofO q3
    have s3 := ((re.go x1).go x2).go x3 |>.same
    have r1' := Rp.mono (x2.trans x3).f _ _ r1
    cases d with
    | list ds =>
      cases hc
      cases r1' with
      | @lst a xs _ a1 a2 =>
        exact .inl ⟨a, xs, rfl, SqL.of (s3 _ _ a1), fun p hp => q4 _ _ _ (Ext.new s3 hp) (.lst upd_same (RpAll.mono (same_upd (s3.free hp)) _ _ (a2.cut _ _)))⟩
    | tuple ds =>
      cases hc
      cases r1' with
      | @tup a xs _ a1 a2 =>
        refine .inr (.inl ⟨a, xs, rfl, Same.sqt s3 a1, fun hw => ?_, fun _ p hp => q4 _ _ _ (Ext.new s3 hp) (.tup (SqT.of upd_same) (RpAll.mono (same_upd (s3.free hp)) _ _ (a2.cut _ _)))⟩)
        have e : cutD ds l' u' = ds := by
          unfold cutD
          rw [a2.length] at hw
          rw [hw.1, hw.2]
          simp
        rw [e] at q4
        exact q4 _ H3 F3 (Ext.refl s3) (.tup a1 a2)
    | str z =>
      cases r1'
      simp only [dSl] at hc
      split at hc
      · rename_i hl
        cases hc
        exact .inr (.inr ⟨z, rfl, by rw [line_eq]; exact hl, q4 _ H3 F3 (Ext.refl s3) (.str _)⟩)
      · cases hc
    | _ => cases hc⟩⟩⟩
theorem vn_sl (ha : VE X C a f) (hl : VO X C lo g) (hh : VO X C hi g') : VN X C (.Subscript a (.Slice lo hi none p2) pos) (fSlN f g g') := PE.of (pe_slice sl_list ha hl hh) fun σ H Q ⟨F, env, re, q⟩ =>
  ⟨F, env, re, Sat.bind RN.mono q fun d v F1 H1 x1 r1 q1 => ⟨F1, env, re.go x1, Sat.bind RN.mono q1 fun l l' F2 H2 x2 r2 q2 => ⟨F2, env, (re.go x1).go x2, Sat.bind RN.mono q2 fun u u' F3 H3 x3 r3 q3 => by
    have e1 : l' = l := r2
    have e2 : u' = u := r3
    subst e1 e2
    have s3 := ((re.go x1).go x2).go x3 |>.same
    have r1' := Rp.mono (x2.trans x3).f _ _ r1
    cases d with
    | list ds =>
      cases r1' with
      | @lst a xs _ a1 a2 =>
        exact ⟨a, xs, rfl, SqL.of (s3 _ _ a1), fun p hp => q3 _ _ _ (Ext.laid s3 hp) ⟨p, _, _, rfl, rfl, upd_same, s3.free hp, hp, a2.cut _ _⟩⟩
    | _ => exact q3.elim⟩⟩⟩
/-- xs[::-1] of a list -/
def dRev : D → Option D
  | .list l => some (.list l.reverse)
  | _ => none
def fRev (f : FE) : FE := f1 dRev f
theorem ve_revL {k : Nat} {p1 p2 p3 : Pos} (ha : VE X C a f) : VE X C (.Subscript a (.Slice none none (some (.UnaryOp .USub (.Constant (.int 1) k p1) p2)) p3) pos) (fRev f) := PE.of (pe_revL ha) fun σ H Q ⟨F, env, re, q⟩ =>
  ⟨F, env, re, Sat.bind RD.mono q fun d v F1 H1 x1 r1 q1 => by
    obtain ⟨c, hc, q2⟩ := Sat.ofO q1
    have s1 := (re.go x1).same
    cases d with
    | list ds =>
      cases hc
      cases r1 with
      | @lst a xs _ a1 a2 =>
        exact ⟨a, xs, rfl, SqL.of (s1 _ _ a1), fun p hp => q2 _ _ _ (Ext.new s1 hp) (.lst upd_same (RpAll.mono (same_upd (s1.free hp)) _ _ a2.reverse))⟩
    | _ => cases hc⟩
/-- an expression with a new list of scalars, all own lists thawed -/
def flatL : D → Bool
  | .list l => l.all scalD
  | _ => false
def fScalN (f : FE) : FE := fun env => (f (thaw env)).bind fun d => if flatL d = true then .ok d else .no
theorem RpAll.scal {K : PySem.W.Frag} {F F' : Hp} : ∀ (ds : List D) (vs : List V), ds.all scalD = true → RpAll K F' vs ds → RpAll K F vs ds
  | [], _, _, h => by cases h; exact .nil
  | d :: ds, _, s, h => by
    rw [List.all_cons, Bool.and_eq_true] at s
    cases h with
    | cons a b => exact .cons (Rp.scal s.1 a) (RpAll.scal ds _ s.2 b)
theorem vn_scal {e : Expr} (h : VN X C e f) : VN X C e (fScalN f) := PE.of h fun σ H Q ⟨F, env, re, q⟩ => by
  obtain ⟨F', s, re'⟩ := re.thaw
  refine ⟨F', _, re', ?_⟩
  have q : Sat X.mg C (RN X.K) ((f (thaw env)).bind fun d => if flatL d = true then .ok d else .no) σ F H Q := q
  cases hf : f (thaw env) with
  | ok d =>
    rw [hf] at q
    have q : Sat X.mg C (RN X.K) (if flatL d = true then .ok d else .no) σ F H Q := q
    by_cases hd : flatL d = true
    · rw [if_pos hd] at q
      intro v H1 F1 x1 ⟨p, xs, l, e1, e2, e3, e4, e5, e6⟩
      subst e1 e2
      exact q _ H1 F ⟨Same.refl _, x1.h, re.same.trans x1.h, fun _ _ z => .inl z⟩ ⟨p, xs, l, rfl, rfl, e3, re.same.free e5, e5, RpAll.scal l xs hd e6⟩
    · rw [if_neg hd] at q; exact q.elim
  | er c n => rw [hf] at q; exact q
  | no => rw [hf] at q; exact q
end

/-! ### built-ins -/
def dLen : List D → Option D
  | [.str z] => if z.length ≤ LINE then some (.int z.length) else none
  | [.list l] => some (.int l.length)
  | [.tuple l] => some (.int l.length)
  | _ => none
def dAbs : List D → Option D
  | [.int i] => some (.int (if i < 0 then -i else i))
  | _ => none
def dMin2 : List D → Option D
  | [.int i, .int j] => some (.int (if j < i then j else i))
  | _ => none
def dMax2 : List D → Option D
  | [.int i, .int j] => some (.int (if j > i then j else i))
  | _ => none
def dInt : List D → Option D
  | [.int i] => some (.int i)
  | [.bool b] => some (.int (if b then 1 else 0))
  | _ => none
def dList : List D → Option D
  | [.list l] => some (.list l)
  | [.tuple l] => some (.list l)
  | _ => none
def dTuple : List D → Option D
  | [.list l] => some (.tuple l)
  | [.tuple l] => some (.tuple l)
  | _ => none
def boolsD : List D → Option (List Bool)
  | [] => some []
  | .bool b :: r => (boolsD r).map (b :: ·)
  | _ => none
def intsD : List D → Option (List Int)
  | [] => some []
  | .int b :: r => (intsD r).map (b :: ·)
  | _ => none
def strsD : List D → Option (List Str)
  | [] => some []
  | .str b :: r => (strsD r).map (b :: ·)
  | _ => none
def dAll : List D → Option D
  | [.list l] => (boolsD l).map fun bs => .bool (bs.all id)
  | _ => none
def dAny : List D → Option D
  | [.list l] => (boolsD l).map fun bs => .bool (bs.any id)
  | _ => none
def dSum : List D → Option D
  | [.list l] => (intsD l).map fun bs => .int bs.sum
  | _ => none
section
variable {K : PySem.W.Frag} {X : Cx}
theorem RpAll.bools {F : Hp} : ∀ {ds : List D} {vs : List V} {bs : List Bool}, RpAll K F vs ds → boolsD ds = some bs → vs = bs.map V.bl
  | [], _, _, h, e => by cases h; cases e; rfl
  | .bool b :: r, _, _, h, e => by
    cases h with
    | cons a t =>
      cases a
      simp only [boolsD] at e
      cases hr : boolsD r with
      | none => rw [hr] at e; cases e
      | some bs => rw [hr] at e; cases e; rw [t.bools hr]; rfl
  | .int _ :: _, _, _, _, e | .str _ :: _, _, _, _, e | .none :: _, _, _, _, e | .list _ :: _, _, _, _, e | .tuple _ :: _, _, _, _, e | .dict _ :: _, _, _, _, e => by cases e
theorem RpAll.intsd {F : Hp} : ∀ {ds : List D} {vs : List V} {bs : List Int}, RpAll K F vs ds → intsD ds = some bs → vs = bs.map V.int
  | [], _, _, h, e => by cases h; cases e; rfl
  | .int b :: r, _, _, h, e => by
    cases h with
    | cons a t =>
      cases a
      simp only [intsD] at e
      cases hr : intsD r with
      | none => rw [hr] at e; cases e
      | some bs => rw [hr] at e; cases e; rw [t.intsd hr]; rfl
  | .bool _ :: _, _, _, _, e | .str _ :: _, _, _, _, e | .none :: _, _, _, _, e | .list _ :: _, _, _, _, e | .tuple _ :: _, _, _, _, e | .dict _ :: _, _, _, _, e => by cases e
theorem RpAll.strsd {F : Hp} : ∀ {ds : List D} {vs : List V} {bs : List Str}, RpAll K F vs ds → strsD ds = some bs → vs = bs.map V.str
  | [], _, _, h, e => by cases h; cases e; rfl
  | .str b :: r, _, _, h, e => by
    cases h with
    | cons a t =>
      cases a
      simp only [strsD] at e
      cases hr : strsD r with
      | none => rw [hr] at e; cases e
      | some bs => rw [hr] at e; cases e; rw [t.strsd hr]; rfl
  | .bool _ :: _, _, _, _, e | .int _ :: _, _, _, _, e | .none :: _, _, _, _, e | .list _ :: _, _, _, _, e | .tuple _ :: _, _, _, _, e | .dict _ :: _, _, _, _, e => by cases e
theorem RpAll.one' {F : Hp} {vs : List V} {d : D} (h : RpAll K F vs [d]) : ∃ v, vs = [v] ∧ Rp K F v d := by
  cases h with
  | cons a b => cases b; exact ⟨_, rfl, a⟩
theorem RpAll.two' {F : Hp} {vs : List V} {d e : D} (h : RpAll K F vs [d, e]) : ∃ v w, vs = [v, w] ∧ Rp K F v d ∧ Rp K F w e := by
  cases h with
  | cons a b =>
    obtain ⟨w, rfl, h⟩ := b.one'
    exact ⟨_, w, rfl, a, h⟩
abbrev rLen (K : PySem.W.Frag) : List V → Hp → VK → Prop := fun xs H Q => ∃ x n, xs = [x] ∧ LenV K x H n ∧ Q (.int n) H
theorem l_len : VL K (rLen K) dLen := by
  intro F H xs ds c Q s h e q
  unfold dLen at e
  split at e
  · split at e
    · rename_i hl
      cases e
      obtain ⟨v, rfl, r⟩ := h.one'
      cases r
      exact ⟨_, _, rfl, ⟨by rw [line_eq]; exact hl, rfl⟩, q _ H F (Ext.refl s) (.int _)⟩
    · cases e
  · cases e
    obtain ⟨v, rfl, r⟩ := h.one'
    cases r with
    | lst a b => exact ⟨_, _, rfl, .inl ⟨_, SqL.of (s _ _ a), b.length.symm⟩, q _ H F (Ext.refl s) (.int _)⟩
  · cases e
    obtain ⟨v, rfl, r⟩ := h.one'
    cases r with
    | tup a b => exact ⟨_, _, rfl, .inr ⟨_, Same.sqt s a, b.length.symm⟩, q _ H F (Ext.refl s) (.int _)⟩
  · cases e
abbrev rAbs : List V → Hp → VK → Prop := fun xs H Q => ∃ i, xs = [.int i] ∧ Q (.int (if i < 0 then -i else i)) H
theorem l_abs : VL K rAbs dAbs := by
  intro F H xs ds c Q s h e q
  unfold dAbs at e
  split at e
  · cases e
    obtain ⟨v, rfl, r⟩ := h.one'
    cases r
    exact ⟨_, rfl, q _ H F (Ext.refl s) (.int _)⟩
  · cases e
abbrev rMin2 : List V → Hp → VK → Prop := fun xs H Q => ∃ i j, xs = [.int i, .int j] ∧ Q (.int (if j < i then j else i)) H
abbrev rMax2 : List V → Hp → VK → Prop := fun xs H Q => ∃ i j, xs = [.int i, .int j] ∧ Q (.int (if j > i then j else i)) H
theorem l_min2 : VL K rMin2 dMin2 := by
  intro F H xs ds c Q s h e q
  unfold dMin2 at e
  split at e
  · cases e
    obtain ⟨v, w, rfl, r, r'⟩ := h.two'
    cases r; cases r'
    exact ⟨_, _, rfl, q _ H F (Ext.refl s) (.int _)⟩
  · cases e
theorem l_max2 : VL K rMax2 dMax2 := by
  intro F H xs ds c Q s h e q
  unfold dMax2 at e
  split at e
  · cases e
    obtain ⟨v, w, rfl, r, r'⟩ := h.two'
    cases r; cases r'
    exact ⟨_, _, rfl, q _ H F (Ext.refl s) (.int _)⟩
  · cases e
abbrev rInt1 : List V → Hp → VK → Prop := fun xs H Q => (∃ i, xs = [.int i] ∧ Q (.int i) H) ∨ ∃ k, xs = [.bl k] ∧ Q (.int (if k then 1 else 0)) H
theorem l_int : VL K rInt1 dInt := by
  intro F H xs ds c Q s h e q
  unfold dInt at e
  split at e
  · cases e
    obtain ⟨v, rfl, r⟩ := h.one'
    cases r
    exact .inl ⟨_, rfl, q _ H F (Ext.refl s) (.int _)⟩
  · cases e
    obtain ⟨v, rfl, r⟩ := h.one'
    cases r
    exact .inr ⟨_, rfl, q _ H F (Ext.refl s) (.int _)⟩
  · cases e
abbrev rListOf (K : PySem.W.Frag) : List V → Hp → VK → Prop := fun xs H Q => ∃ p ys, xs = [.ref p] ∧ (SqL K H p ys ∨ SqT K H p ys) ∧ ∀ l, H l = none → Q (.ref l) (upd H l (.lst ys))
theorem l_listN : VLN K (rListOf K) dList := by
  intro F H xs ds c Q s h e q
  unfold dList at e
  split at e
  · cases e
    obtain ⟨v, rfl, r⟩ := h.one'
    cases r with
    | @lst a ys _ a1 a2 => exact ⟨a, ys, rfl, .inl (SqL.of (s _ _ a1)), fun p hp => q _ _ _ (Ext.laid s hp) ⟨p, _, _, rfl, rfl, upd_same, s.free hp, hp, a2⟩⟩
  · cases e
    obtain ⟨v, rfl, r⟩ := h.one'
    cases r with
    | @tup a ys _ a1 a2 => exact ⟨a, ys, rfl, .inr (Same.sqt s a1), fun p hp => q _ _ _ (Ext.laid s hp) ⟨p, _, _, rfl, rfl, upd_same, s.free hp, hp, a2⟩⟩
  · cases e
theorem l_list : VL K (rListOf K) dList := by
  intro F H xs ds c Q s h e q
  unfold dList at e
  split at e
  · cases e
    obtain ⟨v, rfl, r⟩ := h.one'
    cases r with
    | @lst a ys _ a1 a2 => exact ⟨a, ys, rfl, .inl (SqL.of (s _ _ a1)), fun p hp => q _ _ _ (Ext.new s hp) (.lst upd_same (RpAll.mono (same_upd (s.free hp)) _ _ a2))⟩
  · cases e
    obtain ⟨v, rfl, r⟩ := h.one'
    cases r with
    | @tup a ys _ a1 a2 => exact ⟨a, ys, rfl, .inr (Same.sqt s a1), fun p hp => q _ _ _ (Ext.new s hp) (.lst upd_same (RpAll.mono (same_upd (s.free hp)) _ _ a2))⟩
  · cases e
abbrev rTupleOf (K : PySem.W.Frag) : List V → Hp → VK → Prop := fun xs H Q => ∃ p ys, xs = [.ref p] ∧ ((SqL K H p ys ∧ ∀ l, H l = none → Q (.ref l) (upd H l (.tup ys))) ∨ (SqT K H p ys ∧ Q (.ref p) H))
theorem l_tuple : VL K (rTupleOf K) dTuple := by
  intro F H xs ds c Q s h e q
  unfold dTuple at e
  split at e
  · cases e
    obtain ⟨v, rfl, r⟩ := h.one'
    cases r with
    | @lst a ys _ a1 a2 => exact ⟨a, ys, rfl, .inl ⟨SqL.of (s _ _ a1), fun p hp => q _ _ _ (Ext.new s hp) (.tup (SqT.of upd_same) (RpAll.mono (same_upd (s.free hp)) _ _ a2))⟩⟩
  · cases e
    obtain ⟨v, rfl, r⟩ := h.one'
    cases r with
    | @tup a ys _ a1 a2 => exact ⟨a, ys, rfl, .inr ⟨Same.sqt s a1, q _ H F (Ext.refl s) (.tup a1 a2)⟩⟩
  · cases e
theorem l_all : VL K (rAll K) dAll := by
  intro F H xs ds c Q s h e q
  unfold dAll at e
  split at e
  · rename_i l
    obtain ⟨v, rfl, r⟩ := h.one'
    cases hb : boolsD l with
    | none => rw [hb] at e; cases e
    | some bs =>
      rw [hb] at e
      cases e
      cases r with
      | @lst a ys _ a1 a2 =>
        have e := a2.bools hb
        subst e
        exact ⟨a, bs, rfl, SqL.of (s _ _ a1), q _ H F (Ext.refl s) (.bl _)⟩
  · cases e
theorem l_any : VL K (rAny K) dAny := by
  intro F H xs ds c Q s h e q
  unfold dAny at e
  split at e
  · rename_i l
    obtain ⟨v, rfl, r⟩ := h.one'
    cases hb : boolsD l with
    | none => rw [hb] at e; cases e
    | some bs =>
      rw [hb] at e
      cases e
      cases r with
      | @lst a ys _ a1 a2 =>
        have e := a2.bools hb
        subst e
        exact ⟨a, bs, rfl, SqL.of (s _ _ a1), q _ H F (Ext.refl s) (.bl _)⟩
  · cases e
theorem l_sum : VL K (rSum K) dSum := by
  intro F H xs ds c Q s h e q
  unfold dSum at e
  split at e
  · rename_i l
    obtain ⟨v, rfl, r⟩ := h.one'
    cases hb : intsD l with
    | none => rw [hb] at e; cases e
    | some bs =>
      rw [hb] at e
      cases e
      cases r with
      | @lst a ys _ a1 a2 =>
        have e := a2.intsd hb
        subst e
        exact ⟨a, bs, rfl, SqL.of (s _ _ a1), q _ H F (Ext.refl s) (.int _)⟩
  · cases e
end

/-! ### a text's join -/
def dJoin (d e : D) : Option D := match d, e with
  | .str a, .list l => (strsD l).bind fun ys => if (ys.map (·.length)).sum + ys.length * a.length ≤ LINE then some (.str (Txt.join a ys)) else none
  | .str a, .tuple l => (strsD l).bind fun ys => if (ys.map (·.length)).sum + ys.length * a.length ≤ LINE then some (.str (Txt.join a ys)) else none
  | _, _ => none
section
variable {X : Cx} {C : Ct} {f f' : FE} {o e : Expr} {apos pos : Pos}
def fJoin (f f' : FE) : FE := fun env => (f env).bind fun d => match d with
  | .str a => (f' env).bind fun l => Rs.ofO (dJoin (.str a) l)
  | _ => .no
theorem ve_join (ho : VE X C o f) (he : VE X C e f') (hs : starEach [e] X.env = [(false, eval e X.env)] := by rfl) (hbase : attributeBase o "join" X.env (eval o X.env) = eval o X.env := by rfl) (hline : (apos.endLine == pos.line) = true := by rfl) :
    VE X C (.Call (.Attribute o "join" apos) [e] [] pos) (fJoin f f') := PE.of (pe_join ho he hs hbase hline) fun σ H Q ⟨F, env, re, q⟩ =>
  ⟨F, env, re, Sat.bind RD.mono q fun d v F1 H1 x1 r1 q1 => by
    cases d with
    | str a =>
      cases r1
      refine ⟨⟨_, rfl⟩, F1, env, re.go x1, Sat.bind RD.mono q1 fun l w F2 H2 x2 r2 q2 => ?_⟩
      obtain ⟨c, hc, q3⟩ := Sat.ofO q2
      have s2 := ((re.go x1).go x2).same
      cases l with
      | list l =>
        simp only [dJoin] at hc
        cases hb : strsD l with
        | none => rw [hb] at hc; cases hc
        | some ys =>
          rw [hb] at hc
          have hc : (if (ys.map (·.length)).sum + ys.length * a.length ≤ LINE then some (PyData.str (Txt.join a ys)) else none) = some c := hc
          by_cases hl : (ys.map (·.length)).sum + ys.length * a.length ≤ LINE
          · rw [if_pos hl] at hc
            cases hc
            cases r2 with
            | @lst p xs _ a1 a2 =>
              have e := a2.strsd hb
              subst e
              exact ⟨a, p, ys, rfl, rfl, .inl (SqL.of (s2 _ _ a1)), hl, q3 _ H2 F2 (Ext.refl s2) (.str _)⟩
          · rw [if_neg hl] at hc; cases hc
      | tuple l =>
        simp only [dJoin] at hc
        cases hb : strsD l with
        | none => rw [hb] at hc; cases hc
        | some ys =>
          rw [hb] at hc
          have hc : (if (ys.map (·.length)).sum + ys.length * a.length ≤ LINE then some (PyData.str (Txt.join a ys)) else none) = some c := hc
          by_cases hl : (ys.map (·.length)).sum + ys.length * a.length ≤ LINE
          · rw [if_pos hl] at hc
            cases hc
            cases r2 with
            | @tup p xs _ a1 a2 =>
              have e := a2.strsd hb
              subst e
              exact ⟨a, p, ys, rfl, rfl, .inr (Same.sqt s2 a1), hl, q3 _ H2 F2 (Ext.refl s2) (.str _)⟩
          · rw [if_neg hl] at hc; cases hc
      | _ => cases hc
    | _ => exact q1.elim⟩
end
end PD

/-! Part 7: enumerate and zip over lists, tuples, texts -/
namespace PD
open PySem PySem.Spec PyProof.Rows L2

theorem ad_ne {n k m : Nat} (h : k ≠ m) : n + k ≠ n + m := by omega
theorem ad_lt {n k : Nat} (h : n + k < n) : False := by omega
theorem ad_le {n c : Nat} (h : c = n + 4 ∨ c = n + 2 ∨ c = n + 3 ∨ c = n ∨ c = n + 1) : n ≤ c := by omega
inductive Sk where
  | l (a : Addr)
  | t (a : Addr)
  | s (z : Str)
namespace Sk
def v : Sk → V
  | .l a => .ref a
  | .t a => .ref a
  | .s z => .str z
def adr : Sk → List Addr
  | .l a => [a]
  | .t a => [a]
  | .s _ => []
def seq (K : PySem.W.Frag) (H : Hp) (k : Sk) (xs : List V) : Prop := match k with
  | .l a => SqL K H a xs
  | .t a => SqT K H a xs
  | .s z => xs = z.cps.toList.map fun c => .str ⟨#[c]⟩
def at' (k : Sk) (it : Addr) (i : Nat) (h : Heap) : Prop := match k with
  | .l a => h.IsListIter it a i
  | .t a => h.IsTupleIter it a i
  | .s z => ∃ tk, h.IsStrIter it (strIterType z) z tk i
end Sk
section
variable {X : Cx} {pins : List (Addr × Obj)} {σ : L2.St} {H : Hp} {s : Shared} {k : Sk} {it : Addr} {xs ys : List V}
theorem Sk.at_obj {i : Nat} {h : Heap} (st : k.at' it i h) : ∃ o, h.get? it = some o ∧ ∀ v, o.data ≠ .cell v := by
  cases k with
  | l a => obtain ⟨o, e, _, d⟩ := st; exact ⟨o, e, fun v z => by rw [d] at z; cases z⟩
  | t a => obtain ⟨o, e, _, d⟩ := st; exact ⟨o, e, fun v z => by rw [d] at z; cases z⟩
  | s z => obtain ⟨tk, o, e, _, d⟩ := st; exact ⟨o, e, fun v z => by rw [d] at z; cases z⟩
theorem Sk.at_keep {i : Nat} {h h' : Heap} (st : k.at' it i h) (hk : ∀ o, h.get? it = some o → h'.get? it = some o) : k.at' it i h' := by
  cases k with
  | l a => obtain ⟨o, e, r⟩ := st; exact ⟨o, hk _ e, r⟩
  | t a => obtain ⟨o, e, r⟩ := st; exact ⟨o, hk _ e, r⟩
  | s z => obtain ⟨tk, o, e, r⟩ := st; exact ⟨tk, o, hk _ e, r⟩
theorem Sk.inj (I : Inv X pins σ H s) (h : k.seq X.K H xs) (h' : k.seq X.K H ys) : xs = ys := by
  cases k with
  | l a => exact I.list_inj h h'
  | t a => exact I.tuple_inj h h'
  | s z => exact Eq.trans h (Eq.symm h')
theorem Sk.draws (hh : X.A.in1.handled = none) (I : Inv X pins σ H s) (hq : k.seq X.K H xs) (hne : it ∉ k.adr) (i : Nat) (st : k.at' it i s.heap) :
    ∃ (n : Nat) (P : Nat → Value → Prop) (St : Nat → Heap → Prop), Draws X.prog X.w X.A.in1 it (it :: k.adr) n P St ∧ n = xs.length ∧ St i s.heap ∧ (∀ j h, St j h → k.at' it j h) ∧ ∀ j x, P j x → ∃ y, xs[j]? = some y ∧ RelV y x := by
  cases k with
  | l a =>
    obtain ⟨its, rv, p, _⟩ := I.list hq
    have ne : a ≠ it := fun z => hne (by rw [z]; exact List.mem_cons_self)
    refine ⟨_, _, _, Draws.list hh it a ne its.toArray, by rw [List.size_toArray]; exact rv.length.symm, ⟨st, p.isList⟩, fun j h q => q.1, fun j x q => ?_⟩
    have q : its[j]? = some x := by simpa using q
    have hj : j < xs.length := by rw [rv.length]; exact (List.getElem?_eq_some_iff.mp q).1
    obtain ⟨u, hu, ru⟩ := rv.get (List.getElem?_eq_getElem hj)
    rw [q] at hu
    cases hu
    exact ⟨_, List.getElem?_eq_getElem hj, ru⟩
  | t a =>
    obtain ⟨its, rv, p, _⟩ := I.tuple hq
    have ne : a ≠ it := fun z => hne (by rw [z]; exact List.mem_cons_self)
    refine ⟨_, _, _, Draws.tuple hh it a ne its.toArray, by rw [List.size_toArray]; exact rv.length.symm, ⟨st, show s.heap.IsTuple a its.toArray from p⟩, fun j h q => q.1, fun j x q => ?_⟩
    have q : its[j]? = some x := by simpa using q
    have hj : j < xs.length := by rw [rv.length]; exact (List.getElem?_eq_some_iff.mp q).1
    obtain ⟨u, hu, ru⟩ := rv.get (List.getElem?_eq_getElem hj)
    rw [q] at hu
    cases hu
    exact ⟨_, List.getElem?_eq_getElem hj, ru⟩
  | s z =>
    obtain ⟨tk, st⟩ := st
    have hq : xs = z.cps.toList.map fun c => .str ⟨#[c]⟩ := hq
    refine ⟨_, _, _, Draws.text hh it z tk, by rw [hq, List.length_map, Array.length_toList], st, fun j h q => ⟨tk, q⟩, fun j x ⟨c, u, q, e⟩ => ?_⟩
    subst e
    refine ⟨.str ⟨#[c]⟩, ?_, ⟨u, rfl⟩⟩
    rw [hq, List.getElem?_map, Array.getElem?_toList, q]
    rfl
end

/-! ### enumerate -/
def IteU (K : PySem.W.Frag) (k : Sk) : It :=
  ⟨fun i H => ∃ (xs : List V) (x : V), k.seq K H xs ∧ xs[i]? = some x, fun i H v H' => ∃ T x, v = .ref T ∧ H T = none ∧ H' = upd H T (.tup [.int (i : Nat), x]) ∧ ∀ xs, k.seq K H xs → xs[i]? = some x, fun i H => ∃ xs : List V, k.seq K H xs ∧ xs.length = i⟩
theorem turn_enumU {P : Program} {w : World} {K : PySem.W.Frag} {elts : List Expr} {kk : Nat} {tpos : Pos} (k : Sk) (e it : Addr) (hne : e ≠ it) (hea : e ∉ k.adr) (hia : it ∉ k.adr) :
    Turn P w K (.Tuple elts kk tpos) (IteU K k) [e, it] e (fun i h => (∃ old, IsEnum h e it ((i : Nat) : Int) old) ∧ k.at' it i h) where
  mem := by simp
  obj := fun i h st b hb => by
    obtain ⟨⟨old, he⟩, st⟩ := st
    have e' : b = e ∨ b = it := by simpa using hb
    rcases e' with z | z
    · rw [z]; exact ⟨_, he, fun v q => nomatch q⟩
    · rw [z]; exact Sk.at_obj st
  keep := fun i h h' st k' => let ⟨⟨old, he⟩, hi⟩ := st; ⟨⟨old, k' e (by simp) _ he⟩, Sk.at_keep hi fun o q => k' it (by simp) o q⟩
  item := by
    intro X hP hw hK hc i pins s σ H E I hf st hg
    subst hP hw hK
    obtain ⟨⟨old, he⟩, hit⟩ := st
    obtain ⟨xs, x, hq, hx⟩ := hg
    obtain ⟨n, P, St, D, hn, hst, hat, hP⟩ := Sk.draws (I.ok.hd hc) I hq hia i hit
    have hel : e < s.heap.objs.size := Heap.lt_size he
    have hil : it < s.heap.objs.size := by obtain ⟨_, q, _⟩ := Sk.at_obj hit; exact Heap.lt_size q
    have hlt : i < n := by rw [hn]; exact (List.getElem?_eq_some_iff.mp hx).1
    refine wpAny_pyNext_enum_itemD D he hst hlt hne (fun z => by
      rcases List.mem_cons.mp z with z | z
      · exact hne z
      · exact hea z) fun u h' tk hu ho hit' hT hsz hk => ?_
    obtain ⟨y, hy, ru⟩ := hP _ _ hu
    rw [hx] at hy
    cases hy
    refine ⟨_, rfl, wpAny_letOwnedTupleGo_enum (s := { s with heap := h', toks := tk + 1 }) ho fun h'' he' sb => ?_⟩
    have hT2 : h''.get? s.heap.objs.size = some { cls := .type "tuple", data := .seq #[.int i tk, u] } := (sb.2 _ (Nat.ne_of_gt hel)).trans hT
    have new : ObjOk X.prog X.w (upd H s.heap.objs.size (.tup [.int (i : Nat), x])) h'' s.heap.objs.size (.tup [.int (i : Nat), x]) :=
      ⟨by show 2 ≤ sizeLine; decide, [.int i tk, u], .cons ⟨_, rfl⟩ (.cons ru .nil), ⟨_, hT2, rfl, _, rfl⟩⟩
    have I1 : Inv X pins σ (upd H s.heap.objs.size (.tup [.int (i : Nat), x])) { s with heap := h'', toks := tk + 1 } :=
      I.turnedNew (ch := [e, it]) (fun b ob hb q => (sb.2 b (fun z => hb (by simp [z]))).trans (hk b ob (fun z => hb (by simp [z])) (fun z => hb (by simp [z])) q)) hf (Nat.le_refl _) new
    refine ⟨.ref s.heap.objs.size, _, I1, rfl, ⟨_, x, rfl, I.hok.fresh (Nat.le_refl _), rfl, fun ys hy => by rw [Sk.inj I hy hq]; exact hx⟩, ⟨⟨u, ?_⟩, Sk.at_keep (hat _ _ hit') fun o q => (sb.2 it (Ne.symm hne)).trans q⟩, fun b hb => ?_⟩
    · have e1 : ((i + 1 : Nat) : Int) = (i : Int) + 1 := by omega
      rw [e1]; exact he'
    · have hb' : b < s.heap.objs.size := by
        have e' : b = e ∨ b = it := by simpa using hb
        rcases e' with z | z
        · rw [z]; exact hel
        · rw [z]; exact hil
      rw [upd_ne (Nat.ne_of_lt hb')]
      exact (hf b hb).1
  done := by
    intro X hP hw hK hc i pins s σ H E I hf st hg
    subst hP hw hK
    obtain ⟨⟨old, he⟩, hit⟩ := st
    obtain ⟨xs, hq, hx⟩ := hg
    obtain ⟨n, P, St, D, hn, hst, hat, hP⟩ := Sk.draws (I.ok.hd hc) I hq hia i hit
    obtain ⟨f0, f1, f2, f3, f4, f5⟩ := hf it (by simp)
    have e : i = n := by rw [hn, hx]
    subst e
    exact wpAny_pyNext_enum_endD D he hst fun h' eb => ⟨rfl, I.turned (t' := s.toks) (fun b o hb q => eb b o hb q) f0 f1 f3 f4 f5⟩
  self := fun A i s Q E st h => let ⟨⟨_, he⟩, _⟩ := st; wpAny_pyIter_enum he h

theorem meets_enumerate_newB {v : Value} {o : Obj} {Hh : Heap → Prop} (B : Begins v o Hh) :
    Meets (Builtin.«enumerate.__new__» ⟨[.type "enumerate", v], []⟩) (fun _ R s => Hh s.heap ∧
      R (.ok (.ret (.ref (s.heap.push o).objs.size)))
        { s with heap := (s.heap.push o).push { cls := .type "enumerate", data := .fields #[.none, .bool false, .ref s.heap.objs.size, rawInt 0, .none, .none] } }) :=
  .of_wp fun prog w A R s h => by
    obtain ⟨hp, g, d, tk, os⟩ := s; obtain ⟨hl, h⟩ := h
    have hsub := sub_enumerate
    have q1 : ∀ {A' : Around} {E : Value → Shared → Prop} {Q : Value → Shared → Prop}, Q (.ref hp.objs.size) ⟨(hp.push o), g, d, tk, os⟩ → wpAny (model prog w) A' (pyIter v) Q E ⟨hp, g, d, tk, os⟩ :=
      fun q => B.iter prog w _ _ ⟨hp, g, d, tk, os⟩ _ (B.keeps _ _ hl fun b o' e => e) q
    wp_walk
    refine wpAny_stack_any fun st => wpAny_pure ?_
    split
    · rename_i c _ _ _ _ _
      cases (c == Value.type "enumerate")
      · wp_walk using q1
        exact ⟨_, rfl, h⟩
      · wp_walk using q1
        exact ⟨_, rfl, h⟩
    · wp_walk using q1
      exact ⟨_, rfl, h⟩
theorem enum_begins {prog : Program} {w : World} {A : Around} {E : Value → Shared → Prop} {s : Shared} {v : Value} {o : Obj} {Hh : Heap → Prop} {Q : Value → Shared → Prop} (B : Begins v o Hh) (h1 : Hh s.heap)
    (h : ∀ h', IsEnum h' (s.heap.objs.size + 1) s.heap.objs.size 0 .none → h'.get? s.heap.objs.size = some o → h'.objs.size = s.heap.objs.size + 2 →
      (∀ b o, s.heap.get? b = some o → h'.get? b = some o) → Q (.ref (s.heap.objs.size + 1)) { s with heap := h' }) :
    wpAny (model prog w) A (call (.type "enumerate") [v]) Q E s := by
  refine callType_new F.called_enumerate (by decide) (F.typeCall_enumerate_1 _) (F.newCall_enumerate_1 _) (fun obj => F.args_object_init_2 obj _) F.entry_enumerate_new
    (meets_enumerate_newB B) ⟨h1, ?_⟩
  have hz : (s.heap.push o).objs.size = s.heap.objs.size + 1 := Heap.size_push ..
  show _ ∧ _
  rw [hz]
  have he : IsEnum ((s.heap.push o).push
      { cls := .type "enumerate", data := .fields #[.none, .bool false, .ref s.heap.objs.size, rawInt 0, .none, .none] }) (s.heap.objs.size + 1) s.heap.objs.size 0 .none := by
    have := Heap.get?_push_size (s.heap.push o)
      (o := { cls := .type "enumerate", data := .fields #[.none, .bool false, .ref s.heap.objs.size, rawInt 0, .none, .none] }) rfl
    rw [hz] at this; exact this
  refine ⟨⟨_, he, rfl⟩, h _ he (Heap.get?_push_of_some _ (Heap.get?_push_size _ B.free)) (by rw [Heap.size_push, hz]) fun b o x => Heap.get?_push_of_some _ (Heap.get?_push_of_some _ x)⟩

/-- the iterator's object of a source -/
def Sk.ob (k : Sk) (tk : Tok) : Obj := match k with
  | .l a => { cls := .type "list_iterator", data := .fields #[.ref a, .int 0 0] }
  | .t a => { cls := .type "tuple_iterator", data := .fields #[.ref a, .int 0 0] }
  | .s z => { cls := .type (strIterType z), data := .fields #[.str z tk, .int 0 0] }
theorem Sk.at_new {k : Sk} {tk : Tok} {h : Heap} {it : Addr} (e : h.get? it = some (k.ob tk)) : k.at' it 0 h := by
  cases k with
  | l a => exact ⟨_, e, rfl, rfl⟩
  | t a => exact ⟨_, e, rfl, rfl⟩
  | s z => exact ⟨tk, _, e, rfl, rfl⟩
theorem Sk.begins {X : Cx} {pins : List (Addr × Obj)} {σ : L2.St} {H : Hp} {s : Shared} {k : Sk} {xs : List V} {u : Value} (I : Inv X pins σ H s) (hq : k.seq X.K H xs) (r : RelV k.v u) :
    ∃ (tk : Tok) (Hh : Heap → Prop), Begins u (k.ob tk) Hh ∧ Hh s.heap ∧ ∀ a ∈ k.adr, a < s.heap.objs.size := by
  cases k with
  | l a =>
    cases r
    obtain ⟨its, rv, p, _⟩ := I.list hq
    exact ⟨0, _, begins_list a its.toArray, p.isList, fun b hb => by rw [List.mem_singleton.mp hb]; exact p.lt⟩
  | t a =>
    cases r
    obtain ⟨its, rv, p, _⟩ := I.tuple hq
    exact ⟨0, _, begins_tuple a its.toArray, (show s.heap.IsTuple a its.toArray from p), fun b hb => by rw [List.mem_singleton.mp hb]; exact p.lt⟩
  | s z =>
    obtain ⟨t, rfl⟩ := r
    exact ⟨t, _, begins_text z t, trivial, fun b hb => by cases hb⟩
def iEnumU (K : PySem.W.Frag) (ta : TA) : TI := fun σ H R => ta σ H fun vs H1 => ∃ k xs, vs = [Sk.v k] ∧ k.seq K H1 xs ∧ R (IteU K k) H1
theorem pi_enumU {X : Cx} {e : Expr} {ta : TA} {p pos tpos : Pos} {elts : List Expr} {kk : Nat} (hg : Gl X "enumerate") (hm : X.mg "enumerate" = none) (ha : PA X [e] ta) (hs : starEach [e] X.env = [(false, eval e X.env)] := by rfl) :
    PI X (.Tuple elts kk tpos) (.Call (.Name "enumerate" p) [e] [] pos) (iEnumU X.K ta) := by
  refine ⟨fun pins s σ H R I h => ?_⟩
  refine Call_ (ld_blt I hg hm boot_enumerate (PyProof.Rows.callWith_type1 (thn (ha.run pos pins s σ H _ I h) fun us s1 ⟨vs, H1, I1, r1, q1⟩ => ?_) hs rfl))
  obtain ⟨k, xs, ex, hq, q⟩ := q1
  subst ex
  cases r1 with
  | cons r rr =>
    cases rr
    obtain ⟨tk, Hh, B, hB, hlt⟩ := Sk.begins I1 hq r
    refine enum_begins B hB fun h' he hit hsz hk => wpAny_pyIter_enum he ?_
    have I2 : Inv X pins σ H1 { s1 with heap := h' } := I1.kept (t' := s1.toks) hk
    refine ⟨s1.heap.objs.size + 1, [s1.heap.objs.size + 1, s1.heap.objs.size], _, _, H1, rfl, I2, turn_enumU k (s1.heap.objs.size + 1) s1.heap.objs.size (Nat.succ_ne_self _) (fun z => ad_lt (hlt _ z)) (fun z => ad_lt (k := 0) (hlt _ z)), ⟨⟨.none, he⟩, Sk.at_new hit⟩, fun b hb => ?_, q⟩
    have e' : b = s1.heap.objs.size + 1 ∨ b = s1.heap.objs.size := by simpa using hb
    have hle : s1.heap.objs.size ≤ b := by
      rcases e' with z | z
      · rw [z]; exact Nat.le_add_right _ _
      · rw [z]; exact Nat.le_refl _
    exact I1.fpOk hle (I1.hok.fresh hle)

/-! ### zip -/
def ItzU (K : PySem.W.Frag) (a b : Sk) : It :=
  ⟨fun i H => ∃ (xs ys : List V) (x y : V), a.seq K H xs ∧ b.seq K H ys ∧ xs[i]? = some x ∧ ys[i]? = some y,
    fun i H v H' => ∃ T x y, v = .ref T ∧ H T = none ∧ H' = upd H T (.tup [x, y]) ∧ (∀ xs, a.seq K H xs → xs[i]? = some x) ∧ ∀ ys, b.seq K H ys → ys[i]? = some y,
    fun i H => ∃ xs ys : List V, a.seq K H xs ∧ b.seq K H ys ∧ min xs.length ys.length = i⟩
theorem turn_zipU {P : Program} {w : World} {K : PySem.W.Frag} {elts : List Expr} {kk : Nat} {tpos : Pos} {a b : Sk} {z TI TO i1 i2 : Addr} (S : ZipSep2 z TI TO i1 i2 (i1 :: a.adr) (i2 :: b.adr)) (n1 : i1 ∉ a.adr) (n2 : i2 ∉ b.adr) :
    Turn P w K (.Tuple elts kk tpos) (ItzU K a b) [z, TI, TO, i1, i2] z (fun i h => IsZip h z TI TO .none ∧ IsTupOf2 h TI (.ref i1) (.ref i2) ∧ (∃ x y, IsTupOf2 h TO x y) ∧ a.at' i1 i h ∧ b.at' i2 i h) where
  mem := by simp
  obj := fun i h st c hc => by
    obtain ⟨hz, hTI, ⟨x, y, hTO⟩, h1, h2⟩ := st
    have e' : c = z ∨ c = TI ∨ c = TO ∨ c = i1 ∨ c = i2 := by simpa using hc
    rcases e' with q | q | q | q | q
    · rw [q]; exact ⟨_, hz, fun v q => nomatch q⟩
    · rw [q]; exact ⟨_, hTI, fun v q => nomatch q⟩
    · rw [q]; exact ⟨_, hTO, fun v q => nomatch q⟩
    · rw [q]; exact Sk.at_obj h1
    · rw [q]; exact Sk.at_obj h2
  keep := fun i h h' st k => by
    obtain ⟨hz, hTI, ⟨x, y, hTO⟩, h1, h2⟩ := st
    exact ⟨k z (by simp) _ hz, k TI (by simp) _ hTI, ⟨x, y, k TO (by simp) _ hTO⟩, Sk.at_keep h1 fun o q => k i1 (by simp) o q, Sk.at_keep h2 fun o q => k i2 (by simp) o q⟩
  item := by
    intro X hP hw hK hc i pins s σ H E I hf st hg
    subst hP hw hK
    obtain ⟨hz, hTI, ⟨x0, y0, hTO⟩, h1, h2⟩ := st
    obtain ⟨xs, ys, x, y, hqx, hqy, hx, hy⟩ := hg
    obtain ⟨m1, P1, St1, D1, hn1, hst1, hat1, hP1⟩ := Sk.draws (I.ok.hd hc) I hqx n1 i h1
    obtain ⟨m2, P2, St2, D2, hn2, hst2, hat2, hP2⟩ := Sk.draws (I.ok.hd hc) I hqy n2 i h2
    have hzl : z < s.heap.objs.size := Heap.lt_size hz
    refine wpAny_pyNext_zipD2_item S D1 D2 hz hTI hTO hst1 hst2 (by rw [hn1]; exact (List.getElem?_eq_some_iff.mp hx).1) (by rw [hn2]; exact (List.getElem?_eq_some_iff.mp hy).1) fun u u2 h' tk p1 p2 z' TO' h1' h2' hT hsz hk => ?_
    obtain ⟨w1, hw1, ru⟩ := hP1 _ _ p1
    obtain ⟨w2, hw2, ru2⟩ := hP2 _ _ p2
    rw [hx] at hw1
    rw [hy] at hw2
    cases hw1
    cases hw2
    refine ⟨_, rfl, wpAny_letOwnedTupleGo_zip (s := { s with heap := h', toks := tk }) z' fun h'' z'' sb => ?_⟩
    have hT2 : h''.get? s.heap.objs.size = some { cls := .type "tuple", data := .seq #[u, u2] } := (sb.2 _ (Nat.ne_of_gt hzl)).trans hT
    have new : ObjOk X.prog X.w (upd H s.heap.objs.size (.tup [x, y])) h'' s.heap.objs.size (.tup [x, y]) :=
      ⟨by show 2 ≤ sizeLine; decide, [u, u2], .cons ru (.cons ru2 .nil), ⟨_, hT2, rfl, _, rfl⟩⟩
    have I1 : Inv X pins σ (upd H s.heap.objs.size (.tup [x, y])) { s with heap := h'', toks := tk } :=
      I.turnedNew (ch := [z, TI, TO, i1, i2]) (fun c o hb q => (sb.2 c (fun q' => hb (by simp [q']))).trans (hk c o (fun q' => hb (by simp [q'])) (fun q' => hb (by simp [q'])) (fun q' => hb (by simp [q'])) (fun q' => hb (by simp [q'])) q)) hf (Nat.le_refl _) new
    refine ⟨.ref s.heap.objs.size, _, I1, rfl, ⟨_, x, y, rfl, I.hok.fresh (Nat.le_refl _), rfl, fun l hl => by rw [Sk.inj I hl hqx]; exact hx, fun l hl => by rw [Sk.inj I hl hqy]; exact hy⟩, ⟨z'', ?_, ⟨u, u2, ?_⟩, ?_, ?_⟩, fun c hcm => ?_⟩
    · exact (sb.2 _ S.TIz).trans (hk _ _ S.TIz S.TITO S.TIi1 S.TIi2 hTI)
    · exact (sb.2 _ S.TOz).trans TO'
    · exact Sk.at_keep (hat1 _ _ h1') fun o q => (sb.2 _ (Ne.symm S.zi1)).trans q
    · exact Sk.at_keep (hat2 _ _ h2') fun o q => (sb.2 _ (Ne.symm S.zi2)).trans q
    · have hlt : c < s.heap.objs.size := by
        have e' : c = z ∨ c = TI ∨ c = TO ∨ c = i1 ∨ c = i2 := by simpa using hcm
        rcases e' with q | q | q | q | q
        · rw [q]; exact hzl
        · rw [q]; exact Heap.lt_size hTI
        · rw [q]; exact Heap.lt_size hTO
        · rw [q]; obtain ⟨_, e1, _⟩ := Sk.at_obj h1; exact Heap.lt_size e1
        · rw [q]; obtain ⟨_, e2, _⟩ := Sk.at_obj h2; exact Heap.lt_size e2
      rw [upd_ne (Nat.ne_of_lt hlt)]
      exact (hf c hcm).1
  done := by
    intro X hP hw hK hc i pins s σ H E I hf st hg
    subst hP hw hK
    obtain ⟨hz, hTI, ⟨x0, y0, hTO⟩, h1, h2⟩ := st
    obtain ⟨xs, ys, hqx, hqy, hend⟩ := hg
    obtain ⟨m1, P1, St1, D1, hn1, hst1, hat1, hP1⟩ := Sk.draws (I.ok.hd hc) I hqx n1 i h1
    obtain ⟨m2, P2, St2, D2, hn2, hst2, hat2, hP2⟩ := Sk.draws (I.ok.hd hc) I hqy n2 i h2
    exact wpAny_pyNext_zipD2_end S D1 D2 hz hTI hTO hst1 hst2 (by omega) (by omega) (by omega) fun h' tk hk => ⟨rfl, I.turnedL (ch := [z, TI, TO, i1, i2]) (fun c o hb q =>
      hk c o (fun q' => hb (by simp [q'])) (fun q' => hb (by simp [q'])) (fun q' => hb (by simp [q'])) (fun q' => hb (by simp [q'])) q) hf⟩
  self := fun A i s Q E st h => wpAny_pyIter_zip st.1 h
def iZipU (K : PySem.W.Frag) (ta : TA) : TI := fun σ H R => ta σ H fun vs H1 => ∃ a b xs ys, vs = [Sk.v a, Sk.v b] ∧ a.seq K H1 xs ∧ b.seq K H1 ys ∧ R (ItzU K a b) H1
theorem pi_zipU {X : Cx} {e e2 : Expr} {ta : TA} {p pos tpos : Pos} {elts : List Expr} {kk : Nat} (hg : Gl X "zip") (hm : X.mg "zip" = none) (ha : PA X [e, e2] ta)
    (hs : starEach [e, e2] X.env = (false, eval e X.env) :: starEach [e2] X.env := by rfl) (hpl : (backTo pos (starEach [e2] X.env)).any (·.1) = false := by rfl) :
    PI X (.Tuple elts kk tpos) (.Call (.Name "zip" p) [e, e2] [] pos) (iZipU X.K ta) := by
  refine ⟨fun pins s σ H R I h => ?_⟩
  refine Call_ (ld_blt I hg hm PyProof.Rows.boot_zip (PyProof.Rows.callWith_type1 (thn (ha.run pos pins s σ H _ I h) fun us s1 ⟨vs, H1, I1, r1, q1⟩ => ?_) hs hpl))
  obtain ⟨a, b, xs, ys, ex, hqx, hqy, q⟩ := q1
  subst ex
  cases r1 with
  | cons r rr =>
    cases rr with
    | cons r' rr =>
      cases rr
      obtain ⟨tk, Hh, B, hB, hlt⟩ := Sk.begins I1 hqx r
      obtain ⟨tk', Hh', B', hB', hlt'⟩ := Sk.begins I1 hqy r'
      refine zip_begins2 B B' hB hB' fun h' hz hTI hTO h1 h2 hsz hk => wpAny_pyIter_zip hz ?_
      have I2 : Inv X pins σ H1 { s1 with heap := h' } := I1.kept (t' := s1.toks) hk
      generalize hn : s1.heap.objs.size = n at hz hTI hTO h1 h2 hlt hlt' ⊢
      have ge : ∀ (k : Nat) (l : List Addr), (∀ c ∈ l, c < n) → n + k ∉ l := fun k l hl z => ad_lt (hl _ z)
      have gg : ∀ (k m : Nat) (l : List Addr), k ≠ m → (∀ c ∈ l, c < n) → n + k ∉ (n + m) :: l := fun k m l hm hl z => by
        rcases List.mem_cons.mp z with z | z
        · exact ad_ne hm z
        · exact ge k l hl z
      have S : ZipSep2 (n + 4) (n + 2) (n + 3) n (n + 1) (n :: a.adr) ((n + 1) :: b.adr) :=
        { TIz := ad_ne (by decide), TOz := ad_ne (by decide), TITO := ad_ne (by decide), TIi1 := ad_ne (m := 0) (by decide), mem1 := List.mem_cons_self, zf1 := gg 4 0 _ (by decide) hlt, Tf1 := gg 3 0 _ (by decide) hlt, TIi2 := ad_ne (by decide), mem2 := List.mem_cons_self, zf2 := gg 4 1 _ (by decide) hlt', Tf2 := gg 3 1 _ (by decide) hlt', sep1_2 := gg 0 1 _ (by decide) hlt', sep2_1 := gg 1 0 _ (by decide) hlt }
      refine ⟨n + 4, [n + 4, n + 2, n + 3, n, n + 1], _, _, H1, rfl, I2, turn_zipU S (ge 0 _ hlt) (ge 1 _ hlt'), ⟨hz, hTI, ⟨_, _, hTO⟩, Sk.at_new h1, Sk.at_new h2⟩, fun c hcm => ?_, q⟩
      have e' : c = n + 4 ∨ c = n + 2 ∨ c = n + 3 ∨ c = n ∨ c = n + 1 := by simpa using hcm
      have hle : s1.heap.objs.size ≤ c := by
        rw [hn]
        exact ad_le e'
      exact I1.fpOk hle (I1.hok.fresh hle)

/-! ### as data -/
def enumD : Nat → List D → List D
  | _, [] => []
  | i, d :: ds => .tuple [.int i, d] :: enumD (i + 1) ds
def zipD : List D → List D → List D
  | x :: xs, y :: ys => .tuple [x, y] :: zipD xs ys
  | _, _ => []
theorem enumD_get : ∀ (ds : List D) (n i : Nat) (d : D), (enumD n ds)[i]? = some d → ∃ c, ds[i]? = some c ∧ d = .tuple [.int ((n + i : Nat) : Int), c]
  | [], _, _, _, e => by simp [enumD] at e
  | c :: ds, n, 0, d, e => by
    simp [enumD] at e
    exact ⟨c, rfl, by simpa using e.symm⟩
  | c :: ds, n, i + 1, d, e => by
    obtain ⟨c', h1, h2⟩ := enumD_get ds (n + 1) i d (by simpa [enumD] using e)
    exact ⟨c', by simpa using h1, by rw [h2, show n + 1 + i = n + (i + 1) by omega]⟩
theorem enumD_len : ∀ (ds : List D) (n : Nat), (enumD n ds).length = ds.length
  | [], _ => rfl
  | _ :: ds, n => congrArg (· + 1) (enumD_len ds (n + 1))
theorem zipD_get : ∀ (xs ys : List D) (i : Nat) (d : D), (zipD xs ys)[i]? = some d → ∃ x y, xs[i]? = some x ∧ ys[i]? = some y ∧ d = .tuple [x, y]
  | [], _, _, _, e => by simp [zipD] at e
  | _ :: _, [], _, _, e => by simp [zipD] at e
  | x :: xs, y :: ys, 0, d, e => by
    simp [zipD] at e
    exact ⟨x, y, rfl, rfl, e.symm⟩
  | x :: xs, y :: ys, i + 1, d, e => by
    obtain ⟨a, b, h1, h2, h3⟩ := zipD_get xs ys i d (by simpa [zipD] using e)
    exact ⟨a, b, by simpa using h1, by simpa using h2, h3⟩
theorem zipD_len : ∀ (xs ys : List D), (zipD xs ys).length = min xs.length ys.length
  | [], _ => by simp [zipD]
  | _ :: _, [] => by simp [zipD]
  | _ :: xs, _ :: ys => by simp [zipD, zipD_len xs ys] <;> omega
section
variable {K : PySem.W.Frag}
/-- a value that is walked -/
theorem Rp.sk {F : Hp} {v : V} {d : D} {ds : List D} (h : Rp K F v d) (e : seqD d = some ds) : ∃ k xs, v = Sk.v k ∧ (∀ F' H', Same F F' → Same F' H' → k.seq K H' xs) ∧ RpAll K F xs ds := by
  cases d with
  | list l =>
    cases e
    cases h with
    | @lst a xs _ a1 a2 => exact ⟨.l a, xs, rfl, fun F' H' s s' => SqL.of (s' _ _ (s _ _ a1)), a2⟩
  | tuple l =>
    cases e
    cases h with
    | @tup a xs _ a1 a2 => exact ⟨.t a, xs, rfl, fun F' H' s s' => Same.sqt (s.trans s') a1, a2⟩
  | str z =>
    cases e
    cases h
    refine ⟨.s z, _, rfl, fun F' H' s s' => rfl, ?_⟩
    generalize z.cps.toList = cs
    induction cs with
    | nil => exact .nil
    | cons c cs ih => exact .cons (.str _) ih
  | _ => cases e
theorem itd_enum {F : Hp} {k : Sk} {xs : List V} {ds : List D} (h : ∀ F' H', Same F F' → Same F' H' → k.seq K H' xs) (r : RpAll K F xs ds) : ItD K F (IteU K k) (enumD 0 ds) := by
  refine ⟨fun F' H' i d s s' e => ?_, fun F' H' i s s' e => ?_⟩
  · obtain ⟨c, h1, h2⟩ := enumD_get ds 0 i d e
    subst h2
    rw [Nat.zero_add]
    obtain ⟨v, g1, g2⟩ := r.get h1
    refine ⟨⟨xs, v, h F' H' s s', g1⟩, fun x H2 ⟨Tt, w, e1, e2, e3, e4⟩ => ?_⟩
    subst e1 e3
    have e5 := e4 xs (h F' H' s s')
    rw [g1] at e5
    cases e5
    exact ⟨_, Ext.new s' e2, .tup (SqT.of upd_same) (.cons (.int _) (.cons (Rp.mono (s.trans (same_upd (s'.free e2))) _ _ g2) .nil))⟩
  · exact ⟨xs, h F' H' s s', by rw [r.length, ← enumD_len ds 0]; exact e⟩
theorem itd_zip {F : Hp} {k k' : Sk} {xs ys : List V} {ds es : List D} (h : ∀ F' H', Same F F' → Same F' H' → k.seq K H' xs) (h' : ∀ F' H', Same F F' → Same F' H' → k'.seq K H' ys) (r : RpAll K F xs ds) (r' : RpAll K F ys es) : ItD K F (ItzU K k k') (zipD ds es) := by
  refine ⟨fun F' H' i d s s' e => ?_, fun F' H' i s s' e => ?_⟩
  · obtain ⟨c, c', h1, h1', h2⟩ := zipD_get ds es i d e
    subst h2
    obtain ⟨v, g1, g2⟩ := r.get h1
    obtain ⟨v', g1', g2'⟩ := r'.get h1'
    refine ⟨⟨xs, ys, v, v', h F' H' s s', h' F' H' s s', g1, g1'⟩, fun x H2 ⟨Tt, w, w', e1, e2, e3, e4, e4'⟩ => ?_⟩
    subst e1 e3
    have e5 := e4 xs (h F' H' s s')
    have e6 := e4' ys (h' F' H' s s')
    rw [g1] at e5
    rw [g1'] at e6
    cases e5
    cases e6
    have sm := s.trans (same_upd (o := .tup [v, v']) (s'.free e2))
    exact ⟨_, Ext.new s' e2, .tup (SqT.of upd_same) (.cons (Rp.mono sm _ _ g2) (.cons (Rp.mono sm _ _ g2') .nil))⟩
  · exact ⟨xs, ys, h F' H' s s', h' F' H' s s', by rw [r.length, r'.length, ← zipD_len ds es]; exact e⟩
end
def iEnumF (f : FE) : FA := fun env => (f env).bind fun d => Rs.ofO ((seqD d).map (enumD 0))
def iZipF (f f' : FE) : FA := fun env => (f env).bind fun d => (f' env).bind fun e => Rs.ofO ((seqD d).bind fun xs => (seqD e).map (zipD xs))
section
variable {X : Cx} {C : Ct} {f f' : FE} {e e2 : Expr} {p pos tpos : Pos} {elts : List Expr} {kk : Nat}
theorem vi_enum (h : VE X C e f) (hg : Gl X "enumerate") (hm : X.mg "enumerate" = none) (hs : starEach [e] X.env = [(false, eval e X.env)] := by rfl) : VI X C (.Tuple elts kk tpos) (.Call (.Name "enumerate" p) [e] [] pos) (iEnumF f) :=
  PI.of (pi_enumU hg hm (pa_cons h pa_nil hs) hs) fun σ H R ⟨F, env, re, q⟩ => ⟨F, env, re, Sat.bind RI.mono q fun d v F1 H1 x1 r1 q1 => by
    obtain ⟨c, hc, q2⟩ := Sat.ofO q1
    cases hd : seqD d with
    | none => rw [hd] at hc; cases hc
    | some ds =>
      rw [hd] at hc
      cases hc
      obtain ⟨k, xs, rfl, h1, h2⟩ := r1.sk hd
      have s1 := (re.go x1).same
      exact ⟨k, xs, rfl, h1 F1 H1 (Same.refl _) s1, q2 _ H1 F1 (Ext.refl s1) (itd_enum h1 h2)⟩⟩
theorem vi_zip (h : VE X C e f) (h' : VE X C e2 f') (hg : Gl X "zip") (hm : X.mg "zip" = none) (hs : starEach [e, e2] X.env = (false, eval e X.env) :: starEach [e2] X.env := by rfl) (hs2 : starEach [e2] X.env = (false, eval e2 X.env) :: starEach [] X.env := by rfl)
    (hpl : (backTo pos (starEach [e2] X.env)).any (·.1) = false := by rfl) : VI X C (.Tuple elts kk tpos) (.Call (.Name "zip" p) [e, e2] [] pos) (iZipF f f') :=
  PI.of (pi_zipU hg hm (pa_cons h (pa_cons h' pa_nil hs2) hs) hs hpl) fun σ H R ⟨F, env, re, q⟩ => ⟨F, env, re, Sat.bind RI.mono q fun d v F1 H1 x1 r1 q1 => ⟨F1, env, re.go x1, Sat.bind RI.mono q1 fun d' v' F2 H2 x2 r2 q2 => by
    obtain ⟨c, hc, q3⟩ := Sat.ofO q2
    cases hd : seqD d with
    | none => rw [hd] at hc; cases hc
    | some ds =>
      rw [hd] at hc
      cases hd' : seqD d' with
      | none => rw [hd'] at hc; cases hc
      | some es =>
        rw [hd'] at hc
        cases hc
        obtain ⟨k, xs, rfl, h1, h2⟩ := (Rp.mono x2.f _ _ r1).sk hd
        obtain ⟨k', ys, rfl, h1', h2'⟩ := r2.sk hd'
        have s2 := ((re.go x1).go x2).same
        exact ⟨k, k', xs, ys, rfl, h1 F2 H2 (Same.refl _) s2, h1' F2 H2 (Same.refl _) s2, q3 _ H2 F2 (Ext.refl s2) (itd_zip h1 h1' h2 h2')⟩⟩⟩
end
end PD

/-! Part 8: comprehensions of two clauses, name = [..], parallel assignment -/
namespace PD
open PySem PySem.Spec PyProof.Rows L2

/-! ### the heap without one cell -/
def del (H : Hp) (D : Addr) : Hp := fun a => if a = D then none else H a
section
variable {K : PySem.W.Frag} {C : Ct} {F H F' H' : Hp} {D : Addr} {σ : L2.St} {env : List Sl}
theorem del_ne {a : Addr} (h : a ≠ D) : del H D a = H a := if_neg h
theorem del_self : del H D D = none := if_pos rfl
theorem del_sub : Same (del H D) H := fun a o e => by
  by_cases q : a = D
  · rw [q, del_self] at e; cases e
  · rw [del_ne q] at e; exact e
theorem del_upd {o : HO} : del (upd H D o) D = del H D := by
  funext a
  by_cases q : a = D
  · rw [q, del_self, del_self]
  · rw [del_ne q, del_ne q, upd_ne q]
theorem del_none (h : H D = none) : del H D = H := by
  funext a
  by_cases q : a = D
  · rw [q, del_self, h]
  · exact del_ne q
theorem same_del (s : Same F H) (h : F D = none) : Same F (del H D) := fun a o e => by
  rw [del_ne (ne_of_none e h)]; exact s _ _ e
theorem Ext.del {o : HO} (e : Ext F H F' H') (hF : F D = none) (hH : H D = some o) : F' D = none ∧ H' D = some o ∧ Ext F (del H D) F' (del H' D) := by
  have h1 : F' D = none := by
    cases q : F' D with
    | none => rfl
    | some u =>
      rcases e.n _ _ q with z | z
      · rw [hF] at z; cases z
      · rw [hH] at z; cases z
  refine ⟨h1, e.h _ _ hH, e.f, fun a u z => ?_, same_del e.s h1, fun a u z => ?_⟩
  · by_cases q : a = D
    · rw [q, del_self] at z; cases z
    · rw [del_ne q] at z ⊢; exact e.h _ _ z
  · by_cases q : a = D
    · exact .inr (by rw [q, del_self])
    · rw [del_ne q]; exact e.n _ _ z
theorem Ext.undel (e : Ext F H F' (PD.del H' D)) : Ext F H F' H' := ⟨e.f, e.h.trans del_sub, e.s.trans del_sub, e.n⟩
theorem REnv.undel (r : REnv K C F σ (del H D) env) : REnv K C F σ H env := by
  refine ⟨r.ext.undel, r.len, fun i s h => ?_, r.apart⟩
  have z := r.get i s h
  cases s with
  | own l => obtain ⟨a, xs, h1, h2, h3⟩ := z; exact ⟨a, xs, h1, del_sub _ _ h2, h3⟩
  | un => trivial
  | sh d => exact z
  | scr ns => exact z
end

theorem Same.sql {K : PySem.W.Frag} {H H' : Hp} {a : Addr} {xs : List V} (e : Same H H') (h : SqL K H a xs) : SqL K H' a xs := by
  rcases h with (h | ⟨o, h⟩) | h
  · exact .inl (.inl (e _ _ h))
  · exact .inl (.inr ⟨o, e _ _ h⟩)
  · exact .inr h
theorem Tgt.g_up {K : PySem.W.Frag} {t : Tgt} {v : V} {σ : L2.St} {H H' : Hp} {Q Q' : L2.St → Hp → Prop} (s : Same H H') (h : t.g K v σ H Q) (hq : ∀ σ', Q σ' H → Q' σ' H') : t.g K v σ H' Q' := by
  cases t with
  | nm i => exact hq _ h
  | tp is => obtain ⟨a, xs, e1, e2, e3, e4⟩ := h; exact ⟨a, xs, e1, e2.imp (Same.sqt s) (Same.sql s), e3, hq _ e4⟩
  | np i is => obtain ⟨a, x, b, xs, e1, e2, e3, e4, e5⟩ := h; exact ⟨a, x, b, xs, e1, Same.sqt s e2, Same.sqt s e3, e4, hq _ e5⟩
theorem Tgt.goD {K : PySem.W.Frag} {C : Ct} {F H : Hp} {Dd : Addr} {σ : L2.St} {env : List Sl} {t : Tgt} {d : D} {v : V} {e : List Sl} {Q : L2.St → Hp → Prop} (re : REnv K C F σ (del H Dd) env) (r : Rp K F v d) (h : t.put d env = some e)
    (q : ∀ vs : List V, REnv K C F (setV t.slots vs σ) (del H Dd) e → Q (setV t.slots vs σ) H) : t.g K v σ H Q := by
  refine Tgt.g_up (H := del H Dd) (Q := fun σ' H' => H' = del H Dd ∧ Q σ' H) del_sub ?_ fun σ' z => z.2
  exact Tgt.go re r h fun vs re' => ⟨rfl, q vs re'⟩

/-! ### two clauses -/
def two (gi1 : FA) (t1 : Tgt) (tt1 : FB) (f : FE) (vs1 : List Nat) : List Sl → Rs (List D) := fun e => (gi1 e).bind fun ds1 => lcGo t1 tt1 (one f) (wipeE e vs1) ds1
def fLc2 (gi : FA) (t : Tgt) (tt : FB) (gi1 : FA) (t1 : Tgt) (tt1 : FB) (f : FE) (vs vs1 : List Nat) : FE := fun env => (gi env).bind fun ds => (lcGo t tt (two gi1 t1 tt1 f vs1) (wipeE env vs) ds).quiet.bind fun out => if out.length ≤ LINE then .ok (.list out) else .no
theorem wipe_wipe (vs : List Nat) (σ : L2.St) : L2.wipe (L2.wipe σ vs) vs = L2.wipe σ vs := by
  refine List.ext_getElem? fun j => ?_
  by_cases hj : j ∈ vs
  · have w : ∀ (σ : L2.St) (us : List Nat), j ∈ us → (L2.wipe σ us)[j]? = if j < σ.length then some none else none := by
      intro σ us
      induction us with
      | nil => intro h; cases h
      | cons u us ih =>
        intro h
        show ((L2.wipe σ us).set u none)[j]? = _
        by_cases q : u = j
        · subst q
          by_cases hlen : u < σ.length
          · rw [List.getElem?_set_self (by rw [L2.wipe_length]; exact hlen), if_pos hlen]
          · rw [List.getElem?_eq_none (by rw [List.length_set, L2.wipe_length]; omega), if_neg hlen]
        · rw [List.getElem?_set_ne q]
          exact ih (by
            rcases List.mem_cons.mp h with e | e
            · exact absurd e.symm q
            · exact e)
    rw [w _ vs hj, w _ vs hj, L2.wipe_length]
  · rw [wipe_out hj, wipe_out hj]
/-- the list that a comprehension fills: what it holds, what is to come -/
structure Acc (K : PySem.W.Frag) (Dd : Addr) (out : List D) (F H : Hp) (rest : List D) : Prop where
  ex : ∃ acc xs, H Dd = some (.lst xs) ∧ F Dd = none ∧ RpAll K F xs acc ∧ acc ++ rest = out
section
variable {K : PySem.W.Frag} {mg : Str → Option Value} {C : Ct} {F H F' H' : Hp} {Dd : Addr} {out rest : List D}
theorem Acc.F0 (a : Acc K Dd out F H rest) : F Dd = none := let ⟨_, _, _, h, _⟩ := a.ex; h
theorem Acc.go (a : Acc K Dd out F H rest) (e : Ext F H F' H') : Acc K Dd out F' H' rest ∧ Ext F (del H Dd) F' (del H' Dd) := by
  obtain ⟨acc, xs, h1, h2, h3, h4⟩ := a.ex
  obtain ⟨g1, g2, g3⟩ := e.del h2 h1
  exact ⟨⟨acc, xs, g2, g1, RpAll.mono e.f _ _ h3, h4⟩, g3⟩
theorem Acc.push {y : D} {yv : V} (a : Acc K Dd out F H (y :: rest)) (r : Rp K F yv y) (hl : out.length ≤ LINE) : ∃ acc, H Dd = some (.lst acc) ∧ acc.length < sizeLine ∧ Acc K Dd out F (upd H Dd (.lst (acc ++ [yv]))) rest := by
  obtain ⟨acc, xs, h1, h2, h3, h4⟩ := a.ex
  refine ⟨xs, h1, ?_, acc ++ [y], xs ++ [yv], upd_same, h2, h3.append (.cons r .nil), by rw [List.append_assoc]; exact h4⟩
  have z := congrArg List.length h4
  rw [List.length_append, List.length_cons] at z
  rw [h3.length, line_eq]
  omega
theorem t_lc2 {gi gi1 : FA} {t t1 : Tgt} {tt tt1 : FB} {f : FE} {vs vs1 : List Nat} (hv : ∀ i ∈ t.slots, i ∈ vs) (hv1 : ∀ i ∈ t1.slots, i ∈ vs1) {σ : L2.St} {Q : VK} :
    TN K mg C (fLc2 gi t tt gi1 t1 tt1 f vs vs1) σ H Q → tLc2 (TIt K mg C gi) (t.g K) (TB K mg C.nox tt) (TIt K mg C.nox gi1) (t1.g K) (TB K mg C.nox tt1) (T K mg C.nox f) vs vs1 σ H Q := fun ⟨F, env, re, q⟩ =>
  ⟨F, env, re, Sat.bind (R := RI K) RN.mono q fun ds J F1 H1 x1 r1 q1 Dd hD => by
    have re1 := re.go x1
    cases hout : lcGo t tt (two gi1 t1 tt1 f vs1) (wipeE env vs) ds with
    | er c n => rw [hout] at q1; exact q1.elim
    | no => rw [hout] at q1; exact q1.elim
    | ok out =>
      rw [hout] at q1
      have q1 : Sat mg C (RN K) (if out.length ≤ LINE then .ok (.list out) else .no) σ F1 H1 Q := q1
      by_cases hl : out.length ≤ LINE
      · rw [if_pos hl] at q1
        have fD : F1 Dd = none := re1.same.free hD
        have cD : C.H Dd = none := re1.ext.h.free hD
        refine ⟨fun i m H => m + i = ds.length ∧ ∃ F r, Ext F1 H1 F (del H Dd) ∧ lcGo t tt (two gi1 t1 tt1 f vs1) (wipeE env vs) (ds.drop i) = .ok r ∧ Acc K Dd out F H r,
          ⟨ds.length, by omega, F1, out, by rw [del_upd, del_none hD]; exact Ext.refl re1.same, hout, ⟨[], [], upd_same, fD, .nil, rfl⟩⟩, ?_⟩
        rintro i m H2 ⟨hm, F2, r, x2, hr, ra⟩
        have re2 := (re1.go x2).undel
        by_cases hlt : i < ds.length
        · have hd : ds[i]? = some ds[i] := List.getElem?_eq_getElem hlt
          obtain ⟨g1, g2⟩ := r1.go F2 H2 i ds[i] x2.f re2.same hd
          refine .inr ⟨g1, fun H' => ∃ F r, Ext F1 H1 F (del H' Dd) ∧ lcGo t tt (two gi1 t1 tt1 f vs1) (wipeE env vs) (ds.drop (i + 1)) = .ok r ∧ Acc K Dd out F H' r, fun H' n => ⟨m - 1, by omega, by omega, n⟩, fun x H3 y => ?_⟩
          obtain ⟨F3, x3, r3⟩ := g2 x H3 y
          obtain ⟨ra3, x3d⟩ := ra.go x3
          have re3d := ((re1.go x2).go x3d).wipe vs
          rw [List.drop_eq_getElem_cons hlt] at hr
          cases hp : t.put ds[i] (wipeE env vs) with
          | none => unfold lcGo at hr; rw [hp] at hr; cases hr
          | some e =>
            obtain ⟨b, hb, hr⟩ := lcGo_cons_yes hp hr
            refine Tgt.goD re3d r3 hp fun ws re4d => ⟨(wipe_setV vs _ _ _ hv).trans (wipe_wipe vs σ), F3, e, re4d.nox.undel, ?_⟩
            rw [hb]
            refine fun b' H4 F4 x4 eb => ?_
            have eb : b' = b := eb
            subst eb
            dsimp only
            obtain ⟨ra4, x4d⟩ := ra3.go x4
            have re5d := re4d.nox.go x4d
            have x24 := (x2.trans x3d).trans x4d
            cases b' with
            | false =>
              rw [if_neg Bool.false_ne_true] at hr ⊢
              exact ⟨F4, r, x24, hr, ra4⟩
            | true =>
              rw [if_pos rfl] at hr ⊢
              obtain ⟨ys, r', hk, hr', eo⟩ := hr
              subst eo
              unfold two at hk
              cases hg1 : gi1 e with
              | er c n => rw [hg1] at hk; cases hk
              | no => rw [hg1] at hk; cases hk
              | ok ds1 =>
                rw [hg1] at hk
                have hk : lcGo t1 tt1 (one f) (wipeE e vs1) ds1 = .ok ys := hk
                refine ⟨F4, e, re5d.undel, ?_⟩
                rw [hg1]
                refine fun J1 H5 F5 x5 r5 => ?_
                obtain ⟨ra5, x5d⟩ := ra4.go x5
                have re6d := re5d.go x5d
                have x25 := x24.trans x5d
                refine ⟨fun j k H => k + j = ds1.length ∧ ∃ F r, Ext F5 (del H5 Dd) F (del H Dd) ∧ lcGo t1 tt1 (one f) (wipeE e vs1) (ds1.drop j) = .ok r ∧ Acc K Dd out F H (r ++ r'),
                  ⟨ds1.length, by omega, F5, ys, Ext.refl (same_del (re6d.undel).same ra5.F0), hk, ra5⟩, ?_⟩
                rintro j k H6 ⟨hk2, F6, rr, x6, hrr, ra6⟩
                have re7 := (re6d.go x6).undel
                by_cases hlt1 : j < ds1.length
                · have hd1 : ds1[j]? = some ds1[j] := List.getElem?_eq_getElem hlt1
                  obtain ⟨g3, g4⟩ := r5.go F6 H6 j ds1[j] x6.f re7.same hd1
                  refine .inr ⟨g3, fun H' => ∃ F r, Ext F5 (del H5 Dd) F (del H' Dd) ∧ lcGo t1 tt1 (one f) (wipeE e vs1) (ds1.drop (j + 1)) = .ok r ∧ Acc K Dd out F H' (r ++ r'), fun H' n => ⟨k - 1, by omega, by omega, n⟩, fun x H7 y => ?_⟩
                  obtain ⟨F7, x7, r7⟩ := g4 x H7 y
                  obtain ⟨ra7, x7d⟩ := ra6.go x7
                  have re8d := ((re6d.go x6).go x7d).wipe vs1
                  rw [List.drop_eq_getElem_cons hlt1] at hrr
                  cases hp1 : t1.put ds1[j] (wipeE e vs1) with
                  | none => unfold lcGo at hrr; rw [hp1] at hrr; cases hrr
                  | some e1 =>
                    obtain ⟨b1, hb1, hrr⟩ := lcGo_cons_yes hp1 hrr
                    refine Tgt.goD re8d r7 hp1 fun ws1 re9d => ⟨(wipe_setV vs1 _ _ _ hv1).trans (wipe_wipe vs1 _), F7, e1, re9d.nox.undel, ?_⟩
                    rw [hb1]
                    refine fun b2 H8 F8 x8 eb => ?_
                    have eb : b2 = b1 := eb
                    subst eb
                    dsimp only
                    obtain ⟨ra8, x8d⟩ := ra7.go x8
                    have re10d := re9d.nox.go x8d
                    have x68 := (x6.trans x7d).trans x8d
                    cases b2 with
                    | false =>
                      rw [if_neg Bool.false_ne_true] at hrr ⊢
                      exact ⟨F8, rr, x68, hrr, ra8⟩
                    | true =>
                      rw [if_pos rfl] at hrr ⊢
                      obtain ⟨ys1, rr', hk1, hrr', eo1⟩ := hrr
                      subst eo1
                      unfold one at hk1
                      cases hf : f e1 with
                      | ok yd =>
                        rw [hf] at hk1
                        have hk1 : Rs.ok [yd] = .ok ys1 := hk1
                        cases hk1
                        refine ⟨F8, e1, re10d.undel, ?_⟩
                        rw [hf]
                        refine fun yv H9 F9 x9 ry => ?_
                        obtain ⟨ra9, x9d⟩ := ra8.go x9
                        obtain ⟨ac, c1, c2, c3⟩ := Acc.push (rest := rr' ++ r') ra9 ry hl
                        exact ⟨ac, c1, c2, F9, rr', by rw [del_upd]; exact x68.trans x9d, hrr', c3⟩
                      | er c n => rw [hf] at hk1; cases hk1
                      | no => rw [hf] at hk1; cases hk1
                · have e0 : ds1.drop j = [] := List.drop_eq_nil_of_le (by omega)
                  rw [e0] at hrr
                  cases hrr
                  exact .inl ⟨r5.stop F6 H6 j x6.f re7.same (by omega), F6, r', x25.trans x6, hr', ra6⟩
        · have e : ds.drop i = [] := List.drop_eq_nil_of_le (by omega)
          rw [e] at hr
          cases hr
          obtain ⟨acc, xs, c1, c2, c3, c4⟩ := ra.ex
          rw [List.append_nil] at c4
          subst c4
          exact .inl ⟨r1.stop F2 H2 i x2.f re2.same (by omega), q1 _ H2 F2 x2.undel ⟨Dd, xs, acc, rfl, rfl, c1, c2, hD, c3⟩⟩
      · rw [if_neg hl] at q1; exact q1.elim⟩
end

section
variable {X : Cx} {C : Ct}
theorem vn_lc2 {elt tg iter tg1 iter1 : Expr} {ifs ifs1 : List Expr} {scope : Scope} {own : List (Str × Nat)} {pos : Pos} {gi gi1 : FA} {t t1 : Tgt} {tt tt1 : FB} {f : FE} (am : Am X) (hi : VI X C tg iter gi) (ok : BlkOk X.N X.env.scope scope own)
    (hg : ∀ (s : Shared) (H : Hp) (Cc : Addr) (cl : List (Str × Addr)) (fp : List Addr), PG (X.blk s H scope (compEnvC scope cl Cc X.env) fp) tg (t.g X.K)) (ht : ∀ (s : Shared) (H : Hp) (Cc : Addr) (cl : List (Str × Addr)) (fp : List Addr), VT (X.blk s H scope (compEnvC scope cl Cc X.env) fp) C.nox ifs tt)
    (hi1 : ∀ (s : Shared) (H : Hp) (Cc : Addr) (cl : List (Str × Addr)) (fp : List Addr), VI (X.blk s H scope (compEnvC scope cl Cc X.env) fp) C.nox tg1 iter1 gi1)
    (hg1 : ∀ (s : Shared) (H : Hp) (Cc : Addr) (cl : List (Str × Addr)) (fp : List Addr), PG (X.blk s H scope (compEnvC scope cl Cc X.env) fp) tg1 (t1.g X.K)) (ht1 : ∀ (s : Shared) (H : Hp) (Cc : Addr) (cl : List (Str × Addr)) (fp : List Addr), VT (X.blk s H scope (compEnvC scope cl Cc X.env) fp) C.nox ifs1 tt1)
    (he : ∀ (s : Shared) (H : Hp) (Cc : Addr) (cl : List (Str × Addr)) (fp : List Addr), VE (X.blk s H scope (compEnvC scope cl Cc X.env) fp) C.nox elt f) (hv : ∀ i ∈ t.slots, i ∈ own.map (·.2)) (hv1 : ∀ i ∈ t1.slots, i ∈ own.map (·.2)) (hs : ∀ x, foldedSetIterable iter X.env x = pure x := by intro _; rfl) (hs1 : ∀ env x, foldedSetIterable iter1 env x = pure x := by intro _ _; rfl) :
    VN X C (.ListComp elt [⟨tg, iter, ifs, 0⟩, ⟨tg1, iter1, ifs1, 0⟩] scope pos) (fLc2 gi t tt gi1 t1 tt1 f (own.map (·.2)) t1.slots) := PE.of (pe_lc2 am.c am.n hi ok hv1 hg ht hi1 hg1 ht1 he hs hs1) fun σ H Q h => t_lc2 hv (fun _ h => h) h

/-! ### name = [..] -/
/-- a new list to a name: shared -/
def sSetF (i : Nat) (f : FE) : FS := fun env => bindO (f env) fun d => match d with
  | .list l => .nx (env.set i (.sh (.list l)))
  | _ => .no
theorem t_setF {K : PySem.W.Frag} {mg : Str → Option Value} {f : FE} {i : Nat} {D : Ends} {σ : L2.St} {H : Hp} : TSt K mg C (sSetF i f) D σ H → TN K mg C f σ H (fun x H1 => gName i x σ H1 D.nx) := fun ⟨F, env, re, q⟩ =>
  ⟨F, env, re, SatS.bind (R := RN K) re q fun d v F1 H1 x1 ⟨p, xs, l, e1, e2, e3, e4, e5, e6⟩ q1 => by
    subst e1 e2
    have re1 := re.go x1
    have x2 : Ext F H (upd F1 p (.lst xs)) H1 := by
      refine ⟨x1.f.trans (same_upd e4), x1.h, fun b o z => ?_, fun b o z => ?_⟩
      · by_cases w : b = p
        · subst w; rw [upd_same] at z; rw [← z]; exact e3
        · rw [upd_ne w] at z; exact x1.s _ _ z
      · by_cases w : b = p
        · subst w; exact .inr e5
        · rw [upd_ne w] at z; exact x1.n _ _ z
    exact q1 _ H1 _ (same_upd e4) ((re.go x2).setSh (.lst (a := p) (xs := xs) upd_same (RpAll.mono (same_upd e4) _ _ e6)))⟩
theorem vs_setF (i : Nat) {x : Str} {e : Expr} {f : FE} {pos pos' : Pos} (h : VN X C e f) (hN : X.N.Nodup) (hi : X.N[i]? = some x := by rfl) (hx : Loc X.env.scope x := by first | exact Or.inl rfl | exact Or.inr rfl) (hs : swapsWith e (some (.Name x pos')) pos.line X.env = pure false := by rfl) (hf : X.fn x = true ∨ X.env.scope.names.lookup x = some .local := by first | exact .inl rfl | exact .inr rfl | assumption) :
    VS X C (.Assign [.Name x pos'] e pos) (sSetF i f) := PS.of (ps_set hN hi hx h hs hf) fun D σ H h => t_setF h
section
variable {y : Str} {py : Pos} {elt tg iter tg1 iter1 : Expr} {ifs ifs1 : List Expr} {scope : Scope} {own : List (Str × Nat)} {pos spos : Pos} {gi gi1 : FA} {t t1 : Tgt} {tt tt1 : FB} {f : FE}
theorem vs_lcN (i : Nat) (am : Am X) (hi : VI X C tg iter gi) (ok : BlkOk X.N X.env.scope scope own)
    (hg : ∀ (s : Shared) (H : Hp) (Cc : Addr) (cl : List (Str × Addr)) (fp : List Addr), PG (X.blk s H scope (compEnvC scope cl Cc X.env) fp) tg (t.g X.K)) (ht : ∀ (s : Shared) (H : Hp) (Cc : Addr) (cl : List (Str × Addr)) (fp : List Addr), VT (X.blk s H scope (compEnvC scope cl Cc X.env) fp) C.nox ifs tt)
    (he : ∀ (s : Shared) (H : Hp) (Cc : Addr) (cl : List (Str × Addr)) (fp : List Addr), VE (X.blk s H scope (compEnvC scope cl Cc X.env) fp) C.nox elt f) (hv : ∀ i ∈ t.slots, i ∈ own.map (·.2))
    (hy : X.N[i]? = some y := by rfl) (hyl : X.env.scope.names.lookup y = some .local := by rfl) (hsw : swapsWith (.ListComp elt [⟨tg, iter, ifs, 0⟩] scope pos) (some (.Name y py)) spos.line X.env = pure true := by rfl) (hs : ∀ x, foldedSetIterable iter X.env x = pure x := by intro _; rfl) :
    VS X C (.Assign [.Name y py] (.ListComp elt [⟨tg, iter, ifs, 0⟩] scope pos) spos) (sSetN i (fLc gi t tt f (own.map (·.2)))) := PS.of (ps_setLc am.c am.n hy hyl hsw hi ok hg ht he hs) fun D σ H h => t_lc hv (t_setN h)
theorem vs_lcF (i : Nat) (am : Am X) (hi : VI X C tg iter gi) (ok : BlkOk X.N X.env.scope scope own)
    (hg : ∀ (s : Shared) (H : Hp) (Cc : Addr) (cl : List (Str × Addr)) (fp : List Addr), PG (X.blk s H scope (compEnvC scope cl Cc X.env) fp) tg (t.g X.K)) (ht : ∀ (s : Shared) (H : Hp) (Cc : Addr) (cl : List (Str × Addr)) (fp : List Addr), VT (X.blk s H scope (compEnvC scope cl Cc X.env) fp) C.nox ifs tt)
    (he : ∀ (s : Shared) (H : Hp) (Cc : Addr) (cl : List (Str × Addr)) (fp : List Addr), VE (X.blk s H scope (compEnvC scope cl Cc X.env) fp) C.nox elt f) (hv : ∀ i ∈ t.slots, i ∈ own.map (·.2))
    (hy : X.N[i]? = some y := by rfl) (hyl : X.env.scope.names.lookup y = some .local := by rfl) (hsw : swapsWith (.ListComp elt [⟨tg, iter, ifs, 0⟩] scope pos) (some (.Name y py)) spos.line X.env = pure true := by rfl) (hs : ∀ x, foldedSetIterable iter X.env x = pure x := by intro _; rfl) :
    VS X C (.Assign [.Name y py] (.ListComp elt [⟨tg, iter, ifs, 0⟩] scope pos) spos) (sSetF i (fLc gi t tt f (own.map (·.2)))) := PS.of (ps_setLc am.c am.n hy hyl hsw hi ok hg ht he hs) fun D σ H h => t_lc hv (t_setF h)
theorem vs_lc2N (i : Nat) (am : Am X) (hi : VI X C tg iter gi) (ok : BlkOk X.N X.env.scope scope own)
    (hg : ∀ (s : Shared) (H : Hp) (Cc : Addr) (cl : List (Str × Addr)) (fp : List Addr), PG (X.blk s H scope (compEnvC scope cl Cc X.env) fp) tg (t.g X.K)) (ht : ∀ (s : Shared) (H : Hp) (Cc : Addr) (cl : List (Str × Addr)) (fp : List Addr), VT (X.blk s H scope (compEnvC scope cl Cc X.env) fp) C.nox ifs tt)
    (hi1 : ∀ (s : Shared) (H : Hp) (Cc : Addr) (cl : List (Str × Addr)) (fp : List Addr), VI (X.blk s H scope (compEnvC scope cl Cc X.env) fp) C.nox tg1 iter1 gi1)
    (hg1 : ∀ (s : Shared) (H : Hp) (Cc : Addr) (cl : List (Str × Addr)) (fp : List Addr), PG (X.blk s H scope (compEnvC scope cl Cc X.env) fp) tg1 (t1.g X.K)) (ht1 : ∀ (s : Shared) (H : Hp) (Cc : Addr) (cl : List (Str × Addr)) (fp : List Addr), VT (X.blk s H scope (compEnvC scope cl Cc X.env) fp) C.nox ifs1 tt1)
    (he : ∀ (s : Shared) (H : Hp) (Cc : Addr) (cl : List (Str × Addr)) (fp : List Addr), VE (X.blk s H scope (compEnvC scope cl Cc X.env) fp) C.nox elt f) (hv : ∀ i ∈ t.slots, i ∈ own.map (·.2)) (hv1 : ∀ i ∈ t1.slots, i ∈ own.map (·.2))
    (hy : X.N[i]? = some y := by rfl) (hyl : X.env.scope.names.lookup y = some .local := by rfl) (hsw : swapsWith (.ListComp elt [⟨tg, iter, ifs, 0⟩, ⟨tg1, iter1, ifs1, 0⟩] scope pos) (some (.Name y py)) spos.line X.env = pure true := by rfl) (hs : ∀ x, foldedSetIterable iter X.env x = pure x := by intro _; rfl) (hs1 : ∀ env x, foldedSetIterable iter1 env x = pure x := by intro _ _; rfl) :
    VS X C (.Assign [.Name y py] (.ListComp elt [⟨tg, iter, ifs, 0⟩, ⟨tg1, iter1, ifs1, 0⟩] scope pos) spos) (sSetN i (fLc2 gi t tt gi1 t1 tt1 f (own.map (·.2)) t1.slots)) := PS.of (ps_setLc2 am.c am.n hy hyl hsw hi ok hv1 hg ht hi1 hg1 ht1 he hs hs1) fun D σ H h => t_lc2 hv (fun _ h => h) (t_setN h)
theorem vs_lc2F (i : Nat) (am : Am X) (hi : VI X C tg iter gi) (ok : BlkOk X.N X.env.scope scope own)
    (hg : ∀ (s : Shared) (H : Hp) (Cc : Addr) (cl : List (Str × Addr)) (fp : List Addr), PG (X.blk s H scope (compEnvC scope cl Cc X.env) fp) tg (t.g X.K)) (ht : ∀ (s : Shared) (H : Hp) (Cc : Addr) (cl : List (Str × Addr)) (fp : List Addr), VT (X.blk s H scope (compEnvC scope cl Cc X.env) fp) C.nox ifs tt)
    (hi1 : ∀ (s : Shared) (H : Hp) (Cc : Addr) (cl : List (Str × Addr)) (fp : List Addr), VI (X.blk s H scope (compEnvC scope cl Cc X.env) fp) C.nox tg1 iter1 gi1)
    (hg1 : ∀ (s : Shared) (H : Hp) (Cc : Addr) (cl : List (Str × Addr)) (fp : List Addr), PG (X.blk s H scope (compEnvC scope cl Cc X.env) fp) tg1 (t1.g X.K)) (ht1 : ∀ (s : Shared) (H : Hp) (Cc : Addr) (cl : List (Str × Addr)) (fp : List Addr), VT (X.blk s H scope (compEnvC scope cl Cc X.env) fp) C.nox ifs1 tt1)
    (he : ∀ (s : Shared) (H : Hp) (Cc : Addr) (cl : List (Str × Addr)) (fp : List Addr), VE (X.blk s H scope (compEnvC scope cl Cc X.env) fp) C.nox elt f) (hv : ∀ i ∈ t.slots, i ∈ own.map (·.2)) (hv1 : ∀ i ∈ t1.slots, i ∈ own.map (·.2))
    (hy : X.N[i]? = some y := by rfl) (hyl : X.env.scope.names.lookup y = some .local := by rfl) (hsw : swapsWith (.ListComp elt [⟨tg, iter, ifs, 0⟩, ⟨tg1, iter1, ifs1, 0⟩] scope pos) (some (.Name y py)) spos.line X.env = pure true := by rfl) (hs : ∀ x, foldedSetIterable iter X.env x = pure x := by intro _; rfl) (hs1 : ∀ env x, foldedSetIterable iter1 env x = pure x := by intro _ _; rfl) :
    VS X C (.Assign [.Name y py] (.ListComp elt [⟨tg, iter, ifs, 0⟩, ⟨tg1, iter1, ifs1, 0⟩] scope pos) spos) (sSetF i (fLc2 gi t tt gi1 t1 tt1 f (own.map (·.2)) t1.slots)) := PS.of (ps_setLc2 am.c am.n hy hyl hsw hi ok hv1 hg ht hi1 hg1 ht1 he hs hs1) fun D σ H h => t_lc2 hv (fun _ h => h) (t_setF h)
end
end

/-! ### a, b = x, y -/
inductive Mv where
  | s (d : D)
  | n (l : List D)
def Mv.sl : Mv → Sl
  | .s d => .sh d
  | .n l => .own l
abbrev FM := List Sl → Rs Mv
def RMv (K : PySem.W.Frag) : Rel V Mv := fun _ H F' H' v m => match m with
  | .s d => Rp K F' v d
  | .n l => ∃ p xs, v = .ref p ∧ H' p = some (.lst xs) ∧ F' p = none ∧ H p = none ∧ RpAll K F' xs l
theorem RMv.mono {K : PySem.W.Frag} : RMono (RMv K) := fun _ _ _ _ _ _ _ m e _ h => by
  cases m with
  | s d => exact h
  | n l => obtain ⟨p, xs, a, b, c, d, g⟩ := h; exact ⟨p, xs, a, b, c, e.h.free d, g⟩
def TM (K : PySem.W.Frag) (mg : Str → Option Value) (C : Ct) (f : FM) : TE := fun σ H Q => ∃ F env, REnv K C F σ H env ∧ Sat mg C (RMv K) (f env) σ F H Q
abbrev VM (X : Cx) (C : Ct) (e : Expr) (f : FM) : Prop := PE X e (TM X.K X.mg C f)
def mS (f : FE) : FM := fun env => (f env).bind fun d => .ok (.s d)
def mN (f : FE) : FM := fun env => (f env).bind fun d => match d with
  | .list l => .ok (.n l)
  | _ => .no
def sPar (i j : Nat) (ma mb : FM) : FS := fun env => bindO (ma env) fun a => bindO (mb env) fun b => .nx ((env.set i a.sl).set j b.sl)
section
variable {X : Cx} {C : Ct} {e a b : Expr} {f : FE} {ma mb : FM}
theorem vm_s (h : VE X C e f) : VM X C e (mS f) := PE.of h fun σ H Q ⟨F, env, re, q⟩ => ⟨F, env, re, Sat.bind RMv.mono q fun d v F1 H1 x1 r1 q1 => q1 v H1 F1 (Ext.refl (re.go x1).same) r1⟩
theorem vm_n (h : VN X C e f) : VM X C e (mN f) := PE.of h fun σ H Q ⟨F, env, re, q⟩ => ⟨F, env, re, by
  have q : Sat X.mg C (RMv X.K) ((f env).bind fun d => match d with
    | .list l => .ok (.n l)
    | _ => .no) σ F H Q := q
  cases hf : f env with
  | ok d =>
    rw [hf] at q
    intro v H1 F1 x1 ⟨p, xs, l, e1, e2, e3, e4, e5, e6⟩
    subst e1 e2
    exact q _ H1 F1 x1 ⟨p, xs, rfl, e3, e4, e5, e6⟩
  | er c n => rw [hf] at q; exact q
  | no => rw [hf] at q; exact q⟩
theorem REnv.setM {K : PySem.W.Frag} {F H : Hp} {σ : L2.St} {env : List Sl} {i : Nat} {v : V} {m : Mv} (re : REnv K C F σ H env) (h : match m with
    | .s d => Rp K F v d
    | .n l => ∃ p xs, v = .ref p ∧ H p = some (.lst xs) ∧ F p = none ∧ C.H p = none ∧ RpAll K F xs l ∧ ∀ (j : Nat) (m : List D), σ[j]? = some (some (.ref p)) → env[j]? ≠ some (.own m)) : REnv K C F (σ.set i (some v)) H (env.set i m.sl) := by
  cases m with
  | s d => exact re.setSh h
  | n l => obtain ⟨p, xs, e, h1, h2, h3, h4, h5⟩ := h; subst e; exact re.setOwn h1 h2 h3 h4 h5
theorem t_par {K : PySem.W.Frag} {mg : Str → Option Value} {i j : Nat} {D : Ends} {σ : L2.St} {H : Hp} : TSt K mg C (sPar i j ma mb) D σ H →
    TM K mg C ma σ H fun v H1 => TM K mg C mb σ H1 fun w H2 => D.nx ((σ.set i (some v)).set j (some w)) H2 ∧ ∀ T, H2 T = none → D.nx ((σ.set i (some v)).set j (some w)) (upd H2 T (.tup [v, w])) := fun ⟨F, env, re, q⟩ =>
  ⟨F, env, re, SatS.bind (R := RMv K) re q fun m v F1 H1 x1 r1 q1 => ⟨F1, env, re.go x1, SatS.bind (R := RMv K) (re.go x1) q1 fun m' w F2 H2 x2 r2 q2 => by
    have re2 := (re.go x1).go x2
    have z1 : REnv K C F2 (σ.set i (some v)) H2 (env.set i m.sl) := re2.setM (by
      cases m with
      | s d => exact Rp.mono x2.f _ _ r1
      | n l =>
        obtain ⟨p, xs, e1, e2, e3, e4, e5⟩ := r1
        obtain ⟨g1, g2, _⟩ := x2.del e3 e2
        refine ⟨p, xs, e1, g2, g1, re.ext.h.free e4, RpAll.mono x2.f _ _ e5, fun j m h => re.newSlot e4 j m h⟩)
    have z2 : REnv K C F2 ((σ.set i (some v)).set j (some w)) H2 ((env.set i m.sl).set j m'.sl) := z1.setM (by
      cases m' with
      | s d => exact r2
      | n l =>
        obtain ⟨p, xs, e1, e2, e3, e4, e5⟩ := r2
        refine ⟨p, xs, e1, e2, e3, (re.go x1).ext.h.free e4, e5, fun k n h hk => ?_⟩
        obtain ⟨a', ys, w1, w2, _⟩ := z1.own hk
        rw [h] at w1
        cases w1
        by_cases ik : i = k
        · subst ik
          have hi : i < σ.length := by
            rcases Nat.lt_or_ge i σ.length with z | z
            · exact z
            · rw [List.getElem?_eq_none (by rw [List.length_set]; exact z)] at h; cases h
          rw [List.getElem?_set_self hi] at h
          cases h
          have hi' : i < env.length := by rw [← re.len]; exact hi
          rw [List.getElem?_set_self hi'] at hk
          cases m with
          | s d => cases hk
          | n l' =>
            obtain ⟨p', xs', u1, u2, u3, u4, u5⟩ := r1
            cases u1
            rw [u2] at e4
            cases e4
        · rw [List.getElem?_set_ne ik] at h hk
          exact (re.go x1).newSlot e4 k n h hk)
    refine ⟨q2 _ H2 F2 (Same.refl _) z2, fun T hT => q2 _ _ _ (same_upd (z2.same.free hT)) (z2.go (Ext.new z2.same hT))⟩⟩⟩
theorem vs_par (i j : Nat) {x y : Str} {px py pt pos : Pos} {kt k2 : Nat} {pt2 : Pos} (am : Am X) (ha : VM X C a ma) (hb : VM X C b mb) (hij : i ≠ j := by decide) (hi : X.N[i]? = some x := by rfl) (hj : X.N[j]? = some y := by rfl)
    (hx : X.env.scope.names.lookup x = some .local := by rfl) (hy : X.env.scope.names.lookup y = some .local := by rfl) (he : starEach [a, b] X.env = (false, eval a X.env) :: starEach [b] X.env := by rfl) (he2 : starEach [b] X.env = (false, eval b X.env) :: starEach [] X.env := by rfl)
    (hw : swappedStores [.Tuple [.Name x px, .Name y py] kt pt] (.Tuple [a, b] k2 pt2) X.env = pure (some [x, y]) := by rfl)
    (hs : swapsWithSole [.Tuple [.Name x px, .Name y py] kt pt] (.Tuple [a, b] k2 pt2) pos.line X.env = pure false := by rfl) :
    VS X C (.Assign [.Tuple [.Name x px, .Name y py] kt pt] (.Tuple [a, b] k2 pt2) pos) (sPar i j ma mb) := PS.of (ps_par am.c am.n hi hj hij hx hy (pa_cons ha (pa_cons hb pa_nil he2) he) hw hs) fun D σ H h => by
  have z := t_par h
  obtain ⟨F, env, re, q⟩ := z
  refine ⟨F, env, re, q.imp fun v H1 ⟨F1, env1, re1, q1⟩ => ⟨F1, env1, re1, q1.imp fun w H2 q2 => ?_⟩⟩
  exact ⟨v, w, rfl, q2.1⟩
/-- .. where a name is a cell: by a pair -/
theorem vs_parC (i j : Nat) {x y : Str} {px py pt pos : Pos} {kt k2 : Nat} {pt2 : Pos} (am : Am X) (ha : VM X C a ma) (hb : VM X C b mb) (hij : i ≠ j := by decide) (hi : X.N[i]? = some x := by rfl) (hj : X.N[j]? = some y := by rfl)
    (hx : Loc X.env.scope x := by first | exact Or.inl rfl | exact Or.inr rfl) (hy : Loc X.env.scope y := by first | exact Or.inl rfl | exact Or.inr rfl)
    (hfx : X.fn x = true ∨ X.env.scope.names.lookup x = some .local := by first | exact .inl rfl | exact .inr rfl | assumption) (hfy : X.fn y = true ∨ X.env.scope.names.lookup y = some .local := by first | exact .inl rfl | exact .inr rfl | assumption)
    (he : starEach [a, b] X.env = (false, eval a X.env) :: starEach [b] X.env := by rfl) (he2 : starEach [b] X.env = (false, eval b X.env) :: starEach [] X.env := by rfl)
    (hw : swappedStores [.Tuple [.Name x px, .Name y py] kt pt] (.Tuple [a, b] k2 pt2) X.env = pure none := by rfl)
    (hs : swapsWithSole [.Tuple [.Name x px, .Name y py] kt pt] (.Tuple [a, b] k2 pt2) pos.line X.env = pure false := by rfl) (h1 : (assignEach [.Tuple [.Name x px, .Name y py] kt pt] X.env).map (·.2) = [assign (.Tuple [.Name x px, .Name y py] kt pt) X.env] := by rfl)
    (hs1 : (assignEach [.Name y py] X.env).map (·.2) = assign (.Name y py) X.env :: (assignEach [] X.env).map (·.2) := by rfl) (hs2 : (assignEach [.Name x px, .Name y py] X.env).map (·.2) = assign (.Name x px) X.env :: (assignEach [.Name y py] X.env).map (·.2) := by rfl)
    (hn : (assignEach [.Name x px, .Name y py] X.env).length = 2 := by rfl) (hst : (assignEach [.Name x px, .Name y py] X.env).findIdx? (·.1) = none := by rfl) :
    VS X C (.Assign [.Tuple [.Name x px, .Name y py] kt pt] (.Tuple [a, b] k2 pt2) pos) (sPar i j ma mb) := PS.of (ps_asg (pe_tup (pa_cons ha (pa_cons hb pa_nil he2) he)) (pg_tup am.c (pgs_cons (pg_name am.n hi hx hfx) (pgs_cons (pg_name am.n hj hy hfy) pgs_nil hs1) hs2) hn hst) hs hw h1) fun D σ H h => by
  have z := t_par h
  obtain ⟨F, env, re, q⟩ := z
  refine ⟨F, env, re, q.imp fun v H1 ⟨F1, env1, re1, q1⟩ => ⟨F1, env1, re1, q1.imp fun w H2 q2 => ?_⟩⟩
  refine ⟨by show 2 ≤ sizeLine; decide, fun T hT => ⟨T, [v, w], rfl, SqT.of upd_same, rfl, v, _, rfl, w, _, rfl, rfl, q2.2 T hT⟩⟩
end
end PD

/-! Part 9: repr, list(range), max, min, index -/
namespace PD
open PySem PySem.Spec PyProof.Rows L2

/-! ### a mirror by another -/
def Rle {α : Type} (r r' : Rs α) : Prop := r = .no ∨ r = r'
section
variable {X : Cx} {C : Ct} {e : Expr} {f f' : FE} {g g' : FB}
theorem Sat.le {α β : Type} {mg : Str → Option Value} {R : Rel β α} {r r' : Rs α} {σ : L2.St} {F H : Hp} {Q : β → Hp → Prop} (l : Rle r r') (q : Sat mg C R r σ F H Q) : Sat mg C R r' σ F H Q := by
  rcases l with h | h
  · rw [h] at q; exact q.elim
  · rw [← h]; exact q
theorem VE.le (h : VE X C e f) (l : ∀ env, Rle (f' env) (f env)) : VE X C e f' := PE.of h fun σ H Q ⟨F, env, re, q⟩ => ⟨F, env, re, Sat.le (l env) q⟩
theorem VB.le (h : VB X C e g) (l : ∀ env, Rle (g' env) (g env)) : VB X C e g' := PT.of h fun σ H Q ⟨F, env, re, q⟩ => ⟨F, env, re, Sat.le (l env) q⟩
end

/-! ### repr -/
mutual
def rleaf : D → Bool
  | .none | .bool _ => true
  | .int i => decide (i.natAbs < 1000000000000)
  | .str x => x.cps.toList.all fun c => decide (c < 4294967296)
  | .list xs | .tuple xs => rleafAll xs
  | .dict _ => false
def rleafAll : List D → Bool
  | [] => true
  | x :: xs => rleaf x && rleafAll xs
end
def reprOk (d : D) : Bool := rleaf d && decide (d.weight ≤ 1048576) && shal d
mutual
theorem rleaf_ok : ∀ d : D, rleaf d = true → d.leavesShort 13 = true ∧ d.showable = true ∧ d.hasDict = false
  | .none, _ => ⟨rfl, rfl, rfl⟩
  | .bool _, _ => ⟨rfl, rfl, rfl⟩
  | .int i, h => by
    have h : i.natAbs < 1000000000000 := by simpa [rleaf] using h
    have hi := PyData.shown_int_le (i := i) (by omega)
    refine ⟨by simp only [PyData.leavesShort]; exact decide_eq_true hi, ?_, rfl⟩
    simp only [PyData.showable]
    refine decide_eq_true ?_
    by_cases z : i.natAbs = 0
    · rw [z]; decide
    · have := (Nat.log2_lt z (k := 40)).mpr (by omega)
      omega
  | .str x, h => by
    refine ⟨?_, rfl, rfl⟩
    have h : (x.cps.toList.all fun c => decide (c < 4294967296)) = true := h
    show (x.cps.toList.all fun c => decide (c < 16 ^ 8)) = true
    simpa using h
  | .list xs, h => by
    obtain ⟨h1, h2, h3⟩ := rleafAll_ok xs h
    exact ⟨h1, h2, h3⟩
  | .tuple xs, h => by
    obtain ⟨h1, h2, h3⟩ := rleafAll_ok xs h
    exact ⟨h1, h2, h3⟩
  | .dict _, h => by cases h
theorem rleafAll_ok : ∀ ds : List D, rleafAll ds = true → PyData.leavesShortAll 13 ds = true ∧ PyData.showableAll ds = true ∧ PyData.hasDictAll ds = false
  | [], _ => ⟨rfl, rfl, rfl⟩
  | d :: ds, h => by
    have h : (rleaf d && rleafAll ds) = true := h
    rw [Bool.and_eq_true] at h
    obtain ⟨a1, a2, a3⟩ := rleaf_ok d h.1
    obtain ⟨b1, b2, b3⟩ := rleafAll_ok ds h.2
    refine ⟨?_, ?_, ?_⟩
    · show (d.leavesShort 13 && PyData.leavesShortAll 13 ds) = true
      rw [a1, b1]; rfl
    · show (d.showable && PyData.showableAll ds) = true
      rw [a2, b2]; rfl
    · show (d.hasDict || PyData.hasDictAll ds) = false
      rw [a3, b3]; rfl
end
theorem reprOk_fits {d : D} (h : reprOk d = true) : d.showable = true ∧ d.hasDict = false ∧ d.shown.length ≤ sizeLine ∧ d.depth ≤ 64 := by
  unfold reprOk at h
  simp only [Bool.and_eq_true, decide_eq_true_eq] at h
  obtain ⟨⟨h1, h2⟩, h3⟩ := h
  obtain ⟨a, b, c⟩ := rleaf_ok d h1
  exact ⟨b, c, PyData.shown_fits (B := 13) (by decide) (by decide) a (by omega), of_decide_eq_true h3⟩
def dRepr : List D → Option D
  | [d] => if reprOk d = true then some (.str d.shown) else none
  | _ => none
def rRepr (K : PySem.W.Frag) : List V → Hp → VK → Prop := fun xs H Q => ∃ F v d, Same F H ∧ xs = [v] ∧ Rp K F v d ∧ reprOk d = true ∧ Q (.str d.shown) H
section
variable {K : PySem.W.Frag} {X : Cx} {C : Ct}
theorem call_reprD (am : Am X) : CallR X (.builtin "repr") (rRepr X.K) := by
  intro pins s σ H xs us Q I r ⟨F, v, d, sf, ex, hd, ok, q⟩
  subst ex
  obtain ⟨u, rfl, ru⟩ := vals1 r
  obtain ⟨as, hr⟩ := hd.reads I sf ru
  obtain ⟨o1, o2, o3, o4⟩ := reprOk_fits ok
  have hu := am.u
  have big : ∀ {a : Addr}, u = .ref a → wpAny (model X.prog X.w) X.A (call (.builtin "repr") [u]) (EP X pins σ Q) X.xe s := fun {a} e => by
    subst e
    exact repr_of_reads' hr o1 (fun z => by rw [o2] at z; cases z) am.g (by omega) (fun _ _ e => e) (fun h' u tk hk => ⟨.str _, H, I.kept hk, ⟨_, rfl⟩, q⟩) o3
  cases hd with
  | non => cases ru; exact PySem.P.repr_of_none ⟨.str _, H, I.tok _, ⟨_, rfl⟩, q⟩
  | bl b => cases ru; exact PySem.P.repr_of_bool ⟨.str _, H, I.tok _, ⟨_, rfl⟩, q⟩
  | int i =>
    obtain ⟨t, rfl⟩ := ru
    exact PySem.P.repr_of_int (of_decide_eq_true (by simpa only [PyData.showable] using o1)) ⟨.str _, H, I.tok _, ⟨_, rfl⟩, q⟩
  | str x =>
    obtain ⟨t, rfl⟩ := ru
    exact PySem.P.repr_of_str ⟨.str _, H, I.tok _, ⟨_, rfl⟩, q⟩ o3
  | lst _ _ => exact big ru
  | tup _ _ => exact big ru
theorem l_repr : VL K (rRepr K) dRepr := by
  intro F H xs ds c Q s h e q
  unfold dRepr at e
  split at e
  · split at e
    · rename_i ok
      cases e
      obtain ⟨v, rfl, r⟩ := h.one'
      exact ⟨F, v, _, s, rfl, r, ok, q _ H F (Ext.refl s) (.str _)⟩
    · cases e
  · cases e
end
/-! data that is the same -/
mutual
def eqD : D → D → Bool
  | .none, .none => true
  | .bool a, .bool b => a == b
  | .int a, .int b => decide (a = b)
  | .str a, .str b => decide (a.cps.toList = b.cps.toList)
  | .list a, .list b => eqDs a b
  | .tuple a, .tuple b => eqDs a b
  | _, _ => false
def eqDs : List D → List D → Bool
  | [], [] => true
  | a :: as, b :: bs => eqD a b && eqDs as bs
  | _, _ => false
end
mutual
theorem eqD_eq : ∀ a b : D, eqD a b = true → a = b
  | .none, b, h => by cases b <;> first | rfl | cases h
  | .bool x, b, h => by
    cases b with
    | bool y => rw [show x = y by simpa [eqD] using h]
    | _ => cases h
  | .int x, b, h => by
    cases b with
    | int y => rw [show x = y by simpa [eqD] using h]
    | _ => cases h
  | .str x, b, h => by
    cases b with
    | str y =>
      have e : x.cps.toList = y.cps.toList := by simpa [eqD] using h
      obtain ⟨⟨xs⟩⟩ := x
      obtain ⟨⟨ys⟩⟩ := y
      have e : xs = ys := e
      rw [e]
    | _ => cases h
  | .list xs, b, h => by
    cases b with
    | list ys => rw [eqDs_eq xs ys h]
    | _ => cases h
  | .tuple xs, b, h => by
    cases b with
    | tuple ys => rw [eqDs_eq xs ys h]
    | _ => cases h
  | .dict _, b, h => by cases b <;> cases h
theorem eqDs_eq : ∀ as bs : List D, eqDs as bs = true → as = bs
  | [], bs, h => by cases bs <;> first | rfl | cases h
  | a :: as, bs, h => by
    cases bs with
    | nil => cases h
    | cons b bs =>
      have h : (eqD a b && eqDs as bs) = true := h
      rw [Bool.and_eq_true] at h
      rw [eqD_eq a b h.1, eqDs_eq as bs h.2]
end
/-- repr(a) != repr(b), and ==, of data that is the same -/
def fRNe (f f' : FE) : FB := fun env => (f env).bind fun a => if reprOk a = true then (f' env).bind fun b => if eqD a b = true then .ok false else .no else .no
def fREq (f f' : FE) : FB := fun env => (f env).bind fun a => if reprOk a = true then (f' env).bind fun b => if eqD a b = true then .ok true else .no else .no
theorem str_eqv (x : Str) : PyData.eqv (.str x) (.str x) = true := by simp [PyData.eqv]
theorem shal_str (x : Str) : shal (.str x) = true := by simp [shal, PyData.depth]
section
variable {X : Cx} {C : Ct} {f f' : FE} {a b : Expr} {pos p p1 p2 p3 : Pos}
theorem vb_reprNe (am : Am X) (hg : Gl X "repr") (hm : X.mg "repr" = none) (ha : VE X C a f) (hb : VE X C b f') (h1 : starEach [a] X.env = (false, eval a X.env) :: starEach [] X.env := by rfl) (h2 : starEach [b] X.env = (false, eval b X.env) :: starEach [] X.env := by rfl)
    (hm2 : behindInMarks .NotEq (.Call (.Name "repr" p2) [b] [] p3) = false := by first | exact nomark _ | with_unfolding_all rfl) :
    VB X C (.Compare (.Call (.Name "repr" p) [a] [] p1) [.NotEq] [.Call (.Name "repr" p2) [b] [] p3] pos) (fRNe f f') :=
  VB.le (vb_cmp (o_ne am) v_ne (ve_callB (call_reprD am) l_repr hg hm rfl (va_cons ha va_nil h1) (he := h1) (hpl := by rfl)) (ve_callB (call_reprD am) l_repr hg hm rfl (va_cons hb va_nil h2) (he := h2) (hpl := by rfl)) hm2) fun env => by
    unfold fRNe
    cases hf : f env with
    | no => exact .inl rfl
    | er c n => exact .inr (by simp [fB, f2, fCB, aCons, hf])
    | ok d =>
      show Rle (if reprOk d = true then _ else _) _
      by_cases hd : reprOk d = true
      · rw [if_pos hd]
        cases hf' : f' env with
        | no => exact .inl rfl
        | er c n => exact .inr (by simp [fB, f2, fCB, aCons, aNil, hf, hf', dRepr, hd])
        | ok e =>
          show Rle (if eqD d e = true then _ else _) _
          by_cases he : eqD d e = true
          · rw [if_pos he]
            have := eqD_eq d e he
            subst this
            refine .inr ?_
            simp [fB, f2, fCB, aCons, aNil, hf, hf', dRepr, hd, dNe, shal_str, str_eqv, Rs.ofO]
            rfl
          · rw [if_neg he]; exact .inl rfl
      · rw [if_neg hd]; exact .inl rfl
theorem vb_reprEq (am : Am X) (hg : Gl X "repr") (hm : X.mg "repr" = none) (ha : VE X C a f) (hb : VE X C b f') (h1 : starEach [a] X.env = (false, eval a X.env) :: starEach [] X.env := by rfl) (h2 : starEach [b] X.env = (false, eval b X.env) :: starEach [] X.env := by rfl)
    (hm2 : behindInMarks .Eq (.Call (.Name "repr" p2) [b] [] p3) = false := by first | exact nomark _ | with_unfolding_all rfl) :
    VB X C (.Compare (.Call (.Name "repr" p) [a] [] p1) [.Eq] [.Call (.Name "repr" p2) [b] [] p3] pos) (fREq f f') :=
  VB.le (vb_cmp (o_eq am) v_eq (ve_callB (call_reprD am) l_repr hg hm rfl (va_cons ha va_nil h1) (he := h1) (hpl := by rfl)) (ve_callB (call_reprD am) l_repr hg hm rfl (va_cons hb va_nil h2) (he := h2) (hpl := by rfl)) hm2) fun env => by
    unfold fREq
    cases hf : f env with
    | no => exact .inl rfl
    | er c n => exact .inr (by simp [fB, f2, fCB, aCons, hf])
    | ok d =>
      show Rle (if reprOk d = true then _ else _) _
      by_cases hd : reprOk d = true
      · rw [if_pos hd]
        cases hf' : f' env with
        | no => exact .inl rfl
        | er c n => exact .inr (by simp [fB, f2, fCB, aCons, aNil, hf, hf', dRepr, hd])
        | ok e =>
          show Rle (if eqD d e = true then _ else _) _
          by_cases he : eqD d e = true
          · rw [if_pos he]
            have := eqD_eq d e he
            subst this
            refine .inr ?_
            simp [fB, f2, fCB, aCons, aNil, hf, hf', dRepr, hd, dEq, shal_str, str_eqv, Rs.ofO]
            rfl
          · rw [if_neg he]; exact .inl rfl
      · rw [if_neg hd]; exact .inl rfl
end

/-! ### list(range(..)) -/
def rgD (a b : Int) : List D := (List.range (b - a).toNat).map fun i => .int (a + (i : Nat))
def fRg1 (f : FE) (k : List D → D) : FE := fun env => (f env).bind fun d => match d with
  | .int n => if n.natAbs ≤ 1000000 then .ok (k (rgD 0 n)) else .no
  | _ => .no
def fRg2 (f f' : FE) (k : List D → D) : FE := fun env => (f env).bind fun d => (f' env).bind fun e => match d, e with
  | .int a, .int n => if a.natAbs ≤ 1000000 ∧ n.natAbs ≤ 1000000 then .ok (k (rgD a n)) else .no
  | _, _ => .no
theorem rp_rg {K : PySem.W.Frag} {F : Hp} (a b : Int) : RpAll K F (rgV a b) (rgD a b) := by
  unfold rgV rgD
  induction List.range (b - a).toNat with
  | nil => exact .nil
  | cons i l ih => exact .cons (.int _) ih
section
variable {X : Cx} {C : Ct} {f f' : FE} {a b : Expr} {p p2 pos pos2 : Pos}
theorem vn_listRg1 (am : Am X) (hg : Gl X "list") (hm : X.mg "list" = none) (hg' : Gl X "range") (hm' : X.mg "range" = none) (ha : VE X C a f) (na : starEach [a] X.env = (false, eval a X.env) :: starEach [] X.env := by rfl)
    (nb : starEach [.Call (.Name "range" p2) [a] [] pos2] X.env = (false, eval (.Call (.Name "range" p2) [a] [] pos2) X.env) :: starEach [] X.env := by rfl) :
    VN X C (.Call (.Name "list" p) [.Call (.Name "range" p2) [a] [] pos2] [] pos) (fRg1 f .list) := PE.of (pe_listRg am.c hg hm (prg_1 hg' hm' ha na) nb) fun σ H Q ⟨F, env, re, q⟩ =>
  ⟨F, env, re, Sat.bind RN.mono q fun d v F1 H1 x1 r1 q1 => by
    cases d with
    | int n =>
      cases r1
      have q1 : Sat X.mg C (RN X.K) (if n.natAbs ≤ 1000000 then .ok (.list (rgD 0 n)) else .no) σ F1 H1 Q := q1
      by_cases hn : n.natAbs ≤ 1000000
      · rw [if_pos hn] at q1
        refine ⟨n, rfl, ⟨by omega, by omega, by omega, by omega, by omega⟩, fun p hp => ?_⟩
        have s1 := (re.go x1).same
        exact q1 _ _ F1 (Ext.laid s1 hp) ⟨p, _, _, rfl, rfl, upd_same, s1.free hp, hp, rp_rg 0 n⟩
      · rw [if_neg hn] at q1; exact q1.elim
    | _ => exact q1.elim⟩
theorem vn_listRg2 (am : Am X) (hg : Gl X "list") (hm : X.mg "list" = none) (hg' : Gl X "range") (hm' : X.mg "range" = none) (ha : VE X C a f) (hb : VE X C b f') (na : starEach [a, b] X.env = (false, eval a X.env) :: starEach [b] X.env := by rfl) (nb' : starEach [b] X.env = (false, eval b X.env) :: starEach [] X.env := by rfl)
    (hp : (backTo pos2 (starEach [b] X.env)).any (·.1) = false := by rfl)
    (nb : starEach [.Call (.Name "range" p2) [a, b] [] pos2] X.env = (false, eval (.Call (.Name "range" p2) [a, b] [] pos2) X.env) :: starEach [] X.env := by rfl) :
    VN X C (.Call (.Name "list" p) [.Call (.Name "range" p2) [a, b] [] pos2] [] pos) (fRg2 f f' .list) := PE.of (pe_listRg am.c hg hm (prg_2 hg' hm' ha hb na nb' hp) nb) fun σ H Q ⟨F, env, re, q⟩ =>
  ⟨F, env, re, Sat.bind RN.mono q fun d v F1 H1 x1 r1 q1 => ⟨F1, env, re.go x1, Sat.bind RN.mono q1 fun e w F2 H2 x2 r2 q2 => by
    cases d with
    | int k =>
      cases r1
      cases e with
      | int n =>
        cases r2
        have q2 : Sat X.mg C (RN X.K) (if k.natAbs ≤ 1000000 ∧ n.natAbs ≤ 1000000 then .ok (.list (rgD k n)) else .no) σ F2 H2 Q := q2
        by_cases hn : k.natAbs ≤ 1000000 ∧ n.natAbs ≤ 1000000
        · rw [if_pos hn] at q2
          refine ⟨k, n, rfl, rfl, ⟨by omega, by omega, by omega, by omega, by omega⟩, fun p hp => ?_⟩
          have s2 := ((re.go x1).go x2).same
          exact q2 _ _ F2 (Ext.laid s2 hp) ⟨p, _, _, rfl, rfl, upd_same, s2.free hp, hp, rp_rg k n⟩
        · rw [if_neg hn] at q2; exact q2.elim
      | _ => exact q2.elim
    | _ => exact q2.elim⟩⟩
theorem ve_tupRg1 (am : Am X) (hg : Gl X "tuple") (hm : X.mg "tuple" = none) (hg' : Gl X "range") (hm' : X.mg "range" = none) (ha : VE X C a f) (na : starEach [a] X.env = (false, eval a X.env) :: starEach [] X.env := by rfl)
    (nb : starEach [.Call (.Name "range" p2) [a] [] pos2] X.env = (false, eval (.Call (.Name "range" p2) [a] [] pos2) X.env) :: starEach [] X.env := by rfl) :
    VE X C (.Call (.Name "tuple" p) [.Call (.Name "range" p2) [a] [] pos2] [] pos) (fRg1 f .tuple) := PE.of (pe_tupRg am.c hg hm (prg_1 hg' hm' ha na) nb) fun σ H Q ⟨F, env, re, q⟩ =>
  ⟨F, env, re, Sat.bind RD.mono q fun d v F1 H1 x1 r1 q1 => by
    cases d with
    | int n =>
      cases r1
      have q1 : Sat X.mg C (RD X.K) (if n.natAbs ≤ 1000000 then .ok (.tuple (rgD 0 n)) else .no) σ F1 H1 Q := q1
      by_cases hn : n.natAbs ≤ 1000000
      · rw [if_pos hn] at q1
        refine ⟨n, rfl, ⟨by omega, by omega, by omega, by omega, by omega⟩, fun p hp => ?_⟩
        have s1 := (re.go x1).same
        exact q1 _ _ _ (Ext.new s1 hp) (.tup (SqT.of upd_same) (rp_rg 0 n))
      · rw [if_neg hn] at q1; exact q1.elim
    | _ => exact q1.elim⟩
theorem ve_tupRg2 (am : Am X) (hg : Gl X "tuple") (hm : X.mg "tuple" = none) (hg' : Gl X "range") (hm' : X.mg "range" = none) (ha : VE X C a f) (hb : VE X C b f') (na : starEach [a, b] X.env = (false, eval a X.env) :: starEach [b] X.env := by rfl) (nb' : starEach [b] X.env = (false, eval b X.env) :: starEach [] X.env := by rfl)
    (hp : (backTo pos2 (starEach [b] X.env)).any (·.1) = false := by rfl)
    (nb : starEach [.Call (.Name "range" p2) [a, b] [] pos2] X.env = (false, eval (.Call (.Name "range" p2) [a, b] [] pos2) X.env) :: starEach [] X.env := by rfl) :
    VE X C (.Call (.Name "tuple" p) [.Call (.Name "range" p2) [a, b] [] pos2] [] pos) (fRg2 f f' .tuple) := PE.of (pe_tupRg am.c hg hm (prg_2 hg' hm' ha hb na nb' hp) nb) fun σ H Q ⟨F, env, re, q⟩ =>
  ⟨F, env, re, Sat.bind RD.mono q fun d v F1 H1 x1 r1 q1 => ⟨F1, env, re.go x1, Sat.bind RD.mono q1 fun e w F2 H2 x2 r2 q2 => by
    cases d with
    | int k =>
      cases r1
      cases e with
      | int n =>
        cases r2
        have q2 : Sat X.mg C (RD X.K) (if k.natAbs ≤ 1000000 ∧ n.natAbs ≤ 1000000 then .ok (.tuple (rgD k n)) else .no) σ F2 H2 Q := q2
        by_cases hn : k.natAbs ≤ 1000000 ∧ n.natAbs ≤ 1000000
        · rw [if_pos hn] at q2
          refine ⟨k, n, rfl, rfl, ⟨by omega, by omega, by omega, by omega, by omega⟩, fun p hp => ?_⟩
          have s2 := ((re.go x1).go x2).same
          exact q2 _ _ _ (Ext.new s2 hp) (.tup (SqT.of upd_same) (rp_rg k n))
        · rw [if_neg hn] at q2; exact q2.elim
      | _ => exact q2.elim
    | _ => exact q2.elim⟩⟩
end

/-! ### max, min of a list of ints; index -/
def dMaxL : List D → Option D
  | [.list l] => match intsD l with
    | some (n :: ns) => some (.int (ns.foldl (fun a y => if a < y then y else a) n))
    | _ => none
  | _ => none
def dMinL : List D → Option D
  | [.list l] => match intsD l with
    | some (n :: ns) => some (.int (ns.foldl (fun a y => if y < a then y else a) n))
    | _ => none
  | _ => none
theorem foldMax : ∀ (ns : List Int) (n : Int), (ns.foldl (fun a y => if a < y then y else a) n) ∈ n :: ns ∧ ∀ y ∈ n :: ns, y ≤ ns.foldl (fun a y => if a < y then y else a) n
  | [], n => ⟨List.mem_cons_self, fun y h => by rw [List.mem_singleton.mp h]; exact Int.le_refl _⟩
  | m :: ns, n => by
    obtain ⟨h1, h2⟩ := foldMax ns (if n < m then m else n)
    rw [List.foldl_cons]
    refine ⟨?_, fun y hy => ?_⟩
    · rcases List.mem_cons.mp h1 with e | e
      · rw [e]; split
        · exact List.mem_cons_of_mem _ List.mem_cons_self
        · exact List.mem_cons_self
      · exact List.mem_cons_of_mem _ (List.mem_cons_of_mem _ e)
    · have h0 := h2 _ List.mem_cons_self
      rcases List.mem_cons.mp hy with e | hy
      · rw [e]; split at h0 <;> rename_i q <;> simp only [q, if_true, if_false] at h0 ⊢ <;> omega
      · rcases List.mem_cons.mp hy with e | hy
        · rw [e]; split at h0 <;> rename_i q <;> simp only [q, if_true, if_false] at h0 ⊢ <;> omega
        · exact h2 y (List.mem_cons_of_mem _ hy)
theorem foldMin : ∀ (ns : List Int) (n : Int), (ns.foldl (fun a y => if y < a then y else a) n) ∈ n :: ns ∧ ∀ y ∈ n :: ns, ns.foldl (fun a y => if y < a then y else a) n ≤ y
  | [], n => ⟨List.mem_cons_self, fun y h => by rw [List.mem_singleton.mp h]; exact Int.le_refl _⟩
  | m :: ns, n => by
    obtain ⟨h1, h2⟩ := foldMin ns (if m < n then m else n)
    rw [List.foldl_cons]
    refine ⟨?_, fun y hy => ?_⟩
    · rcases List.mem_cons.mp h1 with e | e
      · rw [e]; split
        · exact List.mem_cons_of_mem _ List.mem_cons_self
        · exact List.mem_cons_self
      · exact List.mem_cons_of_mem _ (List.mem_cons_of_mem _ e)
    · have h0 := h2 _ List.mem_cons_self
      rcases List.mem_cons.mp hy with e | hy
      · rw [e]; split at h0 <;> rename_i q <;> simp only [q, if_true, if_false] at h0 ⊢ <;> omega
      · rcases List.mem_cons.mp hy with e | hy
        · rw [e]; split at h0 <;> rename_i q <;> simp only [q, if_true, if_false] at h0 ⊢ <;> omega
        · exact h2 y (List.mem_cons_of_mem _ hy)
section
variable {K : PySem.W.Frag}
theorem l_maxL : VL K (rMax K) dMaxL := by
  intro F H xs ds c Q s h e q
  unfold dMaxL at e
  split at e
  · rename_i l
    obtain ⟨v, rfl, r⟩ := h.one'
    split at e
    · rename_i n ns hi
      cases e
      cases r with
      | @lst a ys _ a1 a2 =>
        have e := a2.intsd hi
        subst e
        refine ⟨a, n :: ns, rfl, SqL.of (s _ _ a1), by simp, fun m hm hall => ?_⟩
        obtain ⟨h1, h2⟩ := foldMax ns n
        rw [show m = ns.foldl (fun a y => if a < y then y else a) n from Int.le_antisymm (h2 m hm) (hall _ h1)]
        exact q _ H F (Ext.refl s) (.int _)
    · cases e
  · cases e
theorem l_minL : VL K (rMin K) dMinL := by
  intro F H xs ds c Q s h e q
  unfold dMinL at e
  split at e
  · rename_i l
    obtain ⟨v, rfl, r⟩ := h.one'
    split at e
    · rename_i n ns hi
      cases e
      cases r with
      | @lst a ys _ a1 a2 =>
        have e := a2.intsd hi
        subst e
        refine ⟨a, n :: ns, rfl, SqL.of (s _ _ a1), by simp, fun m hm hall => ?_⟩
        obtain ⟨h1, h2⟩ := foldMin ns n
        rw [show m = ns.foldl (fun a y => if y < a then y else a) n from Int.le_antisymm (hall _ h1) (h2 m hm)]
        exact q _ H F (Ext.refl s) (.int _)
    · cases e
  · cases e
end
/-- the first place, texts or whole numbers -/
def placeS (x : Str) : List Str → Nat → Option Nat
  | [], _ => none
  | y :: r, i => if y == x then some i else placeS x r (i + 1)
def dIndex (d e : D) : Option D := match d, e with
  | .list l, .str x => (strsD l).bind fun ys => (placeS x ys 0).map fun j => .int (j : Nat)
  | _, _ => none
theorem placeS_at : ∀ (ys : List Str) (x : Str) (i j : Nat), placeS x ys i = some j → ∃ k, j = i + k ∧ (∃ y, ys[k]? = some y ∧ (y == x) = true) ∧ ∀ m y, m < k → ys[m]? = some y → (y == x) = false
  | [], _, _, _, h => by cases h
  | y :: r, x, i, j, h => by
    unfold placeS at h
    by_cases q : (y == x) = true
    · rw [if_pos q] at h
      cases h
      exact ⟨0, rfl, ⟨y, rfl, q⟩, fun m y hm => absurd hm (Nat.not_lt_zero _)⟩
    · rw [if_neg q] at h
      obtain ⟨k, h1, ⟨z, h2, h3⟩, h4⟩ := placeS_at r x (i + 1) j h
      refine ⟨k + 1, by omega, ⟨z, by simpa using h2, h3⟩, fun m w hm hw => ?_⟩
      cases m with
      | zero =>
        have e : y = w := by simpa using hw
        subst e
        exact Bool.eq_false_iff.mpr q
      | succ m => exact h4 m w (by omega) (by simpa using hw)
theorem flat_strs (ys : List Str) : (ys.map V.str).all flatV = true := by
  induction ys with
  | nil => rfl
  | cons y r ih => rw [List.map_cons, List.all_cons, ih]; rfl
section
variable {X : Cx} {C : Ct} {f f' : FE} {o e : Expr} {apos pos : Pos}
def fIndex (f f' : FE) : FE := fun env => (f env).bind fun d => match d with
  | .list l => (f' env).bind fun e => Rs.ofO (dIndex (.list l) e)
  | _ => .no
theorem ve_index (ho : VE X C o f) (he : VE X C e f') (hbase : attributeBase o "index" X.env (eval o X.env) = eval o X.env := by rfl) (hline : (apos.endLine == pos.line) = true := by rfl) (hs : starEach [e] X.env = (false, eval e X.env) :: starEach [] X.env := by rfl)
    (hfew : ((backTo pos (starEach [e] X.env)).all (fun x => !x.1) && (backToKw pos (keywordEach [] X.env)).all (fun x => x.1.isSome)
      && decide ([e].length + ([] : List Keyword).length + (if ([] : List Keyword).isEmpty then 0 else 1) < 30)) = true := by rfl) (hplain : (backTo pos (starEach [] X.env)).any (·.1) = false := by rfl) :
    VE X C (.Call (.Attribute o "index" apos) [e] [] pos) (fIndex f f') := PE.of (pe_bm PySem.F.plainAttrs_list PySem.F.slot_list_index PySem.F.type_list_index mt_index ho (va_cons he va_nil hs) hbase hfew hline hs hplain) fun σ H Q ⟨F, env, re, q⟩ =>
  ⟨F, env, re, Sat.bind RD.mono q fun d v F1 H1 x1 r1 q1 => by
    cases d with
    | list l =>
      cases r1 with
      | @lst a ys _ a1 a2 =>
        refine ⟨.inl ⟨rfl, ys, SqL.of ((re.go x1).same _ _ a1)⟩, F1, env, re.go x1, ?_⟩
        have q1 : Sat X.mg C (RD X.K) ((f' env).bind fun e => Rs.ofO (dIndex (.list l) e)) σ F1 H1 Q := q1
        unfold aCons aNil
        cases hf : f' env with
        | er c n => rw [hf] at q1; exact q1
        | no => rw [hf] at q1; exact q1
        | ok e =>
          rw [hf] at q1
          have q1 : Sat X.mg C (RD X.K) (Rs.ofO (dIndex (.list l) e)) σ F1 H1 Q := q1
          intro vs H2 F2 x2 r2
          obtain ⟨c, hc, q2⟩ := Sat.ofO (Sat.go RD.mono q1 x2)
          have s2 := ((re.go x1).go x2).same
          obtain ⟨w, rfl, rw'⟩ := RpAll.one' r2
          cases e with
          | str x =>
            cases rw'
            simp only [dIndex] at hc
            cases hb : strsD l with
            | none => rw [hb] at hc; cases hc
            | some zs =>
              rw [hb] at hc
              have hc : (placeS x zs 0).map (fun j : Nat => (PyData.int (j : Nat))) = some c := hc
              cases hp : placeS x zs 0 with
              | none => rw [hp] at hc; cases hc
              | some j =>
                rw [hp] at hc
                cases hc
                have e := a2.strsd hb
                subst e
                obtain ⟨k, k1, ⟨z, k2, k3⟩, k4⟩ := placeS_at zs x 0 j hp
                rw [Nat.zero_add] at k1
                subst k1
                refine ⟨a, _, .str x, j, .str z, rfl, rfl, SqL.of (s2 _ _ (x2.f _ _ a1)), rfl, flat_strs zs, by rw [List.getElem?_map, k2]; rfl, k3, fun m z' hm hz => ?_, q2 _ H2 F2 (Ext.refl s2) (.int _)⟩
                rw [List.getElem?_map] at hz
                cases hz' : zs[m]? with
                | none => rw [hz'] at hz; cases hz
                | some w => rw [hz'] at hz; cases hz; exact k4 m w hm hz'
          | _ => cases hc
    | _ => exact q1.elim⟩
end
end PD

/-! Part 10: the script; the ends -/
namespace PD
open PySem PySem.Spec PyProof.Rows L2

section
variable {X : Cx} {C : Ct} {f : FE} {b : Expr} {x : Str} {pos p1 p2 : Pos}
/-- script[k] -/
def fScrIx (i : Nat) (f : FE) : FE := fun env => match env[i]? with
  | some (.scr ns) => (f env).bind fun d => match d with
    | .int k => Rs.ofO ((atI ns k).map PyData.int)
    | _ => .no
  | _ => .no
theorem REnv.scr {K : PySem.W.Frag} {F H : Hp} {σ : L2.St} {env : List Sl} {i : Nat} {ns : List Int} (re : REnv K C F σ H env) (h : env[i]? = some (.scr ns)) : ∃ a, σ[i]? = some (some (.ref a)) ∧ SqL K H a (ns.map V.int) := by
  obtain ⟨a, h1, h2⟩ := re.get i _ h
  exact ⟨a, h1, Same.sql re.ext.h h2⟩
theorem atI_map {α β : Type} (g : α → β) (xs : List α) (i : Int) : atI (xs.map g) i = (atI xs i).map g := by
  unfold atI
  rw [List.length_map]
  cases ixN xs.length i with
  | none => rfl
  | some j => exact List.getElem?_map
theorem ve_scrIx (i : Nat) (hb : VE X C b f) (hN : X.N[i]? = some x := by rfl) (hv : Vis X.env.scope x := by first | exact Or.inl rfl | exact Or.inr (Or.inl rfl) | exact Or.inr (Or.inr rfl)) (hd : (x == ("__debug__" : Str)) = false := by decide)
    (hcd : (x == ("__classdict__" : Str)) = false := by decide) (hs : PlainIx b := by intro _ _; rfl) : VE X C (.Subscript (.Name x p1) b pos) (fScrIx i f) := PE.of (pe_ix ix_list (pe_var hN hv hd hcd) hb hs) fun σ H Q ⟨F, env, re, q⟩ => by
  unfold fScrIx at q
  split at q
  · rename_i ns e1
    obtain ⟨a, h1, h2⟩ := re.scr e1
    refine ⟨.ref a, h1, F, env, re, Sat.bind RD.mono q fun d v F1 H1 x1 r1 q1 => ?_⟩
    cases d with
    | int k =>
      cases r1
      obtain ⟨c, hc, q2⟩ := Sat.ofO q1
      cases ha : atI ns k with
      | none => rw [ha] at hc; cases hc
      | some m =>
        rw [ha] at hc
        cases hc
        exact ⟨a, _, k, .int m, rfl, rfl, Same.sql x1.h h2, by rw [atI_map, ha]; rfl, q2 _ H1 F1 (Ext.refl (re.go x1).same) (.int _)⟩
    | _ => exact q1.elim
  · exact q.elim
/-- len(script) -/
def fScrLen (i : Nat) : FE := fun env => match env[i]? with
  | some (.scr ns) => .ok (.int (ns.length : Nat))
  | _ => .no
theorem ve_scrLen (i : Nat) (hg : Gl X "len") (hm : X.mg "len" = none) (hN : X.N[i]? = some x := by rfl) (hv : Vis X.env.scope x := by first | exact Or.inl rfl | exact Or.inr (Or.inl rfl) | exact Or.inr (Or.inr rfl)) (hd : (x == ("__debug__" : Str)) = false := by decide)
    (hcd : (x == ("__classdict__" : Str)) = false := by decide) (he : starEach [.Name x p2] X.env = (false, eval (.Name x p2) X.env) :: starEach [] X.env := by rfl) (hpl : (backTo pos (starEach [] X.env)).any (·.1) = false := by rfl) :
    VE X C (.Call (.Name "len" p1) [.Name x p2] [] pos) (fScrLen i) := PE.of (pe_callB (call_len) hg hm rfl (pa_cons (pe_var hN hv hd hcd) pa_nil he) (by decide) (by decide) he hpl) fun σ H Q ⟨F, env, re, q⟩ => by
  unfold fScrLen at q
  split at q
  · rename_i ns e1
    obtain ⟨a, h1, h2⟩ := re.scr e1
    refine ⟨.ref a, h1, .ref a, ns.length, rfl, .inl ⟨_, h2, by rw [List.length_map]⟩, q _ H F (Ext.refl re.same) (.int _)⟩
  · exact q.elim
/-- a def of the script -/
def spScr (K : PySem.W.Frag) (mg : Str → Option Value) (Fn : List Int → Rs D) : Sp := fun vs H Q E => ∃ G a ns, Same G H ∧ vs = [.ref a] ∧ SqL K H a (ns.map V.int) ∧ Sat mg ⟨G, H, fun _ => E⟩ (RN K) (Fn ns) [] G H Q
def fScrCall (i : Nat) (Fn : List Int → Rs D) : FE := fun env => match env[i]? with
  | some (.scr ns) => Fn ns
  | _ => .no
theorem vn_callScr {Fn : List Int → Rs D} {CX : CXT} {k : Nat} {f : Addr} {fd : FuncData} {ps : List Str} {g : Str} (i : Nat) (F : FnG X.prog X.w X.K X.mg X.base CX k f fd ps (spScr X.K X.mg Fn)) (am : Am X) (hr : Room k X.A) (hg : Gl X g) (hm : X.mg g = some (.ref f)) (hk : PySem.W.keepIn X.K (.ref f) = true) (hb : Binds X.K fd ps []) (hx : ∀ σ, PassesAt CX X σ (C.E σ))
    (hN : X.N[i]? = some x := by rfl) (hv : Vis X.env.scope x := by first | exact Or.inl rfl | exact Or.inr (Or.inl rfl) | exact Or.inr (Or.inr rfl)) (hd : (x == ("__debug__" : Str)) = false := by decide)
    (hcd : (x == ("__classdict__" : Str)) = false := by decide) (hdb : (g == ("__debug__" : Str)) = false := by decide) (he : starEach [.Name x p2] X.env = (false, eval (.Name x p2) X.env) :: starEach [] X.env := by rfl) (hpl : (backTo pos (starEach [] X.env)).any (·.1) = false := by rfl) :
    VN X C (.Call (.Name g p1) [.Name x p2] [] pos) (fScrCall i Fn) := PE.of (pe_callG F am.g hr hg hm hk hb hx (pa_cons (pe_var hN hv hd hcd) pa_nil he) hdb he hpl) fun σ H Q ⟨F, env, re, q⟩ => by
  unfold fScrCall at q
  split at q
  · rename_i ns e1
    obtain ⟨a, h1, h2⟩ := re.scr e1
    exact ⟨.ref a, h1, F, a, ns, re.same, rfl, h2, Sat.call q⟩
  · exact q.elim
end

section
variable {P : Program} {w : World} {K : PySem.W.Frag} {mg : Str → Option Value} {base : Heap}
def envS (m : Nat) (ns : List Int) : List Sl := .scr ns :: List.replicate (m - 1) .un
def dfnS (m : Nat) (g : FS) : List Int → Rs D := fun ns => (outN (g (envS m ns))).quiet
theorem renvS {G H : Hp} {E : L2.St → XK} {a : Addr} {ns : List Int} {N : List Str} (s : Same G H) (h : SqL K H a (ns.map V.int)) (hl : 1 ≤ N.length) : REnv K ⟨G, H, E⟩ G (L2.start N [.ref a]) H (envS N.length ns) := by
  refine ⟨Ext.refl s, ?_, fun i t e => ?_, fun i j l m _ e _ => ?_⟩
  · unfold L2.start envS
    simp only [List.length_append, List.length_map, List.length_replicate, List.length_cons, List.length_nil]
    omega
  · cases i with
    | zero =>
      have e : Sl.scr ns = t := by simpa [envS] using e
      subst e
      exact ⟨a, rfl, h⟩
    | succ i =>
      unfold envS at e
      rw [List.getElem?_cons_succ, List.getElem?_replicate] at e
      split at e
      · cases e; trivial
      · cases e
  · cases i with
    | zero => have e : Sl.scr ns = .own l := by simpa [envS] using e
              cases e
    | succ i =>
      unfold envS at e
      rw [List.getElem?_cons_succ, List.getElem?_replicate] at e
      split at e
      · cases e
      · cases e
/-- a def of the script that hands back a new list -/
theorem defScr {x qual : Str} {st : Stmt} {f : Addr} {fd : FuncData} {N : List Str} {p : Str} {k : Nat} {g : FS} (F : Fun K x qual st f fd) (S : FnScope N [p] (defScope st)) (hl : 1 ≤ N.length)
    (hb : ∀ (cdv : Value) (A : Around) (outer : List Env) (s : Shared) (H G : Hp), Am (cxOf CX0 P w K mg base N qual (defScope st) f cdv A outer s H E0).nox → Room k (cxOf CX0 P w K mg base N qual (defScope st) f cdv A outer s H E0).nox.A →
      VSs (cxOf CX0 P w K mg base N qual (defScope st) f cdv A outer s H E0).nox ⟨G, H, fun _ => E0⟩ (defBody st) g) : FnG P w K mg base CX0 (k + 1) f fd [p] (spScr K mg (dfnS N.length g)) := by
  obtain ⟨oc, od, kV, doc, pm, an, cdv, ct, osl, rfl, lk, hcd⟩ := F.ex
  refine fn_ofG lk hcd S (fun vs H Q E h => ?_) fun A outer s H vs Q E hg hr h => ?_
  · obtain ⟨G, a, ns, _, h2, _⟩ := h
    rw [h2]; rfl
  · obtain ⟨G, a, ns, s1, h2, h3, q⟩ := h
    subst h2
    have hb' := hb cdv A outer s H G ⟨hg, hr.mono (Nat.zero_le _), rfl, S.nd⟩ hr
    exact ⟨_, PSs.nox hb', G, _, renvS s1 h3 hl, satSN_of s1 (sat_quiet q)⟩
/-- the law: True of every script -/
def spLaw (K : PySem.W.Frag) : Sp := fun vs H Q _ => ∃ (a : Addr) (ns : List Int), vs = [.ref a] ∧ SqL K H a (ns.map V.int) ∧ ns.length ≤ 63 ∧ ∀ H', Q (.bl true) H'
def isTrueOut : Out → Bool
  | .rt (.bool true) => true
  | _ => false
theorem defLaw {x qual : Str} {st : Stmt} {f : Addr} {fd : FuncData} {N : List Str} {p : Str} {k : Nat} {g : FS} (F : Fun K x qual st f fd) (S : FnScope N [p] (defScope st)) (hl : 1 ≤ N.length)
    (hb : ∀ (cdv : Value) (A : Around) (outer : List Env) (s : Shared) (H G : Hp), Am (cxOf CX0 P w K mg base N qual (defScope st) f cdv A outer s H E0).nox → Room k (cxOf CX0 P w K mg base N qual (defScope st) f cdv A outer s H E0).nox.A →
      VSs (cxOf CX0 P w K mg base N qual (defScope st) f cdv A outer s H E0).nox ⟨G, H, fun _ => E0⟩ (defBody st) g)
    (plain : ∀ ns : List Int, ns.length ≤ 63 → isTrueOut (g (envS N.length ns)) = true) : FnG P w K mg base CX0 (k + 1) f fd [p] (spLaw K) := by
  obtain ⟨oc, od, kV, doc, pm, an, cdv, ct, osl, rfl, lk, hcd⟩ := F.ex
  refine fn_ofG lk hcd S (fun vs H Q E h => ?_) fun A outer s H vs Q E hg hr h => ?_
  · obtain ⟨a, ns, h2, _⟩ := h
    rw [h2]; rfl
  · obtain ⟨a, ns, h2, h3, h4, q⟩ := h
    subst h2
    have hb' := hb cdv A outer s H (fun _ => none) ⟨hg, hr.mono (Nat.zero_le _), rfl, S.nd⟩ hr
    refine ⟨_, PSs.nox hb', fun _ => none, _, renvS (fun _ _ e => by cases e) h3 hl, ?_⟩
    have hp := plain ns h4
    cases ho : g (envS N.length ns) with
    | rt d =>
      rw [ho] at hp
      unfold isTrueOut at hp
      split at hp
      · rename_i e
        cases e
        intro v H' F' x r
        cases r
        exact q H'
      · cases hp
    | _ => rw [ho] at hp; cases hp
end
/-- the head: as HandS.Ends tells it, for FnG -/
theorem law_callG {P : Program} {w : World} {K : PySem.W.Frag} {mg mb : Str → Option Value} {CX : CXT} {k : Nat} {fa a : Addr} {fd : FuncData} {x : Str} {sp : Sp} {s₁ : Shared} {vs : List Value} {ns : List Int}
    (KX : K.In s₁.heap) (hns : s₁.heap.Ns mainGlobals mg) (hb : s₁.heap.Ns builtinsNs mb) (hbb : ∀ x : Str, x ≠ "__name__" → mb x = bootBuiltins x) (hlim : s₁.heap.NoLimit) (hg : s₁.gens = #[])
    (ha : s₁.heap.get? a = some { cls := .type "list", data := .seq vs.toArray }) (hi : IntsAre vs ns) (hl : ns.length ≤ sizeLine) (hr : Room k callerA)
    (F : ∀ base : Heap, K.In base → base.Ns mainGlobals mg → FnG P w K mg base CX k fa fd [x] sp) (hbind : ∀ (s : Shared) (u : Value), BindsTo s fd ⟨[u], []⟩ [(x, u)])
    (hsp : ∀ H : Hp, Only H → SqL K H a (ns.map V.int) → sp [.ref a] H (fun v _ => v = .bl true) fun _ _ _ => False)
    (hCX : ∀ H e s', CX [] H s₁ (fun _ _ _ => False) e s' → False) :
    codeAny (model P w) callerA (.call (.ref fa) ⟨[.ref a], []⟩) (fun r s' => r = .ok (.ret (.bool true)) ∧ OldK s₁.heap s'.heap ∧ s'.os = s₁.os ∧ AllBare s'.gens) s₁ := by
  have rv := vals_ints hi
  have lenV := hi.length
  have core : ∀ H : Hp, Only H → SqL K H a (ns.map V.int) → HOk P w H s₁.heap → (∀ b, H b ≠ none → b = a) → (H a ≠ none → K.lookup a = none) →
      codeAny (model P w) callerA (.call (.ref fa) ⟨[.ref a], []⟩) (fun r s' => r = .ok (.ret (.bool true)) ∧ OldK s₁.heap s'.heap ∧ s'.os = s₁.os ∧ AllBare s'.gens) s₁ := by
    intro H hO hS hok hA hK
    have base_of : ∀ {b : Addr} {o : Obj}, s₁.heap.get? b = some o → H b = none → (hidT s₁.heap H).get? b = some o := fun e n => hidT_get e n
    have noA : ∀ {b : Addr} {o : Obj} {es : Array DictEntry} {ep : Nat}, s₁.heap.get? b = some o → o.data = .dict es ep → H b = none := fun {b o es ep} e d => by
      cases q : H b with
      | none => rfl
      | some u =>
        have e' : b = a := hA b (by rw [q]; simp)
        subst e'
        rw [ha] at e; cases e
        have d' : Data.seq vs.toArray _ = Data.dict es ep := d
        cases d'
    have nsK : ∀ {b : Addr} {m : Str → Option Value}, s₁.heap.Ns b m → (hidT s₁.heap H).Ns b m := fun {b m} ⟨o, es, ep, e, d, r⟩ => ⟨o, es, ep, base_of e (noA e d), d, r⟩
    have hKb : K.In (hidT s₁.heap H) := fun b o e => base_of (KX b o e) (by
      cases q : H b with
      | none => rfl
      | some u =>
        have e' : b = a := hA b (by rw [q]; simp)
        subst e'
        rw [hK (by rw [q]; simp)] at e; cases e)
    have hM : Mod K mg (hidT s₁.heap H) := ⟨hKb, nsK hns, ⟨mb, nsK hb, hbb⟩, let ⟨mc, h1, h2⟩ := hlim; ⟨mc, nsK h1, h2⟩⟩
    have e0 : Env0 P w K mg (hidT s₁.heap H) callerA [] s₁ H := ⟨rfl, hM, fun b o e => of_hidT e, Nat.le_of_eq (hidT_size _ _), trivial, fun b hb => absurd (show b ∈ ([] : List Addr) from hb) (by simp), hok, .of_eq hg⟩
    refine codeAny_mono ((F _ hKb (nsK hns)).run callerA [] s₁ H ⟨[.ref a], []⟩ [.ref a] [.ref a] _ _ rfl hr e0 (hbind s₁ (.ref a)) (.cons rfl .nil) (hsp H hO hS)) fun r s' h => ?_
    cases r with
    | error e => exact (hCX H e s' h).elim
    | ok fl =>
      cases fl with
      | next => exact False.elim h
      | brk => exact False.elim h
      | cont => exact False.elim h
      | ret u =>
        obtain ⟨v, H', os, bare, un, hok', r', q⟩ := h
        have q' : v = .bl true := q
        subst q'
        obtain rfl : u = Value.bool true := r'
        refine ⟨rfl, OldK.of_keep fun b o e => ?_, os, bare⟩
        cases q : H b with
        | none => exact un.keep b o e q (by intro z; exact absurd (show b ∈ ([] : List Addr) from z) (by simp)) (by simp)
        | some u =>
          rcases hO b with z | ⟨ob, xs, z⟩
          · rw [q] at z; cases z
          · have z2 := un.frzs b ob _ z
            obtain ⟨e1, _⟩ := hok b _ z
            obtain ⟨e2, _⟩ := hok' b _ z2
            rw [e] at e1; cases e1
            exact e2
  cases hk : K.lookup a with
  | some o =>
    have e := KX a o hk
    rw [ha] at e
    cases e
    refine core (fun _ => none) (fun _ => .inl rfl) (.inr ⟨_, vs.toArray, _, hk, rfl, rfl, rfl, by rw [List.size_toArray, lenV]; exact hl, by simpa using rv⟩) (fun b u z => by have z' : (none : Option HO) = some u := z; cases z') (fun b z => absurd rfl z) fun z => absurd rfl z
  | none =>
    refine core (fun b => if b = a then some (.frz { cls := .type "list", data := .seq vs.toArray } (.lst (ns.map V.int))) else none) (fun b => ?_) (.inl (.inr ⟨{ cls := .type "list", data := .seq vs.toArray }, if_pos rfl⟩)) (fun b u z => ?_) (fun b z => ?_) fun _ => hk
    · by_cases hb : b = a
      · exact .inr ⟨_, _, if_pos hb⟩
      · exact .inl (if_neg hb)
    · by_cases hb : b = a
      · have z' := (if_pos hb).symm.trans z
        cases z'
        subst hb
        exact ⟨ha, by rw [List.length_map]; exact hl, vs, _, rv, ha⟩
      · have z' := (if_neg hb).symm.trans z
        cases z'
    · by_cases hb : b = a
      · exact hb
      · exact absurd (if_neg hb) z
theorem walkG {l : PySem.W.OpenLaw} {k : Nat} {q : Program} {loose : List Str} {XP : (Str → Option Value) → Heap → Prop} {YP : World → Heap → Prop} {d : DefRec} {K : Params → PySem.W.Frag}
    (hn : l.most = some 63) (hdf : d.params.defaults = []) (hr : Room k callerA)
    (hY : ∀ (w : World) (h : Heap), YP w h → (K w.params).In h)
    (F : ∀ (w : World) (mg : Str → Option Value) (fa : Addr) (h : Heap), (K w.params).In h → h.Ns mainGlobals mg → mg d.name = some (.ref fa) →
      ∃ fd : FuncData, (∀ (s : Shared) (u : Value), BindsTo s fd ⟨[u], []⟩ [("script", u)]) ∧
        ∀ base : Heap, (K w.params).In base → base.Ns mainGlobals mg → FnG l.prog w (K w.params) mg base CX0 k fa fd ["script"] (spLaw (K w.params))) :
    PySem.W.WalkO q loose XP YP l.row.toRowW d [] (fun f vs => PySem.call f vs) := by
  refine Att.attach_call hn hdf fun w s₀ s₁ mg mb fa o pm cd doc a vs ns G Y ho hd hcd hmg hobj hints hlen hg => ?_
  have KX := hY w _ Y
  obtain ⟨fd, hb, hF⟩ := F w mg fa _ KX G.T.g hmg
  exact law_callG KX G.T.g G.T.b G.T.builtins G.T.nolimit hg hobj hints (Nat.le_trans hlen (by decide)) hr hF hb (fun H hO hS => ⟨a, ns, rfl, hS, hlen, fun _ => rfl⟩) fun H e s' z => z
end PD

/-! Part 11: defs in bundles, for the printed derivations -/
namespace PD
open PySem PySem.Spec PyProof.Rows L2
abbrev CXo (P : Program) (w : World) (K : PySem.W.Frag) (mg : Str → Option Value) (base : Heap) (N : List Str) (qual : Str) (scope : Scope) (f : Addr) (cd : Value) (A : Around) (outer : List Env) (s : Shared) (H : Hp) : Cx := (cxOf CX0 P w K mg base N qual scope f cd A outer s H E0).nox
/-- the context of a body that raises nothing -/
abbrev Ct0 (G H : Hp) : Ct := ⟨G, H, fun _ => E0⟩
/-- a def as the top has left it -/
structure Def (K : PySem.W.Frag) (mg : Str → Option Value) (x : Str) (st : Stmt) (ps : List Str) : Prop where
  ex : ∃ f fd, Fun K x x st f fd ∧ mg x = some (.ref f) ∧ PySem.W.keepIn K (.ref f) = true ∧ ∀ us : List Value, us.length = ps.length → bindArgs fd ⟨us, []⟩ = pure (ps.zip us)
/-- a def with its promise -/
structure Cal (P : Program) (w : World) (K : PySem.W.Frag) (mg : Str → Option Value) (base : Heap) (k : Nat) (x : Str) (ps : List Str) (sp : Sp) : Prop where
  ex : ∃ f fd, FnG P w K mg base CX0 k f fd ps sp ∧ mg x = some (.ref f) ∧ PySem.W.keepIn K (.ref f) = true ∧ Binds K fd ps []
section
variable {P : Program} {w : World} {K : PySem.W.Frag} {mg : Str → Option Value} {base : Heap} {k : Nat} {x : Str} {ps N : List Str} {st : Stmt} {g : FS} {Fn : List D → Rs D}
theorem Cal.d (c : Cal P w K mg base k x ps (spN K mg Fn)) : Cal P w K mg base k x ps (spD K mg Fn) := let ⟨f, fd, F, r⟩ := c.ex; ⟨f, fd, F.d, r⟩
theorem Cal.mono {j : Nat} {sp : Sp} (c : Cal P w K mg base j x ps sp) (h : j ≤ k) : Cal P w K mg base k x ps sp := let ⟨f, fd, F, r⟩ := c.ex; ⟨f, fd, F.mono h, r⟩
theorem Def.d0 (d : Def K mg x st ps) (S : FnScope N ps (defScope st)) (hl : ps.length ≤ N.length)
    (hb : ∀ (f : Addr) (cdv : Value) (A : Around) (outer : List Env) (s : Shared) (H G : Hp), Am (CXo P w K mg base N x (defScope st) f cdv A outer s H) → Room k (CXo P w K mg base N x (defScope st) f cdv A outer s H).A →
      VSs (CXo P w K mg base N x (defScope st) f cdv A outer s H) (Ct0 G H) (defBody st) g) : Cal P w K mg base (k + 1) x ps (spD K mg (dfn0 N.length ps.length g)) :=
  let ⟨f, fd, F, h1, h2, h3⟩ := d.ex; ⟨f, fd, def0 F S hl fun cdv A outer s H G => hb f cdv A outer s H G, h1, h2, Binds.all h3⟩
theorem Def.d0N (d : Def K mg x st ps) (S : FnScope N ps (defScope st)) (hl : ps.length ≤ N.length)
    (hb : ∀ (f : Addr) (cdv : Value) (A : Around) (outer : List Env) (s : Shared) (H G : Hp), Am (CXo P w K mg base N x (defScope st) f cdv A outer s H) → Room k (CXo P w K mg base N x (defScope st) f cdv A outer s H).A →
      VSs (CXo P w K mg base N x (defScope st) f cdv A outer s H) (Ct0 G H) (defBody st) g) : Cal P w K mg base (k + 1) x ps (spN K mg (dfn0N N.length ps.length g)) :=
  let ⟨f, fd, F, h1, h2, h3⟩ := d.ex; ⟨f, fd, def0N F S hl fun cdv A outer s H G => hb f cdv A outer s H G, h1, h2, Binds.all h3⟩
theorem Def.scr {p : Str} (d : Def K mg x st [p]) (S : FnScope N [p] (defScope st)) (hl : 1 ≤ N.length)
    (hb : ∀ (f : Addr) (cdv : Value) (A : Around) (outer : List Env) (s : Shared) (H G : Hp), Am (CXo P w K mg base N x (defScope st) f cdv A outer s H) → Room k (CXo P w K mg base N x (defScope st) f cdv A outer s H).A →
      VSs (CXo P w K mg base N x (defScope st) f cdv A outer s H) (Ct0 G H) (defBody st) g) : Cal P w K mg base (k + 1) x [p] (spScr K mg (dfnS N.length g)) :=
  let ⟨f, fd, F, h1, h2, h3⟩ := d.ex; ⟨f, fd, defScr F S hl fun cdv A outer s H G => hb f cdv A outer s H G, h1, h2, Binds.all h3⟩
theorem fs (h1 : (defScope st).kind = .function) (h2 : (defScope st).isCoroutine = false) (h3 : (defScope st).isGenerator = false) (h4 : N.Nodup) (h5 : N.take ps.length = ps) (h6 : (ps.all fun x => (defScope st).names.lookup x == some .local || (defScope st).names.lookup x == some .cell) = true)
    (h7 : ((defScope st).names.all fun y => match y.2 with | .free => false | _ => true) = true) : FnScope N ps (defScope st) := by
  refine ⟨h1, h2, h3, h4, h5, fun x hx => ?_, fun y hy e => ?_⟩
  · have q := List.all_eq_true.mp h6 x hx
    have bq : ∀ (a b : Option NameKind), (a == b) = true → a = b := fun a b h => by
      cases a with
      | none => cases b with
        | none => rfl
        | some _ => cases h
      | some a => cases b with
        | none => cases h
        | some b => cases a <;> cases b <;> first | rfl | cases h
    rcases Bool.or_eq_true_iff.mp q with z | z
    · exact .inl (bq _ _ z)
    · exact .inr (bq _ _ z)
  · have q := List.all_eq_true.mp h7 y hy
    rw [e] at q
    cases q
end
section
variable {X : Cx} {C : Ct}
theorem Am.blk {s : Shared} {H : Hp} {scope : Scope} {ce : Env} {fp : List Addr} (am : Am X) : Am (X.blk s H scope ce fp) := ⟨am.g, am.r, am.c, am.n⟩
theorem pa0 {E : L2.St → XK} : ∀ σ, PassesAt CX0 X σ (E σ) := fun _ _ _ _ _ _ _ h => h.elim
variable {k : Nat} {x : Str} {ps : List Str} {Fn : List D → Rs D} {fa : FA} {e : Expr} {es : List Expr} {p pos : Pos} {j : Nat}
theorem ve_calC (c : Cal X.prog X.w X.K X.mg X.base j x ps (spD X.K X.mg Fn)) (am : Am X) (hr : Room k X.A) (ha : VA X C (e :: es) fa) (hj : j ≤ k := by decide) (hg : Gl X x := by rfl)
    (hdb : (x == ("__debug__" : Str)) = false := by decide) (he : starEach (e :: es) X.env = (false, eval e X.env) :: starEach es X.env := by rfl) (hpl : (backTo pos (starEach es X.env)).any (·.1) = false := by rfl) :
    VE X C (.Call (.Name x p) (e :: es) [] pos) (fCall Fn fa) := let ⟨f, fd, F, hm, hk, hb⟩ := c.ex; ve_call F am (hr.mono hj) hg hm hk hb pa0 ha hdb he hpl
theorem vn_calC (c : Cal X.prog X.w X.K X.mg X.base j x ps (spN X.K X.mg Fn)) (am : Am X) (hr : Room k X.A) (ha : VA X C (e :: es) fa) (hj : j ≤ k := by decide) (hg : Gl X x := by rfl)
    (hdb : (x == ("__debug__" : Str)) = false := by decide) (he : starEach (e :: es) X.env = (false, eval e X.env) :: starEach es X.env := by rfl) (hpl : (backTo pos (starEach es X.env)).any (·.1) = false := by rfl) :
    VN X C (.Call (.Name x p) (e :: es) [] pos) (fCall Fn fa) := let ⟨f, fd, F, hm, hk, hb⟩ := c.ex; vn_call F am (hr.mono hj) hg hm hk hb pa0 ha hdb he hpl
theorem vn_calS {Fn : List Int → Rs D} {y : Str} {p2 : Pos} (i : Nat) (c : Cal X.prog X.w X.K X.mg X.base j x ps (spScr X.K X.mg Fn)) (am : Am X) (hr : Room k X.A) (hj : j ≤ k := by decide) (hg : Gl X x := by rfl) (hN : X.N[i]? = some y := by rfl) (hv : Vis X.env.scope y := by first | exact Or.inl rfl | exact Or.inr (Or.inl rfl) | exact Or.inr (Or.inr rfl)) (hd : (y == ("__debug__" : Str)) = false := by decide)
    (hcd : (y == ("__classdict__" : Str)) = false := by decide) (hdb : (x == ("__debug__" : Str)) = false := by decide) (he : starEach [.Name y p2] X.env = (false, eval (.Name y p2) X.env) :: starEach [] X.env := by rfl) (hpl : (backTo pos (starEach [] X.env)).any (·.1) = false := by rfl) :
    VN X C (.Call (.Name x p) [.Name y p2] [] pos) (fScrCall i Fn) := let ⟨f, fd, F, hm, hk, hb⟩ := c.ex; vn_callScr i F am (hr.mono hj) hg hm hk hb pa0 hN hv hd hcd hdb he hpl
/-- a tuple of the module -/
theorem tupG {K : PySem.W.Frag} {a : Addr} {od : Option Addr} {its : Array Value} {n : Nat} {sl : Array (Option Value)} {vs : List V} {ds : List D} (h : K.lookup a = some ⟨.type "tuple", od, .seq its n, sl⟩) (hv : Vals vs its.toList) (hl : vs.length ≤ LINE) (r : ∀ H, RpAll K H vs ds) (H : Hp) : Rp K H (.ref a) (.tuple ds) :=
  .tup (.inr ⟨_, its, n, h, rfl, rfl, by
    have e : vs.length = its.size := by rw [hv.length, Array.length_toList]
    rw [← e, line_eq]
    exact hl, hv⟩) (r H)
end
/-- a constant of the module -/
structure GlobV (K : PySem.W.Frag) (mg : Str → Option Value) (x : Str) (d : D) : Prop where
  ex : ∃ v u, mg x = some u ∧ L2.RelV v u ∧ ∀ H, Rp K H v d
theorem ve_globC {X : Cx} {C : Ct} {x : Str} {d : D} {pos : Pos} (h : GlobV X.K X.mg x d) (hg : Gl X x := by rfl) (hd : (x == ("__debug__" : Str)) = false := by decide) : VE X C (.Name x pos) (fC d) := let ⟨_, _, h1, h2, h3⟩ := h.ex; ve_glob hg h1 h2 h3 hd
theorem GlobV.int {K : PySem.W.Frag} {mg : Str → Option Value} {h : Heap} {x : Str} {i : Int} {t : Tok} (X : K.In h) (G : h.Ns mainGlobals mg) (e : PySem.W.nsIn K mainGlobals x = some (some (.int i t))) : GlobV K mg x (.int i) := ⟨.int i, _, PySem.W.mg_of X G e, ⟨t, rfl⟩, fun _ => .int i⟩
theorem GlobV.str {K : PySem.W.Frag} {mg : Str → Option Value} {h : Heap} {x : Str} {i : Str} {t : Tok} (X : K.In h) (G : h.Ns mainGlobals mg) (e : PySem.W.nsIn K mainGlobals x = some (some (.str i t))) : GlobV K mg x (.str i) := ⟨.str i, _, PySem.W.mg_of X G e, ⟨t, rfl⟩, fun _ => .str i⟩
theorem GlobV.tup {K : PySem.W.Frag} {mg : Str → Option Value} {h : Heap} {x : Str} {a : Addr} {od : Option Addr} {its : Array Value} {n : Nat} {sl : Array (Option Value)} {vs : List V} {ds : List D} (X : K.In h) (G : h.Ns mainGlobals mg) (e : PySem.W.nsIn K mainGlobals x = some (some (.ref a)))
    (l : K.lookup a = some ⟨.type "tuple", od, .seq its n, sl⟩) (hv : Vals vs its.toList) (hl : vs.length ≤ LINE) (r : ∀ H, RpAll K H vs ds) : GlobV K mg x (.tuple ds) := ⟨.ref a, _, PySem.W.mg_of X G e, rfl, tupG l hv hl r⟩
theorem Def.mk' {K : PySem.W.Frag} {mg : Str → Option Value} {h : Heap} {x : Str} {st : Stmt} {ps : List Str} {f : Addr} {od an : Option Addr} {oc kV dc pm cd ct : Value} {sl : Array (Option Value)} (X : K.In h) (G : h.Ns mainGlobals mg)
    (a : PySem.W.nsIn K mainGlobals x = some (some (.ref f))) (l : K.lookup f = some ⟨oc, od, .func (PySem.W.fnOf x x (defArgs st) (defBody st) (defScope st) .none kV dc pm an cd ct), sl⟩) (c : PySem.W.codeIn K cd x = true) (k : PySem.W.keepIn K (.ref f) = true)
    (hb : ∀ us : List Value, us.length = ps.length → bindArgs (PySem.W.fnOf x x (defArgs st) (defBody st) (defScope st) .none kV dc pm an cd ct) ⟨us, []⟩ = pure (ps.zip us)) : Def K mg x st ps :=
  ⟨f, _, fun_mk l c k, PySem.W.mg_of X G a, k, hb⟩
/-- what the head asks -/
theorem lawHead {P : Program} {w : World} {K : PySem.W.Frag} {mg : Str → Option Value} {k : Nat} {st : Stmt} {fa : Addr} (d : Def K mg "law" st ["script"]) (hfa : mg "law" = some (.ref fa))
    (h : ∀ (f : Addr) (fd : FuncData) (base : Heap), Fun K "law" "law" st f fd → FnG P w K mg base CX0 k f fd ["script"] (spLaw K)) :
    ∃ fd : FuncData, (∀ (s : Shared) (v : Value), BindsTo s fd ⟨[v], []⟩ [("script", v)]) ∧ ∀ base : Heap, K.In base → base.Ns mainGlobals mg → FnG P w K mg base CX0 k fa fd ["script"] (spLaw K) := by
  obtain ⟨f, fd, F, h1, h2, h3⟩ := d.ex
  have e := h1.symm.trans hfa
  cases e
  exact ⟨fd, fun s v => .of_eq (h3 [v] rfl), fun base _ _ => h _ fd base F⟩
end PD

/-! Part 12: the plain side: how mirrors are reckoned -/
namespace PD
open PySem PySem.Spec PyProof.Rows L2

/-! ### data told by a test -/
def okD (r : Rs D) (d : D) : Bool := match r with
  | .ok e => eqD e d
  | _ => false
theorem okD_eq {r : Rs D} {d : D} (h : okD r d = true) : r = .ok d := by
  unfold okD at h
  split at h
  · rw [eqD_eq _ _ h]
  · cases h
mutual
theorem eqD_refl : ∀ a : D, a.plain = true → eqD a a = true
  | .none, _ => rfl
  | .bool a, _ => by simp [eqD]
  | .int a, _ => by simp [eqD]
  | .str a, _ => by simp [eqD]
  | .list l, h => eqDs_refl l (by simpa [PyData.plain] using h)
  | .tuple l, h => eqDs_refl l (by simpa [PyData.plain] using h)
  | .dict _, h => by cases h
theorem eqDs_refl : ∀ as : List D, PyData.plainAll as = true → eqDs as as = true
  | [], _ => rfl
  | a :: as, h => by
    have h : (a.plain && PyData.plainAll as) = true := h
    rw [Bool.and_eq_true] at h
    show (eqD a a && eqDs as as) = true
    rw [eqD_refl a h.1, eqDs_refl as h.2]; rfl
end

/-! ### comparisons -/
section
variable (a b : Int) (x y : Str)
@[simp] theorem shal_int : shal (.int a) = true := by simp [shal, PyData.depth]
@[simp] theorem shal_bool (b : Bool) : shal (.bool b) = true := by simp [shal, PyData.depth]
@[simp] theorem shal_none : shal .none = true := by simp [shal, PyData.depth]
@[simp] theorem shal_s : shal (.str x) = true := by simp [shal, PyData.depth]
@[simp] theorem dLt_int : dLt (.int a) (.int b) = some (.bool (decide (a < b))) := by
  have : dLtC (.int a) (.int b) = true := by simp [dLtC, PySem.W.alike, notNone]
  simp only [dLt, this, if_true, PySem.W.dataLt_int]
@[simp] theorem dGt_int : dGt (.int a) (.int b) = some (.bool (decide (b < a))) := by
  have : dLtC (.int a) (.int b) = true := by simp [dLtC, PySem.W.alike, notNone]
  simp only [dGt, this, if_true, PySem.W.dataLt_int]
@[simp] theorem dLe_int : dLe (.int a) (.int b) = some (.bool (decide (a ≤ b))) := by
  have : dLtC (.int a) (.int b) = true := by simp [dLtC, PySem.W.alike, notNone]
  simp only [dLe, this, if_true, PySem.W.dataLt_int]
  by_cases h : a ≤ b
  · simp [h, Int.not_lt.mpr h]
  · simp [h, Int.not_le.mp h]
@[simp] theorem dGe_int : dGe (.int a) (.int b) = some (.bool (decide (b ≤ a))) := by
  have : dLtC (.int a) (.int b) = true := by simp [dLtC, PySem.W.alike, notNone]
  simp only [dGe, this, if_true, PySem.W.dataLt_int]
  by_cases h : b ≤ a
  · simp [h, Int.not_lt.mpr h]
  · simp [h, Int.not_le.mp h]
@[simp] theorem dEq_int : dEq (.int a) (.int b) = some (.bool (decide (a = b))) := by
  simp only [dEq, shal_int, Bool.or_self, if_true, PyData.eqv]
  rfl
@[simp] theorem dNe_int : dNe (.int a) (.int b) = some (.bool (!decide (a = b))) := by
  simp only [dNe, shal_int, Bool.or_self, if_true, PyData.eqv]
  rfl
@[simp] theorem dEq_str : dEq (.str x) (.str y) = some (.bool (x == y)) := by
  simp [dEq, PyData.eqv]
@[simp] theorem dNe_str : dNe (.str x) (.str y) = some (.bool (!(x == y))) := by
  simp [dNe, PyData.eqv]
end
@[simp] theorem intsD_map : ∀ l : List Int, intsD (l.map PyData.int) = some l
  | [] => rfl
  | a :: l => by simp [intsD, intsD_map l]
@[simp] theorem boolsD_map : ∀ l : List Bool, boolsD (l.map PyData.bool) = some l
  | [] => rfl
  | a :: l => by simp [boolsD, boolsD_map l]
@[simp] theorem strsD_map : ∀ l : List Str, strsD (l.map PyData.str) = some l
  | [] => rfl
  | a :: l => by simp [strsD, strsD_map l]

/-! ### loops -/
theorem loopF_inv {t : Tgt} {body : FS} {ds : List D} (I : Nat → List Sl → Prop) (h : ∀ (i : Nat) (env : List Sl) (d : D), ds[i]? = some d → I i env → ∃ e e', t.put d env = some e ∧ body e = .nx e' ∧ I (i + 1) e') :
    ∀ env, I 0 env → ∃ e', loopF t body ds env = .nx e' ∧ I ds.length e' := by
  have key : ∀ (n i : Nat) (env : List Sl), n + i = ds.length → I i env → ∃ e', loopF t body (ds.drop i) env = .nx e' ∧ I ds.length e' := by
    intro n
    induction n with
    | zero =>
      intro i env hn hi
      have e : i = ds.length := by omega
      subst e
      rw [List.drop_eq_nil_of_le (Nat.le_refl _)]
      exact ⟨env, rfl, hi⟩
    | succ n ih =>
      intro i env hn hi
      have hlt : i < ds.length := by omega
      obtain ⟨e, e', h1, h2, h3⟩ := h i env ds[i] (List.getElem?_eq_getElem hlt) hi
      obtain ⟨e2, h4, h5⟩ := ih (i + 1) e' (by omega) h3
      refine ⟨e2, ?_, h5⟩
      rw [List.drop_eq_getElem_cons hlt]
      simp only [loopF, h1, h2]
      exact h4
  intro env h0
  exact key ds.length 0 env rfl h0
/-- a comprehension whose turns all give something -/
theorem lcGo_map {t : Tgt} {tt : FB} {k : List Sl → Rs (List D)} {env : List Sl} (F : D → List D) : ∀ ds : List D, (∀ d ∈ ds, ∃ e b, t.put d env = some e ∧ tt e = .ok b ∧ (b = true → k e = .ok (F d)) ∧ (b = false → F d = [])) → lcGo t tt k env ds = .ok (ds.flatMap F)
  | [], _ => rfl
  | d :: ds, h => by
    obtain ⟨e, b, h1, h2, h3, h4⟩ := h d List.mem_cons_self
    have ih := lcGo_map (t := t) (tt := tt) (k := k) (env := env) F ds fun c hc => h c (List.mem_cons_of_mem _ hc)
    simp only [lcGo, h1, h2, Rs.bind_ok, List.flatMap_cons]
    cases b with
    | true => simp [h3 rfl, ih]
    | false => simp [h4 rfl, ih]
@[simp] theorem rng_eq (n : Nat) : (List.range n).length = n := List.length_range
theorem iRng1_n {n : Nat} (h : n ≤ 1000000) : iRng1D [.int (n : Int)] = some (rng 0 n) := by
  have hb : (n : Int).natAbs ≤ BIG := by unfold BIG; omega
  show (if (n : Int).natAbs ≤ BIG then some (rng 0 (n : Int).toNat) else none) = _
  rw [if_pos hb]; rfl
theorem iRng2_n {a b : Int} (ha : a.natAbs ≤ 1000000) (hb : b.natAbs ≤ 1000000) : iRng2D [.int a, .int b] = some (rng a (b - a).toNat) := by
  have hb : a.natAbs ≤ BIG ∧ b.natAbs ≤ BIG := ⟨by unfold BIG; omega, by unfold BIG; omega⟩
  show (if a.natAbs ≤ BIG ∧ b.natAbs ≤ BIG then some (rng a (b - a).toNat) else none) = _
  rw [if_pos hb]
def intL (l : List Int) : List D := l.map .int
theorem intL_snoc (l : List Int) (x : Int) : intL l ++ [PyData.int x] = intL (l ++ [x]) := by simp [intL]
theorem intL_len (l : List Int) : (intL l).length = l.length := by simp [intL]
theorem rng_get {lo : Int} {n i : Nat} {d : D} (h : (rng lo n)[i]? = some d) : i < n ∧ d = .int (lo + (i : Nat)) := by
  unfold rng at h
  rw [List.getElem?_map] at h
  by_cases q : i < n
  · rw [List.getElem?_range q] at h
    exact ⟨q, by simpa using h.symm⟩
  · rw [List.getElem?_eq_none (by simpa using q)] at h; cases h
theorem rng_len (lo : Int) (n : Nat) : (rng lo n).length = n := by simp [rng]
theorem d_add (a b : Int) : dAdd (.int a) (.int b) = some (.int (a + b)) := rfl
theorem d_int (a : Int) : dInt [.int a] = some (.int a) := rfl
theorem d_mod {a b : Int} (h : 0 < b) : dMod (.int a) (.int b) = some (.int (a % b)) := if_pos h
theorem d_div {a b : Int} (h : 0 < b ∧ b.natAbs < 1073741824) : dDiv (.int a) (.int b) = some (.int (a / b)) := if_pos h
theorem d_mulR {a b : Int} (h : b.natAbs < BIT64) : dMul (.int a) (.int b) = some (.int (a * b)) := if_pos (.inr h)
theorem d_mulL {a b : Int} (h : a.natAbs < BIT64) : dMul (.int a) (.int b) = some (.int (a * b)) := if_pos (.inl h)
theorem e_seq {g g' : FS} {e e' : List Sl} {o : Out} (h : g e = .nx e') (h' : g' e' = o) : sSeq g g' e = o := by unfold sSeq; rw [h]; exact h'
theorem e_if {c : FB} {g g' : FS} {e : List Sl} {b : Bool} {o : Out} (h : c e = .ok b) (h' : (if b = true then g e else g' e) = o) : sIf c g g' e = o := by unfold sIf; rw [h]; exact h'
theorem e_f2 {k : D → D → Option D} {f f' : FE} {e : List Sl} {a b c : D} (h : f e = .ok a) (h' : f' e = .ok b) (hk : k a b = some c) : f2 k f f' e = .ok c := by unfold f2; rw [h]; show (f' e).bind _ = _; rw [h']; show Rs.ofO (k a b) = _; rw [hk]; rfl
theorem e_cb1 {k : List D → Option D} {f : FE} {e : List Sl} {a c : D} (h : f e = .ok a) (hk : k [a] = some c) : fCB k (aCons f aNil) e = .ok c := by unfold fCB aCons aNil; rw [h]; show Rs.ofO (k [a]) = _; rw [hk]; rfl
theorem e_cb2 {k : List D → Option D} {f f' : FE} {e : List Sl} {a b c : D} (h : f e = .ok a) (h' : f' e = .ok b) (hk : k [a, b] = some c) : fCB k (aCons f (aCons f' aNil)) e = .ok c := by
  unfold fCB aCons aNil; rw [h]; show (((f' e).bind _).bind _).bind _ = _; rw [h']; show Rs.ofO (k [a, b]) = _; rw [hk]; rfl
theorem e_B {f : FE} {e : List Sl} {b : Bool} (h : f e = .ok (.bool b)) : fB f e = .ok b := by unfold fB; rw [h]; rfl
theorem e_scrIx {f : FE} {e : List Sl} {ns : List Int} {k c : Int} (h0 : e[0]? = some (.scr ns)) (h : f e = .ok (.int k)) (ha : atI ns k = some c) : fScrIx 0 f e = .ok (.int c) := by
  unfold fScrIx; rw [h0]; show (f e).bind _ = _; rw [h]; show Rs.ofO _ = _; rw [ha]; rfl
theorem e_setN {i : Nat} {f : FE} {e e' : List Sl} {l : List D} (h : f e = .ok (.list l)) (h' : e.set i (.own l) = e') : sSetN i f e = .nx e' := by unfold sSetN; rw [h]; show Out.nx (e.set i (.own l)) = _; rw [h']
theorem e_set {i : Nat} {f : FE} {e e' : List Sl} {d : D} (h : f e = .ok d) (h' : e.set i (.sh d) = e') : sSet i f e = .nx e' := by unfold sSet; rw [h]; show Out.nx (e.set i (.sh d)) = _; rw [h']
theorem e_setF {i : Nat} {f : FE} {e e' : List Sl} {l : List D} (h : f e = .ok (.list l)) (h' : e.set i (.sh (.list l)) = e') : sSetF i f e = .nx e' := by unfold sSetF; rw [h]; show Out.nx (e.set i (.sh (.list l))) = _; rw [h']
theorem e_var {i : Nat} {e : List Sl} {d : D} (h : e[i]? = some (.sh d)) : fVar i e = .ok d := by unfold fVar; rw [h]
theorem e_call {Fn : List D → Rs D} {fa : FA} {e : List Sl} {ds : List D} {d : D} (h : fa e = .ok ds) (h' : Fn ds = .ok d) : fCall Fn fa e = .ok d := by unfold fCall; rw [h]; exact h'
theorem e_nil {e : List Sl} : aNil e = .ok [] := rfl
theorem e_cons {f : FE} {fa : FA} {e : List Sl} {d : D} {ds : List D} (h : f e = .ok d) (h' : fa e = .ok ds) : aCons f fa e = .ok (d :: ds) := by unfold aCons; rw [h]; show (fa e).bind _ = _; rw [h']; rfl
theorem e_cb {k : List D → Option D} {fa : FA} {e : List Sl} {ds : List D} {c : D} (h : fa e = .ok ds) (hk : k ds = some c) : fCB k fa e = .ok c := by unfold fCB; rw [h]; show Rs.ofO (k ds) = _; rw [hk]; rfl
theorem e_lst {fa : FA} {e : List Sl} {ds : List D} (h : fa e = .ok ds) (hl : ds.length ≤ LINE) : fLst fa e = .ok (.list ds) := by unfold fLst; rw [h]; exact if_pos hl
theorem e_tup {fa : FA} {e : List Sl} {ds : List D} (h : fa e = .ok ds) (hl : ds.length ≤ LINE) : fTup fa e = .ok (.tuple ds) := by unfold fTup; rw [h]; exact if_pos hl
theorem le_line {n : Nat} (h : n ≤ 1000000) : n ≤ LINE := Nat.le_trans h (by unfold LINE; omega)
theorem lt_line {n : Nat} (h : n ≤ 1000000) : n < LINE := Nat.lt_of_le_of_lt h (by unfold LINE; omega)
theorem e_lst0 {e : List Sl} : fLst aNil e = .ok (.list []) := e_lst e_nil (le_line (Nat.zero_le _))
theorem e_fIf {g : FB} {f f' : FE} {e : List Sl} {b : Bool} {r : Rs D} (h : g e = .ok b) (h' : (if b = true then f e else f' e) = r) : fIf g f f' e = r := by unfold fIf; rw [h]; exact h'
theorem e_or {g g' : FB} {e : List Sl} {a b : Bool} (h : g e = .ok a) (h' : a = false → g' e = .ok b) : fOr g g' e = .ok (a || b) := by
  unfold fOr; rw [h]; cases a with
  | true => rfl
  | false => exact h' rfl
theorem e_and {g g' : FB} {e : List Sl} {a b : Bool} (h : g e = .ok a) (h' : a = true → g' e = .ok b) : fAnd g g' e = .ok (a && b) := by
  unfold fAnd; rw [h]; cases a with
  | false => rfl
  | true => exact h' rfl
theorem e_not {g : FB} {e : List Sl} {a : Bool} (h : g e = .ok a) : fNot g e = .ok (!a) := by unfold fNot; rw [h]; rfl
theorem e_tru {f : FE} {e : List Sl} {d : D} {b : Bool} (h : f e = .ok d) (h' : truD d = some b) : fTru f e = .ok b := by unfold fTru; rw [h]; show Rs.ofO (truD d) = _; rw [h']; rfl
theorem e_th {g : FB} {e e' : List Sl} {r : Rs Bool} (he : thaw e = e') (h : g e' = r) : fThB g e = r := by unfold fThB; rw [he]; exact h
theorem e_asg {t : Tgt} {f : FE} {e e' : List Sl} {d : D} (h : f e = .ok d) (h' : t.put d e = some e') : sAsg t f e = .nx e' := by unfold sAsg; rw [h]; show (match t.put d e with | some e => Out.nx e | none => .no) = _; rw [h']
theorem e_drop {f : FE} {e : List Sl} {d : D} (h : f e = .ok d) : sDrop f e = .nx e := by unfold sDrop; rw [h]; rfl
theorem e_ret {f : FE} {e : List Sl} {d : D} (h : f e = .ok d) : sRet f e = .rt d := by unfold sRet; rw [h]; rfl
theorem e_retN {f : FE} {e : List Sl} {d : D} (h : f e = .ok d) : sRetN f e = .rn d := by unfold sRetN; rw [h]; rfl
theorem e_retO {i : Nat} {e : List Sl} {l : List D} (h : e[i]? = some (.own l)) : sRetO i e = .rn (.list l) := by unfold sRetO; rw [h]
theorem e_for {t : Tgt} {gi : FA} {g : FS} {e : List Sl} {ds : List D} {o : Out} (h : gi e = .ok ds) (h' : loopF t g ds e = o) : sFor t gi g e = o := by unfold sFor; rw [h]; exact h'
theorem e_appI {i : Nat} {f : FE} {e e' : List Sl} {l : List D} {d : D} (h0 : e[i]? = some (.own l)) (h : f e = .ok d) (hl : l.length < LINE) (h' : e.set i (.own (l ++ [d])) = e') : sApp i f e = .nx e' := by
  unfold sApp; rw [h0]; show bindO (f e) _ = _; rw [h]; show (if l.length < LINE then Out.nx (e.set i (.own (l ++ [d]))) else .no) = _; rw [if_pos hl, h']
theorem e_par {i j : Nat} {ma mb : FM} {e e' : List Sl} {a b : Mv} (h : ma e = .ok a) (h' : mb e = .ok b) (h2 : (e.set i a.sl).set j b.sl = e') : sPar i j ma mb e = .nx e' := by unfold sPar; rw [h]; show bindO (mb e) _ = _; rw [h']; show Out.nx _ = _; rw [h2]
theorem e_mS {f : FE} {e : List Sl} {d : D} (h : f e = .ok d) : mS f e = .ok (.s d) := by unfold mS; rw [h]; rfl
theorem e_mN {f : FE} {e : List Sl} {l : List D} (h : f e = .ok (.list l)) : mN f e = .ok (.n l) := by unfold mN; rw [h]; rfl
theorem e_iSeq {f : FE} {e : List Sl} {d : D} {ds : List D} (h : f e = .ok d) (h' : seqD d = some ds) : iSeq f e = .ok ds := by unfold iSeq; rw [h]; show Rs.ofO _ = _; rw [h']; rfl
theorem e_rng1 {f : FE} {e : List Sl} {n : Nat} (h : f e = .ok (.int n)) (hn : n ≤ 1000000) : iRng1F (aCons f aNil) e = .ok (rng 0 n) := by
  unfold iRng1F; rw [e_cons h e_nil, Rs.bind_ok, iRng1_n hn]; rfl
theorem e_lc {gi : FA} {t : Tgt} {tt : FB} {f : FE} {vs : List Nat} {e : List Sl} {ds out : List D} (h : gi e = .ok ds) (h' : lcGo t tt (one f) (wipeE e vs) ds = .ok out) (hl : out.length ≤ LINE) : fLc gi t tt f vs e = .ok (.list out) := by
  unfold fLc; rw [h]; show ((lcGo t tt (one f) (wipeE e vs) ds).quiet.bind _) = _; rw [h']; exact if_pos hl
theorem e_one {f : FE} {e : List Sl} {d : D} (h : f e = .ok d) : one f e = .ok [d] := by unfold one; rw [h]; rfl
/-- the result of a def that raises nothing -/
theorem d_fn {m n : Nat} {g : FS} {ds : List D} {d : D} {e : List Sl} (hn : ds.length = n) (he : env0 m ds = e) (h : g e = .rt d) : dfn0 m n g ds = .ok d := by unfold dfn0; rw [if_pos hn, he, h]; rfl
theorem d_fnR {m n : Nat} {g : FS} {ds : List D} {d : D} {e : List Sl} (hn : ds.length = n) (he : env0 m ds = e) (h : g e = .rn d) : dfn0 m n g ds = .ok d := by unfold dfn0; rw [if_pos hn, he, h]; rfl
theorem d_fnX {m n : Nat} {g : FS} {ds : List D} {e e' : List Sl} (hn : ds.length = n) (he : env0 m ds = e) (h : g e = .nx e') : dfn0 m n g ds = .ok .none := by unfold dfn0; rw [if_pos hn, he, h]; rfl
theorem d_fnN {m n : Nat} {g : FS} {ds : List D} {d : D} {e : List Sl} (hn : ds.length = n) (he : env0 m ds = e) (h : g e = .rn d) : dfn0N m n g ds = .ok d := by unfold dfn0N; rw [if_pos hn, he, h]; rfl
theorem e_lcC {t : Tgt} {tt : FB} {k : List Sl → Rs (List D)} {env e : List Sl} {d : D} {ds ys r : List D} (h : t.put d env = some e) (ht : tt e = .ok true) (hk : k e = .ok ys) (hr : lcGo t tt k env ds = .ok r) : lcGo t tt k env (d :: ds) = .ok (ys ++ r) := by
  simp only [lcGo, h, ht, Rs.bind_ok, if_true, hk, hr]
theorem e_lcS {t : Tgt} {tt : FB} {k : List Sl → Rs (List D)} {env e : List Sl} {d : D} {ds r : List D} (h : t.put d env = some e) (ht : tt e = .ok false) (hr : lcGo t tt k env ds = .ok r) : lcGo t tt k env (d :: ds) = .ok r := by
  simp only [lcGo, h, ht, Rs.bind_ok, Bool.false_eq_true, if_false, hr]
theorem e_loopC {t : Tgt} {body : FS} {d : D} {ds : List D} {env e e' : List Sl} {o : Out} (h : t.put d env = some e) (hb : body e = .nx e') (hr : loopF t body ds e' = o) : loopF t body (d :: ds) env = o := by
  simp only [loopF, h, hb, hr]
theorem e_loopR {t : Tgt} {body : FS} {d v : D} {ds : List D} {env e : List Sl} (h : t.put d env = some e) (hb : body e = .rt v) : loopF t body (d :: ds) env = .rt v := by
  simp only [loopF, h, hb]
theorem e_seqR {g g' : FS} {e : List Sl} {d : D} (h : g e = .rt d) : sSeq g g' e = .rt d := by unfold sSeq; rw [h]; rfl
theorem e_ixO {i : Nat} {f : FE} {e : List Sl} {l : List D} {d c : D} (h0 : e[i]? = some (.own l)) (h : f e = .ok d) (hk : dIx (.list l) d = some c) : fIxO i f e = .ok c := by
  unfold fIxO; rw [h0]; show (f e).bind _ = _; rw [h]; show Rs.ofO _ = _; rw [hk]; rfl
def okI (r : Rs D) (i : Int) : Bool := match r with
  | .ok (.int j) => decide (i = j)
  | _ => false
theorem okI_eq {r : Rs D} {i : Int} (h : okI r i = true) : r = .ok (.int i) := by
  unfold okI at h
  split at h
  · rw [of_decide_eq_true h]
  · cases h
def okO (r : Option D) (d : D) : Bool := match r with
  | some e => eqD e d
  | none => false
theorem okO_eq {r : Option D} {d : D} (h : okO r d = true) : r = some d := by
  unfold okO at h
  split at h
  · rw [eqD_eq _ _ h]
  · cases h
theorem e_f1 {k : D → Option D} {f : FE} {e : List Sl} {a c : D} (h : f e = .ok a) (hk : k a = some c) : f1 k f e = .ok c := by unfold f1; rw [h]; show Rs.ofO (k a) = _; rw [hk]; rfl
theorem d_neg (a : Int) : dNeg (.int a) = some (.int (-a)) := rfl
theorem d_ix {l : List D} {i : Int} {c : D} (h : atI l i = some c) : dIx (.list l) (.int i) = some c := h
theorem e_c {d : D} {e : List Sl} : fC d e = .ok d := rfl
theorem e_f3 {k k' : D → D → Option D} {f f' f'' : FE} {e : List Sl} {a b c m : D} {t : Bool} (h : f e = .ok a) (h' : f' e = .ok b) (hk : k a b = some (.bool t)) (ht : t = true) (h'' : f'' e = .ok c) (hk' : k' b c = some m) : f3 k k' f f' f'' e = .ok m := by
  subst ht
  unfold f3
  rw [h, Rs.bind_ok, h', Rs.bind_ok, hk]
  show (f'' e).bind _ = _
  rw [h'']
  show Rs.ofO (k' b c) = _
  rw [hk']; rfl
theorem d_sub (a b : Int) : dSub (.int a) (.int b) = some (.int (a - b)) := rfl
theorem e_rng2 {f f' : FE} {e : List Sl} {a b : Int} (h : f e = .ok (.int a)) (h' : f' e = .ok (.int b)) (ha : a.natAbs ≤ 1000000) (hb : b.natAbs ≤ 1000000) : iRng2F (aCons f (aCons f' aNil)) e = .ok (rng a (b - a).toNat) := by
  unfold iRng2F; rw [e_cons h (e_cons h' e_nil), Rs.bind_ok, iRng2_n ha hb]; rfl
mutual
theorem eqv_self : ∀ d : D, d.plain = true → PyData.eqv d d = true
  | .none, _ => rfl
  | .bool b, _ => by simp [PyData.eqv]
  | .int i, _ => by simp [PyData.eqv]
  | .str x, _ => by simp [PyData.eqv]
  | .list l, h => eqvAll_self l (by simpa [PyData.plain] using h)
  | .tuple l, h => eqvAll_self l (by simpa [PyData.plain] using h)
  | .dict _, h => by cases h
theorem eqvAll_self : ∀ l : List D, PyData.plainAll l = true → PyData.eqvAll l l = true
  | [], _ => rfl
  | d :: l, h => by
    have h : (d.plain && PyData.plainAll l) = true := h
    rw [Bool.and_eq_true] at h
    show (PyData.eqv d d && PyData.eqvAll l l) = true
    rw [eqv_self d h.1, eqvAll_self l h.2]; rfl
end
/-- data of small weight: depth k, weight w -/
structure Small (k w : Nat) (d : D) : Prop where
  l : rleaf d = true
  w : d.weight ≤ w
  k : d.depth ≤ k
  p : d.plain = true
theorem Small.int {i : Int} (h : i.natAbs < 1000000) : Small 0 20 (.int i) := by
  refine ⟨by simp only [rleaf]; exact decide_eq_true (by omega), ?_, Nat.le_refl _, rfl⟩
  show (if (i == 0) = true then 0 else i.natAbs.log2 + 1) ≤ 20
  split
  · omega
  · rename_i z
    have hz : i.natAbs ≠ 0 := fun e => z (by have : i = 0 := by omega
                                             rw [this]; rfl)
    have := (Nat.log2_lt hz (k := 20)).mpr (by omega)
    omega
theorem Small.none : Small 0 0 .none := ⟨rfl, Nat.le_refl _, Nat.le_refl _, rfl⟩
theorem Small.bool {b : Bool} : Small 0 0 (.bool b) := ⟨rfl, Nat.le_refl _, Nat.le_refl _, rfl⟩
theorem Small.str {l : List Nat} (h : ∀ c ∈ l, c < 4294967296) : Small 0 l.length (.str ⟨l.toArray⟩) := by
  refine ⟨?_, ?_, Nat.le_refl _, rfl⟩
  · show (l.toArray.toList.all fun c => decide (c < 4294967296)) = true
    rw [List.toList_toArray, List.all_eq_true]
    exact fun c hc => decide_eq_true (h c hc)
  · show l.toArray.size ≤ l.length
    simp
theorem Small.mono {k k' w w' : Nat} {d : D} (h : Small k w d) (hk : k ≤ k') (hw : w ≤ w') : Small k' w' d := ⟨h.l, Nat.le_trans h.w hw, Nat.le_trans h.k hk, h.p⟩
theorem small_all {k w : Nat} : ∀ {l : List D}, (∀ d ∈ l, Small k w d) → rleafAll l = true ∧ PyData.weightAll l ≤ (w + 1) * l.length ∧ PyData.depthAll l ≤ k ∧ PyData.plainAll l = true
  | [], _ => ⟨rfl, Nat.zero_le _, Nat.zero_le _, rfl⟩
  | d :: l, h => by
    obtain ⟨a1, a2, a3, a4⟩ := h d List.mem_cons_self
    obtain ⟨b1, b2, b3, b4⟩ := small_all (l := l) fun e he => h e (List.mem_cons_of_mem _ he)
    refine ⟨?_, ?_, ?_, ?_⟩
    · show (rleaf d && rleafAll l) = true
      rw [a1, b1]; rfl
    · show d.weight + 1 + PyData.weightAll l ≤ (w + 1) * (l.length + 1)
      rw [Nat.mul_succ]; omega
    · show max d.depth (PyData.depthAll l) ≤ k
      omega
    · show (d.plain && PyData.plainAll l) = true
      rw [a4, b4]; rfl
theorem Small.list {k w n : Nat} {l : List D} (h : ∀ d ∈ l, Small k w d) (hn : l.length ≤ n) : Small (k + 1) ((w + 1) * n) (.list l) := by
  obtain ⟨b1, b2, b3, b4⟩ := small_all h
  refine ⟨b1, ?_, Nat.succ_le_succ b3, by simpa [PyData.plain] using b4⟩
  exact Nat.le_trans b2 (Nat.mul_le_mul (Nat.le_refl _) hn)
theorem Small.tup {k w n : Nat} {l : List D} (h : ∀ d ∈ l, Small k w d) (hn : l.length ≤ n) : Small (k + 1) ((w + 1) * n) (.tuple l) := by
  obtain ⟨b1, b2, b3, b4⟩ := small_all h
  refine ⟨b1, ?_, Nat.succ_le_succ b3, by simpa [PyData.plain] using b4⟩
  exact Nat.le_trans b2 (Nat.mul_le_mul (Nat.le_refl _) hn)
theorem Small.repr {k w : Nat} {d : D} (h : Small k w d) (hk : k ≤ 64) (hw : w ≤ 1048576) : reprOk d = true := by
  unfold reprOk shal
  rw [h.l, decide_eq_true (Nat.le_trans h.w hw), decide_eq_true (Nat.le_trans h.k hk)]; rfl
theorem Small.shal {k w : Nat} {d : D} (h : Small k w d) (hk : k ≤ 64) : PD.shal d = true := decide_eq_true (Nat.le_trans h.k hk)
theorem Small.ne {k w : Nat} {d : D} (h : Small k w d) (hk : k ≤ 64) : dNe d d = some (.bool false) := by
  unfold dNe; rw [h.shal hk, Bool.or_self, if_pos rfl, eqv_self d h.p]; rfl
theorem Small.eq {k w : Nat} {d : D} (h : Small k w d) (hk : k ≤ 64) : dEq d d = some (.bool true) := by
  unfold dEq; rw [h.shal hk, Bool.or_self, if_pos rfl, eqv_self d h.p]
theorem e_RNe {k w : Nat} {f f' : FE} {e : List Sl} {d : D} (s : Small k w d) (hk : k ≤ 64) (hw : w ≤ 1048576) (h : f e = .ok d) (h' : f' e = .ok d) : fRNe f f' e = .ok false := by
  unfold fRNe; rw [h, Rs.bind_ok, if_pos (s.repr hk hw), h', Rs.bind_ok, if_pos (eqD_refl d s.p)]
theorem e_REq {k w : Nat} {f f' : FE} {e : List Sl} {d : D} (s : Small k w d) (hk : k ≤ 64) (hw : w ≤ 1048576) (h : f e = .ok d) (h' : f' e = .ok d) : fREq f f' e = .ok true := by
  unfold fREq; rw [h, Rs.bind_ok, if_pos (s.repr hk hw), h', Rs.bind_ok, if_pos (eqD_refl d s.p)]
theorem e_scal {f : FE} {e e' : List Sl} {d : D} (he : thaw e = e') (h : f e' = .ok d) (hs : scalD d = true) : fScal f e = .ok d := by
  unfold fScal; rw [he, h, Rs.bind_ok, if_pos hs]
def th1 : Sl → Sl
  | .own l => .sh (.list l)
  | s => s
theorem thaw_map : ∀ e : List Sl, thaw e = e.map th1
  | [] => rfl
  | .own l :: r => congrArg (_ :: ·) (thaw_map r)
  | .un :: r => congrArg (_ :: ·) (thaw_map r)
  | .sh d :: r => congrArg (_ :: ·) (thaw_map r)
  | .scr d :: r => congrArg (_ :: ·) (thaw_map r)
theorem e_thM {g : FB} {e : List Sl} {r : Rs Bool} (h : g (e.map th1) = r) : fThB g e = r := by unfold fThB; rw [thaw_map]; exact h
theorem e_scalM {f : FE} {e : List Sl} {d : D} (h : f (e.map th1) = .ok d) (hs : scalD d = true) : fScal f e = .ok d := e_scal (thaw_map e) h hs
end PD

namespace k61
open PySem PySem.Spec PyProof.Rows L2 PD
abbrev gd_KINDS : D := (.tuple [(.str "ring"), (.str "line")])
abbrev gd_LEAST_PLACES : D := (.int 2)
abbrev gd_MOST_MOVES : D := (.int 40)
abbrev gd_MOST_PLACES : D := (.int 6)
abbrev gd_MOVES : D := (.str "lrs")
def g_check_ground : FS :=
  (sSeq (sAsg (Tgt.tp [1, 2]) (fVar 0))
  (sSeq (sIf (fB (f2 dNotIn (fVar 1) (fC gd_KINDS))) sNo sNext)
  (sIf (fNot (fB (f3 dLe dLe (fC gd_LEAST_PLACES) (fVar 2) (fC gd_MOST_PLACES)))) sNo sNext)))
def fn_check_ground : List D → Rs D := dfn0 3 1 g_check_ground
def g_check_rows : FS :=
  (sSeq (sDrop (fCall fn_check_ground (aCons (fVar 0) aNil)))
  (sFor (Tgt.tp [2, 3]) (iEnumF (fVar 1)) (sIf (fOr (fB (f2 dGt (fCB dLen (aCons (fVar 3) aNil)) (fC gd_MOST_MOVES))) (fNot (fTru (fCB dAll (aCons (fLc (iSeq (fVar 3)) (Tgt.nm 4) bYes (f2 dIn (fVar 4) (fC gd_MOVES)) [4]) aNil))))) sNo sNext)))
def fn_check_rows : List D → Rs D := dfn0 5 2 g_check_rows
def g_moved : FS :=
  (sSeq (sAsg (Tgt.tp [3, 4]) (fVar 0))
  (sSeq (sSet 5 (f2 dAdd (fVar 1) (fIf (fB (f2 dEq (fVar 2) (fC (.str "r")))) (fC (.int 1)) (fIf (fB (f2 dEq (fVar 2) (fC (.str "l")))) (f1 dNeg (fC (.int 1))) (fC (.int 0))))))
  (sSeq (sIf (fB (f2 dEq (fVar 3) (fC (.str "ring")))) (sRet (f2 dMod (fVar 5) (fVar 4))) sNext)
  (sRet (fCB dMin2 (aCons (fCB dMax2 (aCons (fVar 5) (aCons (fC (.int 0)) aNil))) (aCons (f2 dSub (fVar 4) (fC (.int 1))) aNil)))))))
def fn_moved : List D → Rs D := dfn0 6 3 g_moved
def g_walk_of : FS :=
  (sSeq (sSetN 3 (fLst (aCons (fVar 2) aNil)))
  (sSeq (sFor (Tgt.nm 4) (iSeq (fVar 1)) (sApp 3 (fCall fn_moved (aCons (fVar 0) (aCons (fIxO 3 (f1 dNeg (fC (.int 1)))) (aCons (fVar 4) aNil))))))
  (sRetO 3)))
def fn_walk_of : List D → Rs D := dfn0N 5 3 g_walk_of
def g_walk : FS :=
  (sSeq (sDrop (fCall fn_check_rows (aCons (fVar 0) (aCons (fLst (aCons (fVar 1) aNil)) aNil))))
  (sSeq (sIf (fNot (fB (f3 dLe dLt (fC (.int 0)) (fVar 2) (f2 dIx (fVar 0) (fC (.int 1)))))) sNo sNext)
  (sRetN (fCall fn_walk_of (aCons (fVar 0) (aCons (fVar 1) (aCons (fVar 2) aNil)))))))
def fn_walk : List D → Rs D := dfn0N 3 3 g_walk
def g_filled : FS :=
  (sRet (f2 dAdd (fVar 0) (f2 dMul (fC (.str "s")) (f2 dSub (fVar 1) (fCB dLen (aCons (fVar 0) aNil))))))
def fn_filled : List D → Rs D := dfn0 2 2 g_filled
def g_meeting_of : FS :=
  (sSeq (sSet 4 (fCB dMax2 (aCons (fCB dLen (aCons (fVar 1) aNil)) (aCons (fCB dLen (aCons (fVar 2) aNil)) aNil))))
  (sSeq (sSet 5 (fCall fn_walk_of (aCons (fVar 0) (aCons (fCall fn_filled (aCons (fVar 1) (aCons (fVar 4) aNil))) (aCons (f2 dIx (fVar 3) (fC (.int 0))) aNil)))))
  (sSeq (sSet 6 (fCall fn_walk_of (aCons (fVar 0) (aCons (fCall fn_filled (aCons (fVar 2) (aCons (fVar 4) aNil))) (aCons (f2 dIx (fVar 3) (fC (.int 1))) aNil)))))
  (sSeq (sFor (Tgt.nm 7) (iRng2F (aCons (fC (.int 1)) (aCons (f2 dAdd (fVar 4) (fC (.int 1))) aNil))) (sIf (fOr (fB (f2 dEq (f2 dIx (fVar 5) (fVar 7)) (f2 dIx (fVar 6) (fVar 7)))) (fB (f2 dEq (fTup (aCons (f2 dIx (fVar 5) (fVar 7)) (aCons (f2 dIx (fVar 6) (fVar 7)) aNil))) (fTup (aCons (f2 dIx (fVar 6) (f2 dSub (fVar 7) (fC (.int 1)))) (aCons (f2 dIx (fVar 5) (f2 dSub (fVar 7) (fC (.int 1)))) aNil)))))) (sRet (fVar 7)) sNext))
  (sRet (fC .none))))))
def fn_meeting_of : List D → Rs D := dfn0 8 4 g_meeting_of
def g_meeting : FS :=
  (sSeq (sDrop (fCall fn_check_rows (aCons (fVar 0) (aCons (fLst (aCons (fVar 1) (aCons (fVar 2) aNil))) aNil))))
  (sSeq (sFor (Tgt.tp [4, 5]) (iEnumF (fVar 3)) (sIf (fNot (fB (f3 dLe dLt (fC (.int 0)) (fVar 5) (f2 dIx (fVar 0) (fC (.int 1)))))) sNo sNext))
  (sSeq (sIf (fB (f2 dEq (f2 dIx (fVar 3) (fC (.int 0))) (f2 dIx (fVar 3) (fC (.int 1))))) sNo sNext)
  (sRet (fCall fn_meeting_of (aCons (fVar 0) (aCons (fVar 1) (aCons (fVar 2) (aCons (fVar 3) aNil)))))))))
def fn_meeting : List D → Rs D := dfn0 6 4 g_meeting
def g_pairs_of : FS :=
  (sRetN (fLc2 (iRng1F (aCons (f2 dIx (fVar 0) (fC (.int 1))) aNil)) (Tgt.nm 1) bYes (iRng1F (aCons (f2 dIx (fVar 0) (fC (.int 1))) aNil)) (Tgt.nm 2) (fB (f2 dNe (fVar 1) (fVar 2))) (fTup (aCons (fVar 1) (aCons (fVar 2) aNil))) [1, 2] (Tgt.nm 2).slots))
def fn_pairs_of : List D → Rs D := dfn0N 3 1 g_pairs_of
def g_worst_of : FS :=
  (sSeq (sSetF 4 (fLc (iSeq (fCall fn_pairs_of (aCons (fVar 0) aNil))) (Tgt.nm 3) bYes (fCall fn_meeting_of (aCons (fVar 0) (aCons (fVar 1) (aCons (fVar 2) (aCons (fVar 3) aNil))))) [3]))
  (sRet (fIf (fB (f2 dIn (fC .none) (fVar 4))) (fC .none) (fCB dMaxL (aCons (fVar 4) aNil)))))
def fn_worst_of : List D → Rs D := dfn0 5 3 g_worst_of
def g_worst : FS :=
  (sSeq (sDrop (fCall fn_check_rows (aCons (fVar 0) (aCons (fLst (aCons (fVar 1) (aCons (fVar 2) aNil))) aNil))))
  (sRet (fCall fn_worst_of (aCons (fVar 0) (aCons (fVar 1) (aCons (fVar 2) aNil))))))
def fn_worst : List D → Rs D := dfn0 3 3 g_worst
def g_open_places : FS :=
  (sSeq (sDrop (fCall fn_check_rows (aCons (fVar 0) (aCons (fLst (aCons (fVar 1) (aCons (fVar 2) aNil))) aNil))))
  (sRetN (fLc (iSeq (fCall fn_pairs_of (aCons (fVar 0) aNil))) (Tgt.nm 3) (fB (f2 isD (fCall fn_meeting_of (aCons (fVar 0) (aCons (fVar 1) (aCons (fVar 2) (aCons (fVar 3) aNil))))) (fC .none))) (fVar 3) [3])))
def fn_open_places : List D → Rs D := dfn0N 4 3 g_open_places
def g_towards : FS :=
  (sSeq (sDrop (fCall fn_check_ground (aCons (fVar 0) aNil)))
  (sSeq (sIf (fB (f2 dNe (f2 dIx (fVar 0) (fC (.int 0))) (fC (.str "ring")))) sNo sNext)
  (sSeq (sSet 1 (fC (.int 1)))
  (sSeq (sWhile 8 (fB (f2 isD (fCall fn_worst_of (aCons (fVar 0) (aCons (f2 dMul (fC (.str "r")) (fVar 1)) (aCons (f2 dMul (fC (.str "l")) (fVar 1)) aNil)))) (fC .none))) (sSet 1 (f2 dAdd (fVar 1) (fC (.int 1)))))
  (sRet (fTup (aCons (f2 dMul (fC (.str "r")) (fVar 1)) (aCons (f2 dMul (fC (.str "l")) (fVar 1)) aNil))))))))
def fn_towards : List D → Rs D := dfn0 2 1 g_towards
def g__law_draws : FS :=
  (sSeq (sSetN 1 (fLst aNil))
  (sSeq (sFor (Tgt.nm 2) (iRng1F (aCons (fCB dMin2 (aCons (fC (.int 63)) (aCons (fScrLen 0) aNil))) aNil)) (sSeq (sSet 3 (fCB dAbs (aCons (fScrIx 0 (fVar 2)) aNil)))
  (sIf (fB (f2 dGe (fVar 3) (f2 dPow (fC (.int 10)) (fC (.int 18))))) (sFor (Tgt.nm 4) (iRng1F (aCons (fC (.int 60)) aNil)) (sIf (fB (f2 dGt (fVar 3) (fC (.int 0)))) (sSeq (sApp 1 (f2 dMod (fCB dInt (aCons (fVar 3) aNil)) (fC (.int 65536))))
  (sSet 3 (f2 dDiv (fVar 3) (fC (.int 65536))))) sNext)) (sSeq (sSet 5 (f2 dMod (fCB dInt (aCons (f2 dAdd (f2 dMul (fVar 3) (fC (.int 48271))) (f2 dMul (f2 dAdd (fVar 2) (fC (.int 1))) (fC (.int 69621)))) aNil)) (fC (.int 2147483647))))
  (sSeq (sSet 5 (f2 dMod (fCB dInt (aCons (f2 dAdd (f2 dAdd (f2 dMul (fVar 5) (fC (.int 16807))) (f2 dMul (fC (.int 11)) (fVar 2))) (fC (.int 5))) aNil)) (fC (.int 2147483629))))
  (sSeq (sApp 1 (f2 dMod (fCB dInt (aCons (fVar 5) aNil)) (fC (.int 65536))))
  (sApp 1 (f2 dMod (fCB dInt (aCons (f2 dDiv (fVar 5) (fC (.int 65536))) aNil)) (fC (.int 32768))))))))))
  (sRetO 1)))
def fn__law_draws : List Int → Rs D := dfnS 6 g__law_draws
def g__law_mix : FS :=
  (sSeq (sSet 3 (fC (.int 0)))
  (sSeq (sIf (fB (f2 dGt (fCB dLen (aCons (fVar 0) aNil)) (fC (.int 0)))) (sSet 3 (f2 dIx (fVar 0) (f2 dMod (fCB dInt (aCons (fVar 1) aNil)) (fCB dLen (aCons (fVar 0) aNil))))) sNext)
  (sSeq (sIf (fB (f2 dLt (fVar 1) (fCB dLen (aCons (fVar 0) aNil)))) (sRet (f2 dMod (fCB dInt (aCons (fVar 3) aNil)) (fVar 2))) sNext)
  (sRet (f2 dMod (fCB dInt (aCons (f2 dDiv (fCB dInt (aCons (f2 dAdd (f2 dMul (fVar 3) (fC (.int 7919))) (f2 dMul (fVar 1) (fC (.int 104729)))) aNil)) (fC (.int 3))) aNil)) (fVar 2))))))
def fn__law_mix : List D → Rs D := dfn0 4 3 g__law_mix
def g__law_move : FS :=
  (sSeq (sAsg (Tgt.tp [3, 4]) (fVar 0))
  (sSeq (sSet 5 (f2 dSub (f2 dAdd (fVar 1) (fIndex (fLst (aCons (fC (.str "l")) (aCons (fC (.str "s")) (aCons (fC (.str "r")) aNil)))) (fVar 2))) (fC (.int 1))))
  (sSeq (sIf (fB (f2 dEq (fVar 3) (fC (.str "ring")))) (sRet (f2 dMod (fCB dInt (aCons (f2 dAdd (fVar 5) (fVar 4)) aNil)) (fVar 4))) sNext)
  (sRet (fCB dMax2 (aCons (fC (.int 0)) (aCons (fCB dMin2 (aCons (f2 dSub (fVar 4) (fC (.int 1))) (aCons (fVar 5) aNil))) aNil)))))))
def fn__law_move : List D → Rs D := dfn0 6 3 g__law_move
def g__law_meeting : FS :=
  (sSeq (sSet 5 (fCB dMax2 (aCons (fCB dLen (aCons (fVar 1) aNil)) (aCons (fCB dLen (aCons (fVar 2) aNil)) aNil))))
  (sSeq (sPar 1 2 (mS (f2 dAdd (fVar 1) (f2 dMul (fC (.str "s")) (f2 dSub (fVar 5) (fCB dLen (aCons (fVar 1) aNil)))))) (mS (f2 dAdd (fVar 2) (f2 dMul (fC (.str "s")) (f2 dSub (fVar 5) (fCB dLen (aCons (fVar 2) aNil)))))))
  (sSeq (sFor (Tgt.nm 6) (iRng1F (aCons (fVar 5) aNil)) (sSeq (sPar 7 8 (mS (fCall fn__law_move (aCons (fVar 0) (aCons (fVar 3) (aCons (f2 dIx (fVar 1) (fVar 6)) aNil))))) (mS (fCall fn__law_move (aCons (fVar 0) (aCons (fVar 4) (aCons (f2 dIx (fVar 2) (fVar 6)) aNil))))))
  (sSeq (sIf (fOr (fB (f2 dEq (fVar 7) (fVar 8))) (fAnd (fB (f2 dEq (fVar 7) (fVar 4))) (fB (f2 dEq (fVar 8) (fVar 3))))) (sRet (f2 dAdd (fVar 6) (fC (.int 1)))) sNext)
  (sPar 3 4 (mS (fVar 7)) (mS (fVar 8))))))
  (sRet (fC .none)))))
def fn__law_meeting : List D → Rs D := dfn0 9 5 g__law_meeting
def g__law_pairs : FS :=
  (sSeq (sSet 1 (fLst aNil))
  (sSeq (sFor (Tgt.nm 2) (iRng1F (aCons (f2 dIx (fVar 0) (fC (.int 1))) aNil)) (sSet 1 (f2 dAdd (fVar 1) (fLc (iRng1F (aCons (f2 dIx (fVar 0) (fC (.int 1))) aNil)) (Tgt.nm 3) (fB (f2 dNe (fVar 3) (fVar 2))) (fTup (aCons (fVar 2) (aCons (fVar 3) aNil))) [3]))))
  (sRet (fVar 1))))
def fn__law_pairs : List D → Rs D := dfn0 4 1 g__law_pairs
def g_law : FS :=
  (sSeq (sSet 1 (fScrCall 0 fn__law_draws))
  (sSeq (sFor (Tgt.nm 2) (iRng1F (aCons (fC (.int 3)) aNil)) (sSeq (sSet 3 (fTup (aCons (f2 dIx (fLst (aCons (fC (.str "ring")) (aCons (fC (.str "line")) aNil))) (fCall fn__law_mix (aCons (fVar 1) (aCons (fVar 2) (aCons (fC (.int 2)) aNil))))) (aCons (f2 dAdd (fC (.int 2)) (fCall fn__law_mix (aCons (fVar 1) (aCons (f2 dAdd (fC (.int 3)) (fVar 2)) (aCons (fC (.int 5)) aNil))))) aNil))))
  (sSeq (sSetF 6 (fLc (iRng1F (aCons (fC (.int 2)) aNil)) (Tgt.nm 4) bYes (fJoin (fC (.str "")) (fLc (iRng1F (aCons (fCall fn__law_mix (aCons (fVar 1) (aCons (f2 dAdd (f2 dAdd (fC (.int 6)) (f2 dMul (fC (.int 2)) (fVar 2))) (fVar 4)) (aCons (fC (.int 9)) aNil)))) aNil)) (Tgt.nm 5) bYes (f2 dIx (fC (.str "lrs")) (fCall fn__law_mix (aCons (fVar 1) (aCons (f2 dAdd (f2 dAdd (f2 dAdd (fC (.int 20)) (f2 dMul (fC (.int 30)) (fVar 2))) (f2 dMul (fC (.int 12)) (fVar 4))) (fVar 5)) (aCons (fC (.int 3)) aNil))))) [5])) [4]))
  (sSeq (sIf (fB (f2 dEq (fCall fn__law_mix (aCons (fVar 1) (aCons (f2 dAdd (fC (.int 12)) (fVar 2)) (aCons (fC (.int 3)) aNil)))) (fC (.int 0)))) (sSet 6 (fLst (aCons (f2 dMul (fC (.str "r")) (fC (.int 6))) (aCons (f2 dIx (fLst (aCons (f2 dMul (fC (.str "l")) (fC (.int 6))) (aCons (f2 dMul (fC (.str "s")) (fC (.int 5))) aNil))) (fCall fn__law_mix (aCons (fVar 1) (aCons (f2 dAdd (fC (.int 15)) (fVar 2)) (aCons (fC (.int 2)) aNil))))) aNil)))) sNext)
  (sSeq (sAsg (Tgt.tp [7, 8]) (fVar 6))
  (sSeq (sFor (Tgt.nm 9) (iRng1F (aCons (f2 dIx (fVar 3) (fC (.int 1))) aNil)) (sSeq (sPar 10 11 (mS (fVar 9)) (mN (fLst (aCons (fVar 9) aNil))))
  (sSeq (sFor (Tgt.nm 12) (iSeq (fVar 7)) (sSeq (sSet 10 (fCall fn__law_move (aCons (fVar 3) (aCons (fVar 10) (aCons (fVar 12) aNil)))))
  (sApp 11 (fVar 10))))
  (sSeq (sSetN 13 (fCall fn_walk (aCons (fVar 3) (aCons (fVar 7) (aCons (fVar 9) aNil)))))
  (sSeq (sIf (fThB (fRNe (fVar 13) (fVar 11))) (sRet (fC (.bool false))) sNext)
  (sSeq (sApp 13 (fC (.int 9)))
  (sIf (fThB (fB (f2 dNe (fCall fn_walk (aCons (fVar 3) (aCons (fVar 7) (aCons (fVar 9) aNil)))) (fVar 11)))) (sRet (fC (.bool false))) sNext)))))))
  (sSeq (sPar 14 15 (mN (fLst aNil)) (mN (fLst aNil)))
  (sSeq (sFor (Tgt.tp [16, 17]) (iSeq (fCall fn__law_pairs (aCons (fVar 3) aNil))) (sSeq (sSet 11 (fCall fn__law_meeting (aCons (fVar 3) (aCons (fVar 7) (aCons (fVar 8) (aCons (fVar 16) (aCons (fVar 17) aNil)))))))
  (sSeq (sIf (fOr (fRNe (fCall fn_meeting (aCons (fVar 3) (aCons (fVar 7) (aCons (fVar 8) (aCons (fTup (aCons (fVar 16) (aCons (fVar 17) aNil))) aNil))))) (fVar 11)) (fB (f2 dNe (fCall fn_meeting (aCons (fVar 3) (aCons (fVar 8) (aCons (fVar 7) (aCons (fTup (aCons (fVar 17) (aCons (fVar 16) aNil))) aNil))))) (fVar 11)))) (sRet (fC (.bool false))) sNext)
  (sSeq (sApp 14 (fVar 11))
  (sIf (fB (f2 isD (fVar 11) (fC .none))) (sApp 15 (fTup (aCons (fVar 16) (aCons (fVar 17) aNil)))) sNext)))))
  (sSeq (sSet 18 (fC .none))
  (sSeq (sIf (fThB (fB (f2 dEq (fVar 15) (fLst aNil)))) (sSet 18 (fScal (fCB dMaxL (aCons (fVar 14) aNil)))) sNext)
  (sSeq (sSetN 19 (fCall fn_open_places (aCons (fVar 3) (aCons (fVar 7) (aCons (fVar 8) aNil)))))
  (sSeq (sIf (fOr (fRNe (fCall fn_worst (aCons (fVar 3) (aCons (fVar 7) (aCons (fVar 8) aNil)))) (fVar 18)) (fThB (fRNe (fVar 19) (fVar 15)))) (sRet (fC (.bool false))) sNext)
  (sSeq (sIf (fB (f2 dEq (f2 dIx (fVar 3) (fC (.int 0))) (fC (.str "ring")))) (sSeq (sSet 20 (fCall fn_towards (aCons (fVar 3) aNil)))
  (sSeq (sSet 21 (f2 dDiv (f2 dIx (fVar 3) (fC (.int 1))) (fC (.int 2))))
  (sSeq (sIf (fOr (fRNe (fVar 20) (fTup (aCons (f2 dMul (fC (.str "r")) (fVar 21)) (aCons (f2 dMul (fC (.str "l")) (fVar 21)) aNil)))) (fB (f2 dNe (fCall fn_worst (aCons (fVar 3) (aCons (f2 dIx (fVar 20) (fC (.int 0))) (aCons (f2 dIx (fVar 20) (fC (.int 1))) aNil)))) (fVar 21)))) (sRet (fC (.bool false))) sNext)
  (sIf (fAnd (fB (f2 dGt (f2 dIx (fVar 3) (fC (.int 1))) (fC (.int 2)))) (fB (f2 dNe (fCall fn_open_places (aCons (fVar 3) (aCons (fVar 7) (aCons (fVar 7) aNil)))) (fCall fn__law_pairs (aCons (fVar 3) aNil))))) (sRet (fC (.bool false))) sNext)))) sNext)
  (sSeq (sApp 19 (fTup aNil))
  (sIf (fThB (fB (f2 dNe (fCall fn_open_places (aCons (fVar 3) (aCons (fVar 7) (aCons (fVar 8) aNil)))) (fVar 15)))) (sRet (fC (.bool false))) sNext)))))))))))))))
  (sRet (fAndV (f2 dEq (fCall fn_meeting (aCons (fTup (aCons (fC (.str "ring")) (aCons (fC (.int 3)) aNil))) (aCons (fC (.str "r")) (aCons (fC (.str "s")) (aCons (fTup (aCons (fC (.int 0)) (aCons (fC (.int 1)) aNil))) aNil))))) (fC (.int 1))) (fAndV (f2 dEq (fCall fn_meeting (aCons (fTup (aCons (fC (.str "line")) (aCons (fC (.int 3)) aNil))) (aCons (fC (.str "l")) (aCons (fC (.str "l")) (aCons (fTup (aCons (fC (.int 0)) (aCons (fC (.int 1)) aNil))) aNil))))) (fC (.int 1))) (f2 dEq (fCall fn_worst (aCons (fTup (aCons (fC (.str "ring")) (aCons (fC (.int 2)) aNil))) (aCons (fC (.str "r")) (aCons (fC (.str "s")) aNil)))) (fC (.int 1))))))))
end k61
namespace k61
open PySem PySem.Spec PyProof.Rows L2 PD
/-! the numbers drawn: whole numbers of 0 to 65535 -/
def DrOk (l : List Int) : Prop := ∀ x ∈ l, 0 ≤ x ∧ x < 65536
theorem DrOk.snoc {l : List Int} {x : Int} (h : DrOk l) (h0 : 0 ≤ x) (h1 : x < 65536) : DrOk (l ++ [x]) := fun y hy => by
  rcases List.mem_append.mp hy with q | q
  · exact h y q
  · rw [List.mem_singleton.mp q]; exact ⟨h0, h1⟩
def bI : FS := (sIf (fB (f2 dGt (fVar 3) (fC (.int 0)))) (sSeq (sApp 1 (f2 dMod (fCB dInt (aCons (fVar 3) aNil)) (fC (.int 65536))))
  (sSet 3 (f2 dDiv (fVar 3) (fC (.int 65536))))) sNext)
def bS : FS := (sSeq (sSet 5 (f2 dMod (fCB dInt (aCons (f2 dAdd (f2 dMul (fVar 3) (fC (.int 48271))) (f2 dMul (f2 dAdd (fVar 2) (fC (.int 1))) (fC (.int 69621)))) aNil)) (fC (.int 2147483647))))
  (sSeq (sSet 5 (f2 dMod (fCB dInt (aCons (f2 dAdd (f2 dAdd (f2 dMul (fVar 5) (fC (.int 16807))) (f2 dMul (fC (.int 11)) (fVar 2))) (fC (.int 5))) aNil)) (fC (.int 2147483629))))
  (sSeq (sApp 1 (f2 dMod (fCB dInt (aCons (fVar 5) aNil)) (fC (.int 65536))))
  (sApp 1 (f2 dMod (fCB dInt (aCons (f2 dDiv (fVar 5) (fC (.int 65536))) aNil)) (fC (.int 32768)))))))
section
variable {s0 s2 s3 s4 s5 : Sl} {l : List D}
theorem e_var2 {d : D} : fVar 2 [s0, .own l, .sh d, s3, s4, s5] = .ok d := rfl
theorem e_var3 {d : D} : fVar 3 [s0, .own l, s2, .sh d, s4, s5] = .ok d := rfl
theorem e_var5 {d : D} : fVar 5 [s0, .own l, s2, s3, s4, .sh d] = .ok d := rfl
theorem e_set3 {f : FE} {d : D} (h : f [s0, .own l, s2, s3, s4, s5] = .ok d) : sSet 3 f [s0, .own l, s2, s3, s4, s5] = .nx [s0, .own l, s2, .sh d, s4, s5] := by unfold sSet; rw [h]; rfl
theorem e_set5 {f : FE} {d : D} (h : f [s0, .own l, s2, s3, s4, s5] = .ok d) : sSet 5 f [s0, .own l, s2, s3, s4, s5] = .nx [s0, .own l, s2, s3, s4, .sh d] := by unfold sSet; rw [h]; rfl
theorem e_app {f : FE} {d : D} (h : f [s0, .own l, s2, s3, s4, s5] = .ok d) (hl : l.length < LINE) : sApp 1 f [s0, .own l, s2, s3, s4, s5] = .nx [s0, .own (l ++ [d]), s2, s3, s4, s5] := by
  unfold sApp
  show bindO (f _) _ = _
  rw [h]
  show (if l.length < LINE then _ else _) = _
  rw [if_pos hl]; rfl
end
theorem inner_ok (s0 s2 s5 : Sl) (l0 : Nat) (hl0 : l0 ≤ 4000) : ∀ (l : List Int) (R : Int) (s4 : Sl), l.length = l0 → DrOk l → 0 ≤ R → ∃ (m : List Int) (q : Int) (t4 : Sl), loopF (Tgt.nm 4) bI (rng 0 60) [s0, .own (intL l), s2, .sh (.int R), s4, s5] = .nx [s0, .own (intL m), s2, .sh (.int q), t4, s5] ∧ DrOk m ∧ m.length ≤ l0 + 60 := by
  intro l R s4 hl hd hR
  have h := loopF_inv (t := Tgt.nm 4) (body := bI) (ds := rng 0 60) (I := fun j env => ∃ (m : List Int) (q : Int) (t4 : Sl), env = [s0, .own (intL m), s2, .sh (.int q), t4, s5] ∧ DrOk m ∧ m.length ≤ l0 + j ∧ 0 ≤ q) (fun j env d hd hI => by
    obtain ⟨m, q, t4, rfl, hm, hml, hq⟩ := hI
    obtain ⟨hj, rfl⟩ := rng_get hd
    have hL : (LINE : Nat) = 16777216 := rfl
    have hc : fB (f2 dGt (fVar 3) (fC (.int 0))) [s0, .own (intL m), s2, .sh (.int q), .sh (.int (0 + (j : Int))), s5] = .ok (decide (0 < q)) := e_B (e_f2 e_var3 rfl (dGt_int _ _))
    by_cases hq0 : 0 < q
    · have h1 := Int.emod_nonneg q (show (65536 : Int) ≠ 0 by omega)
      have h2 := Int.emod_lt_of_pos q (show (0 : Int) < 65536 by omega)
      refine ⟨_, [s0, .own (intL (m ++ [q % 65536])), s2, .sh (.int (q / 65536)), .sh (.int (0 + (j : Int))), s5], rfl, ?_, m ++ [q % 65536], q / 65536, _, rfl, hm.snoc h1 h2, by rw [List.length_append, List.length_singleton]; omega, Int.ediv_nonneg hq (by omega)⟩
      refine e_if hc ?_
      rw [decide_eq_true hq0, if_pos rfl, ← intL_snoc]
      exact e_seq (e_app (e_f2 (e_cb1 e_var3 (d_int _)) rfl (d_mod (by omega))) (by rw [intL_len, hL]; omega)) (e_set3 (e_f2 e_var3 rfl (d_div ⟨by omega, by omega⟩)))
    · refine ⟨_, [s0, .own (intL m), s2, .sh (.int q), .sh (.int (0 + (j : Int))), s5], rfl, ?_, m, q, _, rfl, hm, by omega, hq⟩
      refine e_if hc ?_
      rw [decide_eq_false hq0, if_neg (by decide)]
      rfl)
  obtain ⟨e', h1, m, q, t4, rfl, hm, hml, _⟩ := h [s0, .own (intL l), s2, .sh (.int R), s4, s5] ⟨l, R, s4, rfl, hd, by omega, hR⟩
  rw [rng_len] at hml
  exact ⟨m, q, t4, h1, hm, hml⟩
theorem small_ok (s0 s4 s5 : Sl) (l : List Int) (R : Int) (i : Nat) (hl : l.length ≤ 4000) (hd : DrOk l) : ∃ (m : List Int) (t5 : Sl), bS [s0, .own (intL l), .sh (.int (0 + (i : Int))), .sh (.int R), s4, s5] = .nx [s0, .own (intL m), .sh (.int (0 + (i : Int))), .sh (.int R), s4, t5] ∧ DrOk m ∧ m.length ≤ l.length + 60 := by
  have hL : (LINE : Nat) = 16777216 := rfl
  have B : ∀ {z : Int}, 0 ≤ z → z < 1000000 → z.natAbs < BIT64 := fun h1 h2 => by unfold BIT64; omega
  obtain ⟨a, ha⟩ : ∃ a : Int, (R * 48271 + (0 + (i : Int) + 1) * 69621) % 2147483647 = a := ⟨_, rfl⟩
  obtain ⟨b, hb⟩ : ∃ b : Int, (a * 16807 + 11 * (0 + (i : Int)) + 5) % 2147483629 = b := ⟨_, rfl⟩
  have hb0 := Int.emod_nonneg (a * 16807 + 11 * (0 + (i : Int)) + 5) (show (2147483629 : Int) ≠ 0 by omega)
  have hb1 := Int.emod_lt_of_pos (a * 16807 + 11 * (0 + (i : Int)) + 5) (show (0 : Int) < 2147483629 by omega)
  rw [hb] at hb0 hb1
  have c0 := Int.emod_nonneg b (show (65536 : Int) ≠ 0 by omega)
  have c1 := Int.emod_lt_of_pos b (show (0 : Int) < 65536 by omega)
  have d0 := Int.emod_nonneg (b / 65536) (show (32768 : Int) ≠ 0 by omega)
  have d1 := Int.emod_lt_of_pos (b / 65536) (show (0 : Int) < 32768 by omega)
  refine ⟨l ++ [b % 65536] ++ [b / 65536 % 32768], .sh (.int b), ?_, (hd.snoc c0 c1).snoc d0 (by omega), by rw [List.length_append, List.length_append, List.length_singleton, List.length_singleton]; omega⟩
  refine e_seq (e_set5 (d := .int a) (e_f2 (e_cb1 (e_f2 (e_f2 e_var3 rfl (d_mulR (B (by omega) (by omega)))) (e_f2 (e_f2 e_var2 rfl (d_add _ _)) rfl (d_mulR (B (by omega) (by omega)))) (d_add _ _)) (d_int _)) rfl ((d_mod (by omega)).trans (by rw [ha])))) ?_
  refine e_seq (e_set5 (d := .int b) (e_f2 (e_cb1 (e_f2 (e_f2 (e_f2 e_var5 rfl (d_mulR (B (by omega) (by omega)))) (e_f2 rfl e_var2 (d_mulL (B (by omega) (by omega)))) (d_add _ _)) rfl (d_add _ _)) (d_int _)) rfl ((d_mod (by omega)).trans (by rw [hb])))) ?_
  rw [← intL_snoc, ← intL_snoc]
  refine e_seq (e_app (e_f2 (e_cb1 e_var5 (d_int _)) rfl (d_mod (by omega))) (by rw [intL_len, hL]; omega)) ?_
  exact e_app (e_f2 (e_cb1 (e_f2 e_var5 rfl (d_div ⟨by omega, by omega⟩)) (d_int _)) rfl (d_mod (by omega))) (by rw [intL_snoc, intL_len, hL, List.length_append, List.length_singleton]; omega)
theorem pow18 : dPow (.int 10) (.int 18) = some (.int 1000000000000000000) := by
  have h : (0 : Int) ≤ 18 ∧ (18 : Int).natAbs ≤ 1000 ∧ (10 : Int).natAbs < 18446744073709551616 := ⟨by omega, by omega, by omega⟩
  show (if (0 : Int) ≤ 18 ∧ (18 : Int).natAbs ≤ 1000 ∧ (10 : Int).natAbs < 18446744073709551616 then some (PyData.int (10 ^ (18 : Int).toNat)) else none) = _
  rw [if_pos h]
  rfl
def bO : FS := (sSeq (sSet 3 (fCB dAbs (aCons (fScrIx 0 (fVar 2)) aNil)))
  (sIf (fB (f2 dGe (fVar 3) (f2 dPow (fC (.int 10)) (fC (.int 18))))) (sFor (Tgt.nm 4) (iRng1F (aCons (fC (.int 60)) aNil)) bI) bS))
theorem draws_eq : g__law_draws = sSeq (sSetN 1 (fLst aNil)) (sSeq (sFor (Tgt.nm 2) (iRng1F (aCons (fCB dMin2 (aCons (fC (.int 63)) (aCons (fScrLen 0) aNil))) aNil)) bO) (sRetO 1)) := rfl
theorem turn_ok (ns : List Int) (i : Nat) (hi : i < ns.length) (l : List Int) (s3 s4 s5 : Sl) (hl : l.length ≤ 3800) (hd : DrOk l) : ∃ (m : List Int) (t3 t4 t5 : Sl), bO [.scr ns, .own (intL l), .sh (.int (0 + (i : Int))), s3, s4, s5] = .nx [.scr ns, .own (intL m), .sh (.int (0 + (i : Int))), t3, t4, t5] ∧ DrOk m ∧ m.length ≤ l.length + 60 := by
  have hat : atI ns (0 + (i : Int)) = some ns[i] := by rw [Int.zero_add]; exact atI_nat (List.getElem?_eq_getElem hi)
  obtain ⟨R, hR, hR0⟩ : ∃ R : Int, (if ns[i] < 0 then -ns[i] else ns[i]) = R ∧ 0 ≤ R := ⟨_, rfl, by split <;> omega⟩
  have h3 : fCB dAbs (aCons (fScrIx 0 (fVar 2)) aNil) [.scr ns, .own (intL l), .sh (.int (0 + (i : Int))), s3, s4, s5] = .ok (.int R) := e_cb1 (a := .int ns[i]) (e_scrIx rfl e_var2 hat) (by show some (PyData.int (if ns[i] < 0 then -ns[i] else ns[i])) = _; rw [hR])
  have hc : fB (f2 dGe (fVar 3) (f2 dPow (fC (.int 10)) (fC (.int 18)))) [.scr ns, .own (intL l), .sh (.int (0 + (i : Int))), .sh (.int R), s4, s5] = .ok (decide ((1000000000000000000 : Int) ≤ R)) := e_B (e_f2 e_var3 (e_f2 rfl rfl pow18) (dGe_int _ _))
  by_cases hbig : (1000000000000000000 : Int) ≤ R
  · obtain ⟨m, q, t4, h1, h2, h3'⟩ := inner_ok (.scr ns) (.sh (.int (0 + (i : Int)))) s5 l.length (by omega) l R s4 rfl hd hR0
    refine ⟨m, .sh (.int q), t4, s5, e_seq (e_set3 h3) (e_if hc ?_), h2, h3'⟩
    rw [decide_eq_true hbig, if_pos rfl]
    exact e_for (e_rng1 (n := 60) rfl (by omega)) h1
  · obtain ⟨m, t5, h1, h2, h3'⟩ := small_ok (.scr ns) s4 s5 l R i (by omega) hd
    refine ⟨m, .sh (.int R), s4, t5, e_seq (e_set3 h3) (e_if hc ?_), h2, h3'⟩
    rw [decide_eq_false hbig, if_neg (by decide)]
    exact h1
theorem draws_ok (ns : List Int) (hn : ns.length ≤ 63) : ∃ l, fn__law_draws ns = .ok (.list (intL l)) ∧ DrOk l ∧ l.length ≤ 3780 := by
  obtain ⟨n, e1, e2, e3⟩ : ∃ n : Nat, (if (ns.length : Int) < 63 then (ns.length : Int) else 63) = (n : Int) ∧ n ≤ 63 ∧ n ≤ ns.length := by
    by_cases h : (ns.length : Int) < 63
    · exact ⟨ns.length, by rw [if_pos h], hn, Nat.le_refl _⟩
    · exact ⟨63, by rw [if_neg h]; rfl, Nat.le_refl _, by omega⟩
  obtain ⟨e', h1, l, s2, s3, s4, s5, rfl, hl, hlen⟩ := loopF_inv (t := Tgt.nm 2) (body := bO) (ds := rng 0 n) (I := fun i env => ∃ (l : List Int) (s2 s3 s4 s5 : Sl), env = [.scr ns, .own (intL l), s2, s3, s4, s5] ∧ DrOk l ∧ l.length ≤ 60 * i) (fun i env d hd hI => by
    obtain ⟨l, s2, s3, s4, s5, rfl, hl, hlen⟩ := hI
    obtain ⟨hi, rfl⟩ := rng_get hd
    obtain ⟨m, t3, t4, t5, g1, g2, g3⟩ := turn_ok ns i (by omega) l s3 s4 s5 (by omega) hl
    exact ⟨_, _, rfl, g1, m, _, t3, t4, t5, rfl, g2, by omega⟩) [.scr ns, .own (intL []), .un, .un, .un, .un] ⟨[], .un, .un, .un, .un, rfl, fun x hx => (nomatch hx), Nat.le_refl _⟩
  rw [rng_len] at hlen
  refine ⟨l, ?_, hl, by omega⟩
  unfold fn__law_draws dfnS
  rw [draws_eq]
  have z : sSeq (sSetN 1 (fLst aNil)) (sSeq (sFor (Tgt.nm 2) (iRng1F (aCons (fCB dMin2 (aCons (fC (.int 63)) (aCons (fScrLen 0) aNil))) aNil)) bO) (sRetO 1)) (envS 6 ns) = .rn (.list (intL l)) := by
    refine e_seq (e' := [.scr ns, .own (intL []), .un, .un, .un, .un]) ?_ (e_seq (e' := [.scr ns, .own (intL l), s2, s3, s4, s5]) ?_ rfl)
    · exact e_setN e_lst0 rfl
    · exact e_for (e_rng1 (e_cb2 rfl rfl (by show some (PyData.int (if (ns.length : Int) < 63 then (ns.length : Int) else 63)) = _; rw [e1])) (by omega)) h1
  rw [z]
  rfl
theorem mix_ok (l : List Int) (hl : DrOk l) (hll : l.length ≤ 3780) (k many : Int) (hk : 0 ≤ k) (hk2 : k ≤ 100000) (hm : 0 < many) : ∃ v : Int, fn__law_mix [.list (intL l), .int k, .int many] = .ok (.int v) ∧ 0 ≤ v ∧ v < many := by
  have key : ∃ v : Int, g__law_mix [.sh (.list (intL l)), .sh (.int k), .sh (.int many), .un] = .rt (.int v) ∧ 0 ≤ v ∧ v < many := by
    have hlen : ∀ s3 : Sl, fCB dLen (aCons (fVar 0) aNil) [.sh (.list (intL l)), .sh (.int k), .sh (.int many), s3] = .ok (.int (l.length : Nat)) := fun s3 => e_cb1 (e_var rfl) (by show some (PyData.int ((intL l).length : Nat)) = _; rw [intL_len])
    have hK : ∀ s3 : Sl, fVar 1 [.sh (.list (intL l)), .sh (.int k), .sh (.int many), s3] = .ok (.int k) := fun s3 => e_var rfl
    have hM : ∀ s3 : Sl, fVar 2 [.sh (.list (intL l)), .sh (.int k), .sh (.int many), s3] = .ok (.int many) := fun s3 => e_var rfl
    have h1 : ∃ c : Int, 0 ≤ c ∧ c < 65536 ∧ (sIf (fB (f2 dGt (fCB dLen (aCons (fVar 0) aNil)) (fC (.int 0)))) (sSet 3 (f2 dIx (fVar 0) (f2 dMod (fCB dInt (aCons (fVar 1) aNil)) (fCB dLen (aCons (fVar 0) aNil))))) sNext) [.sh (.list (intL l)), .sh (.int k), .sh (.int many), .sh (.int 0)] = .nx [.sh (.list (intL l)), .sh (.int k), .sh (.int many), .sh (.int c)] := by
      by_cases h0 : (0 : Int) < (l.length : Nat)
      · have r0 := Int.emod_nonneg k (show ((l.length : Nat) : Int) ≠ 0 by omega)
        have r1 := Int.emod_lt_of_pos k h0
        obtain ⟨n, hn⟩ := Int.eq_ofNat_of_zero_le r0
        have hj : n < l.length := by omega
        have hat : dIx (.list (intL l)) (.int (k % ((l.length : Nat) : Int))) = some (.int l[n]) := by
          rw [hn]
          refine atI_nat ?_
          unfold intL
          rw [List.getElem?_map, List.getElem?_eq_getElem hj]
          rfl
        obtain ⟨c0, c1⟩ := hl _ (List.getElem_mem hj)
        refine ⟨_, c0, c1, e_if (e_B (e_f2 (hlen _) rfl (dGt_int _ _))) ?_⟩
        rw [decide_eq_true h0, if_pos rfl]
        exact e_set (e_f2 (e_var rfl) (e_f2 (e_cb1 (hK _) (d_int _)) (hlen _) (d_mod h0)) hat) rfl
      · refine ⟨0, by omega, by omega, e_if (e_B (e_f2 (hlen _) rfl (dGt_int _ _))) ?_⟩
        rw [decide_eq_false h0, if_neg (by decide)]
        rfl
    obtain ⟨c, c0, c1, h1⟩ := h1
    have hC : fVar 3 [.sh (.list (intL l)), .sh (.int k), .sh (.int many), .sh (.int c)] = .ok (.int c) := e_var rfl
    have hlt := e_B (e_f2 (hK (.sh (.int c))) (hlen (.sh (.int c))) (dLt_int _ _))
    by_cases hb : k < (l.length : Nat)
    · refine ⟨c % many, e_seq (e_set rfl rfl) (e_seq h1 ?_), Int.emod_nonneg _ (by omega), Int.emod_lt_of_pos _ hm⟩
      have z : sIf (fB (f2 dLt (fVar 1) (fCB dLen (aCons (fVar 0) aNil)))) (sRet (f2 dMod (fCB dInt (aCons (fVar 3) aNil)) (fVar 2))) sNext [.sh (.list (intL l)), .sh (.int k), .sh (.int many), .sh (.int c)] = .rt (.int (c % many)) := by
        refine e_if hlt ?_
        rw [decide_eq_true hb, if_pos rfl]
        exact e_ret (e_f2 (e_cb1 hC (d_int _)) (hM _) (d_mod hm))
      unfold sSeq
      rw [z]; rfl
    · refine ⟨(c * 7919 + k * 104729) / 3 % many, e_seq (e_set rfl rfl) (e_seq h1 (e_seq (e' := [.sh (.list (intL l)), .sh (.int k), .sh (.int many), .sh (.int c)]) ?_ ?_)), Int.emod_nonneg _ (by omega), Int.emod_lt_of_pos _ hm⟩
      · refine e_if hlt ?_
        rw [decide_eq_false hb, if_neg (by decide)]
        rfl
      · have B : ∀ {z : Int}, 0 ≤ z → z < 1000000 → z.natAbs < BIT64 := fun h1 h2 => by unfold BIT64; omega
        exact e_ret (e_f2 (e_cb1 (e_f2 (e_cb1 (e_f2 (e_f2 hC rfl (d_mulR (B (by omega) (by omega)))) (e_f2 (hK _) rfl (d_mulR (B (by omega) (by omega)))) (d_add _ _)) (d_int _)) rfl (d_div ⟨by omega, by omega⟩)) (d_int _)) (hM _) (d_mod hm))
  obtain ⟨v, h, r⟩ := key
  exact ⟨v, d_fn rfl rfl h, r⟩
def kd (r : Bool) : Str := if r then "ring" else "line"
def gd (r : Bool) (p : Nat) : D := .tuple [.str (kd r), .int p]
def grounds : List (Bool × Nat) := [(true, 2), (true, 3), (true, 4), (true, 5), (true, 6), (false, 2), (false, 3), (false, 4), (false, 5), (false, 6)]
def sg : List Nat := [108, 114, 115]
def dl (c : Nat) : Int := if c = 114 then 1 else if c = 108 then -1 else 0
def mv (r : Bool) (p : Nat) (x : Int) (c : Nat) : Int := if r then (x + dl c) % p else max 0 (min (p - 1) (x + dl c))
def ev (f : Bool → Nat → Int → Nat → Bool) : Bool := grounds.all fun g => (List.range g.2).all fun x => sg.all fun c => f g.1 g.2 x c
theorem ev_at {f : Bool → Nat → Int → Nat → Bool} (h : ev f = true) {r : Bool} {p : Nat} (hg : (r, p) ∈ grounds) {x : Int} (h0 : 0 ≤ x) (h1 : x < p) {c : Nat} (hc : c ∈ sg) : f r p x c = true := by
  have e := List.all_eq_true.mp (List.all_eq_true.mp (List.all_eq_true.mp h (r, p) hg) x.toNat (List.mem_range.mpr (by show x.toNat < p; omega))) c hc
  rw [Int.toNat_of_nonneg h0] at e
  exact e
theorem moved_ev : ev (fun r p x c => okI (fn_moved [gd r p, .int x, oneS c]) (mv r p x c) && okI (fn__law_move [gd r p, .int x, oneS c]) (mv r p x c) && decide (0 ≤ mv r p x c) && decide (mv r p x c < p)) = true := by decide +kernel
theorem ground_ev : (grounds.all fun g => okD (fn_check_ground [gd g.1 g.2]) .none) = true := by decide +kernel
theorem ground_p : (grounds.all fun g => decide (2 ≤ g.2) && decide (g.2 ≤ 6)) = true := by decide
section
variable {r : Bool} {p : Nat} (hg : (r, p) ∈ grounds)
include hg
theorem moved_eq {x : Int} (h0 : 0 ≤ x) (h1 : x < p) {c : Nat} (hc : c ∈ sg) : fn_moved [gd r p, .int x, oneS c] = .ok (.int (mv r p x c)) ∧ fn__law_move [gd r p, .int x, oneS c] = .ok (.int (mv r p x c)) ∧ 0 ≤ mv r p x c ∧ mv r p x c < p := by
  have h := ev_at moved_ev hg h0 h1 hc
  simp only [Bool.and_eq_true, decide_eq_true_eq] at h
  exact ⟨okI_eq h.1.1.1, okI_eq h.1.1.2, h.1.2, h.2⟩
theorem ground_ok : fn_check_ground [gd r p] = .ok .none := by
  have h : okD (fn_check_ground [gd (r, p).1 (r, p).2]) .none = true := List.all_eq_true.mp ground_ev (r, p) hg
  exact okD_eq h
theorem p_ok : 2 ≤ p ∧ p ≤ 6 := by
  have h := List.all_eq_true.mp ground_p _ hg
  simpa using h
end
/-- the places, hour by hour -/
def path (r : Bool) (p : Nat) : Int → List Nat → List Int
  | x, [] => [x]
  | x, c :: cs => x :: path r p (mv r p x c) cs
def rowD (l : List Nat) : D := .str ⟨l.toArray⟩
def RowOk (l : List Nat) : Prop := (∀ c ∈ l, c ∈ sg) ∧ l.length ≤ 8
theorem path_len (r : Bool) (p : Nat) : ∀ (l : List Nat) (x : Int), (path r p x l).length = l.length + 1
  | [], _ => rfl
  | _ :: l, x => congrArg (· + 1) (path_len r p l _)
theorem seq_row (l : List Nat) : seqD (rowD l) = some (l.map oneS) := by show some ((⟨l.toArray⟩ : Str).cps.toList.map oneS) = _; rfl
theorem len_row {l : List Nat} (h : l.length ≤ 8) : dLen [rowD l] = some (.int (l.length : Nat)) := by
  show (if (⟨l.toArray⟩ : Str).length ≤ LINE then some (PyData.int ((⟨l.toArray⟩ : Str).length : Nat)) else none) = _
  have e : (⟨l.toArray⟩ : Str).length = l.length := by show l.toArray.size = _; simp
  rw [e, if_pos (le_line (by omega))]
/-! walk_of -/
def bW : FS := sApp 3 (fCall fn_moved (aCons (fVar 0) (aCons (fIxO 3 (f1 dNeg (fC (.int 1)))) (aCons (fVar 4) aNil))))
theorem walk_step {r : Bool} {p : Nat} (hg : (r, p) ∈ grounds) (R X : Sl) (c : Nat) (pre : List D) (y : Int) (hc : c ∈ sg) (h0 : 0 ≤ y) (h1 : y < p) (hl : pre.length ≤ 1000) :
    bW [.sh (gd r p), R, X, .own (pre ++ [.int y]), .sh (oneS c)] = .nx [.sh (gd r p), R, X, .own (pre ++ [.int y] ++ [.int (mv r p y c)]), .sh (oneS c)] := by
  have m1 := (moved_eq hg h0 h1 hc).1
  have a1 : fIxO 3 (f1 dNeg (fC (.int 1))) [.sh (gd r p), R, X, .own (pre ++ [.int y]), .sh (oneS c)] = .ok (.int y) := e_ixO (l := pre ++ [.int y]) rfl (e_f1 e_c (d_neg 1)) (d_ix (atI_last pre (.int y)))
  have a2 : (aCons (fVar 0) (aCons (fIxO 3 (f1 dNeg (fC (.int 1)))) (aCons (fVar 4) aNil))) [.sh (gd r p), R, X, .own (pre ++ [.int y]), .sh (oneS c)] = .ok [gd r p, .int y, oneS c] := e_cons (e_var rfl) (e_cons a1 (e_cons (e_var rfl) e_nil))
  exact e_appI rfl (e_call a2 m1) (lt_line (by rw [List.length_append, List.length_singleton]; omega)) rfl
theorem walk_loop {r : Bool} {p : Nat} (hg : (r, p) ∈ grounds) (R X : Sl) : ∀ (cs : List Nat) (pre : List D) (y : Int) (s4 : Sl), (∀ c ∈ cs, c ∈ sg) → 0 ≤ y → y < p → pre.length + cs.length + 1 ≤ 1000 →
    ∃ s, loopF (Tgt.nm 4) bW (cs.map oneS) [.sh (gd r p), R, X, .own (pre ++ [.int y]), s4] = .nx [.sh (gd r p), R, X, .own (pre ++ (path r p y cs).map .int), s] := by
  intro cs
  induction cs with
  | nil => exact fun pre y s4 _ _ _ _ => ⟨s4, rfl⟩
  | cons c cs ih =>
    intro pre y s4 hc h0 h1 hl
    have hl' : pre.length + (cs.length + 1) + 1 ≤ 1000 := hl
    obtain ⟨_, _, m2, m3⟩ := moved_eq hg h0 h1 (hc c List.mem_cons_self)
    obtain ⟨s, h⟩ := ih (pre ++ [.int y]) (mv r p y c) (.sh (oneS c)) (fun d hd => hc d (List.mem_cons_of_mem _ hd)) m2 m3 (by rw [List.length_append, List.length_singleton]; omega)
    have e : pre ++ (path r p y (c :: cs)).map PyData.int = (pre ++ [.int y]) ++ (path r p (mv r p y c) cs).map .int := by simp [path]
    rw [e]
    exact ⟨s, e_loopC rfl (walk_step hg R X c pre y (hc c List.mem_cons_self) h0 h1 (by omega)) h⟩
theorem walk_of_eq {r : Bool} {p : Nat} (hg : (r, p) ∈ grounds) {l : List Nat} (hl : ∀ c ∈ l, c ∈ sg) (hn : l.length ≤ 900) {x : Int} (h0 : 0 ≤ x) (h1 : x < p) : fn_walk_of [gd r p, rowD l, .int x] = .ok (.list ((path r p x l).map .int)) := by
  obtain ⟨s, h⟩ := walk_loop hg (.sh (rowD l)) (.sh (.int x)) l [] x .un hl h0 h1 (by show 0 + l.length + 1 ≤ 1000; omega)
  refine d_fnN (e := [.sh (gd r p), .sh (rowD l), .sh (.int x), .un, .un]) rfl rfl ?_
  refine e_seq (e' := [.sh (gd r p), .sh (rowD l), .sh (.int x), .own [.int x], .un]) (e_setN (e_lst (e_cons (e_var rfl) e_nil) (le_line (by show 1 ≤ 1000000; omega))) rfl) ?_
  exact e_seq (e_for (e_iSeq (e_var rfl) (seq_row l)) h) rfl
/-! the rows looked at -/
def tst : FB := fOr (fB (f2 dGt (fCB dLen (aCons (fVar 3) aNil)) (fC gd_MOST_MOVES))) (fNot (fTru (fCB dAll (aCons (fLc (iSeq (fVar 3)) (Tgt.nm 4) bYes (f2 dIn (fVar 4) (fC gd_MOVES)) [4]) aNil))))
theorem in_ev : (sg.all fun c => okO (dIn (oneS c) gd_MOVES) (.bool true)) = true := by decide +kernel
theorem lc_all (s0 s1 s2 s3 s4 : Sl) : ∀ cs : List Nat, (∀ c ∈ cs, c ∈ sg) → ∃ bs : List Bool, lcGo (Tgt.nm 4) bYes (one (f2 dIn (fVar 4) (fC gd_MOVES))) [s0, s1, s2, s3, s4] (cs.map oneS) = .ok (bs.map .bool) ∧ bs.all id = true ∧ bs.length = cs.length
  | [], _ => ⟨[], rfl, rfl, rfl⟩
  | c :: cs, h => by
    obtain ⟨bs, h1, h2, h3⟩ := lc_all s0 s1 s2 s3 s4 cs fun d hd => h d (List.mem_cons_of_mem _ hd)
    have hi := okO_eq (List.all_eq_true.mp in_ev c (h c List.mem_cons_self))
    refine ⟨true :: bs, ?_, by simpa using h2, by simp [h3]⟩
    exact e_lcC (ys := [.bool true]) rfl rfl (e_one (e_f2 (e_var rfl) rfl hi)) h1
theorem tst_ok (s0 s1 s2 s4 : Sl) {l : List Nat} (h : RowOk l) : tst [s0, s1, s2, .sh (rowD l), s4] = .ok false := by
  obtain ⟨bs, h1, h2, h3⟩ := lc_all s0 s1 s2 (.sh (rowD l)) .un l h.1
  have hl := h.2
  have hb : decide ((40 : Int) < (l.length : Nat)) = false := decide_eq_false (by omega)
  have ha : fB (f2 dGt (fCB dLen (aCons (fVar 3) aNil)) (fC gd_MOST_MOVES)) [s0, s1, s2, .sh (rowD l), s4] = .ok false := by
    rw [← hb]
    exact e_B (e_f2 (e_cb1 (e_var rfl) (len_row hl)) rfl (dGt_int _ _))
  have hc : fNot (fTru (fCB dAll (aCons (fLc (iSeq (fVar 3)) (Tgt.nm 4) bYes (f2 dIn (fVar 4) (fC gd_MOVES)) [4]) aNil))) [s0, s1, s2, .sh (rowD l), s4] = .ok (!true) :=
    e_not (e_tru (d := .bool true) (e_cb1 (e_lc (e_iSeq (e_var rfl) (seq_row l)) h1 (le_line (by rw [List.length_map, h3]; omega))) (by show (boolsD (bs.map .bool)).map (fun bs => PyData.bool (bs.all id)) = _; rw [boolsD_map, Option.map_some, h2])) rfl)
  exact e_or (b := false) ha fun _ => hc
theorem rows_loop (s0 s1 s4 : Sl) : ∀ (rows : List (List Nat)) (k : Nat) (s2 s3 : Sl), (∀ l ∈ rows, RowOk l) → ∃ t2 t3, loopF (Tgt.tp [2, 3]) (sIf tst sNo sNext) (enumD k (rows.map rowD)) [s0, s1, s2, s3, s4] = .nx [s0, s1, t2, t3, s4]
  | [], _, s2, s3, _ => ⟨s2, s3, rfl⟩
  | l :: rows, k, s2, s3, h => by
    obtain ⟨t2, t3, ih⟩ := rows_loop s0 s1 s4 rows (k + 1) (.sh (.int k)) (.sh (rowD l)) fun m hm => h m (List.mem_cons_of_mem _ hm)
    exact ⟨t2, t3, e_loopC (e := [s0, s1, .sh (.int k), .sh (rowD l), s4]) rfl (e_if (tst_ok _ _ _ _ (h l List.mem_cons_self)) rfl) ih⟩
theorem rows_ok {r : Bool} {p : Nat} (hg : (r, p) ∈ grounds) {rows : List (List Nat)} (h : ∀ l ∈ rows, RowOk l) : fn_check_rows [gd r p, .list (rows.map rowD)] = .ok .none := by
  obtain ⟨t2, t3, hl⟩ := rows_loop (.sh (gd r p)) (.sh (.list (rows.map rowD))) .un rows 0 .un .un h
  refine d_fnX (e := [.sh (gd r p), .sh (.list (rows.map rowD)), .un, .un, .un]) rfl rfl (e' := [.sh (gd r p), .sh (.list (rows.map rowD)), t2, t3, .un]) ?_
  refine e_seq (e_drop (e_call (e_cons (e_var rfl) e_nil) (ground_ok hg))) ?_
  exact e_for (by show ((fVar 1 _).bind _) = _; rfl) hl
theorem dEq_pair (a b c d : Int) : dEq (.tuple [.int a, .int b]) (.tuple [.int c, .int d]) = some (.bool (decide (a = c) && decide (b = d))) := by
  have h : shal (.tuple [.int a, .int b]) = true := by simp [shal, PyData.depth, PyData.depthAll]
  simp only [dEq, h, Bool.true_or, if_true, PyData.eqv, PyData.eqvAll, Bool.and_true]
  rfl
theorem ix_int {l : List Int} {i : Nat} {v : Int} (h : l[i]? = some v) : dIx (.list (l.map .int)) (.int (i : Nat)) = some (.int v) := d_ix (atI_nat (by rw [List.getElem?_map, h]; rfl))
theorem ix_row {l : List Nat} (hl : l.length ≤ 8) {i : Nat} {c : Nat} (h : l[i]? = some c) : dIx (rowD l) (.int (i : Nat)) = some (oneS c) := by
  have e : (⟨l.toArray⟩ : Str).length = l.length := by show l.toArray.size = _; simp
  show (if (⟨l.toArray⟩ : Str).length ≤ LINE then (atI l (i : Int)).map oneS else none) = _
  rw [e, if_pos (le_line (by omega)), atI_nat h]
  rfl
section
variable {r : Bool} {p : Nat} (hg : (r, p) ∈ grounds)
include hg
theorem ix_gd1 : dIx (gd r p) (.int 1) = some (.int p) := rfl
theorem ix_gd0 : dIx (gd r p) (.int 0) = some (.str (kd r)) := rfl
/-- walk -/
theorem walk_eq {l : List Nat} (hl : RowOk l) {x : Int} (h0 : 0 ≤ x) (h1 : x < p) : fn_walk [gd r p, rowD l, .int x] = .ok (.list ((path r p x l).map .int)) := by
  refine d_fnN (e := [.sh (gd r p), .sh (rowD l), .sh (.int x)]) rfl rfl ?_
  refine e_seq (e_drop (e_call (e_cons (e_var rfl) (e_cons (e_lst (e_cons (e_var rfl) e_nil) (le_line (by show 1 ≤ 1000000; omega))) e_nil)) (rows_ok hg (rows := [l]) fun m hm => by rw [List.mem_singleton.mp hm]; exact hl))) ?_
  refine e_seq (e' := [.sh (gd r p), .sh (rowD l), .sh (.int x)]) (e_if (b := !true) (e_not (e_B (b := true) (e_f3 e_c (e_var rfl) (dLe_int _ _) (decide_eq_true h0) (e_f2 (e_var rfl) e_c (ix_gd1 hg)) (by rw [dLt_int, decide_eq_true h1])))) rfl) ?_
  exact e_retN (e_call (e_cons (e_var rfl) (e_cons (e_var rfl) (e_cons (e_var rfl) e_nil))) (walk_of_eq hg hl.1 (by have := hl.2; omega) h0 h1))
end
/-- a row filled up -/
def fil (l : List Nat) (n : Nat) : List Nat := l ++ List.replicate (n - l.length) 115
theorem mul_ev : ((List.range 9).all fun k => okO (dMul (.str "s") (.int k)) (rowD (List.replicate k 115))) = true := by decide +kernel
theorem row_app (a b : List Nat) (h : a.length + b.length ≤ 1000) : dAdd (rowD a) (rowD b) = some (rowD (a ++ b)) := by
  show (if (⟨a.toArray⟩ : Str).length + (⟨b.toArray⟩ : Str).length ≤ LINE then some (PyData.str ((⟨a.toArray⟩ : Str) ++ ⟨b.toArray⟩)) else none) = _
  have e1 : (⟨a.toArray⟩ : Str).length = a.length := by show a.toArray.size = _; simp
  have e2 : (⟨b.toArray⟩ : Str).length = b.length := by show b.toArray.size = _; simp
  rw [e1, e2, if_pos (le_line (by omega))]
  show some (PyData.str ⟨a.toArray ++ b.toArray⟩) = some (PyData.str ⟨(a ++ b).toArray⟩)
  rw [List.append_toArray]
theorem fil_len {l : List Nat} {n : Nat} (h : l.length ≤ n) : (fil l n).length = n := by unfold fil; rw [List.length_append, List.length_replicate]; omega
theorem fil_ok {l : List Nat} {n : Nat} (h : RowOk l) (hn : n ≤ 8) (hl : l.length ≤ n) : RowOk (fil l n) := ⟨fun c hc => by
  rcases List.mem_append.mp hc with q | q
  · exact h.1 c q
  · rw [List.eq_of_mem_replicate q]; decide, by rw [fil_len hl]; exact hn⟩
theorem fil_mul {l : List Nat} {n : Nat} (hn : n ≤ 8) (hl : l.length ≤ n) : dMul (.str "s") (.int ((n : Int) - (l.length : Nat))) = some (rowD (List.replicate (n - l.length) 115)) := by
  have h : okO (dMul (.str "s") (.int ((n - l.length : Nat) : Int))) (rowD (List.replicate (n - l.length) 115)) = true := List.all_eq_true.mp mul_ev (n - l.length) (List.mem_range.mpr (by omega))
  have e : ((n : Int) - (l.length : Nat)) = ((n - l.length : Nat) : Int) := by omega
  rw [e]
  exact okO_eq h
theorem filled_eq {l : List Nat} {n : Nat} (hn : n ≤ 8) (hl : l.length ≤ n) : fn_filled [rowD l, .int n] = .ok (rowD (fil l n)) := by
  refine d_fn (e := [.sh (rowD l), .sh (.int n)]) rfl rfl ?_
  exact e_ret (e_f2 (e_var rfl) (e_f2 e_c (e_f2 (e_var rfl) (e_cb1 (e_var rfl) (len_row (by omega))) (d_sub _ _)) (fil_mul hn hl)) (row_app _ _ (by rw [List.length_replicate]; omega)))
/-- the hour at which they meet -/
def met (r : Bool) (p : Nat) : Int → Int → List Nat → List Nat → Nat → Option Nat
  | x, y, c :: cs, d :: ds, h => if mv r p x c = mv r p y d ∨ (mv r p x c = y ∧ mv r p y d = x) then some (h + 1) else met r p (mv r p x c) (mv r p y d) cs ds (h + 1)
  | _, _, _, _, _ => none
def hourD : Option Nat → D
  | some h => .int (h : Nat)
  | none => .none
def big (a b : List Nat) : Nat := if b.length > a.length then b.length else a.length
theorem big_len (s : Nat → Sl) {a b : List Nat} (ha : a.length ≤ 8) (hb : b.length ≤ 8) {e : List Sl} (h1 : e[1]? = some (.sh (rowD a))) (h2 : e[2]? = some (.sh (rowD b))) : fCB dMax2 (aCons (fCB dLen (aCons (fVar 1) aNil)) (aCons (fCB dLen (aCons (fVar 2) aNil)) aNil)) e = .ok (.int (big a b : Nat)) := by
  refine e_cb2 (e_cb1 (e_var h1) (len_row ha)) (e_cb1 (e_var h2) (len_row hb)) ?_
  show some (PyData.int (if ((b.length : Nat) : Int) > ((a.length : Nat) : Int) then ((b.length : Nat) : Int) else ((a.length : Nat) : Int))) = _
  unfold big
  by_cases h : b.length > a.length
  · rw [if_pos h, if_pos (by omega)]
  · rw [if_neg h, if_neg (by omega)]
theorem big_le {a b : List Nat} (ha : a.length ≤ 8) (hb : b.length ≤ 8) : a.length ≤ big a b ∧ b.length ≤ big a b ∧ big a b ≤ 8 := by unfold big; split <;> omega
/-! meeting_of's loop -/
def bM : FS := (sIf (fOr (fB (f2 dEq (f2 dIx (fVar 5) (fVar 7)) (f2 dIx (fVar 6) (fVar 7)))) (fB (f2 dEq (fTup (aCons (f2 dIx (fVar 5) (fVar 7)) (aCons (f2 dIx (fVar 6) (fVar 7)) aNil))) (fTup (aCons (f2 dIx (fVar 6) (f2 dSub (fVar 7) (fC (.int 1)))) (aCons (f2 dIx (fVar 5) (f2 dSub (fVar 7) (fC (.int 1)))) aNil)))))) (sRet (fVar 7)) sNext)
theorem rng_cons (lo : Int) (n : Nat) : rng lo (n + 1) = .int lo :: rng (lo + 1) n := by
  unfold rng
  rw [List.range_succ_eq_map, List.map_cons, List.map_map]
  congr 1
  · simp
  · refine List.map_congr_left fun i _ => ?_
    show PyData.int (lo + ((i + 1 : Nat) : Int)) = _
    congr 1
    omega
theorem meet_loop (r : Bool) (p : Nat) (s0 s1 s2 s3 s4 : Sl) : ∀ (cs ds : List Nat) (f1' f2' : List Int) (x y : Int) (h : Nat) (s7 : Sl), cs.length = ds.length → f1'.length = h → f2'.length = h → h + cs.length ≤ 900 →
    ∃ s, loopF (Tgt.nm 7) bM (rng ((h + 1 : Nat) : Int) cs.length) [s0, s1, s2, s3, s4, .sh (.list ((f1' ++ path r p x cs).map .int)), .sh (.list ((f2' ++ path r p y ds).map .int)), s7] = (match met r p x y cs ds h with
      | some n => .rt (.int (n : Nat))
      | none => .nx [s0, s1, s2, s3, s4, .sh (.list ((f1' ++ path r p x cs).map .int)), .sh (.list ((f2' ++ path r p y ds).map .int)), s]) := by
  intro cs
  induction cs with
  | nil => exact fun ds f1' f2' x y h s7 hl _ _ _ => ⟨s7, by cases ds with | nil => rfl | cons _ _ => cases hl⟩
  | cons c cs ih =>
    intro ds f1' f2' x y h s7 hl hf1 hf2 hb
    cases ds with
    | nil => cases hl
    | cons d ds =>
      have hl' : cs.length = ds.length := by simpa using hl
      have hb' : h + (cs.length + 1) ≤ 900 := hb
      obtain ⟨s, hr⟩ := ih ds (f1' ++ [x]) (f2' ++ [y]) (mv r p x c) (mv r p y d) (h + 1) (.sh (.int ((h + 1 : Nat) : Int))) hl' (by rw [List.length_append, hf1]; rfl) (by rw [List.length_append, hf2]; rfl) (by omega)
      have e1 : f1' ++ path r p x (c :: cs) = (f1' ++ [x]) ++ path r p (mv r p x c) cs := by simp [path]
      have e2 : f2' ++ path r p y (d :: ds) = (f2' ++ [y]) ++ path r p (mv r p y d) ds := by simp [path]
      rw [e1, e2]
      have hd : ∀ (z : Int) (l : List Nat), (path r p z l)[0]? = some z := fun z l => by cases l <;> rfl
      have i1 : ((f1' ++ [x]) ++ path r p (mv r p x c) cs)[h + 1]? = some (mv r p x c) := by
        rw [List.getElem?_append_right (by rw [List.length_append, hf1]; exact Nat.le_refl _), List.length_append, hf1]
        show (path r p (mv r p x c) cs)[h + 1 - (h + 1)]? = _
        rw [Nat.sub_self]; exact hd _ _
      have i2 : ((f2' ++ [y]) ++ path r p (mv r p y d) ds)[h + 1]? = some (mv r p y d) := by
        rw [List.getElem?_append_right (by rw [List.length_append, hf2]; exact Nat.le_refl _), List.length_append, hf2]
        show (path r p (mv r p y d) ds)[h + 1 - (h + 1)]? = _
        rw [Nat.sub_self]; exact hd _ _
      have j1 : ((f1' ++ [x]) ++ path r p (mv r p x c) cs)[h]? = some x := by
        rw [List.getElem?_append_left (by rw [List.length_append, hf1]; exact Nat.lt_succ_self _), List.getElem?_append_right (by omega), hf1, Nat.sub_self]; rfl
      have j2 : ((f2' ++ [y]) ++ path r p (mv r p y d) ds)[h]? = some y := by
        rw [List.getElem?_append_left (by rw [List.length_append, hf2]; exact Nat.lt_succ_self _), List.getElem?_append_right (by omega), hf2, Nat.sub_self]; rfl
      generalize hF : (f1' ++ [x]) ++ path r p (mv r p x c) cs = L1 at hr i1 j1 ⊢
      generalize hG : (f2' ++ [y]) ++ path r p (mv r p y d) ds = L2 at hr i2 j2 ⊢
      have hsub : dSub (.int ((h + 1 : Nat) : Int)) (.int 1) = some (.int ((h : Nat) : Int)) := by
        rw [d_sub]; congr 2; omega
      have hE : ∀ {g : List Sl}, g = [s0, s1, s2, s3, s4, .sh (.list (L1.map .int)), .sh (.list (L2.map .int)), .sh (.int ((h + 1 : Nat) : Int))] → (fOr (fB (f2 dEq (f2 dIx (fVar 5) (fVar 7)) (f2 dIx (fVar 6) (fVar 7)))) (fB (f2 dEq (fTup (aCons (f2 dIx (fVar 5) (fVar 7)) (aCons (f2 dIx (fVar 6) (fVar 7)) aNil))) (fTup (aCons (f2 dIx (fVar 6) (f2 dSub (fVar 7) (fC (.int 1)))) (aCons (f2 dIx (fVar 5) (f2 dSub (fVar 7) (fC (.int 1)))) aNil)))))) g = .ok (decide (mv r p x c = mv r p y d) || (decide (mv r p x c = y) && decide (mv r p y d = x))) := by
        rintro g rfl
        have v5 : fVar 5 [s0, s1, s2, s3, s4, .sh (.list (L1.map .int)), .sh (.list (L2.map .int)), .sh (.int ((h + 1 : Nat) : Int))] = .ok (.list (L1.map .int)) := e_var rfl
        have v6 : fVar 6 [s0, s1, s2, s3, s4, .sh (.list (L1.map .int)), .sh (.list (L2.map .int)), .sh (.int ((h + 1 : Nat) : Int))] = .ok (.list (L2.map .int)) := e_var rfl
        have v7 : fVar 7 [s0, s1, s2, s3, s4, .sh (.list (L1.map .int)), .sh (.list (L2.map .int)), .sh (.int ((h + 1 : Nat) : Int))] = .ok (.int ((h + 1 : Nat) : Int)) := e_var rfl
        have a1 := e_f2 v5 v7 (ix_int i1)
        have a2 := e_f2 v6 v7 (ix_int i2)
        have b1 := e_f2 v5 (e_f2 v7 e_c hsub) (ix_int j1)
        have b2 := e_f2 v6 (e_f2 v7 e_c hsub) (ix_int j2)
        refine e_or (e_B (e_f2 a1 a2 (dEq_int _ _))) fun _ => e_B (e_f2 (e_tup (e_cons a1 (e_cons a2 e_nil)) (le_line (by show 2 ≤ 1000000; omega))) (e_tup (e_cons b2 (e_cons b1 e_nil)) (le_line (by show 2 ≤ 1000000; omega))) (dEq_pair _ _ _ _))
      show ∃ s, loopF (Tgt.nm 7) bM (rng ((h + 1 : Nat) : Int) (cs.length + 1)) _ = _
      rw [rng_cons]
      by_cases hm : mv r p x c = mv r p y d ∨ (mv r p x c = y ∧ mv r p y d = x)
      · refine ⟨s7, ?_⟩
        have e : met r p x y (c :: cs) (d :: ds) h = some (h + 1) := if_pos hm
        rw [e]
        refine e_loopR rfl (e_if (hE rfl) ?_)
        have hb : (decide (mv r p x c = mv r p y d) || (decide (mv r p x c = y) && decide (mv r p y d = x))) = true := by simpa using hm
        rw [hb, if_pos rfl]
        exact e_ret (e_var rfl)
      · refine ⟨s, ?_⟩
        have e : met r p x y (c :: cs) (d :: ds) h = met r p (mv r p x c) (mv r p y d) cs ds (h + 1) := if_neg hm
        rw [e]
        refine e_loopC (e' := [s0, s1, s2, s3, s4, .sh (.list (L1.map .int)), .sh (.list (L2.map .int)), .sh (.int ((h + 1 : Nat) : Int))]) rfl (e_if (hE rfl) ?_) ?_
        · have hb : (decide (mv r p x c = mv r p y d) || (decide (mv r p x c = y) && decide (mv r p y d = x))) = false := by
            rw [Bool.eq_false_iff]; intro z; exact hm (by simpa using z)
          rw [hb, if_neg (by decide)]
          rfl
        · have e3 : ((h + 1 : Nat) : Int) + 1 = ((h + 1 + 1 : Nat) : Int) := by omega
          rw [e3]
          exact hr
def meetD (r : Bool) (p : Nat) (a b : List Nat) (x y : Int) : Option Nat := met r p x y (fil a (big a b)) (fil b (big a b)) 0
section
variable {r : Bool} {p : Nat} (hg : (r, p) ∈ grounds) {a b : List Nat} (ha : RowOk a) (hb : RowOk b) {x y : Int} (hx0 : 0 ≤ x) (hx1 : x < p) (hy0 : 0 ≤ y) (hy1 : y < p)
include hg ha hb hx0 hx1 hy0 hy1
theorem meeting_of_eq : fn_meeting_of [gd r p, rowD a, rowD b, .tuple [.int x, .int y]] = .ok (hourD (meetD r p a b x y)) := by
  obtain ⟨l1, l2, l3⟩ := big_le ha.2 hb.2
  have fa := fil_ok ha l3 l1
  have fb := fil_ok hb l3 l2
  have la := fil_len l1
  have lb := fil_len l2
  obtain ⟨s, hloop⟩ := meet_loop r p (.sh (gd r p)) (.sh (rowD a)) (.sh (rowD b)) (.sh (.tuple [.int x, .int y])) (.sh (.int (big a b : Nat))) (fil a (big a b)) (fil b (big a b)) [] [] x y 0 .un (by rw [la, lb]) rfl rfl (by rw [la]; omega)
  rw [la] at hloop
  have pre : ∀ {o : Out}, sSeq (sFor (Tgt.nm 7) (iRng2F (aCons (fC (.int 1)) (aCons (f2 dAdd (fVar 4) (fC (.int 1))) aNil))) bM) (sRet (fC .none)) [.sh (gd r p), .sh (rowD a), .sh (rowD b), .sh (.tuple [.int x, .int y]), .sh (.int (big a b : Nat)), .sh (.list ((path r p x (fil a (big a b))).map .int)), .sh (.list ((path r p y (fil b (big a b))).map .int)), .un] = o →
      g_meeting_of [.sh (gd r p), .sh (rowD a), .sh (rowD b), .sh (.tuple [.int x, .int y]), .un, .un, .un, .un] = o := fun {o} h => by
    refine e_seq (e_set (big_len (fun _ => .un) ha.2 hb.2 rfl rfl) rfl) ?_
    refine e_seq (e_set (e_call (e_cons (e_var rfl) (e_cons (e_call (e_cons (e_var rfl) (e_cons (e_var rfl) e_nil)) (filled_eq l3 l1)) (e_cons (e_f2 (e_var rfl) e_c (show dIx (.tuple [.int x, .int y]) (.int 0) = some (.int x) from rfl)) e_nil))) (walk_of_eq hg fa.1 (by omega) hx0 hx1)) rfl) ?_
    refine e_seq (e_set (e_call (e_cons (e_var rfl) (e_cons (e_call (e_cons (e_var rfl) (e_cons (e_var rfl) e_nil)) (filled_eq l3 l2)) (e_cons (e_f2 (e_var rfl) e_c (show dIx (.tuple [.int x, .int y]) (.int 1) = some (.int y) from rfl)) e_nil))) (walk_of_eq hg fb.1 (by omega) hy0 hy1)) rfl) ?_
    exact h
  have hr : (iRng2F (aCons (fC (.int 1)) (aCons (f2 dAdd (fVar 4) (fC (.int 1))) aNil))) [.sh (gd r p), .sh (rowD a), .sh (rowD b), .sh (.tuple [.int x, .int y]), .sh (.int (big a b : Nat)), .sh (.list ((path r p x (fil a (big a b))).map .int)), .sh (.list ((path r p y (fil b (big a b))).map .int)), .un] = .ok (rng ((0 + 1 : Nat) : Int) (big a b)) := by
    refine (e_rng2 e_c (e_f2 (e_var rfl) e_c (d_add _ _)) (by omega) (by omega)).trans ?_
    congr 2
    omega
  unfold meetD
  cases hm : met r p x y (fil a (big a b)) (fil b (big a b)) 0 with
  | some n =>
    rw [hm] at hloop
    exact d_fn rfl rfl (pre (e_seqR (e_for hr hloop)))
  | none =>
    rw [hm] at hloop
    exact d_fn rfl rfl (pre (e_seq (e_for hr hloop) rfl))
end
section
variable {r : Bool} {p : Nat} (hg : (r, p) ∈ grounds) {a b : List Nat} (ha : RowOk a) (hb : RowOk b)
include hg ha hb
/-- meeting -/
def bP : FS := (sIf (fNot (fB (f3 dLe dLt (fC (.int 0)) (fVar 5) (f2 dIx (fVar 0) (fC (.int 1)))))) sNo sNext)
theorem meeting_eq {x y : Int} (hx0 : 0 ≤ x) (hx1 : x < p) (hy0 : 0 ≤ y) (hy1 : y < p) (hxy : x ≠ y) : fn_meeting [gd r p, rowD a, rowD b, .tuple [.int x, .int y]] = .ok (hourD (meetD r p a b x y)) := by
  have hp : ∀ (z : Int) (s4 : Sl), 0 ≤ z → z < p → bP [.sh (gd r p), .sh (rowD a), .sh (rowD b), .sh (.tuple [.int x, .int y]), s4, .sh (.int z)] = .nx [.sh (gd r p), .sh (rowD a), .sh (rowD b), .sh (.tuple [.int x, .int y]), s4, .sh (.int z)] := fun z s4 h0 h1 =>
    e_if (b := !true) (e_not (e_B (b := true) (e_f3 e_c (e_var rfl) (dLe_int _ _) (decide_eq_true h0) (e_f2 (e_var rfl) e_c (ix_gd1 hg)) (by rw [dLt_int, decide_eq_true h1])))) rfl
  refine d_fn (e := [.sh (gd r p), .sh (rowD a), .sh (rowD b), .sh (.tuple [.int x, .int y]), .un, .un]) rfl rfl ?_
  refine e_seq (e_drop (e_call (e_cons (e_var rfl) (e_cons (e_lst (e_cons (e_var rfl) (e_cons (e_var rfl) e_nil)) (le_line (by show 2 ≤ 1000000; omega))) e_nil)) (rows_ok hg (rows := [a, b]) fun m hm => by
    rcases List.mem_cons.mp hm with e | e
    · rw [e]; exact ha
    · rw [List.mem_singleton.mp e]; exact hb))) ?_
  refine e_seq (e' := [.sh (gd r p), .sh (rowD a), .sh (rowD b), .sh (.tuple [.int x, .int y]), .sh (.int (0 + 1)), .sh (.int y)]) (e_for (ds := [.tuple [.int 0, .int x], .tuple [.int (0 + 1), .int y]]) (by show ((fVar 3 _).bind _) = _; rfl) (e_loopC (e := [.sh (gd r p), .sh (rowD a), .sh (rowD b), .sh (.tuple [.int x, .int y]), .sh (.int 0), .sh (.int x)]) rfl (hp x _ hx0 hx1) (e_loopC (e := [.sh (gd r p), .sh (rowD a), .sh (rowD b), .sh (.tuple [.int x, .int y]), .sh (.int (0 + 1)), .sh (.int y)]) rfl (hp y _ hy0 hy1) rfl))) ?_
  refine e_seq (e' := [.sh (gd r p), .sh (rowD a), .sh (rowD b), .sh (.tuple [.int x, .int y]), .sh (.int (0 + 1)), .sh (.int y)]) (e_if (b := false) (e_B (e_f2 (e_f2 (e_var rfl) e_c (show dIx (.tuple [.int x, .int y]) (.int 0) = some (.int x) from rfl)) (e_f2 (e_var rfl) e_c (show dIx (.tuple [.int x, .int y]) (.int 1) = some (.int y) from rfl)) (by rw [dEq_int, decide_eq_false hxy]))) rfl) ?_
  exact e_ret (e_call (e_cons (e_var rfl) (e_cons (e_var rfl) (e_cons (e_var rfl) (e_cons (e_var rfl) e_nil)))) (meeting_of_eq hg ha hb hx0 hx1 hy0 hy1))
end
/-! the law's own meeting -/
def bL : FS := (sSeq (sPar 7 8 (mS (fCall fn__law_move (aCons (fVar 0) (aCons (fVar 3) (aCons (f2 dIx (fVar 1) (fVar 6)) aNil))))) (mS (fCall fn__law_move (aCons (fVar 0) (aCons (fVar 4) (aCons (f2 dIx (fVar 2) (fVar 6)) aNil))))))
  (sSeq (sIf (fOr (fB (f2 dEq (fVar 7) (fVar 8))) (fAnd (fB (f2 dEq (fVar 7) (fVar 4))) (fB (f2 dEq (fVar 8) (fVar 3))))) (sRet (f2 dAdd (fVar 6) (fC (.int 1)))) sNext)
  (sPar 3 4 (mS (fVar 7)) (mS (fVar 8)))))
theorem law_loop {r : Bool} {p : Nat} (hg : (r, p) ∈ grounds) (s5 : Sl) (A B : List Nat) (hA : RowOk A) (hB : RowOk B) : ∀ (cs ds : List Nat) (pa pb : List Nat) (x y : Int) (h : Nat) (s6 s7 s8 : Sl), A = pa ++ cs → B = pb ++ ds → pa.length = h → pb.length = h → cs.length = ds.length → 0 ≤ x → x < p → 0 ≤ y → y < p →
    ∃ e, loopF (Tgt.nm 6) bL (rng ((h : Nat) : Int) cs.length) [.sh (gd r p), .sh (rowD A), .sh (rowD B), .sh (.int x), .sh (.int y), s5, s6, s7, s8] = (match met r p x y cs ds h with
      | some n => .rt (.int (n : Nat))
      | none => .nx e) := by
  intro cs
  induction cs with
  | nil =>
    intro ds pa pb x y h s6 s7 s8 _ _ _ _ hl _ _ _ _
    cases ds with
    | nil => exact ⟨[.sh (gd r p), .sh (rowD A), .sh (rowD B), .sh (.int x), .sh (.int y), s5, s6, s7, s8], rfl⟩
    | cons _ _ => cases hl
  | cons c cs ih =>
    intro ds pa pb x y h s6 s7 s8 eA eB hpa hpb hl hx0 hx1 hy0 hy1
    cases ds with
    | nil => cases hl
    | cons d ds =>
      have hc : c ∈ sg := hA.1 c (by rw [eA]; exact List.mem_append_right _ List.mem_cons_self)
      have hd : d ∈ sg := hB.1 d (by rw [eB]; exact List.mem_append_right _ List.mem_cons_self)
      obtain ⟨_, mx, mx0, mx1⟩ := moved_eq hg hx0 hx1 hc
      obtain ⟨_, my, my0, my1⟩ := moved_eq hg hy0 hy1 hd
      have iA : A[h]? = some c := by rw [eA, List.getElem?_append_right (by omega), hpa, Nat.sub_self]; rfl
      have iB : B[h]? = some d := by rw [eB, List.getElem?_append_right (by omega), hpb, Nat.sub_self]; rfl
      obtain ⟨e, hr⟩ := ih ds (pa ++ [c]) (pb ++ [d]) (mv r p x c) (mv r p y d) (h + 1) (.sh (.int ((h : Nat) : Int))) (.sh (.int (mv r p x c))) (.sh (.int (mv r p y d))) (by rw [eA, List.append_assoc]; rfl) (by rw [eB, List.append_assoc]; rfl) (by rw [List.length_append, hpa]; rfl) (by rw [List.length_append, hpb]; rfl) (by simpa using hl) mx0 mx1 my0 my1
      show ∃ e, loopF (Tgt.nm 6) bL (rng ((h : Nat) : Int) (cs.length + 1)) _ = _
      rw [rng_cons]
      have hpar : sPar 7 8 (mS (fCall fn__law_move (aCons (fVar 0) (aCons (fVar 3) (aCons (f2 dIx (fVar 1) (fVar 6)) aNil))))) (mS (fCall fn__law_move (aCons (fVar 0) (aCons (fVar 4) (aCons (f2 dIx (fVar 2) (fVar 6)) aNil))))) [.sh (gd r p), .sh (rowD A), .sh (rowD B), .sh (.int x), .sh (.int y), s5, .sh (.int ((h : Nat) : Int)), s7, s8] =
          .nx [.sh (gd r p), .sh (rowD A), .sh (rowD B), .sh (.int x), .sh (.int y), s5, .sh (.int ((h : Nat) : Int)), .sh (.int (mv r p x c)), .sh (.int (mv r p y d))] :=
        e_par (e_mS (e_call (e_cons (e_var rfl) (e_cons (e_var rfl) (e_cons (e_f2 (e_var rfl) (e_var rfl) (ix_row hA.2 iA)) e_nil))) mx)) (e_mS (e_call (e_cons (e_var rfl) (e_cons (e_var rfl) (e_cons (e_f2 (e_var rfl) (e_var rfl) (ix_row hB.2 iB)) e_nil))) my)) rfl
      have hE : (fOr (fB (f2 dEq (fVar 7) (fVar 8))) (fAnd (fB (f2 dEq (fVar 7) (fVar 4))) (fB (f2 dEq (fVar 8) (fVar 3))))) [.sh (gd r p), .sh (rowD A), .sh (rowD B), .sh (.int x), .sh (.int y), s5, .sh (.int ((h : Nat) : Int)), .sh (.int (mv r p x c)), .sh (.int (mv r p y d))] = .ok (decide (mv r p x c = mv r p y d) || (decide (mv r p x c = y) && decide (mv r p y d = x))) :=
        e_or (e_B (e_f2 (e_var rfl) (e_var rfl) (dEq_int _ _))) fun _ => e_and (e_B (e_f2 (e_var rfl) (e_var rfl) (dEq_int _ _))) fun _ => e_B (e_f2 (e_var rfl) (e_var rfl) (dEq_int _ _))
      by_cases hm : mv r p x c = mv r p y d ∨ (mv r p x c = y ∧ mv r p y d = x)
      · refine ⟨[], ?_⟩
        have e : met r p x y (c :: cs) (d :: ds) h = some (h + 1) := if_pos hm
        rw [e]
        refine e_loopR rfl (e_seq hpar (e_seqR (e_if hE ?_)))
        have hb : (decide (mv r p x c = mv r p y d) || (decide (mv r p x c = y) && decide (mv r p y d = x))) = true := by simpa using hm
        rw [hb, if_pos rfl]
        exact e_ret (e_f2 (e_var rfl) e_c (by rw [d_add]; congr 2))
      · refine ⟨e, ?_⟩
        have e : met r p x y (c :: cs) (d :: ds) h = met r p (mv r p x c) (mv r p y d) cs ds (h + 1) := if_neg hm
        rw [e]
        refine e_loopC (e' := [.sh (gd r p), .sh (rowD A), .sh (rowD B), .sh (.int (mv r p x c)), .sh (.int (mv r p y d)), s5, .sh (.int ((h : Nat) : Int)), .sh (.int (mv r p x c)), .sh (.int (mv r p y d))]) rfl (e_seq hpar (e_seq (e' := [.sh (gd r p), .sh (rowD A), .sh (rowD B), .sh (.int x), .sh (.int y), s5, .sh (.int ((h : Nat) : Int)), .sh (.int (mv r p x c)), .sh (.int (mv r p y d))]) (e_if hE ?_) ?_)) ?_
        · have hb : (decide (mv r p x c = mv r p y d) || (decide (mv r p x c = y) && decide (mv r p y d = x))) = false := by
            rw [Bool.eq_false_iff]; intro z; exact hm (by simpa using z)
          rw [hb, if_neg (by decide)]
          rfl
        · exact e_par (e_mS (e_var rfl)) (e_mS (e_var rfl)) rfl
        · have e3 : ((h : Nat) : Int) + 1 = ((h + 1 : Nat) : Int) := by omega
          rw [e3]
          exact hr
section
variable {r : Bool} {p : Nat} (hg : (r, p) ∈ grounds) {a b : List Nat} (ha : RowOk a) (hb : RowOk b)
include hg ha hb
theorem law_meeting_eq {x y : Int} (hx0 : 0 ≤ x) (hx1 : x < p) (hy0 : 0 ≤ y) (hy1 : y < p) : fn__law_meeting [gd r p, rowD a, rowD b, .int x, .int y] = .ok (hourD (meetD r p a b x y)) := by
  obtain ⟨l1, l2, l3⟩ := big_le ha.2 hb.2
  have fa := fil_ok ha l3 l1
  have fb := fil_ok hb l3 l2
  have la := fil_len l1
  have lb := fil_len l2
  obtain ⟨e, hloop⟩ := law_loop hg (.sh (.int (big a b : Nat))) _ _ fa fb (fil a (big a b)) (fil b (big a b)) [] [] x y 0 .un .un .un rfl rfl rfl rfl (by rw [la, lb]) hx0 hx1 hy0 hy1
  rw [la] at hloop
  have pre : ∀ {o : Out}, sSeq (sFor (Tgt.nm 6) (iRng1F (aCons (fVar 5) aNil)) bL) (sRet (fC .none)) [.sh (gd r p), .sh (rowD (fil a (big a b))), .sh (rowD (fil b (big a b))), .sh (.int x), .sh (.int y), .sh (.int (big a b : Nat)), .un, .un, .un] = o →
      g__law_meeting [.sh (gd r p), .sh (rowD a), .sh (rowD b), .sh (.int x), .sh (.int y), .un, .un, .un, .un] = o := fun {o} h => by
    refine e_seq (e_set (big_len (fun _ => .un) ha.2 hb.2 rfl rfl) rfl) ?_
    refine e_seq (e_par (e_mS (e_f2 (e_var rfl) (e_f2 e_c (e_f2 (e_var rfl) (e_cb1 (e_var rfl) (len_row ha.2)) (d_sub _ _)) (fil_mul l3 l1)) (row_app _ _ (by rw [List.length_replicate]; omega)))) (e_mS (e_f2 (e_var rfl) (e_f2 e_c (e_f2 (e_var rfl) (e_cb1 (e_var rfl) (len_row hb.2)) (d_sub _ _)) (fil_mul l3 l2)) (row_app _ _ (by rw [List.length_replicate]; omega)))) rfl) ?_
    exact h
  have hr : (iRng1F (aCons (fVar 5) aNil)) [.sh (gd r p), .sh (rowD (fil a (big a b))), .sh (rowD (fil b (big a b))), .sh (.int x), .sh (.int y), .sh (.int (big a b : Nat)), .un, .un, .un] = .ok (rng 0 (big a b)) := e_rng1 (e_var rfl) (by omega)
  unfold meetD
  cases hm : met r p x y (fil a (big a b)) (fil b (big a b)) 0 with
  | some n =>
    rw [hm] at hloop
    exact d_fn rfl rfl (pre (e_seqR (e_for hr hloop)))
  | none =>
    rw [hm] at hloop
    exact d_fn rfl rfl (pre (e_seq (e_for hr hloop) rfl))
end
/-- the places exchanged -/
theorem met_swap (r : Bool) (p : Nat) : ∀ (cs ds : List Nat) (x y : Int) (h : Nat), met r p x y cs ds h = met r p y x ds cs h
  | [], [], _, _, _ => rfl
  | [], _ :: _, _, _, _ => rfl
  | _ :: _, [], _, _, _ => rfl
  | c :: cs, d :: ds, x, y, h => by
    unfold met
    by_cases hm : mv r p x c = mv r p y d ∨ (mv r p x c = y ∧ mv r p y d = x)
    · rw [if_pos hm, if_pos (by rcases hm with q | q; exact .inl q.symm; exact .inr ⟨q.2, q.1⟩)]
    · rw [if_neg hm, if_neg (by
        rintro (q | q)
        · exact hm (.inl q.symm)
        · exact hm (.inr ⟨q.2, q.1⟩))]
      exact met_swap r p cs ds _ _ _
theorem big_swap (a b : List Nat) : big a b = big b a := by unfold big; split <;> split <;> omega
theorem meetD_swap (r : Bool) (p : Nat) (a b : List Nat) (x y : Int) : meetD r p a b x y = meetD r p b a y x := by unfold meetD; rw [met_swap, big_swap]
/-! pairs of places -/
def prs (p : Nat) : List (Int × Int) := ((List.range p).flatMap fun i => (List.range p).filterMap fun j => if j = i then none else some (((i : Nat) : Int), ((j : Nat) : Int)))
def prD (q : Int × Int) : D := .tuple [.int q.1, .int q.2]
theorem prs_ev : (grounds.all fun g => okD (fn_pairs_of [gd g.1 g.2]) (.list ((prs g.2).map prD)) && okD (fn__law_pairs [gd g.1 g.2]) (.list ((prs g.2).map prD)) && (prs g.2).all (fun q => decide (0 ≤ q.1) && decide (q.1 < g.2) && decide (0 ≤ q.2) && decide (q.2 < g.2) && decide (q.1 ≠ q.2)) && decide ((prs g.2).length ≤ 30) && decide (0 < (prs g.2).length)) = true := by decide +kernel
section
variable {r : Bool} {p : Nat} (hg : (r, p) ∈ grounds)
include hg
theorem prs_ok : fn_pairs_of [gd r p] = .ok (.list ((prs p).map prD)) ∧ fn__law_pairs [gd r p] = .ok (.list ((prs p).map prD)) ∧ (∀ q ∈ prs p, 0 ≤ q.1 ∧ q.1 < p ∧ 0 ≤ q.2 ∧ q.2 < p ∧ q.1 ≠ q.2) ∧ (prs p).length ≤ 30 ∧ 0 < (prs p).length := by
  have h := List.all_eq_true.mp prs_ev (r, p) hg
  simp only [Bool.and_eq_true, decide_eq_true_eq] at h
  refine ⟨okD_eq h.1.1.1.1, okD_eq h.1.1.1.2, fun q hq => ?_, h.1.2, h.2⟩
  have z := List.all_eq_true.mp h.1.1.2 q hq
  simp only [Bool.and_eq_true, decide_eq_true_eq] at z
  exact ⟨z.1.1.1.1, z.1.1.1.2, z.1.1.2, z.1.2, z.2⟩
end
def hrs (r : Bool) (p : Nat) (a b : List Nat) (l : List (Int × Int)) : List D := l.map fun q => hourD (meetD r p a b q.1 q.2)
theorem truD_bool (b : Bool) : truD (.bool b) = some b := rfl
/-- None in the hours -/
theorem any_none (r : Bool) (p : Nat) (a b : List Nat) (l : List (Int × Int)) : dIn .none (.list (hrs r p a b l)) = some (.bool (l.any fun q => (meetD r p a b q.1 q.2).isNone)) := by
  have hs : shal .none = true := shal_none
  show (if shal .none = true then some (PyData.bool (dInL .none (hrs r p a b l))) else none) = _
  rw [if_pos hs]
  congr 2
  unfold dInL hrs
  rw [List.any_map]
  congr 1
  funext q
  show PyData.eqv (hourD (meetD r p a b q.1 q.2)) .none = _
  cases meetD r p a b q.1 q.2 <;> simp [hourD, PyData.eqv]
theorem hours_ints (r : Bool) (p : Nat) (a b : List Nat) : ∀ l : List (Int × Int), (l.any fun q => (meetD r p a b q.1 q.2).isNone) = false → ∃ ns : List Int, intsD (hrs r p a b l) = some ns ∧ ns.length = l.length
  | [], _ => ⟨[], rfl, rfl⟩
  | q :: l, h => by
    rw [List.any_cons, Bool.or_eq_false_iff] at h
    obtain ⟨ns, h1, h2⟩ := hours_ints r p a b l h.2
    cases hm : meetD r p a b q.1 q.2 with
    | none => rw [hm] at h; cases h.1
    | some n =>
      refine ⟨((n : Nat) : Int) :: ns, ?_, by rw [List.length_cons, List.length_cons, h2]⟩
      show intsD (hourD (meetD r p a b q.1 q.2) :: hrs r p a b l) = _
      rw [hm]
      show (intsD (hrs r p a b l)).map (((n : Nat) : Int) :: ·) = _
      rw [h1]; rfl
def mx (l : List D) : D := match dMaxL [.list l] with
  | some d => d
  | none => .none
theorem mx_ok {l : List D} {ns : List Int} (h : intsD l = some ns) (h0 : 0 < ns.length) : dMaxL [.list l] = some (mx l) := by
  have e : dMaxL [.list l] = (match intsD l with | some (n :: ns) => some (.int (ns.foldl (fun a y => if a < y then y else a) n)) | _ => none) := rfl
  unfold mx
  rw [e, h]
  cases ns with
  | nil => cases h0
  | cons n ns => rfl
def worstD (r : Bool) (p : Nat) (a b : List Nat) : D := if ((prs p).any fun q => (meetD r p a b q.1 q.2).isNone) = true then .none else mx (hrs r p a b (prs p))
section
variable {r : Bool} {p : Nat} (hg : (r, p) ∈ grounds) {a b : List Nat} (ha : RowOk a) (hb : RowOk b)
include hg ha hb
theorem worst_lc (s3 s4 : Sl) : ∀ l : List (Int × Int), (∀ q ∈ l, q ∈ prs p) → lcGo (Tgt.nm 3) bYes (one (fCall fn_meeting_of (aCons (fVar 0) (aCons (fVar 1) (aCons (fVar 2) (aCons (fVar 3) aNil)))))) [.sh (gd r p), .sh (rowD a), .sh (rowD b), s3, s4] (l.map prD) = .ok (hrs r p a b l)
  | [], _ => rfl
  | q :: l, h => by
    obtain ⟨q0, q1, q2, q3, _⟩ := (prs_ok hg).2.2.1 q (h q List.mem_cons_self)
    exact e_lcC (ys := [hourD (meetD r p a b q.1 q.2)]) rfl rfl (e_one (e_call (e_cons (e_var rfl) (e_cons (e_var rfl) (e_cons (e_var rfl) (e_cons (e_var rfl) e_nil)))) (meeting_of_eq hg ha hb q0 q1 q2 q3))) (worst_lc s3 s4 l fun z hz => h z (List.mem_cons_of_mem _ hz))
theorem worst_of_eq : fn_worst_of [gd r p, rowD a, rowD b] = .ok (worstD r p a b) := by
  obtain ⟨h1, _, h3, h4, h5⟩ := prs_ok hg
  refine d_fn (e := [.sh (gd r p), .sh (rowD a), .sh (rowD b), .un, .un]) rfl rfl ?_
  refine e_seq (e_setF (e_lc (e_iSeq (e_call (e_cons (e_var rfl) e_nil) h1) rfl) (worst_lc hg ha hb .un .un (prs p) fun _ h => h) (le_line (by show ((prs p).map _).length ≤ 1000000; rw [List.length_map]; omega))) rfl) ?_
  refine e_ret (e_fIf (e_B (e_f2 e_c (e_var rfl) (any_none r p a b (prs p)))) ?_)
  unfold worstD
  cases hn : (prs p).any fun q => (meetD r p a b q.1 q.2).isNone with
  | true => rfl
  | false =>
    obtain ⟨ns, i1, i2⟩ := hours_ints r p a b (prs p) hn
    rw [if_neg (by decide), if_neg (by decide)]
    exact e_cb1 (e_var rfl) (mx_ok i1 (by omega))
theorem check2 {e : List Sl} (h0 : e[0]? = some (.sh (gd r p))) (h1 : e[1]? = some (.sh (rowD a))) (h2 : e[2]? = some (.sh (rowD b))) : sDrop (fCall fn_check_rows (aCons (fVar 0) (aCons (fLst (aCons (fVar 1) (aCons (fVar 2) aNil))) aNil))) e = .nx e :=
  e_drop (e_call (e_cons (e_var h0) (e_cons (e_lst (e_cons (e_var h1) (e_cons (e_var h2) e_nil)) (le_line (by show 2 ≤ 1000000; omega))) e_nil)) (rows_ok hg (rows := [a, b]) fun m hm => by
    rcases List.mem_cons.mp hm with e | e
    · rw [e]; exact ha
    · rw [List.mem_singleton.mp e]; exact hb))
theorem worst_eq : fn_worst [gd r p, rowD a, rowD b] = .ok (worstD r p a b) := by
  refine d_fn (e := [.sh (gd r p), .sh (rowD a), .sh (rowD b)]) rfl rfl ?_
  refine e_seq (check2 hg ha hb rfl rfl rfl) ?_
  exact e_ret (e_call (e_cons (e_var rfl) (e_cons (e_var rfl) (e_cons (e_var rfl) e_nil))) (worst_of_eq hg ha hb))
end
def openL (r : Bool) (p : Nat) (a b : List Nat) (l : List (Int × Int)) : List D := (l.filter fun q => (meetD r p a b q.1 q.2).isNone).map prD
theorem isD_hour (o : Option Nat) : isD (hourD o) .none = some (.bool o.isNone) := by cases o <;> rfl
section
variable {r : Bool} {p : Nat} (hg : (r, p) ∈ grounds) {a b : List Nat} (ha : RowOk a) (hb : RowOk b)
include hg ha hb
theorem open_lc (s3 : Sl) : ∀ l : List (Int × Int), (∀ q ∈ l, q ∈ prs p) → lcGo (Tgt.nm 3) (fB (f2 isD (fCall fn_meeting_of (aCons (fVar 0) (aCons (fVar 1) (aCons (fVar 2) (aCons (fVar 3) aNil))))) (fC .none))) (one (fVar 3)) [.sh (gd r p), .sh (rowD a), .sh (rowD b), s3] (l.map prD) = .ok (openL r p a b l)
  | [], _ => rfl
  | q :: l, h => by
    obtain ⟨q0, q1, q2, q3, _⟩ := (prs_ok hg).2.2.1 q (h q List.mem_cons_self)
    have ih := open_lc s3 l fun z hz => h z (List.mem_cons_of_mem _ hz)
    have ht : fB (f2 isD (fCall fn_meeting_of (aCons (fVar 0) (aCons (fVar 1) (aCons (fVar 2) (aCons (fVar 3) aNil))))) (fC .none)) [.sh (gd r p), .sh (rowD a), .sh (rowD b), .sh (prD q)] = .ok (meetD r p a b q.1 q.2).isNone :=
      e_B (e_f2 (e_call (e_cons (e_var rfl) (e_cons (e_var rfl) (e_cons (e_var rfl) (e_cons (e_var rfl) e_nil)))) (meeting_of_eq hg ha hb q0 q1 q2 q3)) e_c (isD_hour _))
    unfold openL at ih ⊢
    cases hn : (meetD r p a b q.1 q.2).isNone with
    | true =>
      rw [hn] at ht
      rw [List.filter_cons_of_pos (by rw [hn]), List.map_cons]
      exact e_lcC (ys := [prD q]) rfl ht (e_one (e_var rfl)) ih
    | false =>
      rw [hn] at ht
      rw [List.filter_cons_of_neg (by rw [hn]; decide)]
      exact e_lcS rfl ht ih
theorem open_len (l : List (Int × Int)) : (openL r p a b l).length ≤ l.length := by unfold openL; rw [List.length_map]; exact List.length_filter_le _ _
theorem open_eq : fn_open_places [gd r p, rowD a, rowD b] = .ok (.list (openL r p a b (prs p))) := by
  obtain ⟨h1, _, h3, h4, h5⟩ := prs_ok hg
  have hl := open_len hg ha hb (prs p)
  refine d_fnN (e := [.sh (gd r p), .sh (rowD a), .sh (rowD b), .un]) rfl rfl ?_
  refine e_seq (check2 hg ha hb rfl rfl rfl) ?_
  exact e_retN (e_lc (e_iSeq (e_call (e_cons (e_var rfl) e_nil) h1) rfl) (open_lc hg ha hb .un (prs p) fun _ h => h) (le_line (by omega)))
end
/-- one row for both, in a ring of more than two places -/
theorem apart_ev : ([3, 4, 5, 6].all fun p => (List.range p).all fun x => (List.range p).all fun y => sg.all fun c => decide (x = y) || (!decide (mv true p x c = mv true p y c) && !(decide (mv true p x c = y) && decide (mv true p y c = x)))) = true := by decide +kernel
theorem never {p : Nat} (hg : (true, p) ∈ grounds) (hp : 2 < p) : ∀ (cs : List Nat) (x y : Int) (h : Nat), (∀ c ∈ cs, c ∈ sg) → 0 ≤ x → x < p → 0 ≤ y → y < p → x ≠ y → met true p x y cs cs h = none
  | [], _, _, _, _, _, _, _, _, _ => rfl
  | c :: cs, x, y, h, hc, x0, x1, y0, y1, hxy => by
    have hp' : p ∈ [3, 4, 5, 6] := by
      have := p_ok hg
      have : p = 3 ∨ p = 4 ∨ p = 5 ∨ p = 6 := by omega
      simpa using this
    have e := List.all_eq_true.mp (List.all_eq_true.mp (List.all_eq_true.mp (List.all_eq_true.mp apart_ev p hp') x.toNat (List.mem_range.mpr (by omega))) y.toNat (List.mem_range.mpr (by omega))) c (hc c List.mem_cons_self)
    rw [Int.toNat_of_nonneg x0, Int.toNat_of_nonneg y0] at e
    have hne : decide (x.toNat = y.toNat) = false := decide_eq_false (by omega)
    rw [hne, Bool.false_or, Bool.and_eq_true] at e
    have n1 : mv true p x c ≠ mv true p y c := by have := e.1; simpa using this
    have n2 : ¬ (mv true p x c = y ∧ mv true p y c = x) := fun z => by
      have := e.2
      rw [decide_eq_true z.1, decide_eq_true z.2] at this
      cases this
    unfold met
    rw [if_neg (by rintro (q | q); exact n1 q; exact n2 q)]
    obtain ⟨_, _, m0, m1⟩ := moved_eq hg x0 x1 (hc c List.mem_cons_self)
    obtain ⟨_, _, k0, k1⟩ := moved_eq hg y0 y1 (hc c List.mem_cons_self)
    exact never hg hp cs _ _ _ (fun d hd => hc d (List.mem_cons_of_mem _ hd)) m0 m1 k0 k1 n1
theorem open_all {p : Nat} (hg : (true, p) ∈ grounds) (hp : 2 < p) {a : List Nat} (ha : RowOk a) : openL true p a a (prs p) = (prs p).map prD := by
  unfold openL
  congr 1
  refine List.filter_eq_self.mpr fun q hq => ?_
  obtain ⟨q0, q1, q2, q3, q4⟩ := (prs_ok hg).2.2.1 q hq
  obtain ⟨l1, _, l3⟩ := big_le ha.2 ha.2
  have : meetD true p a a q.1 q.2 = none := never hg hp _ _ _ _ (fil_ok ha l3 l1).1 q0 q1 q2 q3 q4
  rw [this]; rfl
/-- towards one another -/
theorem towards_ev : ([2, 3, 4, 5, 6].all fun p => okD (fn_towards [gd true p]) (.tuple [rowD (List.replicate (p / 2) 114), rowD (List.replicate (p / 2) 108)]) && okD (fn_worst [gd true p, rowD (List.replicate (p / 2) 114), rowD (List.replicate (p / 2) 108)]) (.int ((p / 2 : Nat) : Int)) && okO (dMul (.str "r") (.int ((p / 2 : Nat) : Int))) (rowD (List.replicate (p / 2) 114)) && okO (dMul (.str "l") (.int ((p / 2 : Nat) : Int))) (rowD (List.replicate (p / 2) 108))) = true := by decide +kernel
def bStep : FS := (sSeq (sSet 10 (fCall fn__law_move (aCons (fVar 3) (aCons (fVar 10) (aCons (fVar 12) aNil)))))
  (sApp 11 (fVar 10)))
def bPl : FS := (sSeq (sPar 10 11 (mS (fVar 9)) (mN (fLst (aCons (fVar 9) aNil))))
  (sSeq (sFor (Tgt.nm 12) (iSeq (fVar 7)) bStep)
  (sSeq (sSetN 13 (fCall fn_walk (aCons (fVar 3) (aCons (fVar 7) (aCons (fVar 9) aNil)))))
  (sSeq (sIf (fThB (fRNe (fVar 13) (fVar 11))) (sRet (fC (.bool false))) sNext)
  (sSeq (sApp 13 (fC (.int 9)))
  (sIf (fThB (fB (f2 dNe (fCall fn_walk (aCons (fVar 3) (aCons (fVar 7) (aCons (fVar 9) aNil)))) (fVar 11)))) (sRet (fC (.bool false))) sNext))))))
def bPr : FS := (sSeq (sSet 11 (fCall fn__law_meeting (aCons (fVar 3) (aCons (fVar 7) (aCons (fVar 8) (aCons (fVar 16) (aCons (fVar 17) aNil)))))))
  (sSeq (sIf (fOr (fRNe (fCall fn_meeting (aCons (fVar 3) (aCons (fVar 7) (aCons (fVar 8) (aCons (fTup (aCons (fVar 16) (aCons (fVar 17) aNil))) aNil))))) (fVar 11)) (fB (f2 dNe (fCall fn_meeting (aCons (fVar 3) (aCons (fVar 8) (aCons (fVar 7) (aCons (fTup (aCons (fVar 17) (aCons (fVar 16) aNil))) aNil))))) (fVar 11)))) (sRet (fC (.bool false))) sNext)
  (sSeq (sApp 14 (fVar 11))
  (sIf (fB (f2 isD (fVar 11) (fC .none))) (sApp 15 (fTup (aCons (fVar 16) (aCons (fVar 17) aNil)))) sNext))))
theorem path_rng {r : Bool} {p : Nat} (hg : (r, p) ∈ grounds) : ∀ (cs : List Nat) (x : Int), (∀ c ∈ cs, c ∈ sg) → 0 ≤ x → x < p → ∀ y ∈ path r p x cs, 0 ≤ y ∧ y < p
  | [], x, _, h0, h1, y, hy => by rw [List.mem_singleton.mp hy]; exact ⟨h0, h1⟩
  | c :: cs, x, hc, h0, h1, y, hy => by
    rcases List.mem_cons.mp hy with e | e
    · rw [e]; exact ⟨h0, h1⟩
    · obtain ⟨_, _, m0, m1⟩ := moved_eq hg h0 h1 (hc c List.mem_cons_self)
      exact path_rng hg cs _ (fun d hd => hc d (List.mem_cons_of_mem _ hd)) m0 m1 y e
theorem path_small {r : Bool} {p : Nat} (hg : (r, p) ∈ grounds) {cs : List Nat} {x : Int} (hc : RowOk cs) (h0 : 0 ≤ x) (h1 : x < p) : Small 1 210 (.list ((path r p x cs).map .int)) := by
  have := p_ok hg
  have hl := hc.2
  refine (Small.list (k := 0) (w := 20) (n := 10) (fun d hd => ?_) ?_).mono (Nat.le_refl _) (Nat.le_refl _)
  · obtain ⟨y, hy, rfl⟩ := List.mem_map.mp hd
    have := path_rng hg cs x hc.1 h0 h1 y hy
    exact Small.int (by omega)
  · rw [List.length_map, path_len]; omega
section
variable {s0 s1 s2 x4 x5 x6 B x9 x10 x11 x12 x13 x14 x15 x16 x17 x18 x19 x20 x21 : Sl}
theorem due_step {r : Bool} {p : Nat} (hg : (r, p) ∈ grounds) (A : Sl) (c : Nat) (pre : List D) (y : Int) (hc : c ∈ sg) (h0 : 0 ≤ y) (h1 : y < p) (hl : pre.length ≤ 1000) :
    bStep [s0, s1, s2, .sh (gd r p), x4, x5, x6, A, B, x9, .sh (.int y), .own pre, .sh (oneS c), x13, x14, x15, x16, x17, x18, x19, x20, x21] = .nx [s0, s1, s2, .sh (gd r p), x4, x5, x6, A, B, x9, .sh (.int (mv r p y c)), .own (pre ++ [.int (mv r p y c)]), .sh (oneS c), x13, x14, x15, x16, x17, x18, x19, x20, x21] := by
  have m1 := (moved_eq hg h0 h1 hc).2.1
  exact e_seq (e_set (e_call (e_cons (e_var rfl) (e_cons (e_var rfl) (e_cons (e_var rfl) e_nil))) m1) rfl) (e_appI rfl (e_var rfl) (lt_line (by omega)) rfl)
theorem due_loop {r : Bool} {p : Nat} (hg : (r, p) ∈ grounds) (A : Sl) : ∀ (cs : List Nat) (pre : List D) (y : Int) (x12 : Sl), (∀ c ∈ cs, c ∈ sg) → 0 ≤ y → y < p → pre.length + cs.length + 1 ≤ 1000 →
    ∃ z s, loopF (Tgt.nm 12) bStep (cs.map oneS) [s0, s1, s2, .sh (gd r p), x4, x5, x6, A, B, x9, .sh (.int y), .own (pre ++ [.int y]), x12, x13, x14, x15, x16, x17, x18, x19, x20, x21] = .nx [s0, s1, s2, .sh (gd r p), x4, x5, x6, A, B, x9, z, .own (pre ++ (path r p y cs).map .int), s, x13, x14, x15, x16, x17, x18, x19, x20, x21] := by
  intro cs
  induction cs with
  | nil => exact fun pre y x12 _ _ _ _ => ⟨.sh (.int y), x12, rfl⟩
  | cons c cs ih =>
    intro pre y x12 hc h0 h1 hl
    have hl' : pre.length + (cs.length + 1) + 1 ≤ 1000 := hl
    obtain ⟨_, _, m2, m3⟩ := moved_eq hg h0 h1 (hc c List.mem_cons_self)
    obtain ⟨z, s, h⟩ := ih (pre ++ [.int y]) (mv r p y c) (.sh (oneS c)) (fun d hd => hc d (List.mem_cons_of_mem _ hd)) m2 m3 (by rw [List.length_append, List.length_singleton]; omega)
    have e : pre ++ (path r p y (c :: cs)).map PyData.int = (pre ++ [.int y]) ++ (path r p (mv r p y c) cs).map .int := by simp [path]
    rw [e]
    exact ⟨z, s, e_loopC (e := [s0, s1, s2, .sh (gd r p), x4, x5, x6, A, B, x9, .sh (.int y), .own (pre ++ [.int y]), .sh (oneS c), x13, x14, x15, x16, x17, x18, x19, x20, x21]) rfl (due_step hg A c (pre ++ [.int y]) y (hc c List.mem_cons_self) h0 h1 (by rw [List.length_append, List.length_singleton]; omega)) h⟩
theorem place_step {r : Bool} {p : Nat} (hg : (r, p) ∈ grounds) {a : List Nat} (ha : RowOk a) {x : Int} (h0 : 0 ≤ x) (h1 : x < p) :
    ∃ y10 y11 y12 y13, bPl [s0, s1, s2, .sh (gd r p), x4, x5, x6, .sh (rowD a), B, .sh (.int x), x10, x11, x12, x13, x14, x15, x16, x17, x18, x19, x20, x21] = .nx [s0, s1, s2, .sh (gd r p), x4, x5, x6, .sh (rowD a), B, .sh (.int x), y10, y11, y12, y13, x14, x15, x16, x17, x18, x19, x20, x21] := by
  obtain ⟨z, s, h⟩ := due_loop (s0 := s0) (s1 := s1) (s2 := s2) (x4 := x4) (x5 := x5) (x6 := x6) (B := B) (x9 := .sh (.int x)) (x13 := x13) (x14 := x14) (x15 := x15) (x16 := x16) (x17 := x17) (x18 := x18) (x19 := x19) (x20 := x20) (x21 := x21) hg (.sh (rowD a)) a [] x x12 ha.1 h0 h1 (by have := ha.2; show 0 + a.length + 1 ≤ 1000; omega)
  have hw := walk_eq hg ha h0 h1
  have sm := path_small hg ha h0 h1
  have hlen : ((path r p x a).map PyData.int).length ≤ 1000000 := by rw [List.length_map, path_len]; have := ha.2; omega
  refine ⟨z, .own ((path r p x a).map .int), s, .own ((path r p x a).map .int ++ [.int 9]), ?_⟩
  refine e_seq (e_par (e_mS (e_var rfl)) (e_mN (e_lst (e_cons (e_var rfl) e_nil) (le_line (by show 1 ≤ 1000000; omega)))) rfl) ?_
  refine e_seq (e_for (e_iSeq (e_var rfl) (seq_row a)) h) ?_
  refine e_seq (e_setN (e_call (e_cons (e_var rfl) (e_cons (e_var rfl) (e_cons (e_var rfl) e_nil))) hw) rfl) ?_
  refine e_seq (e_if (b := false) (e_thM (e_RNe sm (by omega) (by omega) (e_var rfl) (e_var rfl))) rfl) ?_
  refine e_seq (e_appI rfl e_c (lt_line hlen) rfl) ?_
  exact e_if (b := false) (e_thM (e_B (e_f2 (e_call (e_cons (e_var rfl) (e_cons (e_var rfl) (e_cons (e_var rfl) e_nil))) hw) (e_var rfl) (sm.ne (by omega))))) rfl
theorem place_loop {r : Bool} {p : Nat} (hg : (r, p) ∈ grounds) {a : List Nat} (ha : RowOk a) : ∃ y9 y10 y11 y12 y13, loopF (Tgt.nm 9) bPl (rng 0 p) [s0, s1, s2, .sh (gd r p), x4, x5, x6, .sh (rowD a), B, x9, x10, x11, x12, x13, x14, x15, x16, x17, x18, x19, x20, x21] = .nx [s0, s1, s2, .sh (gd r p), x4, x5, x6, .sh (rowD a), B, y9, y10, y11, y12, y13, x14, x15, x16, x17, x18, x19, x20, x21] := by
  obtain ⟨e', h, y9, y10, y11, y12, y13, rfl⟩ := loopF_inv (t := Tgt.nm 9) (body := bPl) (ds := rng 0 p) (I := fun _ e => ∃ y9 y10 y11 y12 y13, e = [s0, s1, s2, .sh (gd r p), x4, x5, x6, .sh (rowD a), B, y9, y10, y11, y12, y13, x14, x15, x16, x17, x18, x19, x20, x21]) (fun i e d hd ⟨y9, y10, y11, y12, y13, he⟩ => by
    subst he
    obtain ⟨hi, rfl⟩ := rng_get hd
    obtain ⟨z10, z11, z12, z13, hz⟩ := place_step (s0 := s0) (s1 := s1) (s2 := s2) (x4 := x4) (x5 := x5) (x6 := x6) (B := B) (x10 := y10) (x11 := y11) (x12 := y12) (x13 := y13) (x14 := x14) (x15 := x15) (x16 := x16) (x17 := x17) (x18 := x18) (x19 := x19) (x20 := x20) (x21 := x21) hg ha (x := 0 + (i : Int)) (by omega) (by omega)
    exact ⟨_, _, rfl, hz, _, z10, z11, z12, z13, rfl⟩) _ ⟨x9, x10, x11, x12, x13, rfl⟩
  exact ⟨y9, y10, y11, y12, y13, h⟩
theorem hour_small (o : Option Nat) (h : ∀ n, o = some n → n ≤ 1000) : Small 0 20 (hourD o) := by
  cases o with
  | none => exact Small.none.mono (Nat.le_refl _) (by omega)
  | some n => exact Small.int (by have := h n rfl; omega)
theorem met_le (r : Bool) (p : Nat) : ∀ (cs ds : List Nat) (x y : Int) (h n : Nat), met r p x y cs ds h = some n → n ≤ h + cs.length
  | [], [], _, _, _, _, e => by cases e
  | [], _ :: _, _, _, _, _, e => by cases e
  | _ :: _, [], _, _, _, _, e => by cases e
  | c :: cs, d :: ds, x, y, h, n, e => by
    unfold met at e
    split at e
    · cases e; show h + 1 ≤ h + (cs.length + 1); omega
    · have := met_le r p cs ds _ _ _ _ e
      show n ≤ h + (cs.length + 1); omega
theorem meetD_small (r : Bool) (p : Nat) {a b : List Nat} (ha : RowOk a) (hb : RowOk b) (x y : Int) : Small 0 20 (hourD (meetD r p a b x y)) := by
  obtain ⟨l1, l2, l3⟩ := big_le ha.2 hb.2
  exact hour_small _ fun n e => by
    have := met_le r p _ _ _ _ _ _ e
    rw [fil_len l1] at this
    omega
theorem pair_step {r : Bool} {p : Nat} (hg : (r, p) ∈ grounds) {a b : List Nat} (ha : RowOk a) (hb : RowOk b) {q : Int × Int} (hq : q ∈ prs p) (l : List (Int × Int)) (hl : l.length ≤ 1000) :
    bPr [s0, s1, s2, .sh (gd r p), x4, x5, x6, .sh (rowD a), .sh (rowD b), x9, x10, x11, x12, x13, .own (hrs r p a b l), .own (openL r p a b l), .sh (.int q.1), .sh (.int q.2), x18, x19, x20, x21] = .nx [s0, s1, s2, .sh (gd r p), x4, x5, x6, .sh (rowD a), .sh (rowD b), x9, x10, .sh (hourD (meetD r p a b q.1 q.2)), x12, x13, .own (hrs r p a b (l ++ [q])), .own (openL r p a b (l ++ [q])), .sh (.int q.1), .sh (.int q.2), x18, x19, x20, x21] := by
  obtain ⟨q0, q1, q2, q3, q4⟩ := (prs_ok hg).2.2.1 q hq
  have sm := meetD_small r p ha hb q.1 q.2
  have m1 := meeting_eq hg ha hb q0 q1 q2 q3 q4
  have m2 := meeting_eq hg hb ha q2 q3 q0 q1 (Ne.symm q4)
  rw [meetD_swap] at m2
  have hh : hrs r p a b (l ++ [q]) = hrs r p a b l ++ [hourD (meetD r p a b q.1 q.2)] := by unfold hrs; rw [List.map_append]; rfl
  refine e_seq (e_set (e_call (e_cons (e_var rfl) (e_cons (e_var rfl) (e_cons (e_var rfl) (e_cons (e_var rfl) (e_cons (e_var rfl) e_nil))))) (law_meeting_eq hg ha hb q0 q1 q2 q3)) rfl) ?_
  refine e_seq (e_if (b := false || false) (e_or (e_RNe sm (by omega) (by omega) (e_call (e_cons (e_var rfl) (e_cons (e_var rfl) (e_cons (e_var rfl) (e_cons (e_tup (e_cons (e_var rfl) (e_cons (e_var rfl) e_nil)) (le_line (by show 2 ≤ 1000000; omega))) e_nil)))) m1) (e_var rfl)) fun _ => e_B (e_f2 (e_call (e_cons (e_var rfl) (e_cons (e_var rfl) (e_cons (e_var rfl) (e_cons (e_tup (e_cons (e_var rfl) (e_cons (e_var rfl) e_nil)) (le_line (by show 2 ≤ 1000000; omega))) e_nil)))) m2) (e_var rfl) (sm.ne (by omega)))) rfl) ?_
  refine e_seq (e_appI rfl (e_var rfl) (lt_line (by unfold hrs; rw [List.length_map]; omega)) rfl) ?_
  refine e_if (e_B (e_f2 (e_var rfl) e_c (isD_hour _))) ?_
  rw [hh]
  have ho : openL r p a b (l ++ [q]) = openL r p a b l ++ (if (meetD r p a b q.1 q.2).isNone = true then [prD q] else []) := by
    unfold openL
    rw [List.filter_append, List.map_append]
    congr 1
    by_cases hn : (meetD r p a b q.1 q.2).isNone = true
    · rw [if_pos hn]; simp [List.filter, hn]
    · rw [if_neg hn]; simp [List.filter, hn]
  rw [ho]
  by_cases hn : (meetD r p a b q.1 q.2).isNone = true
  · rw [if_pos hn, if_pos hn]
    have hlen := open_len hg ha hb l
    exact e_appI rfl (e_tup (e_cons (e_var rfl) (e_cons (e_var rfl) e_nil)) (le_line (by show 2 ≤ 1000000; omega))) (lt_line (by omega)) rfl
  · rw [if_neg hn, if_neg hn, List.append_nil]
    rfl
theorem pair_loop {r : Bool} {p : Nat} (hg : (r, p) ∈ grounds) {a b : List Nat} (ha : RowOk a) (hb : RowOk b) : ∃ y11 y16 y17, loopF (Tgt.tp [16, 17]) bPr ((prs p).map prD) [s0, s1, s2, .sh (gd r p), x4, x5, x6, .sh (rowD a), .sh (rowD b), x9, x10, x11, x12, x13, .own [], .own [], x16, x17, x18, x19, x20, x21] = .nx [s0, s1, s2, .sh (gd r p), x4, x5, x6, .sh (rowD a), .sh (rowD b), x9, x10, y11, x12, x13, .own (hrs r p a b (prs p)), .own (openL r p a b (prs p)), y16, y17, x18, x19, x20, x21] := by
  have hlen := (prs_ok hg).2.2.2.1
  obtain ⟨e', h, y11, y16, y17, rfl⟩ := loopF_inv (t := Tgt.tp [16, 17]) (body := bPr) (ds := (prs p).map prD) (I := fun i e => ∃ y11 y16 y17, e = [s0, s1, s2, .sh (gd r p), x4, x5, x6, .sh (rowD a), .sh (rowD b), x9, x10, y11, x12, x13, .own (hrs r p a b ((prs p).take i)), .own (openL r p a b ((prs p).take i)), y16, y17, x18, x19, x20, x21]) (fun i e d hd ⟨y11, y16, y17, he⟩ => by
    subst he
    rw [List.getElem?_map] at hd
    cases hq : (prs p)[i]? with
    | none => rw [hq] at hd; cases hd
    | some q =>
      rw [hq] at hd
      cases hd
      have hm : q ∈ prs p := List.mem_of_getElem? hq
      have ht : (prs p).take (i + 1) = (prs p).take i ++ [q] := by rw [List.take_succ, hq]; rfl
      rw [ht]
      exact ⟨_, _, rfl, pair_step hg ha hb hm ((prs p).take i) (by rw [List.length_take]; omega), _, _, _, rfl⟩) _ ⟨x11, x16, x17, rfl⟩
  rw [List.length_map, List.take_length] at h
  exact ⟨y11, y16, y17, h⟩
end
theorem hours_small (r : Bool) (p : Nat) {a b : List Nat} (ha : RowOk a) (hb : RowOk b) : ∀ (l : List (Int × Int)) (ns : List Int), intsD (hrs r p a b l) = some ns → ∀ n ∈ ns, n.natAbs < 1000000
  | [], ns, h, n, hn => by cases h; cases hn
  | q :: l, ns, h, n, hn => by
    have h : intsD (hourD (meetD r p a b q.1 q.2) :: hrs r p a b l) = some ns := h
    cases hm : meetD r p a b q.1 q.2 with
    | none => rw [hm] at h; cases h
    | some k =>
      rw [hm] at h
      have h : (intsD (hrs r p a b l)).map (((k : Nat) : Int) :: ·) = some ns := h
      cases hi : intsD (hrs r p a b l) with
      | none => rw [hi] at h; cases h
      | some ms =>
        rw [hi] at h
        cases h
        rcases List.mem_cons.mp hn with e | e
        · obtain ⟨l1, l2, l3⟩ := big_le ha.2 hb.2
          have := met_le r p _ _ _ _ _ _ hm
          rw [fil_len l1] at this
          rw [e]; omega
        · exact hours_small r p ha hb l ms hi n e
theorem worst_small {r : Bool} {p : Nat} (hg : (r, p) ∈ grounds) {a b : List Nat} (ha : RowOk a) (hb : RowOk b) : Small 0 20 (worstD r p a b) := by
  unfold worstD
  split
  · exact Small.none.mono (Nat.le_refl _) (by omega)
  · rename_i hn
    obtain ⟨ns, h1, h2⟩ := hours_ints r p a b (prs p) (Bool.eq_false_iff.mpr hn)
    have h0 := (prs_ok hg).2.2.2.2
    have hs := hours_small r p ha hb (prs p) ns h1
    cases ns with
    | nil => rw [← h2] at h0; cases h0
    | cons n ns =>
      have e : mx (hrs r p a b (prs p)) = .int (ns.foldl (fun a y => if a < y then y else a) n) := by
        have e : dMaxL [.list (hrs r p a b (prs p))] = (match intsD (hrs r p a b (prs p)) with | some (n :: ns) => some (.int (ns.foldl (fun a y => if a < y then y else a) n)) | _ => none) := rfl
        unfold mx
        rw [e, h1]
      rw [e]
      exact Small.int (hs _ (foldMax ns n).1)
theorem open_small {r : Bool} {p : Nat} (hg : (r, p) ∈ grounds) (a b : List Nat) : Small 2 1290 (.list (openL r p a b (prs p))) := by
  obtain ⟨_, _, h3, h4, _⟩ := prs_ok hg
  have hp := p_ok hg
  refine (Small.list (k := 1) (w := 42) (n := 30) (fun d hd => ?_) ?_).mono (Nat.le_refl _) (Nat.le_refl _)
  · unfold openL at hd
    obtain ⟨q, hq, rfl⟩ := List.mem_map.mp hd
    have hm := h3 q (List.mem_filter.mp hq).1
    refine (Small.tup (k := 0) (w := 20) (n := 2) (fun e he => ?_) (Nat.le_refl _)).mono (Nat.le_refl _) (Nat.le_refl _)
    rcases List.mem_cons.mp he with z | z
    · rw [z]; exact Small.int (by omega)
    · rw [List.mem_singleton.mp z]; exact Small.int (by omega)
  · unfold openL
    rw [List.length_map]
    exact Nat.le_trans (List.length_filter_le _ _) h4
theorem eq_nil (l : List D) : dEq (.list l) (.list []) = some (.bool l.isEmpty) := by
  have h : shal (.list []) = true := by decide
  unfold dEq
  rw [h, Bool.or_true, if_pos rfl]
  cases l <;> rfl
theorem open_empty (r : Bool) (p : Nat) (a b : List Nat) : ∀ l : List (Int × Int), (openL r p a b l).isEmpty = !(l.any fun q => (meetD r p a b q.1 q.2).isNone)
  | [] => rfl
  | q :: l => by
    have ih := open_empty r p a b l
    unfold openL at ih ⊢
    rw [List.any_cons]
    cases hn : (meetD r p a b q.1 q.2).isNone with
    | true => rw [List.filter_cons_of_pos (by rw [hn])]; rfl
    | false => rw [List.filter_cons_of_neg (by rw [hn]; decide), ih]; rfl
theorem kd_eq (r : Bool) : ((kd r) == ("ring" : Str)) = r := by cases r <;> decide
def bRing : FS := (sSeq (sSet 20 (fCall fn_towards (aCons (fVar 3) aNil)))
  (sSeq (sSet 21 (f2 dDiv (f2 dIx (fVar 3) (fC (.int 1))) (fC (.int 2))))
  (sSeq (sIf (fOr (fRNe (fVar 20) (fTup (aCons (f2 dMul (fC (.str "r")) (fVar 21)) (aCons (f2 dMul (fC (.str "l")) (fVar 21)) aNil)))) (fB (f2 dNe (fCall fn_worst (aCons (fVar 3) (aCons (f2 dIx (fVar 20) (fC (.int 0))) (aCons (f2 dIx (fVar 20) (fC (.int 1))) aNil)))) (fVar 21)))) (sRet (fC (.bool false))) sNext)
  (sIf (fAnd (fB (f2 dGt (f2 dIx (fVar 3) (fC (.int 1))) (fC (.int 2)))) (fB (f2 dNe (fCall fn_open_places (aCons (fVar 3) (aCons (fVar 7) (aCons (fVar 7) aNil)))) (fCall fn__law_pairs (aCons (fVar 3) aNil))))) (sRet (fC (.bool false))) sNext))))
def bZ : FS := (sSeq (sFor (Tgt.nm 9) (iRng1F (aCons (f2 dIx (fVar 3) (fC (.int 1))) aNil)) bPl)
  (sSeq (sPar 14 15 (mN (fLst aNil)) (mN (fLst aNil)))
  (sSeq (sFor (Tgt.tp [16, 17]) (iSeq (fCall fn__law_pairs (aCons (fVar 3) aNil))) bPr)
  (sSeq (sSet 18 (fC .none))
  (sSeq (sIf (fThB (fB (f2 dEq (fVar 15) (fLst aNil)))) (sSet 18 (fScal (fCB dMaxL (aCons (fVar 14) aNil)))) sNext)
  (sSeq (sSetN 19 (fCall fn_open_places (aCons (fVar 3) (aCons (fVar 7) (aCons (fVar 8) aNil)))))
  (sSeq (sIf (fOr (fRNe (fCall fn_worst (aCons (fVar 3) (aCons (fVar 7) (aCons (fVar 8) aNil)))) (fVar 18)) (fThB (fRNe (fVar 19) (fVar 15)))) (sRet (fC (.bool false))) sNext)
  (sSeq (sIf (fB (f2 dEq (f2 dIx (fVar 3) (fC (.int 0))) (fC (.str "ring")))) bRing sNext)
  (sSeq (sApp 19 (fTup aNil))
  (sIf (fThB (fB (f2 dNe (fCall fn_open_places (aCons (fVar 3) (aCons (fVar 7) (aCons (fVar 8) aNil)))) (fVar 15)))) (sRet (fC (.bool false))) sNext))))))))))
section
variable {s0 s1 s2 x4 x5 x6 x8 x9 x10 x11 x12 x13 x14 x15 x16 x17 x18 x19 x20 x21 : Sl}
theorem ring_step {p : Nat} (hg : (true, p) ∈ grounds) {a : List Nat} (ha : RowOk a) : ∃ y20 y21, bRing [s0, s1, s2, .sh (gd true p), x4, x5, x6, .sh (rowD a), x8, x9, x10, x11, x12, x13, x14, x15, x16, x17, x18, x19, x20, x21] = .nx [s0, s1, s2, .sh (gd true p), x4, x5, x6, .sh (rowD a), x8, x9, x10, x11, x12, x13, x14, x15, x16, x17, x18, x19, y20, y21] := by
  have hp := p_ok hg
  have hpm : p ∈ [2, 3, 4, 5, 6] := by
    have : p = 2 ∨ p = 3 ∨ p = 4 ∨ p = 5 ∨ p = 6 := by omega
    simpa using this
  have h := List.all_eq_true.mp towards_ev p hpm
  simp only [Bool.and_eq_true] at h
  have t1 := okD_eq h.1.1.1
  have t2 := okD_eq h.1.1.2
  have t3 := okO_eq h.1.2
  have t4 := okO_eq h.2
  have sm : Small 1 18 (.tuple [rowD (List.replicate (p / 2) 114), rowD (List.replicate (p / 2) 108)]) := by
    refine (Small.tup (k := 0) (w := 8) (n := 2) (fun d hd => ?_) (Nat.le_refl _)).mono (Nat.le_refl _) (Nat.le_refl _)
    rcases List.mem_cons.mp hd with z | z
    · rw [z]; exact (Small.str fun c hc => by rw [List.eq_of_mem_replicate hc]; omega).mono (Nat.le_refl _) (by rw [List.length_replicate]; omega)
    · rw [List.mem_singleton.mp z]; exact (Small.str fun c hc => by rw [List.eq_of_mem_replicate hc]; omega).mono (Nat.le_refl _) (by rw [List.length_replicate]; omega)
  have si : Small 0 20 (.int ((p / 2 : Nat) : Int)) := Small.int (by omega)
  have hdiv : dDiv (.int (p : Int)) (.int 2) = some (.int ((p / 2 : Nat) : Int)) := by rw [d_div ⟨by omega, by omega⟩]; congr 2
  refine ⟨.sh (.tuple [rowD (List.replicate (p / 2) 114), rowD (List.replicate (p / 2) 108)]), .sh (.int ((p / 2 : Nat) : Int)), ?_⟩
  refine e_seq (e_set (e_call (e_cons (e_var rfl) e_nil) t1) rfl) ?_
  refine e_seq (e_set (e_f2 (e_f2 (e_var rfl) e_c (ix_gd1 hg)) e_c hdiv) rfl) ?_
  refine e_seq (e_if (b := false || false) (e_or (e_RNe sm (by omega) (by omega) (e_var rfl) (e_tup (e_cons (e_f2 e_c (e_var rfl) t3) (e_cons (e_f2 e_c (e_var rfl) t4) e_nil)) (le_line (by show 2 ≤ 1000000; omega)))) fun _ => e_B (e_f2 (e_call (e_cons (e_var rfl) (e_cons (e_f2 (e_var rfl) e_c (show dIx (.tuple [rowD (List.replicate (p / 2) 114), rowD (List.replicate (p / 2) 108)]) (.int 0) = some (rowD (List.replicate (p / 2) 114)) from rfl)) (e_cons (e_f2 (e_var rfl) e_c (show dIx (.tuple [rowD (List.replicate (p / 2) 114), rowD (List.replicate (p / 2) 108)]) (.int 1) = some (rowD (List.replicate (p / 2) 108)) from rfl)) e_nil))) t2) (e_var rfl) (si.ne (by omega)))) rfl) ?_
  have hgt : fB (f2 dGt (f2 dIx (fVar 3) (fC (.int 1))) (fC (.int 2))) [s0, s1, s2, .sh (gd true p), x4, x5, x6, .sh (rowD a), x8, x9, x10, x11, x12, x13, x14, x15, x16, x17, x18, x19, .sh (.tuple [rowD (List.replicate (p / 2) 114), rowD (List.replicate (p / 2) 108)]), .sh (.int ((p / 2 : Nat) : Int))] = .ok (decide ((2 : Int) < p)) := e_B (e_f2 (e_f2 (e_var rfl) e_c (ix_gd1 hg)) e_c (dGt_int _ _))
  by_cases h2 : (2 : Int) < p
  · have ho := open_eq hg ha ha
    have so := open_small hg a a
    rw [open_all hg (by omega) ha] at ho so
    refine e_if (b := decide ((2 : Int) < p) && false) (e_and hgt fun _ => e_B (e_f2 (e_call (e_cons (e_var rfl) (e_cons (e_var rfl) (e_cons (e_var rfl) e_nil))) ho) (e_call (e_cons (e_var rfl) e_nil) (prs_ok hg).2.1) (so.ne (by omega)))) ?_
    rw [Bool.and_false, if_neg (by decide)]
    rfl
  · refine e_if (b := decide ((2 : Int) < p) && false) (e_and hgt fun z => absurd (of_decide_eq_true z) h2) ?_
    rw [Bool.and_false, if_neg (by decide)]
    rfl
theorem rest_step {r : Bool} {p : Nat} (hg : (r, p) ∈ grounds) {a b : List Nat} (ha : RowOk a) (hb : RowOk b) : ∃ l : List Sl, l.length = 13 ∧ bZ [s0, s1, s2, .sh (gd r p), x4, x5, x6, .sh (rowD a), .sh (rowD b), x9, x10, x11, x12, x13, x14, x15, x16, x17, x18, x19, x20, x21] = .nx ([s0, s1, s2, .sh (gd r p), x4, x5, x6, .sh (rowD a), .sh (rowD b)] ++ l) := by
  have hp := p_ok hg
  obtain ⟨y9, y10, y11, y12, y13, h1⟩ := place_loop (s0 := s0) (s1 := s1) (s2 := s2) (x4 := x4) (x5 := x5) (x6 := x6) (B := .sh (rowD b)) (x9 := x9) (x10 := x10) (x11 := x11) (x12 := x12) (x13 := x13) (x14 := x14) (x15 := x15) (x16 := x16) (x17 := x17) (x18 := x18) (x19 := x19) (x20 := x20) (x21 := x21) hg ha
  obtain ⟨z11, z16, z17, h2⟩ := pair_loop (s0 := s0) (s1 := s1) (s2 := s2) (x4 := x4) (x5 := x5) (x6 := x6) (x9 := y9) (x10 := y10) (x11 := y11) (x12 := y12) (x13 := y13) (x16 := x16) (x17 := x17) (x18 := x18) (x19 := x19) (x20 := x20) (x21 := x21) hg ha hb
  have hw := worst_eq hg ha hb
  have ho := open_eq hg ha hb
  have sw := worst_small hg ha hb
  have so := open_small hg a b
  have hlen := open_len hg ha hb (prs p)
  have hpl := (prs_ok hg).2.2.2.1
  have hring : ∃ y20 y21, sIf (fB (f2 dEq (f2 dIx (fVar 3) (fC (.int 0))) (fC (.str "ring")))) bRing sNext [s0, s1, s2, .sh (gd r p), x4, x5, x6, .sh (rowD a), .sh (rowD b), y9, y10, z11, y12, y13, .own (hrs r p a b (prs p)), .own (openL r p a b (prs p)), z16, z17, .sh (worstD r p a b), .own (openL r p a b (prs p)), x20, x21] = .nx [s0, s1, s2, .sh (gd r p), x4, x5, x6, .sh (rowD a), .sh (rowD b), y9, y10, z11, y12, y13, .own (hrs r p a b (prs p)), .own (openL r p a b (prs p)), z16, z17, .sh (worstD r p a b), .own (openL r p a b (prs p)), y20, y21] := by
    have hc : fB (f2 dEq (f2 dIx (fVar 3) (fC (.int 0))) (fC (.str "ring"))) [s0, s1, s2, .sh (gd r p), x4, x5, x6, .sh (rowD a), .sh (rowD b), y9, y10, z11, y12, y13, .own (hrs r p a b (prs p)), .own (openL r p a b (prs p)), z16, z17, .sh (worstD r p a b), .own (openL r p a b (prs p)), x20, x21] = .ok r := e_B (e_f2 (e_f2 (e_var rfl) e_c (ix_gd0 hg)) e_c (by rw [dEq_str, kd_eq]))
    cases r with
    | true =>
      obtain ⟨y20, y21, h⟩ := ring_step (s0 := s0) (s1 := s1) (s2 := s2) (x4 := x4) (x5 := x5) (x6 := x6) (x8 := .sh (rowD b)) (x9 := y9) (x10 := y10) (x11 := z11) (x12 := y12) (x13 := y13) (x14 := .own (hrs true p a b (prs p))) (x15 := .own (openL true p a b (prs p))) (x16 := z16) (x17 := z17) (x18 := .sh (worstD true p a b)) (x19 := .own (openL true p a b (prs p))) (x20 := x20) (x21 := x21) hg ha
      exact ⟨y20, y21, e_if hc h⟩
    | false => exact ⟨x20, x21, e_if hc rfl⟩
  obtain ⟨y20, y21, h3⟩ := hring
  refine ⟨[y9, y10, z11, y12, y13, .own (hrs r p a b (prs p)), .own (openL r p a b (prs p)), z16, z17, .sh (worstD r p a b), .own (openL r p a b (prs p) ++ [.tuple []]), y20, y21], rfl, ?_⟩
  refine e_seq (e_for (e_rng1 (e_f2 (e_var rfl) e_c (ix_gd1 hg)) (by omega)) h1) ?_
  refine e_seq (e_par (e_mN e_lst0) (e_mN e_lst0) rfl) ?_
  refine e_seq (e_for (e_iSeq (e_call (e_cons (e_var rfl) e_nil) (prs_ok hg).2.1) rfl) h2) ?_
  refine e_seq (e_set e_c rfl) ?_
  refine e_seq (e' := [s0, s1, s2, .sh (gd r p), x4, x5, x6, .sh (rowD a), .sh (rowD b), y9, y10, z11, y12, y13, .own (hrs r p a b (prs p)), .own (openL r p a b (prs p)), z16, z17, .sh (worstD r p a b), x19, x20, x21]) (e_if (e_thM (e_B (e_f2 (e_var rfl) e_lst0 (eq_nil _)))) ?_) ?_
  · rw [open_empty]
    unfold worstD
    cases hn : (prs p).any fun q => (meetD r p a b q.1 q.2).isNone with
    | true => rfl
    | false =>
      obtain ⟨ns, i1, i2⟩ := hours_ints r p a b (prs p) hn
      have h5 := (prs_ok hg).2.2.2.2
      have e : worstD r p a b = mx (hrs r p a b (prs p)) := by unfold worstD; rw [hn, if_neg (by decide)]
      rw [if_pos (by decide), if_neg (by decide)]
      have hs : scalD (mx (hrs r p a b (prs p))) = true := by
        have e2 : dMaxL [.list (hrs r p a b (prs p))] = (match intsD (hrs r p a b (prs p)) with | some (n :: ns) => some (.int (ns.foldl (fun a y => if a < y then y else a) n)) | _ => none) := rfl
        unfold mx
        rw [e2, i1]
        cases ns with
        | nil => rw [← i2] at h5; cases h5
        | cons n ns => rfl
      exact e_set (e_scalM (e_cb1 (e_var rfl) (mx_ok i1 (by omega))) hs) rfl
  refine e_seq (e_setN (e_call (e_cons (e_var rfl) (e_cons (e_var rfl) (e_cons (e_var rfl) e_nil))) ho) rfl) ?_
  refine e_seq (e_if (b := false || false) (e_or (e_RNe sw (by omega) (by omega) (e_call (e_cons (e_var rfl) (e_cons (e_var rfl) (e_cons (e_var rfl) e_nil))) hw) (e_var rfl)) fun _ => e_thM (e_RNe so (by omega) (by omega) (e_var rfl) (e_var rfl))) rfl) ?_
  refine e_seq h3 ?_
  refine e_seq (e_appI rfl (e_tup e_nil (le_line (by show 0 ≤ 1000000; omega))) (lt_line (by omega)) rfl) ?_
  exact e_if (b := false) (e_thM (e_B (e_f2 (e_call (e_cons (e_var rfl) (e_cons (e_var rfl) (e_cons (e_var rfl) e_nil))) ho) (e_var rfl) (so.ne (by omega))))) rfl
end
/-! the rows drawn -/
theorem sig_ev : ((List.range 3).all fun v => okO (dIx (.str "lrs") (.int v)) (oneS (sg.getD v 0))) = true := by decide +kernel
theorem sig_ok {v : Int} (h0 : 0 ≤ v) (h1 : v < 3) : ∃ c ∈ sg, dIx (.str "lrs") (.int v) = some (oneS c) := by
  have h := List.all_eq_true.mp sig_ev v.toNat (List.mem_range.mpr (by omega))
  rw [Int.toNat_of_nonneg h0] at h
  refine ⟨sg.getD v.toNat 0, ?_, okO_eq h⟩
  have : v.toNat = 0 ∨ v.toNat = 1 ∨ v.toNat = 2 := by omega
  rcases this with e | e | e <;> rw [e] <;> decide
theorem str_nil : ("" : Str) = ⟨#[]⟩ := by decide
theorem join_one : ∀ cs : List Nat, Str.join "" (cs.map fun c => (⟨#[c]⟩ : Str)) = ⟨cs.toArray⟩
  | [] => by decide
  | [c] => rfl
  | c :: d :: cs => by
    show (⟨#[c]⟩ : Str) ++ ("" : Str) ++ Str.join "" ((d :: cs).map fun c => (⟨#[c]⟩ : Str)) = _
    rw [join_one (d :: cs), str_nil]
    show (⟨#[c] ++ #[] ++ (d :: cs).toArray⟩ : Str) = _
    congr 1
    simp
theorem ones_strs (cs : List Nat) : strsD (cs.map oneS) = some (cs.map fun c => (⟨#[c]⟩ : Str)) := by
  have : cs.map oneS = (cs.map fun c => (⟨#[c]⟩ : Str)).map PyData.str := by rw [List.map_map]; rfl
  rw [this, strsD_map]
theorem join_ok {cs : List Nat} (h : cs.length ≤ 1000) : dJoin (.str "") (.list (cs.map oneS)) = some (rowD cs) := by
  show (strsD (cs.map oneS)).bind _ = _
  rw [ones_strs]
  have hs : ((cs.map fun c => (⟨#[c]⟩ : Str)).map (·.length)).sum = cs.length := by
    clear h
    induction cs with
    | nil => rfl
    | cons c cs ih => rw [List.map_cons, List.map_cons, List.sum_cons, ih, List.length_cons]; show 1 + cs.length = _; omega
  have h0 : ("" : Str).length = 0 := by decide
  show (if ((cs.map fun c => (⟨#[c]⟩ : Str)).map (·.length)).sum + (cs.map fun c => (⟨#[c]⟩ : Str)).length * ("" : Str).length ≤ LINE then some (PyData.str (Txt.join "" (cs.map fun c => (⟨#[c]⟩ : Str)))) else none) = _
  rw [hs, h0, Nat.mul_zero, Nat.add_zero, if_pos (le_line (by omega)), TL.join_eq, join_one]
  rfl
theorem e_join {f f' : FE} {e : List Sl} {a : Str} {l c : D} (h : f e = .ok (.str a)) (h' : f' e = .ok l) (hk : dJoin (.str a) l = some c) : fJoin f f' e = .ok c := by
  unfold fJoin; rw [h]; show (f' e).bind _ = _; rw [h']; show Rs.ofO _ = _; rw [hk]; rfl
def fSig : FE := (f2 dIx (fC (.str "lrs")) (fCall fn__law_mix (aCons (fVar 1) (aCons (f2 dAdd (f2 dAdd (f2 dAdd (fC (.int 20)) (f2 dMul (fC (.int 30)) (fVar 2))) (f2 dMul (fC (.int 12)) (fVar 4))) (fVar 5)) (aCons (fC (.int 3)) aNil)))))
def fRow : FE := (fJoin (fC (.str "")) (fLc (iRng1F (aCons (fCall fn__law_mix (aCons (fVar 1) (aCons (f2 dAdd (f2 dAdd (fC (.int 6)) (f2 dMul (fC (.int 2)) (fVar 2))) (fVar 4)) (aCons (fC (.int 9)) aNil)))) aNil)) (Tgt.nm 5) bYes fSig [5]))
section
variable {s0 s3 x5 : Sl} {l : List Int} (hl : DrOk l) (hll : l.length ≤ 3780) {t k : Nat} (ht : t < 3) (hk : k < 2) {R : List Sl}
include hl hll ht hk
theorem B_ok {z : Int} (h1 : 0 ≤ z) (h2 : z < 1000000) : z.natAbs < BIT64 := by unfold BIT64; omega
theorem sig_lc : ∀ (n : Nat) (j : Int), 0 ≤ j → j + n ≤ 1000 → ∃ cs : List Nat, lcGo (Tgt.nm 5) bYes (one fSig) (s0 :: .sh (.list (intL l)) :: .sh (.int (t : Int)) :: s3 :: .sh (.int (k : Int)) :: x5 :: R) (rng j n) = .ok (cs.map oneS) ∧ (∀ c ∈ cs, c ∈ sg) ∧ cs.length = n
  | 0, _, _, _ => ⟨[], rfl, fun _ h => (nomatch h), rfl⟩
  | n + 1, j, h0, h1 => by
    obtain ⟨cs, i1, i2, i3⟩ := sig_lc n (j + 1) (by omega) (by omega)
    obtain ⟨v, hv, v0, v1⟩ := mix_ok l hl hll (20 + 30 * (t : Int) + 12 * (k : Int) + j) 3 (by omega) (by omega) (by omega)
    obtain ⟨c, hc, hs⟩ := sig_ok v0 v1
    refine ⟨c :: cs, ?_, fun d hd => ?_, by rw [List.length_cons, i3]⟩
    · rw [rng_cons]
      refine e_lcC (e := s0 :: .sh (.list (intL l)) :: .sh (.int (t : Int)) :: s3 :: .sh (.int (k : Int)) :: .sh (.int j) :: R) (ys := [oneS c]) rfl rfl (e_one ?_) i1
      exact e_f2 e_c (e_call (e_cons (e_var rfl) (e_cons (e_f2 (e_f2 (e_f2 e_c (e_f2 e_c (e_var rfl) (d_mulL (B_ok hl hll ht hk (by omega) (by omega)))) (d_add _ _)) (e_f2 e_c (e_var rfl) (d_mulL (B_ok hl hll ht hk (by omega) (by omega)))) (d_add _ _)) (e_var rfl) (d_add _ _)) (e_cons e_c e_nil))) hv) hs
    · rcases List.mem_cons.mp hd with e | e
      · rw [e]; exact hc
      · exact i2 d e
theorem row_ok : ∃ a, RowOk a ∧ fRow (s0 :: .sh (.list (intL l)) :: .sh (.int (t : Int)) :: s3 :: .sh (.int (k : Int)) :: x5 :: R) = .ok (rowD a) := by
  obtain ⟨v, hv, v0, v1⟩ := mix_ok l hl hll (6 + 2 * (t : Int) + (k : Int)) 9 (by omega) (by omega) (by omega)
  obtain ⟨n, rfl⟩ := Int.eq_ofNat_of_zero_le v0
  obtain ⟨cs, i1, i2, i3⟩ := sig_lc (s0 := s0) (s3 := s3) (x5 := .un) (R := R) hl hll ht hk n 0 (Int.le_refl _) (by omega)
  refine ⟨cs, ⟨i2, by omega⟩, ?_⟩
  refine e_join e_c (e_lc (e_rng1 (e_call (e_cons (e_var rfl) (e_cons (e_f2 (e_f2 e_c (e_f2 e_c (e_var rfl) (d_mulL (B_ok hl hll ht hk (by omega) (by omega)))) (d_add _ _)) (e_var rfl) (d_add _ _)) (e_cons e_c e_nil))) hv) (by omega)) i1 (le_line (by rw [List.length_map]; omega))) (join_ok (by omega))
end
def bG : FE := (fTup (aCons (f2 dIx (fLst (aCons (fC (.str "ring")) (aCons (fC (.str "line")) aNil))) (fCall fn__law_mix (aCons (fVar 1) (aCons (fVar 2) (aCons (fC (.int 2)) aNil))))) (aCons (f2 dAdd (fC (.int 2)) (fCall fn__law_mix (aCons (fVar 1) (aCons (f2 dAdd (fC (.int 3)) (fVar 2)) (aCons (fC (.int 5)) aNil))))) aNil)))
def bAlt : FS := (sIf (fB (f2 dEq (fCall fn__law_mix (aCons (fVar 1) (aCons (f2 dAdd (fC (.int 12)) (fVar 2)) (aCons (fC (.int 3)) aNil)))) (fC (.int 0)))) (sSet 6 (fLst (aCons (f2 dMul (fC (.str "r")) (fC (.int 6))) (aCons (f2 dIx (fLst (aCons (f2 dMul (fC (.str "l")) (fC (.int 6))) (aCons (f2 dMul (fC (.str "s")) (fC (.int 5))) aNil))) (fCall fn__law_mix (aCons (fVar 1) (aCons (f2 dAdd (fC (.int 15)) (fVar 2)) (aCons (fC (.int 2)) aNil))))) aNil)))) sNext)
def bTurn : FS := sSeq (sSet 3 bG) (sSeq (sSetF 6 (fLc (iRng1F (aCons (fC (.int 2)) aNil)) (Tgt.nm 4) bYes fRow [4])) (sSeq bAlt (sSeq (sAsg (Tgt.tp [7, 8]) (fVar 6)) bZ)))
theorem alt_ev : (okO (dMul (.str "r") (.int 6)) (rowD (List.replicate 6 114)) && okO (dMul (.str "l") (.int 6)) (rowD (List.replicate 6 108)) && okO (dMul (.str "s") (.int 5)) (rowD (List.replicate 5 115))) = true := by decide +kernel
theorem two_le : (2 : Nat) ≤ 1000000 := by omega
section
variable {s0 x3 x4 x5 x6 x7 x8 x9 x10 x11 x12 x13 x14 x15 x16 x17 x18 x19 x20 x21 : Sl} {l : List Int} (hl : DrOk l) (hll : l.length ≤ 3780) {t : Nat} (ht : t < 3)
include hl hll ht
theorem gd_ok {R : List Sl} : ∃ r p, (r, p) ∈ grounds ∧ bG (s0 :: .sh (.list (intL l)) :: .sh (.int (t : Int)) :: R) = .ok (gd r p) := by
  obtain ⟨v, hv, v0, v1⟩ := mix_ok l hl hll (t : Int) 2 (by omega) (by omega) (by omega)
  obtain ⟨u, hu, u0, u1⟩ := mix_ok l hl hll (3 + (t : Int)) 5 (by omega) (by omega) (by omega)
  obtain ⟨n, rfl⟩ := Int.eq_ofNat_of_zero_le u0
  have hk : ∃ r : Bool, dIx (.list [.str "ring", .str "line"]) (.int v) = some (.str (kd r)) := by
    have : v = 0 ∨ v = 1 := by omega
    rcases this with e | e <;> subst e
    · exact ⟨true, rfl⟩
    · exact ⟨false, rfl⟩
  obtain ⟨r, hr⟩ := hk
  refine ⟨r, 2 + n, ?_, ?_⟩
  · have : n = 0 ∨ n = 1 ∨ n = 2 ∨ n = 3 ∨ n = 4 := by omega
    rcases this with e | e | e | e | e <;> subst e <;> cases r <;> decide
  · have e : gd r (2 + n) = .tuple [.str (kd r), .int (2 + (n : Int))] := by unfold gd; congr 3
    rw [e]
    exact e_tup (e_cons (e_f2 (e_lst (e_cons e_c (e_cons e_c e_nil)) (le_line two_le)) (e_call (e_cons (e_var rfl) (e_cons (e_var rfl) (e_cons e_c e_nil))) hv) hr) (e_cons (e_f2 e_c (e_call (e_cons (e_var rfl) (e_cons (e_f2 e_c (e_var rfl) (d_add _ _)) (e_cons e_c e_nil))) hu) (d_add _ _)) e_nil)) (le_line two_le)
theorem rows_drawn : ∃ a b, RowOk a ∧ RowOk b ∧ (fLc (iRng1F (aCons (fC (.int 2)) aNil)) (Tgt.nm 4) bYes fRow [4]) [s0, .sh (.list (intL l)), .sh (.int (t : Int)), x3, x4, x5, x6, x7, x8, x9, x10, x11, x12, x13, x14, x15, x16, x17, x18, x19, x20, x21] = .ok (.list [rowD a, rowD b]) := by
  obtain ⟨a, ha, h1⟩ := row_ok (s0 := s0) (s3 := x3) (x5 := x5) (R := [x6, x7, x8, x9, x10, x11, x12, x13, x14, x15, x16, x17, x18, x19, x20, x21]) hl hll ht (k := 0) (by omega)
  obtain ⟨b, hb, h2⟩ := row_ok (s0 := s0) (s3 := x3) (x5 := x5) (R := [x6, x7, x8, x9, x10, x11, x12, x13, x14, x15, x16, x17, x18, x19, x20, x21]) hl hll ht (k := 1) (by omega)
  refine ⟨a, b, ha, hb, e_lc (e_rng1 (n := 2) e_c two_le) ?_ (le_line two_le)⟩
  have e : rng 0 2 = [.int ((0 : Nat) : Int), .int ((1 : Nat) : Int)] := by rw [rng_cons, rng_cons]; rfl
  rw [e]
  exact e_lcC (ys := [rowD a]) rfl rfl (e_one h1) (e_lcC (ys := [rowD b]) (r := []) rfl rfl (e_one h2) rfl)
theorem alt_ok {a b : List Nat} (ha : RowOk a) (hb : RowOk b) : ∃ c d, RowOk c ∧ RowOk d ∧ bAlt [s0, .sh (.list (intL l)), .sh (.int (t : Int)), x3, x4, x5, .sh (.list [rowD a, rowD b]), x7, x8, x9, x10, x11, x12, x13, x14, x15, x16, x17, x18, x19, x20, x21] = .nx [s0, .sh (.list (intL l)), .sh (.int (t : Int)), x3, x4, x5, .sh (.list [rowD c, rowD d]), x7, x8, x9, x10, x11, x12, x13, x14, x15, x16, x17, x18, x19, x20, x21] := by
  obtain ⟨v, hv, v0, v1⟩ := mix_ok l hl hll (12 + (t : Int)) 3 (by omega) (by omega) (by omega)
  obtain ⟨u, hu, u0, u1⟩ := mix_ok l hl hll (15 + (t : Int)) 2 (by omega) (by omega) (by omega)
  have h := alt_ev
  simp only [Bool.and_eq_true] at h
  have m1 := okO_eq h.1.1
  have m2 := okO_eq h.1.2
  have m3 := okO_eq h.2
  have rep : ∀ (n c : Nat), n ≤ 8 → c ∈ sg → RowOk (List.replicate n c) := fun n c hn hc => ⟨fun d hd => by rw [List.eq_of_mem_replicate hd]; exact hc, by rw [List.length_replicate]; exact hn⟩
  have hc : fB (f2 dEq (fCall fn__law_mix (aCons (fVar 1) (aCons (f2 dAdd (fC (.int 12)) (fVar 2)) (aCons (fC (.int 3)) aNil)))) (fC (.int 0))) [s0, .sh (.list (intL l)), .sh (.int (t : Int)), x3, x4, x5, .sh (.list [rowD a, rowD b]), x7, x8, x9, x10, x11, x12, x13, x14, x15, x16, x17, x18, x19, x20, x21] = .ok (decide (v = 0)) :=
    e_B (e_f2 (e_call (e_cons (e_var rfl) (e_cons (e_f2 e_c (e_var rfl) (d_add _ _)) (e_cons e_c e_nil))) hv) e_c (dEq_int _ _))
  by_cases hz : v = 0
  · have hk : ∃ d, RowOk d ∧ dIx (.list [rowD (List.replicate 6 108), rowD (List.replicate 5 115)]) (.int u) = some (rowD d) := by
      have : u = 0 ∨ u = 1 := by omega
      rcases this with e | e <;> subst e
      · exact ⟨_, rep 6 108 (by omega) (by decide), rfl⟩
      · exact ⟨_, rep 5 115 (by omega) (by decide), rfl⟩
    obtain ⟨d, hd, hi⟩ := hk
    refine ⟨_, d, rep 6 114 (by omega) (by decide), hd, e_if hc ?_⟩
    rw [decide_eq_true hz, if_pos rfl]
    exact e_set (e_lst (e_cons (e_f2 e_c e_c m1) (e_cons (e_f2 (e_lst (e_cons (e_f2 e_c e_c m2) (e_cons (e_f2 e_c e_c m3) e_nil)) (le_line two_le)) (e_call (e_cons (e_var rfl) (e_cons (e_f2 e_c (e_var rfl) (d_add _ _)) (e_cons e_c e_nil))) hu) hi) e_nil)) (le_line two_le)) rfl
  · refine ⟨a, b, ha, hb, e_if hc ?_⟩
    rw [decide_eq_false hz, if_neg (by decide)]
    rfl
theorem turn_step : ∃ R : List Sl, R.length = 19 ∧ bTurn [s0, .sh (.list (intL l)), .sh (.int (t : Int)), x3, x4, x5, x6, x7, x8, x9, x10, x11, x12, x13, x14, x15, x16, x17, x18, x19, x20, x21] = .nx (s0 :: .sh (.list (intL l)) :: .sh (.int (t : Int)) :: R) := by
  obtain ⟨r, p, hg, h1⟩ := gd_ok (s0 := s0) hl hll ht (R := [x3, x4, x5, x6, x7, x8, x9, x10, x11, x12, x13, x14, x15, x16, x17, x18, x19, x20, x21])
  obtain ⟨a, b, ha, hb, h2⟩ := rows_drawn (s0 := s0) (x3 := .sh (gd r p)) (x4 := x4) (x5 := x5) (x6 := x6) (x7 := x7) (x8 := x8) (x9 := x9) (x10 := x10) (x11 := x11) (x12 := x12) (x13 := x13) (x14 := x14) (x15 := x15) (x16 := x16) (x17 := x17) (x18 := x18) (x19 := x19) (x20 := x20) (x21 := x21) hl hll ht
  obtain ⟨c, d, hc, hd, h3⟩ := alt_ok (s0 := s0) (x3 := .sh (gd r p)) (x4 := x4) (x5 := x5) (x7 := x7) (x8 := x8) (x9 := x9) (x10 := x10) (x11 := x11) (x12 := x12) (x13 := x13) (x14 := x14) (x15 := x15) (x16 := x16) (x17 := x17) (x18 := x18) (x19 := x19) (x20 := x20) (x21 := x21) hl hll ht ha hb
  obtain ⟨R, hR, h4⟩ := rest_step (s0 := s0) (s1 := .sh (.list (intL l))) (s2 := .sh (.int (t : Int))) (x4 := x4) (x5 := x5) (x6 := .sh (.list [rowD c, rowD d])) (x9 := x9) (x10 := x10) (x11 := x11) (x12 := x12) (x13 := x13) (x14 := x14) (x15 := x15) (x16 := x16) (x17 := x17) (x18 := x18) (x19 := x19) (x20 := x20) (x21 := x21) hg hc hd
  refine ⟨.sh (gd r p) :: x4 :: x5 :: .sh (.list [rowD c, rowD d]) :: .sh (rowD c) :: .sh (rowD d) :: R, by simp [hR], ?_⟩
  refine e_seq (e_set h1 rfl) (e_seq (e_setF h2 rfl) (e_seq h3 (e_seq (e_asg (e_var rfl) rfl) h4)))
end
def fEnd : FE := (fAndV (f2 dEq (fCall fn_meeting (aCons (fTup (aCons (fC (.str "ring")) (aCons (fC (.int 3)) aNil))) (aCons (fC (.str "r")) (aCons (fC (.str "s")) (aCons (fTup (aCons (fC (.int 0)) (aCons (fC (.int 1)) aNil))) aNil))))) (fC (.int 1))) (fAndV (f2 dEq (fCall fn_meeting (aCons (fTup (aCons (fC (.str "line")) (aCons (fC (.int 3)) aNil))) (aCons (fC (.str "l")) (aCons (fC (.str "l")) (aCons (fTup (aCons (fC (.int 0)) (aCons (fC (.int 1)) aNil))) aNil))))) (fC (.int 1))) (f2 dEq (fCall fn_worst (aCons (fTup (aCons (fC (.str "ring")) (aCons (fC (.int 2)) aNil))) (aCons (fC (.str "r")) (aCons (fC (.str "s")) aNil)))) (fC (.int 1)))))
theorem law_eq : g_law = sSeq (sSet 1 (fScrCall 0 fn__law_draws)) (sSeq (sFor (Tgt.nm 2) (iRng1F (aCons (fC (.int 3)) aNil)) bTurn) (sRet fEnd)) := rfl
theorem end_ev : okD (fEnd []) (.bool true) = true := by decide +kernel
theorem end_const (e : List Sl) : fEnd e = fEnd [] := rfl
theorem len19 {R : List Sl} (h : R.length = 19) : ∃ x3 x4 x5 x6 x7 x8 x9 x10 x11 x12 x13 x14 x15 x16 x17 x18 x19 x20 x21, R = [x3, x4, x5, x6, x7, x8, x9, x10, x11, x12, x13, x14, x15, x16, x17, x18, x19, x20, x21] := by
  match R, h with
  | [x3, x4, x5, x6, x7, x8, x9, x10, x11, x12, x13, x14, x15, x16, x17, x18, x19, x20, x21], _ => exact ⟨x3, x4, x5, x6, x7, x8, x9, x10, x11, x12, x13, x14, x15, x16, x17, x18, x19, x20, x21, rfl⟩
theorem plain (ns : List Int) (hn : ns.length ≤ 63) : isTrueOut (g_law (envS 22 ns)) = true := by
  obtain ⟨l, hd, hl, hll⟩ := draws_ok ns hn
  obtain ⟨e', h, s2, R, hR, rfl⟩ := loopF_inv (t := Tgt.nm 2) (body := bTurn) (ds := rng 0 3) (I := fun _ e => ∃ s2 R, R.length = 19 ∧ e = .scr ns :: .sh (.list (intL l)) :: s2 :: R) (fun i e d hd ⟨s2, R, hR, he⟩ => by
    subst he
    obtain ⟨hi, rfl⟩ := rng_get hd
    rw [Int.zero_add]
    obtain ⟨x3, x4, x5, x6, x7, x8, x9, x10, x11, x12, x13, x14, x15, x16, x17, x18, x19, x20, x21, rfl⟩ := len19 hR
    obtain ⟨R', hR', h⟩ := turn_step (s0 := .scr ns) (x3 := x3) (x4 := x4) (x5 := x5) (x6 := x6) (x7 := x7) (x8 := x8) (x9 := x9) (x10 := x10) (x11 := x11) (x12 := x12) (x13 := x13) (x14 := x14) (x15 := x15) (x16 := x16) (x17 := x17) (x18 := x18) (x19 := x19) (x20 := x20) (x21 := x21) hl hll hi
    exact ⟨_, _, rfl, h, _, R', hR', rfl⟩) (.scr ns :: .sh (.list (intL l)) :: .un :: List.replicate 19 .un) ⟨.un, _, List.length_replicate, rfl⟩
  have z : g_law (envS 22 ns) = .rt (.bool true) := by
    rw [law_eq]
    refine e_seq (e' := .scr ns :: .sh (.list (intL l)) :: .un :: List.replicate 19 .un) (e_set (d := .list (intL l)) (by show fn__law_draws ns = _; exact hd) rfl) (e_seq (e_for (e_rng1 (n := 3) e_c (by omega)) h) ?_)
    refine e_ret ?_
    rw [end_const]
    exact okD_eq end_ev
  rw [z]
  rfl
end k61

namespace k61
open PySem PySem.Spec PyProof.Rows L2 PD
abbrev pw : Program := PySem.Challenge.pw_hiddenandsought_k61_whole_rows_that_meet
def top (i : Nat) : Stmt := pw.main.body.getD i (.Pass ⟨0, 0, 0, 0⟩)
structure Tx (K : PySem.W.Frag) (mg : Str → Option Value) : Prop where
  m_abs : mg "abs" = none
  m_all : mg "all" = none
  m_enumerate : mg "enumerate" = none
  m_int : mg "int" = none
  m_len : mg "len" = none
  m_max : mg "max" = none
  m_min : mg "min" = none
  m_range : mg "range" = none
  m_repr : mg "repr" = none
  r_KINDS : GlobV K mg "KINDS" gd_KINDS
  r_LEAST_PLACES : GlobV K mg "LEAST_PLACES" gd_LEAST_PLACES
  r_MOST_MOVES : GlobV K mg "MOST_MOVES" gd_MOST_MOVES
  r_MOST_PLACES : GlobV K mg "MOST_PLACES" gd_MOST_PLACES
  r_MOVES : GlobV K mg "MOVES" gd_MOVES
section
variable {P : Program} {w : World} {K : PySem.W.Frag} {mg : Str → Option Value} {base : Heap}
theorem ok_check_ground (T : Tx K mg ) (d : Def K mg "check_ground" (top 12) ["ground"]) : Cal P w K mg base 1 "check_ground" ["ground"] (spD K mg fn_check_ground) :=
  d.d0 (N := ["ground", "kind", "places"]) (fs rfl rfl rfl (by decide +kernel) rfl (by decide +kernel) (by decide +kernel)) (by decide) (g := g_check_ground) (k := 0) (fun f cdv A outer s H G am hr =>
  (vss_cons (vs_asg (ve_var 0) (pg_tp am.c (pns_cons 1 (pns_cons 2 pns_nil am.n) am.n)))
  (vss_cons (vs_if (vb_cmp (o_notIn am) v_notIn (ve_var 1) (ve_globC T.r_KINDS)) (vss_one vs_never) vss_nil)
  (vss_one (vs_if (vb_not (vb_chain (o_le am) v_le (o_le am) v_le (ve_globC T.r_LEAST_PLACES) (ve_var 2) (ve_globC T.r_MOST_PLACES))) (vss_one vs_never) vss_nil)))))
theorem ok_check_rows (T : Tx K mg ) (d : Def K mg "check_rows" (top 13) ["ground", "rows"]) (c_check_ground : Cal P w K mg base 1 "check_ground" ["ground"] (spD K mg fn_check_ground)) : Cal P w K mg base 2 "check_rows" ["ground", "rows"] (spD K mg fn_check_rows) :=
  d.d0 (N := ["ground", "rows", "k", "row", "sign"]) (fs rfl rfl rfl (by decide +kernel) rfl (by decide +kernel) (by decide +kernel)) (by decide) (g := g_check_rows) (k := 1) (fun f cdv A outer s H G am hr =>
  (vss_cons (vs_expr (ve_calC c_check_ground am hr (va_cons (ve_var 0) va_nil)))
  (vss_one (vs_for PassesOwn.never am.c (vi_enum (ve_var 1) rfl T.m_enumerate) (pg_tp am.c (pns_cons 2 (pns_cons 3 pns_nil am.n) am.n)) (vss_one (vs_if (vb_w (vw_or (vb_cmp (o_gt am) v_gt (ve_callB call_len l_len rfl T.m_len rfl (va_cons (ve_var 3) va_nil)) (ve_globC T.r_MOST_MOVES)) (vw_or1 (vb_not (vb_tru (ve_callB (cr_all am.c) l_all rfl T.m_all rfl (va_cons (VN.ve (vn_lc (own := [("sign", 4)]) am (vi_seq (ve_var 3)) (blkOk_by rfl) (fun _ _ _ _ _ => (pg_nm 4 am.blk.n)) (fun _ _ _ _ _ => vt_nil) (fun _ _ _ _ _ => (ve_cmp (o_in am.blk) v_in (ve_var 4) (ve_globC T.r_MOVES))) (by decide))) va_nil))))))) (vss_one vs_never) vss_nil))))))
theorem ok_moved (T : Tx K mg ) (d : Def K mg "moved" (top 14) ["ground", "place", "sign"]) : Cal P w K mg base 1 "moved" ["ground", "place", "sign"] (spD K mg fn_moved) :=
  d.d0 (N := ["ground", "place", "sign", "kind", "places", "there"]) (fs rfl rfl rfl (by decide +kernel) rfl (by decide +kernel) (by decide +kernel)) (by decide) (g := g_moved) (k := 0) (fun f cdv A outer s H G am hr =>
  (vss_cons (vs_asg (ve_var 0) (pg_tp am.c (pns_cons 3 (pns_cons 4 pns_nil am.n) am.n)))
  (vss_cons (vs_set 5 (ve_op o_add v_add (ve_var 1) (ve_if (vb_cmp (o_eq am) v_eq (ve_var 2) ve_str) ve_int (ve_if (vb_cmp (o_eq am) v_eq (ve_var 2) ve_str) (ve_un un_neg v_neg ve_int) ve_int))) am.n)
  (vss_cons (vs_if (vb_cmp (o_eq am) v_eq (ve_var 3) ve_str) (vss_one (vs_ret (ve_op op_mod v_mod (ve_var 5) (ve_var 4)))) vss_nil)
  (vss_one (vs_ret (ve_callB (call_min2 am.c) l_min2 rfl T.m_min rfl (va_cons (ve_callB (call_max2 am.c) l_max2 rfl T.m_max rfl (va_cons (ve_var 5) (va_cons ve_int va_nil))) (va_cons (ve_op op_sub v_sub (ve_var 4) ve_int) va_nil)))))))))
theorem ok_walk_of (T : Tx K mg ) (d : Def K mg "walk_of" (top 15) ["ground", "row", "place"]) (c_moved : Cal P w K mg base 1 "moved" ["ground", "place", "sign"] (spD K mg fn_moved)) : Cal P w K mg base 2 "walk_of" ["ground", "row", "place"] (spN K mg fn_walk_of) :=
  d.d0N (N := ["ground", "row", "place", "found", "sign"]) (fs rfl rfl rfl (by decide +kernel) rfl (by decide +kernel) (by decide +kernel)) (by decide) (g := g_walk_of) (k := 1) (fun f cdv A outer s H G am hr =>
  (vss_cons (vs_setN 3 (vn_lst (va_cons (ve_var 2) va_nil)) am.n)
  (vss_cons (vs_for PassesOwn.never am.c (vi_seq (ve_var 1)) (pg_nm 4 am.n) (vss_one (vs_append 3 (ve_calC c_moved am hr (va_cons (ve_var 0) (va_cons (ve_ixO 3 (ve_un un_neg v_neg ve_int)) (va_cons (ve_var 4) va_nil)))))))
  (vss_one (vs_retO 3)))))
theorem ok_walk (T : Tx K mg ) (d : Def K mg "walk" (top 16) ["ground", "row", "place"]) (c_check_rows : Cal P w K mg base 2 "check_rows" ["ground", "rows"] (spD K mg fn_check_rows)) (c_walk_of : Cal P w K mg base 2 "walk_of" ["ground", "row", "place"] (spN K mg fn_walk_of)) : Cal P w K mg base 3 "walk" ["ground", "row", "place"] (spN K mg fn_walk) :=
  d.d0N (N := ["ground", "row", "place"]) (fs rfl rfl rfl (by decide +kernel) rfl (by decide +kernel) (by decide +kernel)) (by decide) (g := g_walk) (k := 2) (fun f cdv A outer s H G am hr =>
  (vss_cons (vs_expr (ve_calC c_check_rows am hr (va_cons (ve_var 0) (va_cons (ve_lst (va_cons (ve_var 1) va_nil)) va_nil))))
  (vss_cons (vs_if (vb_not (vb_chain (o_le am) v_le (o_lt am) v_lt ve_int (ve_var 2) (ve_ix (ve_var 0) ve_int))) (vss_one vs_never) vss_nil)
  (vss_one (vs_retN (vn_calC c_walk_of am hr (va_cons (ve_var 0) (va_cons (ve_var 1) (va_cons (ve_var 2) va_nil)))))))))
theorem ok_filled (T : Tx K mg ) (d : Def K mg "filled" (top 17) ["row", "size"]) : Cal P w K mg base 1 "filled" ["row", "size"] (spD K mg fn_filled) :=
  d.d0 (N := ["row", "size"]) (fs rfl rfl rfl (by decide +kernel) rfl (by decide +kernel) (by decide +kernel)) (by decide) (g := g_filled) (k := 0) (fun f cdv A outer s H G am hr =>
  (vss_one (vs_ret (ve_op o_add v_add (ve_var 0) (ve_op o_mul v_mul ve_str (ve_op op_sub v_sub (ve_var 1) (ve_callB call_len l_len rfl T.m_len rfl (va_cons (ve_var 0) va_nil))))))))
theorem ok_meeting_of (T : Tx K mg ) (d : Def K mg "meeting_of" (top 18) ["ground", "one", "two", "places"]) (c_filled : Cal P w K mg base 1 "filled" ["row", "size"] (spD K mg fn_filled)) (c_walk_of : Cal P w K mg base 2 "walk_of" ["ground", "row", "place"] (spN K mg fn_walk_of)) : Cal P w K mg base 3 "meeting_of" ["ground", "one", "two", "places"] (spD K mg fn_meeting_of) :=
  d.d0 (N := ["ground", "one", "two", "places", "size", "first", "second", "hour"]) (fs rfl rfl rfl (by decide +kernel) rfl (by decide +kernel) (by decide +kernel)) (by decide) (g := g_meeting_of) (k := 2) (fun f cdv A outer s H G am hr =>
  (vss_cons (vs_set 4 (ve_callB (call_max2 am.c) l_max2 rfl T.m_max rfl (va_cons (ve_callB call_len l_len rfl T.m_len rfl (va_cons (ve_var 1) va_nil)) (va_cons (ve_callB call_len l_len rfl T.m_len rfl (va_cons (ve_var 2) va_nil)) va_nil))) am.n)
  (vss_cons (vs_set 5 (VN.ve (vn_calC c_walk_of am hr (va_cons (ve_var 0) (va_cons (ve_calC c_filled am hr (va_cons (ve_var 1) (va_cons (ve_var 4) va_nil))) (va_cons (ve_ix (ve_var 3) ve_int) va_nil))))) am.n)
  (vss_cons (vs_set 6 (VN.ve (vn_calC c_walk_of am hr (va_cons (ve_var 0) (va_cons (ve_calC c_filled am hr (va_cons (ve_var 2) (va_cons (ve_var 4) va_nil))) (va_cons (ve_ix (ve_var 3) ve_int) va_nil))))) am.n)
  (vss_cons (vs_for PassesOwn.never am.c (vi_range2 rfl T.m_range (va_cons ve_int (va_cons (ve_op o_add v_add (ve_var 4) ve_int) va_nil))) (pg_nm 7 am.n) (vss_one (vs_if (vb_w (vw_or (vb_cmp (o_eq am) v_eq (ve_ix (ve_var 5) (ve_var 7)) (ve_ix (ve_var 6) (ve_var 7))) (vw_or1 (vb_cmp (o_eq am) v_eq (ve_tup (va_cons (ve_ix (ve_var 5) (ve_var 7)) (va_cons (ve_ix (ve_var 6) (ve_var 7)) va_nil))) (ve_tup (va_cons (ve_ix (ve_var 6) (ve_op op_sub v_sub (ve_var 7) ve_int)) (va_cons (ve_ix (ve_var 5) (ve_op op_sub v_sub (ve_var 7) ve_int)) va_nil))))))) (vss_one (vs_ret (ve_var 7))) vss_nil)))
  (vss_one (vs_ret ve_non)))))))
theorem ok_meeting (T : Tx K mg ) (d : Def K mg "meeting" (top 19) ["ground", "one", "two", "places"]) (c_check_rows : Cal P w K mg base 2 "check_rows" ["ground", "rows"] (spD K mg fn_check_rows)) (c_meeting_of : Cal P w K mg base 3 "meeting_of" ["ground", "one", "two", "places"] (spD K mg fn_meeting_of)) : Cal P w K mg base 4 "meeting" ["ground", "one", "two", "places"] (spD K mg fn_meeting) :=
  d.d0 (N := ["ground", "one", "two", "places", "k", "place"]) (fs rfl rfl rfl (by decide +kernel) rfl (by decide +kernel) (by decide +kernel)) (by decide) (g := g_meeting) (k := 3) (fun f cdv A outer s H G am hr =>
  (vss_cons (vs_expr (ve_calC c_check_rows am hr (va_cons (ve_var 0) (va_cons (ve_lst (va_cons (ve_var 1) (va_cons (ve_var 2) va_nil))) va_nil))))
  (vss_cons (vs_for PassesOwn.never am.c (vi_enum (ve_var 3) rfl T.m_enumerate) (pg_tp am.c (pns_cons 4 (pns_cons 5 pns_nil am.n) am.n)) (vss_one (vs_if (vb_not (vb_chain (o_le am) v_le (o_lt am) v_lt ve_int (ve_var 5) (ve_ix (ve_var 0) ve_int))) (vss_one vs_never) vss_nil)))
  (vss_cons (vs_if (vb_cmp (o_eq am) v_eq (ve_ix (ve_var 3) ve_int) (ve_ix (ve_var 3) ve_int)) (vss_one vs_never) vss_nil)
  (vss_one (vs_ret (ve_calC c_meeting_of am hr (va_cons (ve_var 0) (va_cons (ve_var 1) (va_cons (ve_var 2) (va_cons (ve_var 3) va_nil)))))))))))
theorem ok_pairs_of (T : Tx K mg ) (d : Def K mg "pairs_of" (top 20) ["ground"]) : Cal P w K mg base 1 "pairs_of" ["ground"] (spN K mg fn_pairs_of) :=
  d.d0N (N := ["ground", "one", "two"]) (fs rfl rfl rfl (by decide +kernel) rfl (by decide +kernel) (by decide +kernel)) (by decide) (g := g_pairs_of) (k := 0) (fun f cdv A outer s H G am hr =>
  (vss_one (vs_retN (vn_lc2 (own := [("one", 1), ("two", 2)]) am (vi_range1 rfl T.m_range (va_cons (ve_ix (ve_var 0) ve_int) va_nil)) (blkOk_by rfl) (fun _ _ _ _ _ => (pg_nm 1 am.blk.n)) (fun _ _ _ _ _ => vt_nil) (fun _ _ _ _ _ => (vi_range1 rfl T.m_range (va_cons (ve_ix (ve_var 0) ve_int) va_nil))) (fun _ _ _ _ _ => (pg_nm 2 am.blk.n)) (fun _ _ _ _ _ => (vt_one (vb_cmp (o_ne am.blk) v_ne (ve_var 1) (ve_var 2)))) (fun _ _ _ _ _ => (ve_tup (va_cons (ve_var 1) (va_cons (ve_var 2) va_nil)))) (by decide) (by decide)))))
theorem ok_worst_of (T : Tx K mg ) (d : Def K mg "worst_of" (top 21) ["ground", "one", "two"]) (c_pairs_of : Cal P w K mg base 1 "pairs_of" ["ground"] (spN K mg fn_pairs_of)) (c_meeting_of : Cal P w K mg base 3 "meeting_of" ["ground", "one", "two", "places"] (spD K mg fn_meeting_of)) : Cal P w K mg base 4 "worst_of" ["ground", "one", "two"] (spD K mg fn_worst_of) :=
  d.d0 (N := ["ground", "one", "two", "places", "hours"]) (fs rfl rfl rfl (by decide +kernel) rfl (by decide +kernel) (by decide +kernel)) (by decide) (g := g_worst_of) (k := 3) (fun f cdv A outer s H G am hr =>
  (vss_cons (vs_lcF (own := [("places", 3)]) 4 am (vi_seq (VN.ve (vn_calC c_pairs_of am hr (va_cons (ve_var 0) va_nil)))) (blkOk_by rfl) (fun _ _ _ _ _ => (pg_nm 3 am.blk.n)) (fun _ _ _ _ _ => vt_nil) (fun _ _ _ _ _ => (ve_calC c_meeting_of am.blk hr (va_cons (ve_var 0) (va_cons (ve_var 1) (va_cons (ve_var 2) (va_cons (ve_var 3) va_nil)))))) (by decide))
  (vss_one (vs_ret (ve_if (vb_cmp (o_in am) v_in ve_non (ve_var 4)) ve_non (ve_callB (cr_max am.c) l_maxL rfl T.m_max rfl (va_cons (ve_var 4) va_nil)))))))
theorem ok_worst (T : Tx K mg ) (d : Def K mg "worst" (top 22) ["ground", "one", "two"]) (c_check_rows : Cal P w K mg base 2 "check_rows" ["ground", "rows"] (spD K mg fn_check_rows)) (c_worst_of : Cal P w K mg base 4 "worst_of" ["ground", "one", "two"] (spD K mg fn_worst_of)) : Cal P w K mg base 5 "worst" ["ground", "one", "two"] (spD K mg fn_worst) :=
  d.d0 (N := ["ground", "one", "two"]) (fs rfl rfl rfl (by decide +kernel) rfl (by decide +kernel) (by decide +kernel)) (by decide) (g := g_worst) (k := 4) (fun f cdv A outer s H G am hr =>
  (vss_cons (vs_expr (ve_calC c_check_rows am hr (va_cons (ve_var 0) (va_cons (ve_lst (va_cons (ve_var 1) (va_cons (ve_var 2) va_nil))) va_nil))))
  (vss_one (vs_ret (ve_calC c_worst_of am hr (va_cons (ve_var 0) (va_cons (ve_var 1) (va_cons (ve_var 2) va_nil))))))))
theorem ok_open_places (T : Tx K mg ) (d : Def K mg "open_places" (top 23) ["ground", "one", "two"]) (c_check_rows : Cal P w K mg base 2 "check_rows" ["ground", "rows"] (spD K mg fn_check_rows)) (c_pairs_of : Cal P w K mg base 1 "pairs_of" ["ground"] (spN K mg fn_pairs_of)) (c_meeting_of : Cal P w K mg base 3 "meeting_of" ["ground", "one", "two", "places"] (spD K mg fn_meeting_of)) : Cal P w K mg base 4 "open_places" ["ground", "one", "two"] (spN K mg fn_open_places) :=
  d.d0N (N := ["ground", "one", "two", "places"]) (fs rfl rfl rfl (by decide +kernel) rfl (by decide +kernel) (by decide +kernel)) (by decide) (g := g_open_places) (k := 3) (fun f cdv A outer s H G am hr =>
  (vss_cons (vs_expr (ve_calC c_check_rows am hr (va_cons (ve_var 0) (va_cons (ve_lst (va_cons (ve_var 1) (va_cons (ve_var 2) va_nil))) va_nil))))
  (vss_one (vs_retN (vn_lc (own := [("places", 3)]) am (vi_seq (VN.ve (vn_calC c_pairs_of am hr (va_cons (ve_var 0) va_nil)))) (blkOk_by rfl) (fun _ _ _ _ _ => (pg_nm 3 am.blk.n)) (fun _ _ _ _ _ => (vt_one (vb_cmp o_is v_is (ve_calC c_meeting_of am.blk hr (va_cons (ve_var 0) (va_cons (ve_var 1) (va_cons (ve_var 2) (va_cons (ve_var 3) va_nil))))) ve_non))) (fun _ _ _ _ _ => (ve_var 3)) (by decide))))))
theorem ok_towards (T : Tx K mg ) (d : Def K mg "towards" (top 25) ["ground"]) (c_check_ground : Cal P w K mg base 1 "check_ground" ["ground"] (spD K mg fn_check_ground)) (c_worst_of : Cal P w K mg base 4 "worst_of" ["ground", "one", "two"] (spD K mg fn_worst_of)) : Cal P w K mg base 5 "towards" ["ground"] (spD K mg fn_towards) :=
  d.d0 (N := ["ground", "hours"]) (fs rfl rfl rfl (by decide +kernel) rfl (by decide +kernel) (by decide +kernel)) (by decide) (g := g_towards) (k := 4) (fun f cdv A outer s H G am hr =>
  (vss_cons (vs_expr (ve_calC c_check_ground am hr (va_cons (ve_var 0) va_nil)))
  (vss_cons (vs_if (vb_cmp (o_ne am) v_ne (ve_ix (ve_var 0) ve_int) ve_str) (vss_one vs_never) vss_nil)
  (vss_cons (vs_set 1 ve_int am.n)
  (vss_cons (vs_while 8 PassesOwn.never (vb_cmp o_is v_is (ve_calC c_worst_of am hr (va_cons (ve_var 0) (va_cons (ve_op o_mul v_mul ve_str (ve_var 1)) (va_cons (ve_op o_mul v_mul ve_str (ve_var 1)) va_nil)))) ve_non) (vss_one (vs_set 1 (ve_op o_add v_add (ve_var 1) ve_int) am.n)))
  (vss_one (vs_ret (ve_tup (va_cons (ve_op o_mul v_mul ve_str (ve_var 1)) (va_cons (ve_op o_mul v_mul ve_str (ve_var 1)) va_nil))))))))))
theorem ok__law_draws (T : Tx K mg ) (d : Def K mg "_law_draws" (top 27) ["script"]) : Cal P w K mg base 1 "_law_draws" ["script"] (spScr K mg fn__law_draws) :=
  d.scr (N := ["script", "draws", "k", "rest", "turn", "mixed"]) (fs rfl rfl rfl (by decide +kernel) rfl (by decide +kernel) (by decide +kernel)) (by decide) (g := g__law_draws) (k := 0) (fun f cdv A outer s H G am hr =>
  (vss_cons (vs_setN 1 (vn_lst va_nil) am.n)
  (vss_cons (vs_for PassesOwn.never am.c (vi_range1 rfl T.m_range (va_cons (ve_callB (call_min2 am.c) l_min2 rfl T.m_min rfl (va_cons ve_int (va_cons (ve_scrLen 0 rfl T.m_len) va_nil))) va_nil)) (pg_nm 2 am.n) (vss_cons (vs_set 3 (ve_callB call_abs l_abs rfl T.m_abs rfl (va_cons (ve_scrIx 0 (ve_var 2)) va_nil)) am.n)
  (vss_one (vs_if (vb_cmp (o_ge am) v_ge (ve_var 3) (ve_op op_pow v_pow ve_int ve_int)) (vss_one (vs_for PassesOwn.never am.c (vi_range1 rfl T.m_range (va_cons ve_int va_nil)) (pg_nm 4 am.n) (vss_one (vs_if (vb_cmp (o_gt am) v_gt (ve_var 3) ve_int) (vss_cons (vs_append 1 (ve_op op_mod v_mod (ve_callT call_int1 l_int rfl T.m_int rfl (va_cons (ve_var 3) va_nil)) ve_int))
  (vss_one (vs_set 3 (ve_op op_fdiv v_div (ve_var 3) ve_int) am.n))) vss_nil)))) (vss_cons (vs_set 5 (ve_op op_mod v_mod (ve_callT call_int1 l_int rfl T.m_int rfl (va_cons (ve_op o_add v_add (ve_op o_mul v_mul (ve_var 3) ve_int) (ve_op o_mul v_mul (ve_op o_add v_add (ve_var 2) ve_int) ve_int)) va_nil)) ve_int) am.n)
  (vss_cons (vs_set 5 (ve_op op_mod v_mod (ve_callT call_int1 l_int rfl T.m_int rfl (va_cons (ve_op o_add v_add (ve_op o_add v_add (ve_op o_mul v_mul (ve_var 5) ve_int) (ve_op o_mul v_mul ve_int (ve_var 2))) ve_int) va_nil)) ve_int) am.n)
  (vss_cons (vs_append 1 (ve_op op_mod v_mod (ve_callT call_int1 l_int rfl T.m_int rfl (va_cons (ve_var 5) va_nil)) ve_int))
  (vss_one (vs_append 1 (ve_op op_mod v_mod (ve_callT call_int1 l_int rfl T.m_int rfl (va_cons (ve_op op_fdiv v_div (ve_var 5) ve_int) va_nil)) ve_int))))))))))
  (vss_one (vs_retO 1)))))
theorem ok__law_mix (T : Tx K mg ) (d : Def K mg "_law_mix" (top 28) ["draws", "k", "many"]) : Cal P w K mg base 1 "_law_mix" ["draws", "k", "many"] (spD K mg fn__law_mix) :=
  d.d0 (N := ["draws", "k", "many", "cell"]) (fs rfl rfl rfl (by decide +kernel) rfl (by decide +kernel) (by decide +kernel)) (by decide) (g := g__law_mix) (k := 0) (fun f cdv A outer s H G am hr =>
  (vss_cons (vs_set 3 ve_int am.n)
  (vss_cons (vs_if (vb_cmp (o_gt am) v_gt (ve_callB call_len l_len rfl T.m_len rfl (va_cons (ve_var 0) va_nil)) ve_int) (vss_one (vs_set 3 (ve_ix (ve_var 0) (ve_op op_mod v_mod (ve_callT call_int1 l_int rfl T.m_int rfl (va_cons (ve_var 1) va_nil)) (ve_callB call_len l_len rfl T.m_len rfl (va_cons (ve_var 0) va_nil)))) am.n)) vss_nil)
  (vss_cons (vs_if (vb_cmp (o_lt am) v_lt (ve_var 1) (ve_callB call_len l_len rfl T.m_len rfl (va_cons (ve_var 0) va_nil))) (vss_one (vs_ret (ve_op op_mod v_mod (ve_callT call_int1 l_int rfl T.m_int rfl (va_cons (ve_var 3) va_nil)) (ve_var 2)))) vss_nil)
  (vss_one (vs_ret (ve_op op_mod v_mod (ve_callT call_int1 l_int rfl T.m_int rfl (va_cons (ve_op op_fdiv v_div (ve_callT call_int1 l_int rfl T.m_int rfl (va_cons (ve_op o_add v_add (ve_op o_mul v_mul (ve_var 3) ve_int) (ve_op o_mul v_mul (ve_var 1) ve_int)) va_nil)) ve_int) va_nil)) (ve_var 2))))))))
theorem ok__law_move (T : Tx K mg ) (d : Def K mg "_law_move" (top 29) ["ground", "place", "sign"]) : Cal P w K mg base 1 "_law_move" ["ground", "place", "sign"] (spD K mg fn__law_move) :=
  d.d0 (N := ["ground", "place", "sign", "kind", "places", "there"]) (fs rfl rfl rfl (by decide +kernel) rfl (by decide +kernel) (by decide +kernel)) (by decide) (g := g__law_move) (k := 0) (fun f cdv A outer s H G am hr =>
  (vss_cons (vs_asg (ve_var 0) (pg_tp am.c (pns_cons 3 (pns_cons 4 pns_nil am.n) am.n)))
  (vss_cons (vs_set 5 (ve_op op_sub v_sub (ve_op o_add v_add (ve_var 1) (ve_index (ve_lst (va_cons ve_str (va_cons ve_str (va_cons ve_str va_nil)))) (ve_var 2))) ve_int) am.n)
  (vss_cons (vs_if (vb_cmp (o_eq am) v_eq (ve_var 3) ve_str) (vss_one (vs_ret (ve_op op_mod v_mod (ve_callT call_int1 l_int rfl T.m_int rfl (va_cons (ve_op o_add v_add (ve_var 5) (ve_var 4)) va_nil)) (ve_var 4)))) vss_nil)
  (vss_one (vs_ret (ve_callB (call_max2 am.c) l_max2 rfl T.m_max rfl (va_cons ve_int (va_cons (ve_callB (call_min2 am.c) l_min2 rfl T.m_min rfl (va_cons (ve_op op_sub v_sub (ve_var 4) ve_int) (va_cons (ve_var 5) va_nil))) va_nil)))))))))
theorem ok__law_meeting (T : Tx K mg ) (d : Def K mg "_law_meeting" (top 30) ["ground", "one", "two", "first", "second"]) (c__law_move : Cal P w K mg base 1 "_law_move" ["ground", "place", "sign"] (spD K mg fn__law_move)) : Cal P w K mg base 2 "_law_meeting" ["ground", "one", "two", "first", "second"] (spD K mg fn__law_meeting) :=
  d.d0 (N := ["ground", "one", "two", "first", "second", "size", "hour", "a", "b"]) (fs rfl rfl rfl (by decide +kernel) rfl (by decide +kernel) (by decide +kernel)) (by decide) (g := g__law_meeting) (k := 1) (fun f cdv A outer s H G am hr =>
  (vss_cons (vs_set 5 (ve_callB (call_max2 am.c) l_max2 rfl T.m_max rfl (va_cons (ve_callB call_len l_len rfl T.m_len rfl (va_cons (ve_var 1) va_nil)) (va_cons (ve_callB call_len l_len rfl T.m_len rfl (va_cons (ve_var 2) va_nil)) va_nil))) am.n)
  (vss_cons (vs_par 1 2 am (vm_s (ve_op o_add v_add (ve_var 1) (ve_op o_mul v_mul ve_str (ve_op op_sub v_sub (ve_var 5) (ve_callB call_len l_len rfl T.m_len rfl (va_cons (ve_var 1) va_nil)))))) (vm_s (ve_op o_add v_add (ve_var 2) (ve_op o_mul v_mul ve_str (ve_op op_sub v_sub (ve_var 5) (ve_callB call_len l_len rfl T.m_len rfl (va_cons (ve_var 2) va_nil)))))))
  (vss_cons (vs_for PassesOwn.never am.c (vi_range1 rfl T.m_range (va_cons (ve_var 5) va_nil)) (pg_nm 6 am.n) (vss_cons (vs_par 7 8 am (vm_s (ve_calC c__law_move am hr (va_cons (ve_var 0) (va_cons (ve_var 3) (va_cons (ve_ix (ve_var 1) (ve_var 6)) va_nil))))) (vm_s (ve_calC c__law_move am hr (va_cons (ve_var 0) (va_cons (ve_var 4) (va_cons (ve_ix (ve_var 2) (ve_var 6)) va_nil))))))
  (vss_cons (vs_if (vb_w (vw_or (vb_cmp (o_eq am) v_eq (ve_var 7) (ve_var 8)) (vw_or1 (vb_w (vw_and (vb_cmp (o_eq am) v_eq (ve_var 7) (ve_var 4)) (vw_and1 (vb_cmp (o_eq am) v_eq (ve_var 8) (ve_var 3)))))))) (vss_one (vs_ret (ve_op o_add v_add (ve_var 6) ve_int))) vss_nil)
  (vss_one (vs_par 3 4 am (vm_s (ve_var 7)) (vm_s (ve_var 8)))))))
  (vss_one (vs_ret ve_non))))))
theorem ok__law_pairs (T : Tx K mg ) (d : Def K mg "_law_pairs" (top 31) ["ground"]) : Cal P w K mg base 1 "_law_pairs" ["ground"] (spD K mg fn__law_pairs) :=
  d.d0 (N := ["ground", "found", "one", "two"]) (fs rfl rfl rfl (by decide +kernel) rfl (by decide +kernel) (by decide +kernel)) (by decide) (g := g__law_pairs) (k := 0) (fun f cdv A outer s H G am hr =>
  (vss_cons (vs_set 1 (ve_lst va_nil) am.n)
  (vss_cons (vs_for PassesOwn.never am.c (vi_range1 rfl T.m_range (va_cons (ve_ix (ve_var 0) ve_int) va_nil)) (pg_nm 2 am.n) (vss_one (vs_set 1 (ve_op o_add v_add (ve_var 1) (VN.ve (vn_lc (own := [("two", 3)]) am (vi_range1 rfl T.m_range (va_cons (ve_ix (ve_var 0) ve_int) va_nil)) (blkOk_by rfl) (fun _ _ _ _ _ => (pg_nm 3 am.blk.n)) (fun _ _ _ _ _ => (vt_one (vb_cmp (o_ne am.blk) v_ne (ve_var 3) (ve_var 2)))) (fun _ _ _ _ _ => (ve_tup (va_cons (ve_var 2) (va_cons (ve_var 3) va_nil)))) (by decide)))) am.n)))
  (vss_one (vs_ret (ve_var 1))))))
theorem ok_law (T : Tx K mg) {f : Addr} {fd : FuncData} (F : Fun K "law" "law" (top 32) f fd) (c__law_draws : Cal P w K mg base 1 "_law_draws" ["script"] (spScr K mg fn__law_draws)) (c__law_mix : Cal P w K mg base 1 "_law_mix" ["draws", "k", "many"] (spD K mg fn__law_mix)) (c__law_move : Cal P w K mg base 1 "_law_move" ["ground", "place", "sign"] (spD K mg fn__law_move)) (c_walk : Cal P w K mg base 3 "walk" ["ground", "row", "place"] (spN K mg fn_walk)) (c__law_pairs : Cal P w K mg base 1 "_law_pairs" ["ground"] (spD K mg fn__law_pairs)) (c__law_meeting : Cal P w K mg base 2 "_law_meeting" ["ground", "one", "two", "first", "second"] (spD K mg fn__law_meeting)) (c_meeting : Cal P w K mg base 4 "meeting" ["ground", "one", "two", "places"] (spD K mg fn_meeting)) (c_open_places : Cal P w K mg base 4 "open_places" ["ground", "one", "two"] (spN K mg fn_open_places)) (c_worst : Cal P w K mg base 5 "worst" ["ground", "one", "two"] (spD K mg fn_worst)) (c_towards : Cal P w K mg base 5 "towards" ["ground"] (spD K mg fn_towards)) (plain : ∀ ns : List Int, ns.length ≤ 63 → isTrueOut (g_law (envS 22 ns)) = true) : FnG P w K mg base CX0 6 f fd ["script"] (spLaw K) :=
  defLaw (N := ["script", "draws", "turn", "ground", "t", "j", "rows", "one", "two", "place", "here", "due", "sign", "told", "hours", "still", "first", "second", "most", "found", "pair", "size"]) F (fs rfl rfl rfl (by decide +kernel) rfl (by decide +kernel) (by decide +kernel)) (by decide) (g := g_law) (k := 5) (fun cdv A outer s H G am hr =>
  (vss_cons (vs_set 1 (VN.ve (vn_calS 0 c__law_draws am hr)) am.n)
  (vss_cons (vs_for PassesOwn.never am.c (vi_range1 rfl T.m_range (va_cons ve_int va_nil)) (pg_nm 2 am.n) (vss_cons (vs_set 3 (ve_tup (va_cons (ve_ix (ve_lst (va_cons ve_str (va_cons ve_str va_nil))) (ve_calC c__law_mix am hr (va_cons (ve_var 1) (va_cons (ve_var 2) (va_cons ve_int va_nil))))) (va_cons (ve_op o_add v_add ve_int (ve_calC c__law_mix am hr (va_cons (ve_var 1) (va_cons (ve_op o_add v_add ve_int (ve_var 2)) (va_cons ve_int va_nil))))) va_nil))) am.n)
  (vss_cons (vs_lcF (own := [("t", 4)]) 6 am (vi_range1 rfl T.m_range (va_cons ve_int va_nil)) (blkOk_by rfl) (fun _ _ _ _ _ => (pg_nm 4 am.blk.n)) (fun _ _ _ _ _ => vt_nil) (fun _ _ _ _ _ => (ve_join ve_str (VN.ve (vn_lc (own := [("j", 5)]) am.blk (vi_range1 rfl T.m_range (va_cons (ve_calC c__law_mix am.blk hr (va_cons (ve_var 1) (va_cons (ve_op o_add v_add (ve_op o_add v_add ve_int (ve_op o_mul v_mul ve_int (ve_var 2))) (ve_var 4)) (va_cons ve_int va_nil)))) va_nil)) (blkOk_by rfl) (fun _ _ _ _ _ => (pg_nm 5 am.blk.blk.n)) (fun _ _ _ _ _ => vt_nil) (fun _ _ _ _ _ => (ve_ix ve_str (ve_calC c__law_mix am.blk.blk hr (va_cons (ve_var 1) (va_cons (ve_op o_add v_add (ve_op o_add v_add (ve_op o_add v_add ve_int (ve_op o_mul v_mul ve_int (ve_var 2))) (ve_op o_mul v_mul ve_int (ve_var 4))) (ve_var 5)) (va_cons ve_int va_nil)))))) (by decide))))) (by decide))
  (vss_cons (vs_if (vb_cmp (o_eq am) v_eq (ve_calC c__law_mix am hr (va_cons (ve_var 1) (va_cons (ve_op o_add v_add ve_int (ve_var 2)) (va_cons ve_int va_nil)))) ve_int) (vss_one (vs_set 6 (ve_lst (va_cons (ve_op o_mul v_mul ve_str ve_int) (va_cons (ve_ix (ve_lst (va_cons (ve_op o_mul v_mul ve_str ve_int) (va_cons (ve_op o_mul v_mul ve_str ve_int) va_nil))) (ve_calC c__law_mix am hr (va_cons (ve_var 1) (va_cons (ve_op o_add v_add ve_int (ve_var 2)) (va_cons ve_int va_nil))))) va_nil))) am.n)) vss_nil)
  (vss_cons (vs_asg (ve_var 6) (pg_tp am.c (pns_cons 7 (pns_cons 8 pns_nil am.n) am.n)))
  (vss_cons (vs_for PassesOwn.never am.c (vi_range1 rfl T.m_range (va_cons (ve_ix (ve_var 3) ve_int) va_nil)) (pg_nm 9 am.n) (vss_cons (vs_par 10 11 am (vm_s (ve_var 9)) (vm_n (vn_lst (va_cons (ve_var 9) va_nil))))
  (vss_cons (vs_for PassesOwn.never am.c (vi_seq (ve_var 7)) (pg_nm 12 am.n) (vss_cons (vs_set 10 (ve_calC c__law_move am hr (va_cons (ve_var 3) (va_cons (ve_var 10) (va_cons (ve_var 12) va_nil)))) am.n)
  (vss_one (vs_append 11 (ve_var 10)))))
  (vss_cons (vs_setN 13 (vn_calC c_walk am hr (va_cons (ve_var 3) (va_cons (ve_var 7) (va_cons (ve_var 9) va_nil)))) am.n)
  (vss_cons (vs_if (vb_th (vb_reprNe am rfl T.m_repr (ve_var 13) (ve_var 11))) (vss_one (vs_ret ve_bl)) vss_nil)
  (vss_cons (vs_append 13 ve_int)
  (vss_one (vs_if (vb_th (vb_cmp (o_ne am) v_ne (VN.ve (vn_calC c_walk am hr (va_cons (ve_var 3) (va_cons (ve_var 7) (va_cons (ve_var 9) va_nil))))) (ve_var 11))) (vss_one (vs_ret ve_bl)) vss_nil))))))))
  (vss_cons (vs_par 14 15 am (vm_n (vn_lst va_nil)) (vm_n (vn_lst va_nil)))
  (vss_cons (vs_for PassesOwn.never am.c (vi_seq (ve_calC c__law_pairs am hr (va_cons (ve_var 3) va_nil))) (pg_tp am.c (pns_cons 16 (pns_cons 17 pns_nil am.n) am.n)) (vss_cons (vs_set 11 (ve_calC c__law_meeting am hr (va_cons (ve_var 3) (va_cons (ve_var 7) (va_cons (ve_var 8) (va_cons (ve_var 16) (va_cons (ve_var 17) va_nil)))))) am.n)
  (vss_cons (vs_if (vb_w (vw_or (vb_reprNe am rfl T.m_repr (ve_calC c_meeting am hr (va_cons (ve_var 3) (va_cons (ve_var 7) (va_cons (ve_var 8) (va_cons (ve_tup (va_cons (ve_var 16) (va_cons (ve_var 17) va_nil))) va_nil))))) (ve_var 11)) (vw_or1 (vb_cmp (o_ne am) v_ne (ve_calC c_meeting am hr (va_cons (ve_var 3) (va_cons (ve_var 8) (va_cons (ve_var 7) (va_cons (ve_tup (va_cons (ve_var 17) (va_cons (ve_var 16) va_nil))) va_nil))))) (ve_var 11))))) (vss_one (vs_ret ve_bl)) vss_nil)
  (vss_cons (vs_append 14 (ve_var 11))
  (vss_one (vs_if (vb_cmp o_is v_is (ve_var 11) ve_non) (vss_one (vs_append 15 (ve_tup (va_cons (ve_var 16) (va_cons (ve_var 17) va_nil))))) vss_nil))))))
  (vss_cons (vs_set 18 ve_non am.n)
  (vss_cons (vs_if (vb_th (vb_cmp (o_eq am) v_eq (ve_var 15) (ve_lst va_nil))) (vss_one (vs_set 18 (ve_scal (ve_callB (cr_max am.c) l_maxL rfl T.m_max rfl (va_cons (ve_var 14) va_nil))) am.n)) vss_nil)
  (vss_cons (vs_setN 19 (vn_calC c_open_places am hr (va_cons (ve_var 3) (va_cons (ve_var 7) (va_cons (ve_var 8) va_nil)))) am.n)
  (vss_cons (vs_if (vb_w (vw_or (vb_reprNe am rfl T.m_repr (ve_calC c_worst am hr (va_cons (ve_var 3) (va_cons (ve_var 7) (va_cons (ve_var 8) va_nil)))) (ve_var 18)) (vw_or1 (vb_th (vb_reprNe am rfl T.m_repr (ve_var 19) (ve_var 15)))))) (vss_one (vs_ret ve_bl)) vss_nil)
  (vss_cons (vs_if (vb_cmp (o_eq am) v_eq (ve_ix (ve_var 3) ve_int) ve_str) (vss_cons (vs_set 20 (ve_calC c_towards am hr (va_cons (ve_var 3) va_nil)) am.n)
  (vss_cons (vs_set 21 (ve_op op_fdiv v_div (ve_ix (ve_var 3) ve_int) ve_int) am.n)
  (vss_cons (vs_if (vb_w (vw_or (vb_reprNe am rfl T.m_repr (ve_var 20) (ve_tup (va_cons (ve_op o_mul v_mul ve_str (ve_var 21)) (va_cons (ve_op o_mul v_mul ve_str (ve_var 21)) va_nil)))) (vw_or1 (vb_cmp (o_ne am) v_ne (ve_calC c_worst am hr (va_cons (ve_var 3) (va_cons (ve_ix (ve_var 20) ve_int) (va_cons (ve_ix (ve_var 20) ve_int) va_nil)))) (ve_var 21))))) (vss_one (vs_ret ve_bl)) vss_nil)
  (vss_one (vs_if (vb_w (vw_and (vb_cmp (o_gt am) v_gt (ve_ix (ve_var 3) ve_int) ve_int) (vw_and1 (vb_cmp (o_ne am) v_ne (VN.ve (vn_calC c_open_places am hr (va_cons (ve_var 3) (va_cons (ve_var 7) (va_cons (ve_var 7) va_nil))))) (ve_calC c__law_pairs am hr (va_cons (ve_var 3) va_nil)))))) (vss_one (vs_ret ve_bl)) vss_nil))))) vss_nil)
  (vss_cons (vs_append 19 (ve_tup va_nil))
  (vss_one (vs_if (vb_th (vb_cmp (o_ne am) v_ne (VN.ve (vn_calC c_open_places am hr (va_cons (ve_var 3) (va_cons (ve_var 7) (va_cons (ve_var 8) va_nil))))) (ve_var 15))) (vss_one (vs_ret ve_bl)) vss_nil))))))))))))))))
  (vss_one (vs_ret (ve_andV (ve_cmp (o_eq am) v_eq (ve_calC c_meeting am hr (va_cons (ve_tup (va_cons ve_str (va_cons ve_int va_nil))) (va_cons ve_str (va_cons ve_str (va_cons (ve_tup (va_cons ve_int (va_cons ve_int va_nil))) va_nil))))) ve_int) (ve_andV (ve_cmp (o_eq am) v_eq (ve_calC c_meeting am hr (va_cons (ve_tup (va_cons ve_str (va_cons ve_int va_nil))) (va_cons ve_str (va_cons ve_str (va_cons (ve_tup (va_cons ve_int (va_cons ve_int va_nil))) va_nil))))) ve_int) (ve_one (ve_cmp (o_eq am) v_eq (ve_calC c_worst am hr (va_cons (ve_tup (va_cons ve_str (va_cons ve_int va_nil))) (va_cons ve_str (va_cons ve_str va_nil)))) ve_int))))))))) plain
theorem all_ok (T : Tx K mg) (d_check_ground : Def K mg "check_ground" (top 12) ["ground"]) (d_check_rows : Def K mg "check_rows" (top 13) ["ground", "rows"]) (d_moved : Def K mg "moved" (top 14) ["ground", "place", "sign"]) (d_walk_of : Def K mg "walk_of" (top 15) ["ground", "row", "place"]) (d_walk : Def K mg "walk" (top 16) ["ground", "row", "place"]) (d_filled : Def K mg "filled" (top 17) ["row", "size"]) (d_meeting_of : Def K mg "meeting_of" (top 18) ["ground", "one", "two", "places"]) (d_meeting : Def K mg "meeting" (top 19) ["ground", "one", "two", "places"]) (d_pairs_of : Def K mg "pairs_of" (top 20) ["ground"]) (d_worst_of : Def K mg "worst_of" (top 21) ["ground", "one", "two"]) (d_worst : Def K mg "worst" (top 22) ["ground", "one", "two"]) (d_open_places : Def K mg "open_places" (top 23) ["ground", "one", "two"]) (d_towards : Def K mg "towards" (top 25) ["ground"]) (d__law_draws : Def K mg "_law_draws" (top 27) ["script"]) (d__law_mix : Def K mg "_law_mix" (top 28) ["draws", "k", "many"]) (d__law_move : Def K mg "_law_move" (top 29) ["ground", "place", "sign"]) (d__law_meeting : Def K mg "_law_meeting" (top 30) ["ground", "one", "two", "first", "second"]) (d__law_pairs : Def K mg "_law_pairs" (top 31) ["ground"]) (d_law : Def K mg "law" (top 32) ["script"]) (plain : ∀ ns : List Int, ns.length ≤ 63 → isTrueOut (g_law (envS 22 ns)) = true) {f : Addr} {fd : FuncData} (F : Fun K "law" "law" (top 32) f fd) : FnG P w K mg base CX0 6 f fd ["script"] (spLaw K) := by
  have c_check_ground : Cal P w K mg base 1 "check_ground" ["ground"] (spD K mg fn_check_ground) := ok_check_ground T d_check_ground 
  have c_check_rows : Cal P w K mg base 2 "check_rows" ["ground", "rows"] (spD K mg fn_check_rows) := ok_check_rows T d_check_rows c_check_ground
  have c_moved : Cal P w K mg base 1 "moved" ["ground", "place", "sign"] (spD K mg fn_moved) := ok_moved T d_moved 
  have c_walk_of : Cal P w K mg base 2 "walk_of" ["ground", "row", "place"] (spN K mg fn_walk_of) := ok_walk_of T d_walk_of c_moved
  have c_walk : Cal P w K mg base 3 "walk" ["ground", "row", "place"] (spN K mg fn_walk) := ok_walk T d_walk c_check_rows c_walk_of
  have c_filled : Cal P w K mg base 1 "filled" ["row", "size"] (spD K mg fn_filled) := ok_filled T d_filled 
  have c_meeting_of : Cal P w K mg base 3 "meeting_of" ["ground", "one", "two", "places"] (spD K mg fn_meeting_of) := ok_meeting_of T d_meeting_of c_filled c_walk_of
  have c_meeting : Cal P w K mg base 4 "meeting" ["ground", "one", "two", "places"] (spD K mg fn_meeting) := ok_meeting T d_meeting c_check_rows c_meeting_of
  have c_pairs_of : Cal P w K mg base 1 "pairs_of" ["ground"] (spN K mg fn_pairs_of) := ok_pairs_of T d_pairs_of 
  have c_worst_of : Cal P w K mg base 4 "worst_of" ["ground", "one", "two"] (spD K mg fn_worst_of) := ok_worst_of T d_worst_of c_pairs_of c_meeting_of
  have c_worst : Cal P w K mg base 5 "worst" ["ground", "one", "two"] (spD K mg fn_worst) := ok_worst T d_worst c_check_rows c_worst_of
  have c_open_places : Cal P w K mg base 4 "open_places" ["ground", "one", "two"] (spN K mg fn_open_places) := ok_open_places T d_open_places c_check_rows c_pairs_of c_meeting_of
  have c_towards : Cal P w K mg base 5 "towards" ["ground"] (spD K mg fn_towards) := ok_towards T d_towards c_check_ground c_worst_of
  have c__law_draws : Cal P w K mg base 1 "_law_draws" ["script"] (spScr K mg fn__law_draws) := ok__law_draws T d__law_draws 
  have c__law_mix : Cal P w K mg base 1 "_law_mix" ["draws", "k", "many"] (spD K mg fn__law_mix) := ok__law_mix T d__law_mix 
  have c__law_move : Cal P w K mg base 1 "_law_move" ["ground", "place", "sign"] (spD K mg fn__law_move) := ok__law_move T d__law_move 
  have c__law_meeting : Cal P w K mg base 2 "_law_meeting" ["ground", "one", "two", "first", "second"] (spD K mg fn__law_meeting) := ok__law_meeting T d__law_meeting c__law_move
  have c__law_pairs : Cal P w K mg base 1 "_law_pairs" ["ground"] (spD K mg fn__law_pairs) := ok__law_pairs T d__law_pairs 
  exact ok_law T F c__law_draws c__law_mix c__law_move c_walk c__law_pairs c__law_meeting c_meeting c_open_places c_worst c_towards plain
end
theorem top_mk {P : Program} {w : World} {K : PySem.W.Frag} {mg : Str → Option Value} {fa : Addr} (hfa : mg "law" = some (.ref fa))
    (d_check_ground : Def K mg "check_ground" (top 12) ["ground"]) (d_check_rows : Def K mg "check_rows" (top 13) ["ground", "rows"]) (d_moved : Def K mg "moved" (top 14) ["ground", "place", "sign"]) (d_walk_of : Def K mg "walk_of" (top 15) ["ground", "row", "place"]) (d_walk : Def K mg "walk" (top 16) ["ground", "row", "place"]) (d_filled : Def K mg "filled" (top 17) ["row", "size"]) (d_meeting_of : Def K mg "meeting_of" (top 18) ["ground", "one", "two", "places"]) (d_meeting : Def K mg "meeting" (top 19) ["ground", "one", "two", "places"]) (d_pairs_of : Def K mg "pairs_of" (top 20) ["ground"]) (d_worst_of : Def K mg "worst_of" (top 21) ["ground", "one", "two"]) (d_worst : Def K mg "worst" (top 22) ["ground", "one", "two"]) (d_open_places : Def K mg "open_places" (top 23) ["ground", "one", "two"]) (d_towards : Def K mg "towards" (top 25) ["ground"]) (d__law_draws : Def K mg "_law_draws" (top 27) ["script"]) (d__law_mix : Def K mg "_law_mix" (top 28) ["draws", "k", "many"]) (d__law_move : Def K mg "_law_move" (top 29) ["ground", "place", "sign"]) (d__law_meeting : Def K mg "_law_meeting" (top 30) ["ground", "one", "two", "first", "second"]) (d__law_pairs : Def K mg "_law_pairs" (top 31) ["ground"]) (d_law : Def K mg "law" (top 32) ["script"])
    (m_abs : mg "abs" = none) (m_all : mg "all" = none) (m_enumerate : mg "enumerate" = none) (m_int : mg "int" = none) (m_len : mg "len" = none) (m_max : mg "max" = none) (m_min : mg "min" = none) (m_range : mg "range" = none) (m_repr : mg "repr" = none) (r_KINDS : GlobV K mg "KINDS" gd_KINDS) (r_LEAST_PLACES : GlobV K mg "LEAST_PLACES" gd_LEAST_PLACES) (r_MOST_MOVES : GlobV K mg "MOST_MOVES" gd_MOST_MOVES) (r_MOST_PLACES : GlobV K mg "MOST_PLACES" gd_MOST_PLACES) (r_MOVES : GlobV K mg "MOVES" gd_MOVES)
    (plain : ∀ ns : List Int, ns.length ≤ 63 → isTrueOut (g_law (envS 22 ns)) = true) :
    ∃ fd : FuncData, (∀ (s : Shared) (v : Value), BindsTo s fd ⟨[v], []⟩ [("script", v)]) ∧ ∀ base : Heap, K.In base → base.Ns mainGlobals mg → FnG P w K mg base CX0 6 fa fd ["script"] (spLaw K) :=
  lawHead d_law hfa fun f fd base F => all_ok ⟨m_abs, m_all, m_enumerate, m_int, m_len, m_max, m_min, m_range, m_repr, r_KINDS, r_LEAST_PLACES, r_MOST_MOVES, r_MOST_PLACES, r_MOVES⟩ d_check_ground d_check_rows d_moved d_walk_of d_walk d_filled d_meeting_of d_meeting d_pairs_of d_worst_of d_worst d_open_places d_towards d__law_draws d__law_mix d__law_move d__law_meeting d__law_pairs d_law plain F
end k61
open PySem PySem.W PyProof.Rows
set_option maxRecDepth 100000 in
set_option maxHeartbeats 0 in
theorem PySem.Challenge.cw_hiddenandsought_k61_whole_rows_that_meet_holds : PySem.Challenge.rw_hiddenandsought_k61_whole_rows_that_meet.Holds := by
  w_on; o_law; k_head; (case hw => w_witness2)
  k_fill
  refine PD.walkG (l := PySem.Challenge.rw_hiddenandsought_k61_whole_rows_that_meet) (k := 6) rfl rfl ⟨rfl, by decide, by decide⟩ (fun w h Y => PySem.W.kIn_of Y) ?F
  case F =>
    intro w mg fa h KX G hmg
    refine' k61.top_mk hmg ?d_check_ground ?d_check_rows ?d_moved ?d_walk_of ?d_walk ?d_filled ?d_meeting_of ?d_meeting ?d_pairs_of ?d_worst_of ?d_worst ?d_open_places ?d_towards ?d__law_draws ?d__law_mix ?d__law_move ?d__law_meeting ?d__law_pairs ?d_law ?m_abs ?m_all ?m_enumerate ?m_int ?m_len ?m_max ?m_min ?m_range ?m_repr ?r_KINDS ?r_LEAST_PLACES ?r_MOST_MOVES ?r_MOST_PLACES ?r_MOVES k61.plain
    case d_check_ground => (refine' PD.Def.mk' KX G ?a ?l ?c ?k (fun us hl => match us, hl with | [_], _ => rfl)); (case a => k_is); (case l => k_is); (case c => k_is); (case k => k_is)
    case d_check_rows => (refine' PD.Def.mk' KX G ?a ?l ?c ?k (fun us hl => match us, hl with | [_, _], _ => rfl)); (case a => k_is); (case l => k_is); (case c => k_is); (case k => k_is)
    case d_moved => (refine' PD.Def.mk' KX G ?a ?l ?c ?k (fun us hl => match us, hl with | [_, _, _], _ => rfl)); (case a => k_is); (case l => k_is); (case c => k_is); (case k => k_is)
    case d_walk_of => (refine' PD.Def.mk' KX G ?a ?l ?c ?k (fun us hl => match us, hl with | [_, _, _], _ => rfl)); (case a => k_is); (case l => k_is); (case c => k_is); (case k => k_is)
    case d_walk => (refine' PD.Def.mk' KX G ?a ?l ?c ?k (fun us hl => match us, hl with | [_, _, _], _ => rfl)); (case a => k_is); (case l => k_is); (case c => k_is); (case k => k_is)
    case d_filled => (refine' PD.Def.mk' KX G ?a ?l ?c ?k (fun us hl => match us, hl with | [_, _], _ => rfl)); (case a => k_is); (case l => k_is); (case c => k_is); (case k => k_is)
    case d_meeting_of => (refine' PD.Def.mk' KX G ?a ?l ?c ?k (fun us hl => match us, hl with | [_, _, _, _], _ => rfl)); (case a => k_is); (case l => k_is); (case c => k_is); (case k => k_is)
    case d_meeting => (refine' PD.Def.mk' KX G ?a ?l ?c ?k (fun us hl => match us, hl with | [_, _, _, _], _ => rfl)); (case a => k_is); (case l => k_is); (case c => k_is); (case k => k_is)
    case d_pairs_of => (refine' PD.Def.mk' KX G ?a ?l ?c ?k (fun us hl => match us, hl with | [_], _ => rfl)); (case a => k_is); (case l => k_is); (case c => k_is); (case k => k_is)
    case d_worst_of => (refine' PD.Def.mk' KX G ?a ?l ?c ?k (fun us hl => match us, hl with | [_, _, _], _ => rfl)); (case a => k_is); (case l => k_is); (case c => k_is); (case k => k_is)
    case d_worst => (refine' PD.Def.mk' KX G ?a ?l ?c ?k (fun us hl => match us, hl with | [_, _, _], _ => rfl)); (case a => k_is); (case l => k_is); (case c => k_is); (case k => k_is)
    case d_open_places => (refine' PD.Def.mk' KX G ?a ?l ?c ?k (fun us hl => match us, hl with | [_, _, _], _ => rfl)); (case a => k_is); (case l => k_is); (case c => k_is); (case k => k_is)
    case d_towards => (refine' PD.Def.mk' KX G ?a ?l ?c ?k (fun us hl => match us, hl with | [_], _ => rfl)); (case a => k_is); (case l => k_is); (case c => k_is); (case k => k_is)
    case d__law_draws => (refine' PD.Def.mk' KX G ?a ?l ?c ?k (fun us hl => match us, hl with | [_], _ => rfl)); (case a => k_is); (case l => k_is); (case c => k_is); (case k => k_is)
    case d__law_mix => (refine' PD.Def.mk' KX G ?a ?l ?c ?k (fun us hl => match us, hl with | [_, _, _], _ => rfl)); (case a => k_is); (case l => k_is); (case c => k_is); (case k => k_is)
    case d__law_move => (refine' PD.Def.mk' KX G ?a ?l ?c ?k (fun us hl => match us, hl with | [_, _, _], _ => rfl)); (case a => k_is); (case l => k_is); (case c => k_is); (case k => k_is)
    case d__law_meeting => (refine' PD.Def.mk' KX G ?a ?l ?c ?k (fun us hl => match us, hl with | [_, _, _, _, _], _ => rfl)); (case a => k_is); (case l => k_is); (case c => k_is); (case k => k_is)
    case d__law_pairs => (refine' PD.Def.mk' KX G ?a ?l ?c ?k (fun us hl => match us, hl with | [_], _ => rfl)); (case a => k_is); (case l => k_is); (case c => k_is); (case k => k_is)
    case d_law => (refine' PD.Def.mk' KX G ?a ?l ?c ?k (fun us hl => match us, hl with | [_], _ => rfl)); (case a => k_is); (case l => k_is); (case c => k_is); (case k => k_is)
    case m_abs => (refine' PySem.W.mg_none_of KX G ?a); (case a => k_is)
    case m_all => (refine' PySem.W.mg_none_of KX G ?a); (case a => k_is)
    case m_enumerate => (refine' PySem.W.mg_none_of KX G ?a); (case a => k_is)
    case m_int => (refine' PySem.W.mg_none_of KX G ?a); (case a => k_is)
    case m_len => (refine' PySem.W.mg_none_of KX G ?a); (case a => k_is)
    case m_max => (refine' PySem.W.mg_none_of KX G ?a); (case a => k_is)
    case m_min => (refine' PySem.W.mg_none_of KX G ?a); (case a => k_is)
    case m_range => (refine' PySem.W.mg_none_of KX G ?a); (case a => k_is)
    case m_repr => (refine' PySem.W.mg_none_of KX G ?a); (case a => k_is)
    case r_KINDS => (refine' PD.GlobV.tup (vs := [.str "ring", .str "line"]) KX G ?a ?l ?v (by decide) (fun _ => (.cons (.str _) (.cons (.str _) .nil)))); (case a => k_is); (case l => k_is); (case v => exact (.cons ⟨_, rfl⟩ (.cons ⟨_, rfl⟩ .nil)))
    case r_LEAST_PLACES => (refine' PD.GlobV.int KX G ?a); (case a => k_is)
    case r_MOST_MOVES => (refine' PD.GlobV.int KX G ?a); (case a => k_is)
    case r_MOST_PLACES => (refine' PD.GlobV.int KX G ?a); (case a => k_is)
    case r_MOVES => (refine' PD.GlobV.str KX G ?a); (case a => k_is)

