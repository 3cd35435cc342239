import PyProof.Rows.All
import Wide.All
import OpenK.AllK
import Wide.FinOn
import HandS.ForMost
import HandS.Flow
import KE.DataEq
import KE.DataCmp
import HandS.CallSlots
import HandS.TryOnly
import HandS.TupAny
import HandS.Style
import HandS.Star
import HandS.Wide
import KE.DataAny
import KE.DataMinMax
import KE.DataFind
import KE.SortData
import PyProof.ReprRoads
import HandS.Text
import KE.GoesZip
import KE.GoesMore
import HandS.Zip
import HandS.Conv
import HandS.RaiseMore
import PyProof.ReprLen
import PyProof.Claim2Refuses
import HandS.Ends
import HandS.Words
import HandS.List
import HandS.SetFor
import HandS.Strs
import HandS.TupSets
import HandS.Gcd
import PySem.Challenge.RW_hiddenandsought_k97_whole_echoes_of_walk
set_option Elab.async false
set_option linter.all false
set_option maxRecDepth 100000
set_option maxHeartbeats 4000000
set_option autoImplicit false
/-! Plain data: every def of the text as a plain function over PyData. Part 1: results, relations, environments, readings. -/
namespace PD
open PySem PySem.Spec PyProof.Rows L2

/-! ### results -/
inductive Rs (α : Type) where
  | ok (a : α)
  | er (c : Str) (a : Int)
  | no
namespace Rs
variable {α β γ : Type}
def bind (r : Rs α) (k : α → Rs β) : Rs β := match r with
  | .ok a => k a
  | .er c n => .er c n
  | .no => .no
def quiet (r : Rs α) : Rs α := match r with
  | .ok a => .ok a
  | _ => .no
def ofO (o : Option α) : Rs α := match o with
  | some a => .ok a
  | none => .no
@[simp] theorem bind_ok (a : α) (k : α → Rs β) : (Rs.ok a).bind k = k a := rfl
@[simp] theorem bind_er (c : Str) (n : Int) (k : α → Rs β) : (Rs.er c n : Rs α).bind k = .er c n := rfl
@[simp] theorem bind_no (k : α → Rs β) : (Rs.no : Rs α).bind k = .no := rfl
theorem bind_assoc (r : Rs α) (k : α → Rs β) (l : β → Rs γ) : (r.bind k).bind l = r.bind fun a => (k a).bind l := by cases r <;> rfl
@[simp] theorem ofO_some (a : α) : ofO (some a) = .ok a := rfl
@[simp] theorem ofO_none : ofO (none : Option α) = .no := rfl
@[simp] theorem quiet_ok (a : α) : (Rs.ok a).quiet = .ok a := rfl
end Rs

abbrev D := PyData

/-! ### values that stand for data -/
mutual
inductive Rp (K : PySem.W.Frag) (H : Hp) : V → D → Prop
  | non : Rp K H .non .none
  | bl (b : Bool) : Rp K H (.bl b) (.bool b)
  | int (i : Int) : Rp K H (.int i) (.int i)
  | str (x : Str) : Rp K H (.str x) (.str x)
  | lst {a : Addr} {xs : List V} {ds : List D} : H a = some (.lst xs) → RpAll K H xs ds → Rp K H (.ref a) (.list ds)
  | tup {a : Addr} {xs : List V} {ds : List D} : SqT K H a xs → RpAll K H xs ds → Rp K H (.ref a) (.tuple ds)
inductive RpAll (K : PySem.W.Frag) (H : Hp) : List V → List D → Prop
  | nil : RpAll K H [] []
  | cons {v : V} {vs : List V} {d : D} {ds : List D} : Rp K H v d → RpAll K H vs ds → RpAll K H (v :: vs) (d :: ds)
end

theorem Same.sqt {K : PySem.W.Frag} {H H' : Hp} {a : Addr} {xs : List V} (e : Same H H') (h : SqT K H a xs) : SqT K H' a xs := by
  rcases h with (h | ⟨o, h⟩) | h
  · exact .inl (.inl (e _ _ h))
  · exact .inl (.inr ⟨o, e _ _ h⟩)
  · exact .inr h

section
variable {K : PySem.W.Frag} {H H' : Hp}
mutual
theorem Rp.mono (s : Same H H') : ∀ (d : D) (v : V), Rp K H v d → Rp K H' v d
  | .none, _, h => by cases h; exact .non
  | .bool _, _, h => by cases h; exact .bl _
  | .int _, _, h => by cases h; exact .int _
  | .str _, _, h => by cases h; exact .str _
  | .list ds, _, h => by
    cases h with
    | lst e r => exact .lst (s _ _ e) (RpAll.mono s ds _ r)
  | .tuple ds, _, h => by
    cases h with
    | tup e r => exact .tup (Same.sqt s e) (RpAll.mono s ds _ r)
  | .dict _, _, h => by cases h
theorem RpAll.mono (s : Same H H') : ∀ (ds : List D) (vs : List V), RpAll K H vs ds → RpAll K H' vs ds
  | [], _, h => by cases h; exact .nil
  | d :: ds, _, h => by
    cases h with
    | cons a b => exact .cons (Rp.mono s d _ a) (RpAll.mono s ds _ b)
end
mutual
theorem Rp.dp : ∀ (d : D) (v : V), Rp K H v d → Dp K H v d
  | .none, _, h => by cases h; exact .non
  | .bool _, _, h => by cases h; exact .bl _
  | .int _, _, h => by cases h; exact .int _
  | .str _, _, h => by cases h; exact .str _
  | .list ds, _, h => by
    cases h with
    | lst e r => exact .lst (SqL.of e) (RpAll.dp ds _ r)
  | .tuple ds, _, h => by
    cases h with
    | tup e r => exact .tup e (RpAll.dp ds _ r)
  | .dict _, _, h => by cases h
theorem RpAll.dp : ∀ (ds : List D) (vs : List V), RpAll K H vs ds → DpAll K H vs ds
  | [], _, h => by cases h; exact .nil
  | d :: ds, _, h => by
    cases h with
    | cons a b => exact .cons (Rp.dp d _ a) (RpAll.dp ds _ b)
end
theorem RpAll.length : ∀ {ds : List D} {vs : List V}, RpAll K H vs ds → vs.length = ds.length
  | [], _, h => by cases h; rfl
  | _ :: _, _, h => by
    cases h with
    | cons a b => simp [b.length]
theorem RpAll.get : ∀ {ds : List D} {vs : List V} {i : Nat} {d : D}, RpAll K H vs ds → ds[i]? = some d → ∃ v, vs[i]? = some v ∧ Rp K H v d
  | [], _, _, _, _, e => by simp at e
  | _ :: _, _, 0, _, h, e => by
    cases h with
    | cons a b => simp at e; subst e; exact ⟨_, rfl, a⟩
  | _ :: _, _, i + 1, _, h, e => by
    cases h with
    | cons a b =>
      obtain ⟨v, h1, h2⟩ := b.get (i := i) (by simpa using e)
      exact ⟨v, by simpa using h1, h2⟩
theorem RpAll.append : ∀ {ds es : List D} {vs ws : List V}, RpAll K H vs ds → RpAll K H ws es → RpAll K H (vs ++ ws) (ds ++ es)
  | [], _, _, _, h, k => by cases h; exact k
  | _ :: _, _, _, _, h, k => by
    cases h with
    | cons a b => exact .cons a (b.append k)
theorem RpAll.take : ∀ {ds : List D} {vs : List V} (n : Nat), RpAll K H vs ds → RpAll K H (vs.take n) (ds.take n)
  | _, _, 0, _ => by simpa using RpAll.nil
  | [], _, n + 1, h => by cases h; exact .nil
  | _ :: _, _, n + 1, h => by
    cases h with
    | cons a b => exact .cons a (b.take n)
theorem RpAll.drop : ∀ {ds : List D} {vs : List V} (n : Nat), RpAll K H vs ds → RpAll K H (vs.drop n) (ds.drop n)
  | _, _, 0, h => h
  | [], _, n + 1, h => by cases h; exact .nil
  | _ :: _, _, n + 1, h => by
    cases h with
    | cons a b => exact b.drop n
theorem RpAll.reverse : ∀ {ds : List D} {vs : List V}, RpAll K H vs ds → RpAll K H vs.reverse ds.reverse
  | [], _, h => by cases h; exact .nil
  | _ :: _, _, h => by
    cases h with
    | cons a b =>
      rw [List.reverse_cons, List.reverse_cons]
      exact b.reverse.append (.cons a .nil)
theorem RpAll.set : ∀ {ds : List D} {vs : List V} (i : Nat) {v : V} {d : D}, Rp K H v d → RpAll K H vs ds → RpAll K H (vs.set i v) (ds.set i d)
  | [], _, _, _, _, _, h => by cases h; exact .nil
  | _ :: _, _, 0, _, _, r, h => by
    cases h with
    | cons a b => exact .cons r b
  | _ :: _, _, i + 1, _, _, r, h => by
    cases h with
    | cons a b => exact .cons a (b.set i r)
theorem RpAll.eraseIdx : ∀ {ds : List D} {vs : List V} (i : Nat), RpAll K H vs ds → RpAll K H (vs.eraseIdx i) (ds.eraseIdx i)
  | [], _, _, h => by cases h; exact .nil
  | _ :: _, _, 0, h => by
    cases h with
    | cons a b => exact b
  | _ :: _, _, i + 1, h => by
    cases h with
    | cons a b => exact .cons a (b.eraseIdx i)
theorem RpAll.dropLast {ds : List D} {vs : List V} (h : RpAll K H vs ds) : RpAll K H vs.dropLast ds.dropLast := by
  rw [List.dropLast_eq_take, List.dropLast_eq_take, h.length]
  exact h.take _
theorem RpAll.rep {ds : List D} {vs : List V} (h : RpAll K H vs ds) : ∀ k : Nat, RpAll K H (List.replicate k vs).flatten (List.replicate k ds).flatten
  | 0 => .nil
  | k + 1 => by
    rw [List.replicate_succ, List.replicate_succ, List.flatten_cons, List.flatten_cons]
    exact h.append (h.rep k)
theorem RpAll.mem : ∀ {ds : List D} {vs : List V} {v : V}, RpAll K H vs ds → v ∈ vs → ∃ d, d ∈ ds ∧ Rp K H v d
  | [], _, _, h, m => by cases h; cases m
  | _ :: _, _, _, h, m => by
    cases h with
    | cons a b =>
      rcases List.mem_cons.mp m with e | m
      · subst e; exact ⟨_, List.mem_cons_self, a⟩
      · obtain ⟨d, h1, h2⟩ := b.mem m
        exact ⟨d, List.mem_cons_of_mem _ h1, h2⟩
end

/-! ### the heap grows -/
structure Ext (F H F' H' : Hp) : Prop where
  f : Same F F'
  h : Same H H'
  s : Same F' H'
  n : ∀ a o, F' a = some o → F a = some o ∨ H a = none
section
variable {F H F1 H1 F2 H2 : Hp}
theorem Ext.refl (s : Same F H) : Ext F H F H := ⟨Same.refl _, Same.refl _, s, fun _ _ e => .inl e⟩
theorem Ext.trans (a : Ext F H F1 H1) (b : Ext F1 H1 F2 H2) : Ext F H F2 H2 :=
  ⟨a.f.trans b.f, a.h.trans b.h, b.s, fun c o e => by
    rcases b.n c o e with h | h
    · exact a.n c o h
    · exact .inr (a.h.free h)⟩
/-- a new object, frozen -/
theorem same_upd {p : Addr} {o : HO} (h : H p = none) : Same H (upd H p o) := fun b x e => by
  rw [upd_ne (ne_of_none e h)]
  exact e
theorem Ext.new {p : Addr} {o : HO} (s : Same F H) (h : H p = none) : Ext F H (upd F p o) (upd H p o) := by
  refine ⟨same_upd (s.free h), same_upd h, fun b x e => ?_, fun a x e => ?_⟩
  · by_cases q : b = p
    · subst q; rw [upd_same] at e; rw [upd_same]; exact e
    · rw [upd_ne q] at e; rw [upd_ne q]; exact s _ _ e
  · by_cases q : a = p
    · subst q; exact .inr h
    · rw [upd_ne q] at e; exact .inl e
/-- .. not frozen -/
theorem Ext.laid {p : Addr} {o : HO} (s : Same F H) (h : H p = none) : Ext F H F (upd H p o) :=
  ⟨Same.refl _, same_upd h, s.trans (same_upd h), fun _ _ e => .inl e⟩
end

/-! ### environments -/
inductive Sl where
  | un
  | sh (d : D)
  | own (l : List D)
  | scr (ns : List Int)

structure Ct where
  G : Hp
  H : Hp
  E : L2.St → XK
abbrev Ct.nox (C : Ct) : Ct := { C with E := fun _ => E0 }

def SlR (K : PySem.W.Frag) (C : Ct) (F H : Hp) (v : Option (Option V)) : Sl → Prop
  | .un => True
  | .sh d => ∃ x, v = some (some x) ∧ Rp K F x d
  | .own l => ∃ a xs, v = some (some (.ref a)) ∧ H a = some (.lst xs) ∧ F a = none ∧ C.H a = none ∧ RpAll K F xs l
  | .scr ns => ∃ a, v = some (some (.ref a)) ∧ SqL K C.H a (ns.map V.int)

structure REnv (K : PySem.W.Frag) (C : Ct) (F : Hp) (σ : L2.St) (H : Hp) (env : List Sl) : Prop where
  ext : Ext C.G C.H F H
  len : σ.length = env.length
  get : ∀ (i : Nat) (s : Sl), env[i]? = some s → SlR K C F H σ[i]? s
  apart : ∀ (i j : Nat) (l m : List D), i ≠ j → env[i]? = some (.own l) → env[j]? = some (.own m) → σ[i]? ≠ σ[j]?

section
variable {K : PySem.W.Frag} {C : Ct} {F H F' H' : Hp} {σ : L2.St} {env : List Sl}
theorem SlR.ext {v : Option (Option V)} {s : Sl} (e : Ext F H F' H') (h : SlR K C F H v s) : SlR K C F' H' v s := by
  cases s with
  | un => trivial
  | sh d => obtain ⟨x, h1, h2⟩ := h; exact ⟨x, h1, Rp.mono e.f _ _ h2⟩
  | own l =>
    obtain ⟨a, xs, h1, h2, h3, h4, h5⟩ := h
    refine ⟨a, xs, h1, e.h _ _ h2, ?_, h4, RpAll.mono e.f _ _ h5⟩
    cases q : F' a with
    | none => rfl
    | some o =>
      rcases e.n _ _ q with z | z
      · rw [h3] at z; cases z
      · rw [h2] at z; cases z
  | scr ns => exact h
theorem REnv.go (r : REnv K C F σ H env) (e : Ext F H F' H') : REnv K C F' σ H' env :=
  ⟨r.ext.trans e, r.len, fun i s h => (r.get i s h).ext e, r.apart⟩
theorem REnv.same (r : REnv K C F σ H env) : Same F H := r.ext.s
theorem REnv.sh {i : Nat} {d : D} (r : REnv K C F σ H env) (h : env[i]? = some (.sh d)) : ∃ x, σ[i]? = some (some x) ∧ Rp K F x d := r.get i _ h
theorem REnv.own {i : Nat} {l : List D} (r : REnv K C F σ H env) (h : env[i]? = some (.own l)) : ∃ a xs, σ[i]? = some (some (.ref a)) ∧ H a = some (.lst xs) ∧ F a = none ∧ C.H a = none ∧ RpAll K F xs l := r.get i _ h
/-- a name is stored -/
theorem REnv.set {i : Nat} {v : V} {s : Sl} (r : REnv K C F σ H env) (h : SlR K C F H (some (some v)) s) (ho : ∀ (l : List D), s = .own l → ∀ (j : Nat), σ[j]? = some (some v) → ∀ (m : List D), env[j]? ≠ some (.own m)) : REnv K C F (σ.set i (some v)) H (env.set i s) := by
  refine ⟨r.ext, by rw [List.length_set, List.length_set]; exact r.len, fun j t e => ?_, fun j k l m ne e1 e2 => ?_⟩
  · by_cases q : i = j
    · subst q
      have hi : i < env.length := by
        rcases Nat.lt_or_ge i env.length with z | z
        · exact z
        · rw [List.getElem?_eq_none (by rw [List.length_set]; exact z)] at e; cases e
      rw [List.getElem?_set_self hi] at e
      cases e
      rw [List.getElem?_set_self (by rw [r.len]; exact hi)]
      exact h
    · rw [List.getElem?_set_ne q] at e ⊢
      exact r.get j t e
  · have key : ∀ (j k : Nat) (l m : List D), i = j → i ≠ k → (env.set i s)[j]? = some (.own l) → (env.set i s)[k]? = some (.own m) → (σ.set i (some v))[j]? ≠ (σ.set i (some v))[k]? := by
      intro j k l m e ne e1 e2
      subst e
      rw [List.getElem?_set_ne ne] at e2 ⊢
      have hi : i < env.length := by
        rcases Nat.lt_or_ge i env.length with z | z
        · exact z
        · rw [List.getElem?_eq_none (by rw [List.length_set]; exact z)] at e1; cases e1
      rw [List.getElem?_set_self hi] at e1
      rw [List.getElem?_set_self (by rw [r.len]; exact hi)]
      intro z
      exact ho l (Option.some.inj e1) k z.symm m e2
    by_cases q : i = j
    · exact key j k l m q (fun z => ne (q.symm.trans z)) e1 e2
    · by_cases q2 : i = k
      · exact fun z => key k j m l q2 q e2 e1 z.symm
      · rw [List.getElem?_set_ne q] at e1 ⊢
        rw [List.getElem?_set_ne q2] at e2 ⊢
        exact r.apart j k l m ne e1 e2
theorem REnv.setSh {i : Nat} {v : V} {d : D} (r : REnv K C F σ H env) (h : Rp K F v d) : REnv K C F (σ.set i (some v)) H (env.set i (.sh d)) :=
  r.set ⟨v, rfl, h⟩ fun l e => by cases e
/-- a new list is stored -/
theorem REnv.setOwn {i : Nat} {p : Addr} {xs : List V} {l : List D} (r : REnv K C F σ H env) (h : H p = some (.lst xs)) (hf : F p = none) (hc : C.H p = none) (ha : RpAll K F xs l)
    (ho : ∀ (j : Nat) (m : List D), σ[j]? = some (some (.ref p)) → env[j]? ≠ some (.own m)) : REnv K C F (σ.set i (some (.ref p))) H (env.set i (.own l)) :=
  r.set ⟨p, xs, rfl, h, hf, hc, ha⟩ fun _ _ j e m => ho j m e
end

/-! ### readings -/
abbrev Rel (β α : Type) := Hp → Hp → Hp → Hp → β → α → Prop
def RMono {β α : Type} (R : Rel β α) : Prop := ∀ F H F1 H1 F' H' b a, Ext F H F1 H1 → Ext F1 H1 F' H' → R F1 H1 F' H' b a → R F H F' H' b a
/-- what is wanted of an exception -/
def XW (mg : Str → Option Value) (C : Ct) (σ : L2.St) (H : Hp) (c : Str) (n : Int) : Prop := ∀ u H' dx, mg c = some u → Same H H' → H dx = none → H' dx = some (.xd [("at", .int n)]) → C.E σ u (some dx) H'
def Sat {α β : Type} (mg : Str → Option Value) (C : Ct) (R : Rel β α) (r : Rs α) (σ : L2.St) (F H : Hp) (Q : β → Hp → Prop) : Prop := match r with
  | .ok a => ∀ b H' F', Ext F H F' H' → R F H F' H' b a → Q b H'
  | .er c n => XW mg C σ H c n
  | .no => False
def RD (K : PySem.W.Frag) : Rel V D := fun _ _ F' _ v d => Rp K F' v d
def RDs (K : PySem.W.Frag) : Rel (List V) (List D) := fun _ _ F' _ v d => RpAll K F' v d
def RB : Rel Bool Bool := fun _ _ _ _ b c => b = c
/-- a new list -/
def RN (K : PySem.W.Frag) : Rel V D := fun _ H F' H' v d => ∃ p xs l, v = .ref p ∧ d = .list l ∧ H' p = some (.lst xs) ∧ F' p = none ∧ H p = none ∧ RpAll K F' xs l
theorem RD.mono {K : PySem.W.Frag} : RMono (RD K) := fun _ _ _ _ _ _ _ _ _ _ h => h
theorem RDs.mono {K : PySem.W.Frag} : RMono (RDs K) := fun _ _ _ _ _ _ _ _ _ _ h => h
theorem RB.mono : RMono RB := fun _ _ _ _ _ _ _ _ _ _ h => h
theorem RN.mono {K : PySem.W.Frag} : RMono (RN K) := fun _ _ _ _ _ _ _ _ e _ ⟨p, xs, l, a, b, c, d, f, g⟩ => ⟨p, xs, l, a, b, c, d, e.h.free f, g⟩

section
variable {mg : Str → Option Value} {K : PySem.W.Frag} {C : Ct} {F H F' H' : Hp} {σ : L2.St} {env : List Sl} {α β γ δ : Type}
theorem XW.mono {c : Str} {n : Int} (s : Same H H') (h : XW mg C σ H c n) : XW mg C σ H' c n := fun u H2 dx m s2 e x => h u H2 dx m (s.trans s2) (s.free e) x
theorem Sat.imp {R : Rel β α} {r : Rs α} {Q Q' : β → Hp → Prop} (h : Sat mg C R r σ F H Q) (i : ∀ b H', Q b H' → Q' b H') : Sat mg C R r σ F H Q' := by
  cases r with
  | ok a => exact fun b H' F' e q => i _ _ (h b H' F' e q)
  | er c n => exact h
  | no => exact h
theorem Sat.go {R : Rel β α} {r : Rs α} {Q : β → Hp → Prop} (m : RMono R) (h : Sat mg C R r σ F H Q) (e : Ext F H F' H') : Sat mg C R r σ F' H' Q := by
  cases r with
  | ok a => exact fun b H2 F2 e2 q => h b H2 F2 (e.trans e2) (m _ _ _ _ _ _ _ _ e e2 q)
  | er c n => exact XW.mono e.h h
  | no => exact h
theorem Sat.bind {R : Rel β α} {R' : Rel δ γ} {r : Rs α} {k : α → Rs γ} {P : β → Hp → Prop} {Q : δ → Hp → Prop} (m : RMono R') (h : Sat mg C R' (r.bind k) σ F H Q)
    (hk : ∀ a b F1 H1, Ext F H F1 H1 → R F H F1 H1 b a → Sat mg C R' (k a) σ F1 H1 Q → P b H1) : Sat mg C R r σ F H P := by
  cases r with
  | ok a => exact fun b H1 F1 e q => hk a b F1 H1 e q (Sat.go m h e)
  | er c n => exact h
  | no => exact h
theorem Sat.ofO {R : Rel β α} {o : Option α} {Q : β → Hp → Prop} (h : Sat mg C R (Rs.ofO o) σ F H Q) : ∃ a, o = some a ∧ ∀ b H' F', Ext F H F' H' → R F H F' H' b a → Q b H' := by
  cases o with
  | none => exact h.elim
  | some a => exact ⟨a, rfl, h⟩
end

abbrev FE := List Sl → Rs D
abbrev FB := List Sl → Rs Bool
abbrev FA := List Sl → Rs (List D)
section
variable (K : PySem.W.Frag) (mg : Str → Option Value) (C : Ct)
def T (f : FE) : TE := fun σ H Q => ∃ F env, REnv K C F σ H env ∧ Sat mg C (RD K) (f env) σ F H Q
def TN (f : FE) : TE := fun σ H Q => ∃ F env, REnv K C F σ H env ∧ Sat mg C (RN K) (f env) σ F H Q
def TB (f : FB) : TT := fun σ H Q => ∃ F env, REnv K C F σ H env ∧ Sat mg C RB (f env) σ F H Q
def TL (f : FA) : TA := fun σ H Q => ∃ F env, REnv K C F σ H env ∧ Sat mg C (RDs K) (f env) σ F H Q
end
abbrev VE (X : Cx) (C : Ct) (e : Expr) (f : FE) : Prop := PE X e (T X.K X.mg C f)
abbrev VN (X : Cx) (C : Ct) (e : Expr) (f : FE) : Prop := PE X e (TN X.K X.mg C f)
abbrev VB (X : Cx) (C : Ct) (e : Expr) (f : FB) : Prop := PT X e (TB X.K X.mg C f)
abbrev VA (X : Cx) (C : Ct) (es : List Expr) (f : FA) : Prop := PA X es (TL X.K X.mg C f)

section
variable {X : Cx} {C : Ct} {e : Expr} {es : List Expr}
/-- another reading, a stronger one -/
theorem PE.of {t u : TE} (h : PE X e t) (i : ∀ σ H Q, u σ H Q → t σ H Q) : PE X e u := ⟨fun pins s σ H Q I q => h.run pins s σ H Q I (i _ _ _ q)⟩
theorem PT.of {t u : TT} (h : PT X e t) (i : ∀ σ H Q, u σ H Q → t σ H Q) : PT X e u := ⟨fun pins s σ H Q I q => h.run pins s σ H Q I (i _ _ _ q)⟩
theorem PA.of {t u : TA} (h : PA X es t) (i : ∀ σ H Q, u σ H Q → t σ H Q) : PA X es u := ⟨fun pos pins s σ H Q I q => h.run pos pins s σ H Q I (i _ _ _ q)⟩
/-- a new list, frozen -/
theorem VN.ve {f : FE} (h : VN X C e f) : VE X C e f := PE.of h fun σ H Q ⟨F, env, r, q⟩ => ⟨F, env, r, by
  revert q
  cases f env with
  | ok d =>
    intro q b H' F' x ⟨p, xs, l, e1, e2, e3, e4, e5, e6⟩
    subst e1 e2
    have x2 : Ext F H (upd F' p (.lst xs)) H' := by
      refine ⟨fun b o z => ?_, x.h, fun b o z => ?_, fun b o z => ?_⟩
      · rw [upd_ne (ne_of_none (x.f _ _ z) e4)]
        exact x.f _ _ z
      · by_cases q : b = p
        · subst q; rw [upd_same] at z; rw [← z]; exact e3
        · rw [upd_ne q] at z; exact x.s _ _ z
      · by_cases q : b = p
        · subst q; exact .inr e5
        · rw [upd_ne q] at z; exact x.n _ _ z
    refine q _ H' _ x2 (.lst (a := p) (xs := xs) upd_same (RpAll.mono (same_upd e4) _ _ e6))
  | er c n => exact fun q => q
  | no => exact fun q => q⟩
end
end PD

/-! Part 2: expressions -/
namespace PD
open PySem PySem.Spec PyProof.Rows L2

/-- what a body stands on -/
structure Am (X : Cx) : Prop where
  g : X.A.guards = some []
  r : Room 0 X.A
  c : X.calm = true
  n : X.N.Nodup

def LINE : Nat := 16777216
theorem line_eq : sizeLine = LINE := sizeLine_eq

/-! ### names, constants -/
def fVar (i : Nat) : FE := fun env => match env[i]? with
  | some (.sh d) => .ok d
  | _ => .no
def fC (d : D) : FE := fun _ => .ok d
section
variable {X : Cx} {C : Ct} {x : Str} {pos : Pos}
theorem ve_var (i : Nat) (hN : X.N[i]? = some x := by rfl) (hv : Vis X.env.scope x := by first | exact Or.inl rfl | exact Or.inr (Or.inl rfl) | exact Or.inr (Or.inr rfl)) (hd : (x == ("__debug__" : Str)) = false := by decide)
    (hcd : (x == ("__classdict__" : Str)) = false := by decide) : VE X C (.Name x pos) (fVar i) := PE.of (pe_var hN hv hd hcd) fun σ H Q ⟨F, env, r, q⟩ => by
  unfold fVar at q
  split at q
  · rename_i d e
    obtain ⟨v, h1, h2⟩ := r.sh e
    exact ⟨v, h1, q v H F (Ext.refl r.same) h2⟩
  · exact q.elim
theorem ve_c {e : Expr} {v : V} {d : D} (h : PE X e (tC v)) (hv : ∀ H, Rp X.K H v d) : VE X C e (fC d) := PE.of h fun σ H Q ⟨F, env, r, q⟩ => q v H F (Ext.refl r.same) (hv F)
theorem ve_int {i : Int} {j : Nat} : VE X C (.Constant (.int i) j pos) (fC (.int i)) := ve_c pe_int fun _ => .int i
theorem ve_bl {b : Bool} {j : Nat} : VE X C (.Constant (.bool b) j pos) (fC (.bool b)) := ve_c pe_bl fun _ => .bl b
theorem ve_non {j : Nat} : VE X C (.Constant .none j pos) (fC .none) := ve_c pe_non fun _ => .non
theorem ve_str {s : Str} {j : Nat} : VE X C (.Constant (.str s) j pos) (fC (.str s)) := ve_c pe_str fun _ => .str s
theorem ve_glob {v : V} {u : Value} {d : D} (hg : Gl X x) (hm : X.mg x = some u) (r : RelV v u) (hv : ∀ H, Rp X.K H v d) (hd : (x == ("__debug__" : Str)) = false := by decide) : VE X C (.Name x pos) (fC d) := ve_c (pe_glob hg hm r hd) hv
end

/-! ### operations on two values -/
def V2 (K : PySem.W.Frag) (r : R2) (g : D → D → Option D) : Prop := ∀ (F H : Hp) (x y : V) (d e c : D) (Q : VK), Same F H → Rp K F x d → Rp K F y e → g d e = some c → (∀ v H' F', Ext F H F' H' → Rp K F' v c → Q v H') → r x y H Q
def f2 (g : D → D → Option D) (f f' : FE) : FE := fun env => (f env).bind fun a => (f' env).bind fun b => Rs.ofO (g a b)
section
variable {X : Cx} {C : Ct} {K : PySem.W.Frag} {mg : Str → Option Value} {σ : L2.St} {H : Hp} {Q : VK} {f f' : FE} {r : R2} {g : D → D → Option D} {a b : Expr} {pos : Pos}
theorem t_op2 (hv : V2 K r g) : T K mg C (f2 g f f') σ H Q → tOp r (T K mg C f) (T K mg C f') σ H Q := fun ⟨F, env, re, q⟩ =>
  ⟨F, env, re, Sat.bind RD.mono q fun d v F1 H1 x1 r1 q1 => ⟨F1, env, re.go x1, Sat.bind RD.mono q1 fun e w F2 H2 x2 r2 q2 => by
    obtain ⟨c, hc, q3⟩ := Sat.ofO q2
    exact hv F2 H2 v w d e c Q (re.go (x1.trans x2)).same (Rp.mono x2.f _ _ r1) r2 hc q3⟩⟩
theorem ve_op {op : Operator} (ho : OpR X (binaryOp op) r) (hv : V2 X.K r g) (ha : VE X C a f) (hb : VE X C b f') : VE X C (.BinOp a op b pos) (f2 g f f') := PE.of (pe_op ho ha hb) fun _ _ _ => t_op2 hv
theorem ve_cmp {op : CmpOp} (ho : OpR X (compareOp op) r) (hv : V2 X.K r g) (ha : VE X C a f) (hb : VE X C b f') (hm : behindInMarks op b = false := by first | exact nomark _ | with_unfolding_all rfl) : VE X C (.Compare a [op] [b] pos) (f2 g f f') := PE.of (pe_cmpR ho ha hb hm) fun _ _ _ => t_op2 hv
end

/-! ### tests -/
def asB : D → Rs Bool
  | .bool b => .ok b
  | _ => .no
def fB (f : FE) : FB := fun env => (f env).bind asB
def truD : D → Option Bool
  | .none => some false
  | .bool b => some b
  | .int i => some (i != 0)
  | .str x => if x.length ≤ LINE then some ((x.length : Int) != 0) else none
  | .list l => some (!l.isEmpty)
  | .tuple l => some (!l.isEmpty)
  | .dict _ => none
def fTru (f : FE) : FB := fun env => (f env).bind fun d => Rs.ofO (truD d)
section
variable {X : Cx} {C : Ct} {K : PySem.W.Frag} {mg : Str → Option Value} {σ : L2.St} {H : Hp} {f f' : FE} {g g' : FB} {r r' : R2} {a b c : Expr} {rest : List Expr} {pos : Pos}
theorem Rp.isB {F : Hp} {v : V} {b : Bool} (h : Rp K F v (.bool b)) : v = .bl b := by cases h; rfl
theorem t_test {Q : Bool → Hp → Prop} : TB K mg C (fB f) σ H Q → T K mg C f σ H fun x H' => ∃ k, x = .bl k ∧ Q k H' := fun ⟨F, env, re, q⟩ =>
  ⟨F, env, re, Sat.bind RB.mono q fun d v F1 H1 x1 r1 q1 => by
    cases d with
    | bool b => exact ⟨b, Rp.isB r1, q1 b H1 F1 (Ext.refl (re.go x1).same) rfl⟩
    | _ => exact q1.elim⟩
theorem truV_of {F H : Hp} {v : V} {d : D} {k : Bool} (s : Same F H) (h : Rp K F v d) (e : truD d = some k) : TruV K v H k := by
  cases d with
  | none => cases h; cases e; exact rfl
  | bool b => cases h; cases e; exact rfl
  | int i => cases h; cases e; exact rfl
  | str x =>
    cases h
    simp only [truD] at e
    split at e
    · rename_i hl
      cases e
      exact ⟨by rw [line_eq]; exact hl, rfl⟩
    · cases e
  | list l =>
    cases h with
    | lst h1 h2 =>
      cases e
      refine .inl ⟨_, SqL.of (s _ _ h1), ?_⟩
      cases h2 <;> rfl
  | tuple l =>
    cases h with
    | tup h1 h2 =>
      cases e
      refine .inr (.inl ⟨_, Same.sqt s h1, ?_⟩)
      cases h2 <;> rfl
  | dict _ => cases e
theorem t_tru {Q : Bool → Hp → Prop} : TB K mg C (fTru f) σ H Q → T K mg C f σ H fun x H' => ∃ k, TruV K x H' k ∧ Q k H' := fun ⟨F, env, re, q⟩ =>
  ⟨F, env, re, Sat.bind RB.mono q fun d v F1 H1 x1 r1 q1 => by
    obtain ⟨k, hk, q2⟩ := Sat.ofO q1
    exact ⟨k, truV_of (re.go x1).same r1 hk, q2 k H1 F1 (Ext.refl (re.go x1).same) rfl⟩⟩
theorem vb_tru (h : VE X C a f) (he : ∀ whole, isTrue a X.env whole = (do let v ← whole; standAt a.pos; holding [v] (truthy v)) := by intro _; rfl) : VB X C a (fTru f) := PT.of (pt_truth h he) fun _ _ _ => t_tru
theorem vb_cmp {op : CmpOp} {k : D → D → Option D} (ho : OpR X (compareOp op) r) (hv : V2 X.K r k) (ha : VE X C a f) (hb : VE X C b f') (hm : behindInMarks op b = false := by first | exact nomark _ | with_unfolding_all rfl) : VB X C (.Compare a [op] [b] pos) (fB (f2 k f f')) :=
  PT.of (pt_cmpR ho ha hb hm) fun σ H Q h => t_op2 hv (t_test h)
/-- a op1 b op2 c -/
def f3 (k k' : D → D → Option D) (f f' f'' : FE) : FE := fun env => (f env).bind fun a => (f' env).bind fun b => (Rs.ofO (k a b)).bind fun t => (asB t).bind fun t => if t = true then (f'' env).bind fun c => Rs.ofO (k' b c) else .ok (.bool false)
theorem t_chain {k k' : D → D → Option D} {f'' : FE} {Q : VK} (hv : V2 K r k) (hv' : V2 K r' k') : T K mg C (f3 k k' f f' f'') σ H Q → tChain r r' (T K mg C f) (T K mg C f') (T K mg C f'') σ H Q := fun ⟨F, env, re, q⟩ =>
  ⟨F, env, re, Sat.bind RD.mono q fun d v F1 H1 x1 r1 q1 => ⟨F1, env, re.go x1, Sat.bind RD.mono q1 fun e w F2 H2 x2 r2 q2 => by
    have re2 := re.go (x1.trans x2)
    cases hk : k d e with
    | none => rw [hk] at q2; exact q2.elim
    | some t =>
      rw [hk] at q2
      cases t with
      | bool t =>
        refine hv F2 H2 v w d e _ _ re2.same (Rp.mono x2.f _ _ r1) r2 hk fun u H3 F3 x3 r3 => ⟨t, Rp.isB r3, ?_⟩
        have q2 : Sat mg C (RD K) (if t = true then (f'' env).bind fun c => Rs.ofO (k' e c) else .ok (.bool false)) σ F2 H2 Q := q2
        cases t with
        | false =>
          rw [if_neg Bool.false_ne_true] at q2 ⊢
          exact q2 _ H3 F3 x3 (.bl false)
        | true =>
          rw [if_pos rfl] at q2 ⊢
          refine ⟨F3, env, re2.go x3, Sat.bind RD.mono (Sat.go RD.mono q2 x3) fun c z F4 H4 x4 r4 q4 => ?_⟩
          obtain ⟨m, hm, q5⟩ := Sat.ofO q4
          exact hv' F4 H4 w z e c m Q (re2.go (x3.trans x4)).same (Rp.mono (x3.trans x4).f _ _ r2) r4 hm q5
      | _ => exact q2.elim⟩⟩
theorem ve_chain {op op' : CmpOp} {k k' : D → D → Option D} {f'' : FE} (ho : OpR X (compareOp op) r) (hv : V2 X.K r k) (ho' : OpR X (compareOp op') r') (hv' : V2 X.K r' k') (ha : VE X C a f) (hb : VE X C b f') (hc : VE X C c f'')
    (hm : lastMarks [op, op'] [b, c] = false := by with_unfolding_all rfl) : VE X C (.Compare a [op, op'] [b, c] pos) (f3 k k' f f' f'') := PE.of (pe_chain ho ho' ha hb hc hm) fun _ _ _ => t_chain hv hv'
theorem vb_chain {op op' : CmpOp} {k k' : D → D → Option D} {f'' : FE} (ho : OpR X (compareOp op) r) (hv : V2 X.K r k) (ho' : OpR X (compareOp op') r') (hv' : V2 X.K r' k') (ha : VE X C a f) (hb : VE X C b f') (hc : VE X C c f'')
    (hm : lastMarks [op, op'] [b, c] = false := by with_unfolding_all rfl) : VB X C (.Compare a [op, op'] [b, c] pos) (fB (f3 k k' f f' f'')) := PT.of (pt_chain ho ho' ha hb hc hm) fun σ H Q h => t_chain hv hv' (t_test h)
/-- and, or, not as tests -/
def fAnd (g g' : FB) : FB := fun env => (g env).bind fun t => if t = true then g' env else .ok false
def fOr (g g' : FB) : FB := fun env => (g env).bind fun t => if t = true then .ok true else g' env
def fNot (g : FB) : FB := fun env => (g env).bind fun t => .ok (!t)
abbrev VW (X : Cx) (C : Ct) (e : Expr) (f : FB) : Prop := PW X e (TB X.K X.mg C f)
theorem PW.of {e : Expr} {t u : TT} (h : PW X e t) (i : ∀ σ H Q, u σ H Q → t σ H Q) : PW X e u := ⟨fun wh pins s σ H Q I q => h.run wh pins s σ H Q I (i _ _ _ q)⟩
theorem vw_and1 (h : VB X C a g) : VW X C (.BoolOp .And [a] pos) g := pw_and1 h
theorem vw_or1 (h : VB X C a g) : VW X C (.BoolOp .Or [a] pos) g := pw_or1 h
theorem t_and {Q : Bool → Hp → Prop} : TB K mg C (fAnd g g') σ H Q → tAnd (TB K mg C g) (TB K mg C g') σ H Q := fun ⟨F, env, re, q⟩ =>
  ⟨F, env, re, Sat.bind RB.mono q fun t b F1 H1 x1 r1 q1 => by
    have e : b = t := r1
    subst e
    cases b with
    | true => rw [if_pos rfl] at q1 ⊢; exact ⟨F1, env, re.go x1, q1⟩
    | false => rw [if_neg Bool.false_ne_true] at q1 ⊢; exact q1 false H1 F1 (Ext.refl (re.go x1).same) rfl⟩
theorem t_or {Q : Bool → Hp → Prop} : TB K mg C (fOr g g') σ H Q → tOr (TB K mg C g) (TB K mg C g') σ H Q := fun ⟨F, env, re, q⟩ =>
  ⟨F, env, re, Sat.bind RB.mono q fun t b F1 H1 x1 r1 q1 => by
    have e : b = t := r1
    subst e
    cases b with
    | true => rw [if_pos rfl] at q1 ⊢; exact q1 true H1 F1 (Ext.refl (re.go x1).same) rfl
    | false => rw [if_neg Bool.false_ne_true] at q1 ⊢; exact ⟨F1, env, re.go x1, q1⟩⟩
theorem vw_and (h : VB X C a g) (h' : VW X C (.BoolOp .And (b :: rest) pos) g') : VW X C (.BoolOp .And (a :: b :: rest) pos) (fAnd g g') := PW.of (pw_and h h') fun _ _ _ => t_and
theorem vw_or (h : VB X C a g) (h' : VW X C (.BoolOp .Or (b :: rest) pos) g') : VW X C (.BoolOp .Or (a :: b :: rest) pos) (fOr g g') := PW.of (pw_or h h') fun _ _ _ => t_or
theorem vb_w (h : VW X C a g) : VB X C a g := PW.pt h
theorem t_not {Q : Bool → Hp → Prop} : TB K mg C (fNot g) σ H Q → tNot (TB K mg C g) σ H Q := fun ⟨F, env, re, q⟩ =>
  ⟨F, env, re, Sat.bind RB.mono q fun t b F1 H1 x1 r1 q1 => by
    have e : b = t := r1
    subst e
    exact q1 (!b) H1 F1 (Ext.refl (re.go x1).same) rfl⟩
theorem vb_not (h : VB X C a g) : VB X C (.UnaryOp .Not a pos) (fNot g) := PT.of (pt_not h) fun _ _ _ => t_not
/-- .. as values -/
def fOrV (f f' : FE) : FE := fun env => (f env).bind fun d => (Rs.ofO (truD d)).bind fun t => if t = true then .ok d else f' env
def fAndV (f f' : FE) : FE := fun env => (f env).bind fun d => (Rs.ofO (truD d)).bind fun t => if t = true then f' env else .ok d
theorem ve_orV (ha : VE X C a f) (hb : VE X C (.BoolOp .Or (b :: rest) pos) f') : VE X C (.BoolOp .Or (a :: b :: rest) pos) (fOrV f f') := PE.of (pe_orT ha hb) fun σ H Q ⟨F, env, re, q⟩ =>
  ⟨F, env, re, Sat.bind RD.mono q fun d v F1 H1 x1 r1 q1 => by
    cases hk : truD d with
    | none => rw [hk] at q1; exact q1.elim
    | some k =>
      rw [hk] at q1
      refine ⟨k, truV_of (re.go x1).same r1 hk, ?_⟩
      have q1 : Sat X.mg C (RD X.K) (if k = true then .ok d else f' env) σ F1 H1 Q := q1
      cases k with
      | true => rw [if_pos rfl] at q1 ⊢; exact q1 v H1 F1 (Ext.refl (re.go x1).same) r1
      | false => rw [if_neg Bool.false_ne_true] at q1 ⊢; exact ⟨F1, env, re.go x1, q1⟩⟩
theorem ve_andV (ha : VE X C a f) (hb : VE X C (.BoolOp .And (b :: rest) pos) f') : VE X C (.BoolOp .And (a :: b :: rest) pos) (fAndV f f') := PE.of (pe_andT ha hb) fun σ H Q ⟨F, env, re, q⟩ =>
  ⟨F, env, re, Sat.bind RD.mono q fun d v F1 H1 x1 r1 q1 => by
    cases hk : truD d with
    | none => rw [hk] at q1; exact q1.elim
    | some k =>
      rw [hk] at q1
      refine ⟨k, truV_of (re.go x1).same r1 hk, ?_⟩
      have q1 : Sat X.mg C (RD X.K) (if k = true then f' env else .ok d) σ F1 H1 Q := q1
      cases k with
      | true => rw [if_pos rfl] at q1 ⊢; exact ⟨F1, env, re.go x1, q1⟩
      | false => rw [if_neg Bool.false_ne_true] at q1 ⊢; exact q1 v H1 F1 (Ext.refl (re.go x1).same) r1⟩
theorem ve_one {op : BoolOp} (h : VE X C a f) : VE X C (.BoolOp op [a] pos) f := pe_one h
def fNotV (f : FE) : FE := fun env => (f env).bind fun d => (asB d).bind fun t => .ok (.bool (!t))
theorem ve_notV (ha : VE X C a f) : VE X C (.UnaryOp .Not a pos) (fNotV f) := PE.of (pe_not ha) fun σ H Q ⟨F, env, re, q⟩ =>
  ⟨F, env, re, Sat.bind RD.mono q fun d v F1 H1 x1 r1 q1 => by
    cases d with
    | bool t => exact ⟨t, Rp.isB r1, q1 _ H1 F1 (Ext.refl (re.go x1).same) (.bl _)⟩
    | _ => exact q1.elim⟩
/-- a if c else b -/
def fIf (g : FB) (f f' : FE) : FE := fun env => (g env).bind fun t => if t = true then f env else f' env
theorem ve_if (hc : VB X C c g) (ha : VE X C a f) (hb : VE X C b f') : VE X C (.IfExp c a b pos) (fIf g f f') := PE.of (pe_ifExp hc ha hb) fun σ H Q ⟨F, env, re, q⟩ =>
  ⟨F, env, re, Sat.bind RD.mono q fun t b F1 H1 x1 r1 q1 => by
    have e : b = t := r1
    subst e
    cases b with
    | true => rw [if_pos rfl] at q1 ⊢; exact ⟨F1, env, re.go x1, q1⟩
    | false => rw [if_neg Bool.false_ne_true] at q1 ⊢; exact ⟨F1, env, re.go x1, q1⟩⟩
/-- one operand -/
def V1 (K : PySem.W.Frag) (r : V → Hp → VK → Prop) (g : D → Option D) : Prop := ∀ (F H : Hp) (x : V) (d c : D) (Q : VK), Same F H → Rp K F x d → g d = some c → (∀ v H' F', Ext F H F' H' → Rp K F' v c → Q v H') → r x H Q
def f1 (g : D → Option D) (f : FE) : FE := fun env => (f env).bind fun a => Rs.ofO (g a)
theorem ve_un {op : UnaryOp} {r : V → Hp → VK → Prop} {k : D → Option D} (ho : UnR X (unaryOp op) r) (hv : V1 X.K r k) (ha : VE X C a f) : VE X C (.UnaryOp op a pos) (f1 k f) := PE.of (pe_un ho ha) fun σ H Q ⟨F, env, re, q⟩ =>
  ⟨F, env, re, Sat.bind RD.mono q fun d v F1 H1 x1 r1 q1 => by
    obtain ⟨c, hc, q3⟩ := Sat.ofO q1
    exact hv F1 H1 v d c Q (re.go x1).same r1 hc q3⟩
end

/-! ### argument lists, displays -/
def aNil : FA := fun _ => .ok []
def aCons (f : FE) (fa : FA) : FA := fun env => (f env).bind fun d => (fa env).bind fun ds => .ok (d :: ds)
def fLst (fa : FA) : FE := fun env => (fa env).bind fun ds => if ds.length ≤ LINE then .ok (.list ds) else .no
def fTup (fa : FA) : FE := fun env => (fa env).bind fun ds => if ds.length ≤ LINE then .ok (.tuple ds) else .no
section
variable {X : Cx} {C : Ct} {f : FE} {fa : FA} {e : Expr} {es : List Expr} {pos : Pos}
theorem va_nil : VA X C [] aNil := PA.of pa_nil fun σ H Q ⟨F, env, re, q⟩ => q [] H F (Ext.refl re.same) .nil
theorem va_cons (h : VE X C e f) (h' : VA X C es fa) (hs : starEach (e :: es) X.env = (false, eval e X.env) :: starEach es X.env := by rfl) : VA X C (e :: es) (aCons f fa) := PA.of (pa_cons h h' hs) fun σ H Q ⟨F, env, re, q⟩ =>
  ⟨F, env, re, Sat.bind RDs.mono q fun d v F1 H1 x1 r1 q1 => ⟨F1, env, re.go x1, Sat.bind RDs.mono q1 fun ds vs F2 H2 x2 r2 q2 =>
    q2 (v :: vs) H2 F2 (Ext.refl (re.go (x1.trans x2)).same) (.cons (Rp.mono x2.f _ _ r1) r2)⟩⟩
theorem vn_lst (h : VA X C es fa) : VN X C (.List es pos) (fLst fa) := PE.of (pe_lst h) fun σ H Q ⟨F, env, re, q⟩ =>
  ⟨F, env, re, Sat.bind RN.mono q fun ds vs F1 H1 x1 r1 q1 => by
    by_cases hl : ds.length ≤ LINE
    · rw [if_pos hl] at q1
      refine ⟨by rw [r1.length, line_eq]; exact hl, fun p hp => ?_⟩
      exact q1 _ _ F1 (Ext.laid (re.go x1).same hp) ⟨p, vs, ds, rfl, rfl, upd_same, (re.go x1).same.free hp, hp, r1⟩
    · rw [if_neg hl] at q1; exact q1.elim⟩
theorem ve_lst (h : VA X C es fa) : VE X C (.List es pos) (fLst fa) := VN.ve (vn_lst h)
theorem ve_tup {k : Nat} (h : VA X C es fa) : VE X C (.Tuple es k pos) (fTup fa) := PE.of (pe_tup h) fun σ H Q ⟨F, env, re, q⟩ =>
  ⟨F, env, re, Sat.bind RD.mono q fun ds vs F1 H1 x1 r1 q1 => by
    by_cases hl : ds.length ≤ LINE
    · rw [if_pos hl] at q1
      refine ⟨by rw [r1.length, line_eq]; exact hl, fun p hp => ?_⟩
      have s := (re.go x1).same
      exact q1 _ _ _ (Ext.new s hp) (.tup (SqT.of upd_same) (RpAll.mono (same_upd (s.free hp)) _ _ r1))
    · rw [if_neg hl] at q1; exact q1.elim⟩
end

/-! ### calls of built-ins -/
def VL (K : PySem.W.Frag) (r : List V → Hp → VK → Prop) (g : List D → Option D) : Prop := ∀ (F H : Hp) (xs : List V) (ds : List D) (c : D) (Q : VK), Same F H → RpAll K F xs ds → g ds = some c → (∀ v H' F', Ext F H F' H' → Rp K F' v c → Q v H') → r xs H Q
/-- .. that hand back a new list -/
def VLN (K : PySem.W.Frag) (r : List V → Hp → VK → Prop) (g : List D → Option D) : Prop := ∀ (F H : Hp) (xs : List V) (ds : List D) (c : D) (Q : VK), Same F H → RpAll K F xs ds → g ds = some c → (∀ v H' F', Ext F H F' H' → RN K F H F' H' v c → Q v H') → r xs H Q
def fCB (g : List D → Option D) (fa : FA) : FE := fun env => (fa env).bind fun ds => Rs.ofO (g ds)
section
variable {X : Cx} {C : Ct} {K : PySem.W.Frag} {mg : Str → Option Value} {fa : FA} {x : Str} {e : Expr} {es : List Expr} {p pos : Pos} {id T : String} {r : List V → Hp → VK → Prop} {g : List D → Option D}
theorem t_cb (hv : VL K r g) {σ : L2.St} {H : Hp} {Q : VK} : PD.T K mg C (fCB g fa) σ H Q → tCB r (TL K mg C fa) σ H Q := fun ⟨F, env, re, q⟩ =>
  ⟨F, env, re, Sat.bind RD.mono q fun ds vs F1 H1 x1 r1 q1 => by
    obtain ⟨c, hc, q3⟩ := Sat.ofO q1
    exact hv F1 H1 vs ds c Q (re.go x1).same r1 hc q3⟩
theorem t_cbN (hv : VLN K r g) {σ : L2.St} {H : Hp} {Q : VK} : TN K mg C (fCB g fa) σ H Q → tCB r (TL K mg C fa) σ H Q := fun ⟨F, env, re, q⟩ =>
  ⟨F, env, re, Sat.bind RN.mono q fun ds vs F1 H1 x1 r1 q1 => by
    obtain ⟨c, hc, q3⟩ := Sat.ofO q1
    exact hv F1 H1 vs ds c Q (re.go x1).same r1 hc q3⟩
theorem ve_callB (hc : CallR X (.builtin id) r) (hv : VL X.K r g) (hg : Gl X x) (hm : X.mg x = none) (hb : bootBuiltins x = some (.builtin id)) (ha : VA X C (e :: es) fa) (hn : x ≠ "__name__" := by decide) (hdb : (x == ("__debug__" : Str)) = false := by decide)
    (he : starEach (e :: es) X.env = (false, eval e X.env) :: starEach es X.env := by rfl) (hpl : (backTo pos (starEach es X.env)).any (·.1) = false := by rfl) : VE X C (.Call (.Name x p) (e :: es) [] pos) (fCB g fa) := PE.of (pe_callB hc hg hm hb ha hn hdb he hpl) fun _ _ _ => t_cb hv
theorem ve_callT (hc : CallR X (.type T) r) (hv : VL X.K r g) (hg : Gl X x) (hm : X.mg x = none) (hb : bootBuiltins x = some (.type T)) (ha : VA X C (e :: es) fa) (hn : x ≠ "__name__" := by decide) (hdb : (x == ("__debug__" : Str)) = false := by decide)
    (he : starEach (e :: es) X.env = (false, eval e X.env) :: starEach es X.env := by rfl) (hpl : (backTo pos (starEach es X.env)).any (·.1) = false := by rfl) : VE X C (.Call (.Name x p) (e :: es) [] pos) (fCB g fa) := PE.of (pe_callTy hc hg hm hb ha hn hdb he hpl) fun _ _ _ => t_cb hv
theorem vn_callB (hc : CallR X (.builtin id) r) (hv : VLN X.K r g) (hg : Gl X x) (hm : X.mg x = none) (hb : bootBuiltins x = some (.builtin id)) (ha : VA X C (e :: es) fa) (hn : x ≠ "__name__" := by decide) (hdb : (x == ("__debug__" : Str)) = false := by decide)
    (he : starEach (e :: es) X.env = (false, eval e X.env) :: starEach es X.env := by rfl) (hpl : (backTo pos (starEach es X.env)).any (·.1) = false := by rfl) : VN X C (.Call (.Name x p) (e :: es) [] pos) (fCB g fa) := PE.of (pe_callB hc hg hm hb ha hn hdb he hpl) fun _ _ _ => t_cbN hv
theorem vn_callT (hc : CallR X (.type T) r) (hv : VLN X.K r g) (hg : Gl X x) (hm : X.mg x = none) (hb : bootBuiltins x = some (.type T)) (ha : VA X C (e :: es) fa) (hn : x ≠ "__name__" := by decide) (hdb : (x == ("__debug__" : Str)) = false := by decide)
    (he : starEach (e :: es) X.env = (false, eval e X.env) :: starEach es X.env := by rfl) (hpl : (backTo pos (starEach es X.env)).any (·.1) = false := by rfl) : VN X C (.Call (.Name x p) (e :: es) [] pos) (fCB g fa) := PE.of (pe_callTy hc hg hm hb ha hn hdb he hpl) fun _ _ _ => t_cbN hv
end

/-! ### defs -/
structure FnG (P : Program) (w : World) (K : PySem.W.Frag) (mg : Str → Option Value) (base : Heap) (CX : CXT) (k : Nat) (f : Addr) (fd : FuncData) (ps : List Str) (sp : Sp) : Prop where
  len : ∀ vs H Q E, sp vs H Q E → vs.length = ps.length
  run : ∀ (A : Around) (outer : List Env) (s : Shared) (H : Hp) (args : Args) (us : List Value) (vs : List V) (Q : VK) (E : XK), A.guards = some [] → Room k A → Env0 P w K mg base A outer s H → BindsTo s fd args (ps.zip us) → Vals vs us → sp vs H Q E →
    codeAny (model P w) A (.call (.ref f) args) (CR CX outer P w H s Q E) s
theorem FnG.of {P : Program} {w : World} {K : PySem.W.Frag} {mg : Str → Option Value} {base : Heap} {CX : CXT} {k : Nat} {f : Addr} {fd : FuncData} {ps : List Str} {sp : Sp} (F : FnOk P w K mg base CX k f fd ps sp) : FnG P w K mg base CX k f fd ps sp :=
  ⟨F.len, fun A outer s H args us vs Q E _ => F.run A outer s H args us vs Q E⟩
theorem FnG.mono {P : Program} {w : World} {K : PySem.W.Frag} {mg : Str → Option Value} {base : Heap} {CX : CXT} {j k : Nat} {f : Addr} {fd : FuncData} {ps : List Str} {sp : Sp} (F : FnG P w K mg base CX j f fd ps sp) (h : j ≤ k) : FnG P w K mg base CX k f fd ps sp :=
  ⟨F.len, fun A outer s H args us vs Q E hg hr => F.run A outer s H args us vs Q E hg (hr.mono h)⟩
theorem FnG.imp {P : Program} {w : World} {K : PySem.W.Frag} {mg : Str → Option Value} {base : Heap} {CX : CXT} {k : Nat} {f : Addr} {fd : FuncData} {ps : List Str} {sp sp' : Sp} (F : FnG P w K mg base CX k f fd ps sp)
    (h : ∀ vs H Q E, sp' vs H Q E → sp vs H Q E) : FnG P w K mg base CX k f fd ps sp' :=
  ⟨fun vs H Q E q => F.len vs H Q E (h _ _ _ _ q), fun A outer s H args us vs Q E hg hr he hb hv hs => F.run A outer s H args us vs Q E hg hr he hb hv (h _ _ _ _ hs)⟩
/-- a def's promise, by its function on data -/
def spD (K : PySem.W.Frag) (mg : Str → Option Value) (Fn : List D → Rs D) : Sp := fun vs H Q E => ∃ G ds, Same G H ∧ RpAll K G vs ds ∧ Sat mg ⟨G, H, fun _ => E⟩ (RD K) (Fn ds) [] G H Q
/-- .. that hands back a new list -/
def spN (K : PySem.W.Frag) (mg : Str → Option Value) (Fn : List D → Rs D) : Sp := fun vs H Q E => ∃ G ds, Same G H ∧ RpAll K G vs ds ∧ Sat mg ⟨G, H, fun _ => E⟩ (RN K) (Fn ds) [] G H Q
def fCall (Fn : List D → Rs D) (fa : FA) : FE := fun env => (fa env).bind Fn
section
variable {X : Cx} {C : Ct} {K : PySem.W.Frag} {mg : Str → Option Value} {fa : FA} {x : Str} {e : Expr} {es : List Expr} {p pos : Pos} {k n : Nat} {f : Addr} {fd : FuncData} {ps : List Str} {CX : CXT} {sp : Sp} {Fn : List D → Rs D}
def tCallG (sp : Sp) (E : L2.St → XK) (t : TA) : TE := fun σ H Q => t σ H fun vs H1 => sp vs H1 Q (E σ)
theorem run_fnG {pins : List (Addr × Obj)} {σ : L2.St} {H : Hp} {s : Shared} {Q : VK} {us : List Value} {vs : List V} {E : XK} (F : FnG X.prog X.w X.K X.mg X.base CX k f fd ps sp) (hg : X.A.guards = some []) (hr : Room k X.A) (hb : Binds X.K fd ps []) (hx : PassesAt CX X σ E)
    (I : Inv X pins σ H s) (r : Vals vs us) (h : sp vs H Q E) : wpAny (model X.prog X.w) X.A (call (.ref f) us) (EP X pins σ Q) X.xe s := by
  have hl : (us ++ []).length = ps.length := by rw [List.append_nil, ← r.length]; exact F.len _ _ _ _ h
  have hb' : BindsTo s fd ⟨us, []⟩ (ps.zip us) := by have z := hb s us I.kIn hl; rw [List.append_nil] at z; exact z
  refine wpAny_call (codeAny_mono (F.run X.A X.stack s H ⟨us, []⟩ us vs Q E hg hr I.env0 hb' r h) fun r s' hq => ?_)
  cases r with
  | error e => exact hx pins H s e s' I hq
  | ok fl =>
    cases fl with
    | ret u => exact I.after hq
    | next => exact False.elim hq
    | brk => exact False.elim hq
    | cont => exact False.elim hq
theorem pe_callG {t : TA} {E : L2.St → XK} (F : FnG X.prog X.w X.K X.mg X.base CX k f fd ps sp) (hgd : X.A.guards = some []) (hr : Room k X.A) (hg : Gl X x) (hm : X.mg x = some (.ref f)) (hk : PySem.W.keepIn X.K (.ref f) = true) (hb : Binds X.K fd ps []) (hx : ∀ σ, PassesAt CX X σ (E σ))
    (ha : PA X (e :: es) t) (hdb : (x == ("__debug__" : Str)) = false := by decide) (he : starEach (e :: es) X.env = (false, eval e X.env) :: starEach es X.env := by rfl) (hpl : (backTo pos (starEach es X.env)).any (·.1) = false := by rfl) :
    PE X (.Call (.Name x p) (e :: es) [] pos) (tCallG sp E t) := by
  refine ⟨fun pins s σ H Q I h => ?_⟩
  refine wpAny_Call_Name_kw (ld_glob I hg hm ?_ hdb)
  refine PySem.W.callWith_K (h₀ := X.base) I.ok.mod.kin hk (thn (ha.run pos pins s σ H _ I h) fun us s1 ⟨vs, H1, I1, r, q⟩ => ⟨I1.kIn, ?_⟩) he hpl
  exact run_fnG F hgd hr hb (hx σ) I1 r q
theorem Sat.call {R : Rel V D} {σ : L2.St} {F H : Hp} {r : Rs D} {Q : VK} (q : Sat mg C R r σ F H Q) : Sat mg ⟨F, H, fun _ => C.E σ⟩ R r [] F H Q := by
  cases r with
  | ok a => exact q
  | er c m => exact q
  | no => exact q
theorem t_call {σ : L2.St} {H : Hp} {Q : VK} : T K mg C (fCall Fn fa) σ H Q → tCallG (spD K mg Fn) C.E (TL K mg C fa) σ H Q := fun ⟨F, env, re, q⟩ =>
  ⟨F, env, re, Sat.bind RD.mono q fun ds vs F1 H1 x1 r1 q1 => ⟨F1, ds, (re.go x1).same, r1, Sat.call q1⟩⟩
theorem t_callN {σ : L2.St} {H : Hp} {Q : VK} : TN K mg C (fCall Fn fa) σ H Q → tCallG (spN K mg Fn) C.E (TL K mg C fa) σ H Q := fun ⟨F, env, re, q⟩ =>
  ⟨F, env, re, Sat.bind RN.mono q fun ds vs F1 H1 x1 r1 q1 => ⟨F1, ds, (re.go x1).same, r1, Sat.call q1⟩⟩
theorem ve_call (F : FnG X.prog X.w X.K X.mg X.base CX k f fd ps (spD X.K X.mg Fn)) (am : Am X) (hr : Room k X.A) (hg : Gl X x) (hm : X.mg x = some (.ref f)) (hk : PySem.W.keepIn X.K (.ref f) = true) (hb : Binds X.K fd ps []) (hx : ∀ σ, PassesAt CX X σ (C.E σ))
    (ha : VA X C (e :: es) fa) (hdb : (x == ("__debug__" : Str)) = false := by decide) (he : starEach (e :: es) X.env = (false, eval e X.env) :: starEach es X.env := by rfl) (hpl : (backTo pos (starEach es X.env)).any (·.1) = false := by rfl) :
    VE X C (.Call (.Name x p) (e :: es) [] pos) (fCall Fn fa) := PE.of (pe_callG F am.g hr hg hm hk hb hx ha hdb he hpl) fun _ _ _ => t_call
theorem vn_call (F : FnG X.prog X.w X.K X.mg X.base CX k f fd ps (spN X.K X.mg Fn)) (am : Am X) (hr : Room k X.A) (hg : Gl X x) (hm : X.mg x = some (.ref f)) (hk : PySem.W.keepIn X.K (.ref f) = true) (hb : Binds X.K fd ps []) (hx : ∀ σ, PassesAt CX X σ (C.E σ))
    (ha : VA X C (e :: es) fa) (hdb : (x == ("__debug__" : Str)) = false := by decide) (he : starEach (e :: es) X.env = (false, eval e X.env) :: starEach es X.env := by rfl) (hpl : (backTo pos (starEach es X.env)).any (·.1) = false := by rfl) :
    VN X C (.Call (.Name x p) (e :: es) [] pos) (fCall Fn fa) := PE.of (pe_callG F am.g hr hg hm hk hb hx ha hdb he hpl) fun _ _ _ => t_callN
end
end PD

/-! Part 3: statements, loops, comprehensions, bodies -/
namespace PD
open PySem PySem.Spec PyProof.Rows L2

inductive Out where
  | nx (e : List Sl)
  | rt (d : D)
  | rn (d : D)
  | bk (e : List Sl)
  | ct (e : List Sl)
  | er (c : Str) (a : Int)
  | no
def bindO {α : Type} (r : Rs α) (k : α → Out) : Out := match r with
  | .ok a => k a
  | .er c n => .er c n
  | .no => .no
@[simp] theorem bindO_ok {α : Type} (a : α) (k : α → Out) : bindO (.ok a) k = k a := rfl
@[simp] theorem bindO_er {α : Type} (c : Str) (n : Int) (k : α → Out) : bindO (.er c n) k = .er c n := rfl
@[simp] theorem bindO_no {α : Type} (k : α → Out) : bindO .no k = .no := rfl
def Out.seq (o : Out) (k : List Sl → Out) : Out := match o with
  | .nx e => k e
  | o => o
@[simp] theorem seq_nx (e : List Sl) (k : List Sl → Out) : (Out.nx e).seq k = k e := rfl
@[simp] theorem seq_rt (d : D) (k : List Sl → Out) : (Out.rt d).seq k = .rt d := rfl
@[simp] theorem seq_rn (d : D) (k : List Sl → Out) : (Out.rn d).seq k = .rn d := rfl

abbrev FS := List Sl → Out
def RNe (K : PySem.W.Frag) (C : Ct) (F' H' : Hp) (v : V) (d : D) : Prop := ∃ p xs l, v = .ref p ∧ d = .list l ∧ H' p = some (.lst xs) ∧ F' p = none ∧ C.H p = none ∧ RpAll K F' xs l
def SatS (K : PySem.W.Frag) (mg : Str → Option Value) (C : Ct) (o : Out) (F : Hp) (D : Ends) : Prop := match o with
  | .nx e => ∀ σ' H' F', Same F F' → REnv K C F' σ' H' e → D.nx σ' H'
  | .bk e => ∀ σ' H' F', Same F F' → REnv K C F' σ' H' e → D.bk σ' H'
  | .ct e => ∀ σ' H' F', Same F F' → REnv K C F' σ' H' e → D.ct σ' H'
  | .rt d => ∀ v H' F', Ext C.G C.H F' H' → Rp K F' v d → D.rt v H'
  | .rn d => ∀ v H' F', Ext C.G C.H F' H' → RNe K C F' H' v d → D.rt v H'
  | .er c n => ∀ σ', XW mg C σ' C.H c n
  | .no => False
def TSt (K : PySem.W.Frag) (mg : Str → Option Value) (C : Ct) (g : FS) : TS := fun D σ H => ∃ F env, REnv K C F σ H env ∧ SatS K mg C (g env) F D
abbrev VS (X : Cx) (C : Ct) (st : Stmt) (g : FS) : Prop := PS X st (TSt X.K X.mg C g)
abbrev VSs (X : Cx) (C : Ct) (st : List Stmt) (g : FS) : Prop := PSs X st (TSt X.K X.mg C g)

section
variable {K : PySem.W.Frag} {mg : Str → Option Value} {C : Ct} {F F' H : Hp} {σ : L2.St} {env : List Sl} {D D' : Ends}
theorem SatS.go {o : Out} (h : SatS K mg C o F D) (s : Same F F') : SatS K mg C o F' D := by
  cases o with
  | nx e => exact fun σ' H' F2 s2 r => h σ' H' F2 (s.trans s2) r
  | bk e => exact fun σ' H' F2 s2 r => h σ' H' F2 (s.trans s2) r
  | ct e => exact fun σ' H' F2 s2 r => h σ' H' F2 (s.trans s2) r
  | rt d => exact h
  | rn d => exact h
  | er c n => exact h
  | no => exact h
theorem SatS.bind {α β : Type} {R : Rel β α} {r : Rs α} {k : α → Out} {P : β → Hp → Prop} (re : REnv K C F σ H env) (h : SatS K mg C (bindO r k) F D)
    (hk : ∀ a b F1 H1, Ext F H F1 H1 → R F H F1 H1 b a → SatS K mg C (k a) F1 D → P b H1) : Sat mg C R r σ F H P := by
  cases r with
  | ok a => exact fun b H1 F1 e q => hk a b F1 H1 e q (SatS.go h e.f)
  | er c n => exact XW.mono re.ext.h (h σ)
  | no => exact h
theorem PS.of {X : Cx} {st : Stmt} {t u : TS} (h : PS X st t) (i : ∀ D σ H, u D σ H → t D σ H) : PS X st u := ⟨fun pins s σ H D I q => h.run pins s σ H D I (i _ _ _ q)⟩
theorem PSs.of {X : Cx} {st : List Stmt} {t u : TS} (h : PSs X st t) (i : ∀ D σ H, u D σ H → t D σ H) : PSs X st u := ⟨fun pins s σ H D I q => h.run pins s σ H D I (i _ _ _ q)⟩
end

/-! ### small statements -/
def sNext : FS := fun env => .nx env
def sSeq (g g' : FS) : FS := fun env => (g env).seq g'
def sSet (i : Nat) (f : FE) : FS := fun env => bindO (f env) fun d => .nx (env.set i (.sh d))
def ownD : D → Option Sl
  | .list l => some (.own l)
  | _ => none
def sSetN (i : Nat) (f : FE) : FS := fun env => bindO (f env) fun d => match ownD d with
  | some s => .nx (env.set i s)
  | none => .no
def sDrop (f : FE) : FS := fun env => bindO (f env) fun _ => .nx env
def sIf (c : FB) (g g' : FS) : FS := fun env => bindO (c env) fun b => if b = true then g env else g' env
def sRet (f : FE) : FS := fun env => bindO (f env) .rt
def sRetN (f : FE) : FS := fun env => bindO (f env) .rn
def sRetO (i : Nat) : FS := fun env => match env[i]? with
  | some (.own l) => .rn (.list l)
  | _ => .no
def sNone : FS := fun _ => .rt .none
def sBrk : FS := fun env => .bk env
def sCnt : FS := fun env => .ct env
def sNo : FS := fun _ => .no
/-- from now on the list in slot i is not changed -/
def frz1 (i : Nat) (env : List Sl) : List Sl := match env[i]? with
  | some (.own l) => env.set i (.sh (.list l))
  | _ => env
def sFrz (i : Nat) (g : FS) : FS := fun env => match env[i]? with
  | some .un => .no
  | _ => g (frz1 i env)
section
variable {X : Cx} {C : Ct} {st : Stmt} {rest a b : List Stmt} {g g' : FS} {f : FE} {c : FB} {e : Expr} {x : Str} {pos pos' : Pos}
theorem vss_nil : VSs X C [] sNext := PSs.of pss_nil fun D σ H ⟨F, env, re, q⟩ => q σ H F (Same.refl _) re
theorem vss_cons (h1 : VS X C st g) (h2 : VSs X C rest g') : VSs X C (st :: rest) (sSeq g g') := PSs.of (pss_cons h1 h2) fun D σ H ⟨F, env, re, q⟩ => ⟨F, env, re, by
  have q' : SatS X.K X.mg C ((g env).seq g') F D := q
  cases hg : g env with
  | nx e' =>
    rw [hg] at q'
    exact fun σ' H' F' s r => ⟨F', e', r, SatS.go q' s⟩
  | rt d => rw [hg] at q'; exact q'
  | rn d => rw [hg] at q'; exact q'
  | bk d => rw [hg] at q'; exact q'
  | ct d => rw [hg] at q'; exact q'
  | er d n => rw [hg] at q'; exact q'
  | no => rw [hg] at q'; exact q'⟩
theorem vss_one (h1 : VS X C st g) : VSs X C [st] g := pss_one h1
theorem vs_pass : VS X C (.Pass pos) sNext := PS.of ps_pass fun D σ H ⟨F, env, re, q⟩ => q σ H F (Same.refl _) re
theorem vs_break : VS X C (.Break pos) sBrk := PS.of ps_break fun D σ H ⟨F, env, re, q⟩ => q σ H F (Same.refl _) re
theorem vs_continue : VS X C (.Continue pos) sCnt := PS.of ps_continue fun D σ H ⟨F, env, re, q⟩ => q σ H F (Same.refl _) re
theorem vs_never : VS X C st sNo := PS.of ps_never fun D σ H ⟨F, env, re, q⟩ => q
theorem vss_never {sts : List Stmt} : VSs X C sts sNo := PSs.of pss_never fun D σ H ⟨F, env, re, q⟩ => q
theorem vs_expr (h : VE X C e f) (hs : swapsWith e none pos.line X.env = pure false := by rfl) : VS X C (.Expr e pos) (sDrop f) := PS.of (ps_expr h hs) fun D σ H ⟨F, env, re, q⟩ =>
  ⟨F, env, re, SatS.bind re q fun d v F1 H1 x1 r1 q1 => q1 σ H1 F1 (Same.refl _) (re.go x1)⟩
theorem vs_ret (h : VE X C e f) : VS X C (.Return (some e) pos) (sRet f) := PS.of (ps_ret h) fun D σ H ⟨F, env, re, q⟩ =>
  ⟨F, env, re, SatS.bind re q fun d v F1 H1 x1 r1 q1 => q1 v H1 F1 (re.go x1).ext r1⟩
theorem vs_retN (h : VN X C e f) : VS X C (.Return (some e) pos) (sRetN f) := PS.of (ps_ret h) fun D σ H ⟨F, env, re, q⟩ =>
  ⟨F, env, re, SatS.bind (R := RN X.K) re q fun d v F1 H1 x1 ⟨p, xs, l, e1, e2, e3, e4, e5, e6⟩ q1 => q1 v H1 F1 (re.go x1).ext ⟨p, xs, l, e1, e2, e3, e4, re.ext.h.free e5, e6⟩⟩
theorem vs_none : VS X C (.Return none pos) sNone := PS.of ps_retN fun D σ H ⟨F, env, re, q⟩ => q .non H F re.ext .non
theorem vs_retO (i : Nat) (hN : X.N[i]? = some x := by rfl) (hv : Vis X.env.scope x := by first | exact Or.inl rfl | exact Or.inr (Or.inl rfl) | exact Or.inr (Or.inr rfl)) (hd : (x == ("__debug__" : Str)) = false := by decide)
    (hcd : (x == ("__classdict__" : Str)) = false := by decide) : VS X C (.Return (some (.Name x pos')) pos) (sRetO i) := PS.of (ps_ret (pe_var hN hv hd hcd)) fun D σ H ⟨F, env, re, q⟩ => by
  unfold sRetO at q
  split at q
  · rename_i l e
    obtain ⟨p, xs, h1, h2, h3, h4, h5⟩ := re.own e
    exact ⟨.ref p, h1, q _ H F re.ext ⟨p, xs, l, rfl, rfl, h2, h3, h4, h5⟩⟩
  · exact q.elim
theorem vs_if (hc : VB X C e c) (ha : VSs X C a g) (hb : VSs X C b g') : VS X C (.If e a b pos) (sIf c g g') := PS.of (ps_if hc ha hb) fun D σ H ⟨F, env, re, q⟩ =>
  ⟨F, env, re, SatS.bind (R := RB) re q fun t k F1 H1 x1 r1 q1 => by
    have e : k = t := r1
    subst e
    cases k with
    | true => rw [if_pos rfl] at q1 ⊢; exact ⟨F1, env, re.go x1, q1⟩
    | false => rw [if_neg Bool.false_ne_true] at q1 ⊢; exact ⟨F1, env, re.go x1, q1⟩⟩
theorem vs_set (i : Nat) (h : VE X C e f) (hN : X.N.Nodup) (hi : X.N[i]? = some x := by rfl) (hx : Loc X.env.scope x := by first | exact Or.inl rfl | exact Or.inr rfl) (hs : swapsWith e (some (.Name x pos')) pos.line X.env = pure false := by rfl) (hf : X.fn x = true ∨ X.env.scope.names.lookup x = some .local := by first | exact .inl rfl | exact .inr rfl | assumption) :
    VS X C (.Assign [.Name x pos'] e pos) (sSet i f) := PS.of (ps_set hN hi hx h hs hf) fun D σ H ⟨F, env, re, q⟩ =>
  ⟨F, env, re, SatS.bind re q fun d v F1 H1 x1 r1 q1 => q1 _ H1 F1 (Same.refl _) ((re.go x1).setSh r1)⟩
/-- a new list at a free place is in no slot that is owned -/
theorem REnv.newSlot {K : PySem.W.Frag} {F H : Hp} {σ : L2.St} {env : List Sl} {p : Addr} (re : REnv K C F σ H env) (hp : H p = none) (j : Nat) (m : List D) (h : σ[j]? = some (some (.ref p))) : env[j]? ≠ some (.own m) := fun e => by
  obtain ⟨a, xs, h1, h2, _⟩ := re.own e
  rw [h] at h1
  cases h1
  rw [hp] at h2
  cases h2
theorem t_setN {K : PySem.W.Frag} {mg : Str → Option Value} {i : Nat} {D : Ends} {σ : L2.St} {H : Hp} : TSt K mg C (sSetN i f) D σ H → TN K mg C f σ H (fun x H1 => gName i x σ H1 D.nx) := fun ⟨F, env, re, q⟩ =>
  ⟨F, env, re, SatS.bind (R := RN K) re q fun d v F1 H1 x1 ⟨p, xs, l, e1, e2, e3, e4, e5, e6⟩ q1 => by
    subst e1 e2
    refine q1 _ H1 F1 (Same.refl _) ((re.go x1).setOwn e3 e4 (re.ext.h.free e5) e6 fun j m h e => ?_)
    exact re.newSlot e5 j m h e⟩
theorem vs_setN (i : Nat) (h : VN X C e f) (hN : X.N.Nodup) (hi : X.N[i]? = some x := by rfl) (hx : Loc X.env.scope x := by first | exact Or.inl rfl | exact Or.inr rfl) (hs : swapsWith e (some (.Name x pos')) pos.line X.env = pure false := by rfl) (hf : X.fn x = true ∨ X.env.scope.names.lookup x = some .local := by first | exact .inl rfl | exact .inr rfl | assumption) :
    VS X C (.Assign [.Name x pos'] e pos) (sSetN i f) := PS.of (ps_set hN hi hx h hs hf) fun D σ H h => t_setN h
end

/-! ### freezing -/
section
variable {K : PySem.W.Frag} {mg : Str → Option Value} {C : Ct} {F H : Hp} {σ : L2.St} {env : List Sl}
/-- an owned list is written -/
theorem REnv.write {i : Nat} {l l' : List D} {a : Addr} {xs' : List V} (re : REnv K C F σ H env) (e : env[i]? = some (.own l)) (ha : σ[i]? = some (some (.ref a))) (hF : F a = none) (hC : C.H a = none) (r : RpAll K F xs' l') :
    REnv K C F σ (upd H a (.lst xs')) (env.set i (.own l')) := by
  have hi : i < env.length := (List.getElem?_eq_some_iff.mp e).1
  refine ⟨⟨re.ext.f, fun b o h => ?_, fun b o h => ?_, re.ext.n⟩, by rw [List.length_set]; exact re.len, fun j s h => ?_, fun j k m n ne h1 h2 => ?_⟩
  · rw [upd_ne (ne_of_none h hC)]; exact re.ext.h _ _ h
  · rw [upd_ne (ne_of_none h hF)]; exact re.ext.s _ _ h
  · by_cases q : i = j
    · subst q
      rw [List.getElem?_set_self hi] at h
      cases h
      exact ⟨a, xs', ha, upd_same, hF, hC, r⟩
    · rw [List.getElem?_set_ne q] at h
      have z := re.get j s h
      cases s with
      | un => trivial
      | sh d => exact z
      | own m =>
        obtain ⟨b, ys, h1, h2, h3, h4, h5⟩ := z
        refine ⟨b, ys, h1, ?_, h3, h4, h5⟩
        have nb : b ≠ a := fun z => re.apart i j l m q e h (by rw [ha, h1, z])
        rw [upd_ne nb]; exact h2
      | scr ns => exact z
  · by_cases q1 : i = j
    · by_cases q2 : i = k
      · exact absurd (q1.symm.trans q2) ne
      · subst q1
        rw [List.getElem?_set_ne q2] at h2
        exact re.apart i k l n ne e h2
    · rw [List.getElem?_set_ne q1] at h1
      by_cases q2 : i = k
      · subst q2
        exact fun z => re.apart i j l m q1 e h1 z.symm
      · rw [List.getElem?_set_ne q2] at h2
        exact re.apart j k m n ne h1 h2
theorem REnv.frz1 (re : REnv K C F σ H env) (i : Nat) : ∃ F', Same F F' ∧ REnv K C F' σ H (frz1 i env) := by
  unfold PD.frz1
  split
  · rename_i l e
    obtain ⟨a, xs, h1, h2, h3, h4, h5⟩ := re.own e
    have hi : i < env.length := (List.getElem?_eq_some_iff.mp e).1
    have sF : Same F (upd F a (.lst xs)) := same_upd h3
    refine ⟨upd F a (.lst xs), sF, ⟨re.ext.f.trans sF, re.ext.h, fun b o h => ?_, fun b o h => ?_⟩, by rw [List.length_set]; exact re.len, fun j s h => ?_, fun j k m n ne e1 e2 => ?_⟩
    · by_cases q : b = a
      · subst q; rw [upd_same] at h; rw [← h]; exact h2
      · rw [upd_ne q] at h; exact re.ext.s _ _ h
    · by_cases q : b = a
      · subst q; exact .inr h4
      · rw [upd_ne q] at h; exact re.ext.n _ _ h
    · by_cases q : i = j
      · subst q
        rw [List.getElem?_set_self hi] at h
        cases h
        exact ⟨.ref a, h1, .lst (a := a) (xs := xs) upd_same (RpAll.mono sF _ _ h5)⟩
      · rw [List.getElem?_set_ne q] at h
        have z := re.get j s h
        cases s with
        | un => trivial
        | sh d => obtain ⟨x, y1, y2⟩ := z; exact ⟨x, y1, Rp.mono sF _ _ y2⟩
        | own m =>
          obtain ⟨b, ys, y1, y2, y3, y4, y5⟩ := z
          have nb : b ≠ a := fun z => re.apart i j l m q e h (by rw [h1, y1, z])
          exact ⟨b, ys, y1, y2, by rw [upd_ne nb]; exact y3, y4, RpAll.mono sF _ _ y5⟩
        | scr ns => exact z
    · by_cases q1 : i = j
      · subst q1; rw [List.getElem?_set_self hi] at e1; cases e1
      · by_cases q2 : i = k
        · subst q2; rw [List.getElem?_set_self hi] at e2; cases e2
        · rw [List.getElem?_set_ne q1] at e1
          rw [List.getElem?_set_ne q2] at e2
          exact re.apart j k m n ne e1 e2
  · exact ⟨F, Same.refl _, re⟩
theorem t_frz (i : Nat) {g : FS} {D : Ends} : TSt K mg C (sFrz i g) D σ H → TSt K mg C g D σ H := fun ⟨F, env, re, q⟩ => by
  unfold sFrz at q
  split at q
  · exact q.elim
  · obtain ⟨F', s, re'⟩ := re.frz1 i
    exact ⟨F', _, re', SatS.go q s⟩
theorem vs_frz {X : Cx} {st : Stmt} {g : FS} (i : Nat) (h : VS X C st g) : VS X C st (sFrz i g) := PS.of h fun _ _ _ q => t_frz i q
theorem vss_frz {X : Cx} {st : List Stmt} {g : FS} (i : Nat) (h : VSs X C st g) : VSs X C st (sFrz i g) := PSs.of h fun _ _ _ q => t_frz i q
/-- all lists frozen, for an expression whose value bears no object -/
def thaw : List Sl → List Sl
  | [] => []
  | .own l :: r => .sh (.list l) :: thaw r
  | s :: r => s :: thaw r
def scalD : D → Bool
  | .none => true
  | .bool _ => true
  | .int _ => true
  | .str _ => true
  | _ => false
def fScal (f : FE) : FE := fun env => (f (thaw env)).bind fun d => if scalD d = true then .ok d else .no
def fThB (f : FB) : FB := fun env => f (thaw env)
theorem thaw_get : ∀ (env : List Sl) (i : Nat), (thaw env)[i]? = (env[i]?).map fun s => match s with | .own l => .sh (.list l) | s => s
  | [], i => by simp [thaw]
  | .own l :: r, 0 => rfl
  | .un :: r, 0 => rfl
  | .sh d :: r, 0 => rfl
  | .scr d :: r, 0 => rfl
  | .own l :: r, i + 1 => thaw_get r i
  | .un :: r, i + 1 => thaw_get r i
  | .sh d :: r, i + 1 => thaw_get r i
  | .scr d :: r, i + 1 => thaw_get r i
theorem thaw_len : ∀ env : List Sl, (thaw env).length = env.length
  | [] => rfl
  | .own l :: r => congrArg (· + 1) (thaw_len r)
  | .un :: r => congrArg (· + 1) (thaw_len r)
  | .sh d :: r => congrArg (· + 1) (thaw_len r)
  | .scr d :: r => congrArg (· + 1) (thaw_len r)
open Classical in
theorem REnv.thaw (re : REnv K C F σ H env) : ∃ F', Same F F' ∧ REnv K C F' σ H (thaw env) := by
  have hs : Same F (fun a => if (∃ (i : Nat) (l : List D), env[i]? = some (Sl.own l) ∧ σ[i]? = some (some (V.ref a))) then H a else F a) := fun b o h => by
    show (if (∃ (i : Nat) (l : List D), env[i]? = some (Sl.own l) ∧ σ[i]? = some (some (V.ref b))) then H b else F b) = some o
    split
    · exact re.ext.s _ _ h
    · exact h
  refine ⟨_, hs, ⟨re.ext.f.trans hs, re.ext.h, fun b o h => ?_, fun b o h => ?_⟩, by rw [thaw_len]; exact re.len, fun j s h => ?_, fun j k m n ne e1 e2 => ?_⟩
  · have h : (if (∃ (i : Nat) (l : List D), env[i]? = some (Sl.own l) ∧ σ[i]? = some (some (V.ref b))) then H b else F b) = some o := h
    split at h
    · exact h
    · exact re.ext.s _ _ h
  · have h : (if (∃ (i : Nat) (l : List D), env[i]? = some (Sl.own l) ∧ σ[i]? = some (some (V.ref b))) then H b else F b) = some o := h
    split at h
    · rename_i q
      obtain ⟨i, l, q1, q2⟩ := q
      obtain ⟨a, xs, z1, z2, z3, z4, z5⟩ := re.own q1
      rw [q2] at z1; cases z1
      exact .inr z4
    · exact re.ext.n _ _ h
  · rw [thaw_get] at h
    cases e : env[j]? with
    | none => rw [e] at h; cases h
    | some t =>
      rw [e] at h
      have z := re.get j t e
      cases t with
      | un => cases h; trivial
      | sh d => cases h; obtain ⟨x, y1, y2⟩ := z; exact ⟨x, y1, Rp.mono hs _ _ y2⟩
      | own l =>
        cases h
        obtain ⟨a, xs, z1, z2, z3, z4, z5⟩ := z
        refine ⟨.ref a, z1, .lst (a := a) (xs := xs) ?_ (RpAll.mono hs _ _ z5)⟩
        show (if (∃ (i : Nat) (l : List D), env[i]? = some (Sl.own l) ∧ σ[i]? = some (some (V.ref a))) then H a else F a) = _
        rw [if_pos ⟨j, l, e, z1⟩]
        exact z2
      | scr ns => cases h; exact z
  · rw [thaw_get] at e1
    cases e : env[j]? with
    | none => rw [e] at e1; cases e1
    | some t => rw [e] at e1; cases t <;> cases e1
theorem Rp.scal {F F' : Hp} {v : V} {d : D} (s : scalD d = true) (h : Rp K F' v d) : Rp K F v d := by
  cases d with
  | none => cases h; exact .non
  | bool b => cases h; exact .bl _
  | int b => cases h; exact .int _
  | str b => cases h; exact .str _
  | _ => cases s
theorem ve_scal {X : Cx} {e : Expr} {f : FE} (h : VE X C e f) : VE X C e (fScal f) := PE.of h fun σ H Q ⟨F, env, re, q⟩ => by
  obtain ⟨F', s, re'⟩ := re.thaw
  refine ⟨F', _, re', ?_⟩
  have q : Sat X.mg C (RD X.K) ((f (thaw env)).bind fun d => if scalD d = true then .ok d else .no) σ F H Q := q
  cases hf : f (thaw env) with
  | ok d =>
    rw [hf] at q
    have q : Sat X.mg C (RD X.K) (if scalD d = true then .ok d else .no) σ F H Q := q
    by_cases hd : scalD d = true
    · rw [if_pos hd] at q
      exact fun v H1 F1 x1 r1 => q v H1 F ⟨Same.refl _, x1.h, re.same.trans x1.h, fun _ _ z => .inl z⟩ (Rp.scal hd r1)
    · rw [if_neg hd] at q; exact q.elim
  | er c n => rw [hf] at q; exact q
  | no => rw [hf] at q; exact q
theorem vb_th {X : Cx} {e : Expr} {f : FB} (h : VB X C e f) : VB X C e (fThB f) := PT.of h fun σ H Q ⟨F, env, re, q⟩ => by
  obtain ⟨F', s, re'⟩ := re.thaw
  refine ⟨F', _, re', ?_⟩
  have q : Sat X.mg C RB (f (thaw env)) σ F H Q := q
  cases hf : f (thaw env) with
  | ok d =>
    rw [hf] at q
    exact fun v H1 F1 x1 r1 => q v H1 F ⟨Same.refl _, x1.h, re.same.trans x1.h, fun _ _ z => .inl z⟩ r1
  | er c n => rw [hf] at q; exact q
  | no => rw [hf] at q; exact q
end

/-! ### owned lists by their methods -/
def sApp (i : Nat) (f : FE) : FS := fun env => match env[i]? with
  | some (.own l) => bindO (f env) fun d => if l.length < LINE then .nx (env.set i (.own (l ++ [d]))) else .no
  | _ => .no
section
variable {X : Cx} {C : Ct} {e : Expr} {f : FE} {x : Str} {pos p1 p2 p3 : Pos}
theorem vs_append (i : Nat) (h : VE X C e f) (hN : X.N[i]? = some x := by rfl) (hv : Vis X.env.scope x := by first | exact Or.inl rfl | exact Or.inr (Or.inl rfl) | exact Or.inr (Or.inr rfl)) (hd : (x == ("__debug__" : Str)) = false := by decide)
    (hcd : (x == ("__classdict__" : Str)) = false := by decide) (he : starEach [e] X.env = (false, eval e X.env) :: starEach [] X.env := by rfl)
    (ht : ∀ {to : TE} {t : TA}, PE X (.Name x p3) to → PA X [e] t → PE X (.Call (.Attribute (.Name x p3) "append" p1) [e] [] p2) (tBM X.K "list" rAppend to t) := by
      intro to t ho ha; exact pe_bm PySem.F.plainAttrs_list PySem.F.slot_list_append PySem.F.type_list_append mt_append ho ha)
    (hs : swapsWith (.Call (.Attribute (.Name x p3) "append" p1) [e] [] p2) none pos.line X.env = pure false := by rfl) :
    VS X C (.Expr (.Call (.Attribute (.Name x p3) "append" p1) [e] [] p2) pos) (sApp i f) := PS.of (ps_expr (ht (pe_var hN hv hd hcd) (pa_cons h pa_nil he)) hs) fun D σ H ⟨F, env, re, q⟩ => by
  unfold sApp at q
  split at q
  · rename_i l e1
    obtain ⟨a, xs, h1, h2, h3, h4, h5⟩ := re.own e1
    refine ⟨.ref a, h1, .inl ⟨rfl, _, SqL.of h2⟩, F, env, re, SatS.bind re q fun d v F1 H1 x1 r1 q1 => ?_⟩
    by_cases hl : l.length < LINE
    · rw [if_pos hl] at q1
      obtain ⟨a', xs', g1, g2, g3, g4, g5⟩ := (re.go x1).own e1
      rw [h1] at g1; cases g1
      refine ⟨a, xs', v, rfl, rfl, g2, by rw [g5.length, line_eq]; exact hl, ?_⟩
      exact q1 σ _ F1 (Same.refl _) ((re.go x1).write e1 h1 g3 g4 (g5.append (.cons r1 .nil)))
    · rw [if_neg hl] at q1; exact q1.elim
  · exact q.elim
end
end PD

/-! Part 4: targets, loops, comprehensions, bodies -/
namespace PD
open PySem PySem.Spec PyProof.Rows L2

/-! ### targets -/
inductive Tgt where
  | nm (i : Nat)
  | tp (is : List Nat)
  | np (i : Nat) (is : List Nat)
def setE : List Nat → List D → List Sl → List Sl
  | i :: is, d :: ds, env => setE is ds (env.set i (.sh d))
  | _, _, env => env
def setV : List Nat → List V → L2.St → L2.St
  | i :: is, v :: vs, σ => setV is vs (σ.set i (some v))
  | _, _, σ => σ
def Tgt.slots : Tgt → List Nat
  | .nm i => [i]
  | .tp is => is
  | .np i is => i :: is
def npD : D → Option (D × List D)
  | .tuple [a, .tuple l] => some (a, l)
  | _ => none
theorem npD_some {d a : D} {l : List D} (h : npD d = some (a, l)) : d = .tuple [a, .tuple l] := by
  unfold npD at h
  split at h
  · cases h; rfl
  · cases h
def Tgt.put (t : Tgt) (d : D) (env : List Sl) : Option (List Sl) := match t with
  | .nm i => some (env.set i (.sh d))
  | .tp is => match d with
    | .tuple l => if l.length = is.length then some (setE is l env) else none
    | .list l => if l.length = is.length then some (setE is l env) else none
    | _ => none
  | .np i is => match npD d with
    | some (a, l) => if l.length = is.length then some (setE is l (env.set i (.sh a))) else none
    | none => none
/-- the target's reading: Q at the slots set -/
def Tgt.g (K : PySem.W.Frag) (t : Tgt) : TG := fun v σ H Q => match t with
  | .nm i => Q (σ.set i (some v)) H
  | .tp is => ∃ a xs, v = .ref a ∧ (SqT K H a xs ∨ SqL K H a xs) ∧ xs.length = is.length ∧ Q (setV is xs σ) H
  | .np i is => ∃ a x b xs, v = .ref a ∧ SqT K H a [x, .ref b] ∧ SqT K H b xs ∧ xs.length = is.length ∧ Q (setV (i :: is) (x :: xs) σ) H
section
variable {K : PySem.W.Frag} {C : Ct} {F H : Hp} {σ : L2.St} {env : List Sl}
theorem REnv.setAll : ∀ (is : List Nat) (ds : List D) (vs : List V) (σ : L2.St) (env : List Sl), RpAll K F vs ds → REnv K C F σ H env → REnv K C F (setV is vs σ) H (setE is ds env)
  | [], [], _, _, _, h, r => by cases h; exact r
  | [], _ :: _, _, _, _, h, r => by cases h; exact r
  | _ :: _, [], _, _, _, h, r => by cases h; exact r
  | i :: is, d :: ds, _, σ, env, h, r => by
    cases h with
    | cons a b => exact REnv.setAll is ds _ _ _ b (r.setSh a)
theorem Tgt.go {t : Tgt} {d : D} {v : V} {e : List Sl} {Q : L2.St → Hp → Prop} (re : REnv K C F σ H env) (r : Rp K F v d) (h : t.put d env = some e)
    (q : ∀ vs : List V, REnv K C F (setV t.slots vs σ) H e → Q (setV t.slots vs σ) H) : t.g K v σ H Q := by
  cases t with
  | nm i =>
    have e' : env.set i (.sh d) = e := Option.some.inj h
    subst e'
    exact q [v] (re.setSh r)
  | tp is =>
    cases d with
    | tuple l =>
      have h : (if l.length = is.length then some (setE is l env) else none) = some e := h
      by_cases hl : l.length = is.length
      · rw [if_pos hl] at h
        cases h
        cases r with
        | @tup a xs _ h1 h2 => exact ⟨a, xs, rfl, .inl (Same.sqt re.same h1), by rw [h2.length, hl], q xs (REnv.setAll is l xs σ env h2 re)⟩
      · rw [if_neg hl] at h; cases h
    | list l =>
      have h : (if l.length = is.length then some (setE is l env) else none) = some e := h
      by_cases hl : l.length = is.length
      · rw [if_pos hl] at h
        cases h
        cases r with
        | @lst a xs _ h1 h2 => exact ⟨a, xs, rfl, .inr (SqL.of (re.same _ _ h1)), by rw [h2.length, hl], q xs (REnv.setAll is l xs σ env h2 re)⟩
      · rw [if_neg hl] at h; cases h
    | _ => cases h
  | np i is =>
    unfold Tgt.put at h
    cases hn : npD d with
    | none => simp only [hn] at h; cases h
    | some p =>
      obtain ⟨c, l⟩ := p
      simp only [hn] at h
      have hd := npD_some hn
      subst hd
      by_cases hl : l.length = is.length
      · rw [if_pos hl] at h
        cases h
        cases r with
        | @tup a xs _ h1 h2 =>
          cases h2 with
          | cons hx ht =>
            cases ht with
            | cons hy hn =>
              cases hn
              cases hy with
              | @tup b ys _ g1 g2 => exact ⟨a, _, b, ys, rfl, Same.sqt re.same h1, Same.sqt re.same g1, by rw [g2.length, hl], q _ (REnv.setAll is l ys _ _ g2 (re.setSh hx))⟩
      · rw [if_neg hl] at h; cases h
/-- the slots of a block's own names forgotten -/
def wipeE (env : List Sl) : List Nat → List Sl
  | [] => env
  | v :: vs => (wipeE env vs).set v .un
theorem REnv.unset {i : Nat} (re : REnv K C F σ H env) : REnv K C F (σ.set i none) H (env.set i .un) := by
  refine ⟨re.ext, by rw [List.length_set, List.length_set]; exact re.len, fun j s h => ?_, fun j k m n ne e1 e2 => ?_⟩
  · by_cases q : i = j
    · subst q
      have hi : i < env.length := by
        rcases Nat.lt_or_ge i env.length with z | z
        · exact z
        · rw [List.getElem?_eq_none (by rw [List.length_set]; exact z)] at h; cases h
      rw [List.getElem?_set_self hi] at h
      cases h
      trivial
    · rw [List.getElem?_set_ne q] at h ⊢
      exact re.get j s h
  · have no : ∀ (k : Nat) (m : List D), (env.set i .un)[k]? = some (.own m) → i ≠ k := fun k m e q => by
      subst q
      have hi : i < env.length := by
        rcases Nat.lt_or_ge i env.length with z | z
        · exact z
        · rw [List.getElem?_eq_none (by rw [List.length_set]; exact z)] at e; cases e
      rw [List.getElem?_set_self hi] at e
      cases e
    have n1 := no j m e1
    have n2 := no k n e2
    rw [List.getElem?_set_ne n1] at e1 ⊢
    rw [List.getElem?_set_ne n2] at e2 ⊢
    exact re.apart j k m n ne e1 e2
theorem REnv.wipe (re : REnv K C F σ H env) : ∀ vs : List Nat, REnv K C F (L2.wipe σ vs) H (wipeE env vs)
  | [] => re
  | v :: vs => (re.wipe vs).unset
theorem wipe_set (σ : L2.St) {i : Nat} (x : Option V) : ∀ {vs : List Nat}, i ∈ vs → L2.wipe (σ.set i x) vs = L2.wipe σ vs
  | v :: vs, h => by
    show (L2.wipe (σ.set i x) vs).set v none = (L2.wipe σ vs).set v none
    by_cases q : i ∈ vs
    · rw [wipe_set σ x q]
    · have e : v = i := by
        rcases List.mem_cons.mp h with e | e
        · exact e.symm
        · exact absurd e q
      subst e
      have z : ∀ (vs : List Nat), v ∉ vs → L2.wipe (σ.set v x) vs = (L2.wipe σ vs).set v x := by
        intro vs
        induction vs with
        | nil => intro _; rfl
        | cons u us ih =>
          intro hn
          have h1 : v ≠ u := fun z => hn (by rw [z]; exact List.mem_cons_self)
          have h2 : v ∉ us := fun z => hn (List.mem_cons_of_mem _ z)
          show (L2.wipe (σ.set v x) us).set u none = ((L2.wipe σ us).set u none).set v x
          rw [ih h2, List.set_comm _ _ h1]
      rw [z vs q, List.set_set]
theorem wipe_setV (vs : List Nat) : ∀ (is : List Nat) (xs : List V) (σ : L2.St), (∀ i ∈ is, i ∈ vs) → L2.wipe (setV is xs σ) vs = L2.wipe σ vs
  | [], _, _, _ => rfl
  | _ :: _, [], _, _ => rfl
  | i :: is, x :: xs, σ, h => by
    show L2.wipe (setV is xs (σ.set i (some x))) vs = _
    rw [wipe_setV vs is xs _ fun j hj => h j (List.mem_cons_of_mem _ hj), wipe_set σ _ (h i List.mem_cons_self)]
end
section
variable {X : Cx}
theorem pg_nm (i : Nat) {x : Str} {pos : Pos} (hN : X.N.Nodup) (hi : X.N[i]? = some x := by rfl) (hx : Loc X.env.scope x := by first | exact Or.inl rfl | exact Or.inr rfl) (hf : X.fn x = true ∨ X.env.scope.names.lookup x = some .local := by first | exact .inl rfl | exact .inr rfl | assumption) :
    PG X (.Name x pos) (Tgt.g X.K (.nm i)) := pg_name hN hi hx hf
/-- several names, one behind the other -/
structure PNs (X : Cx) (ts : List Expr) (is : List Nat) : Prop where
  run : PGs X ts (fun vs σ H Q => vs.length = is.length ∧ Q (setV is vs σ) H)
theorem pns_nil : PNs X [] [] := ⟨⟨fun pins s σ H vs us Q I r h => pgs_nil.run pins s σ H vs us Q I r ⟨List.eq_nil_of_length_eq_zero h.1, by
  have e := List.eq_nil_of_length_eq_zero h.1
  subst e
  exact h.2⟩⟩⟩
theorem pns_cons (i : Nat) {x : Str} {pos : Pos} {ts : List Expr} {is : List Nat} (h : PNs X ts is) (hN : X.N.Nodup) (hi : X.N[i]? = some x := by rfl) (hx : Loc X.env.scope x := by first | exact Or.inl rfl | exact Or.inr rfl) (hf : X.fn x = true ∨ X.env.scope.names.lookup x = some .local := by first | exact .inl rfl | exact .inr rfl | assumption)
    (hs : (assignEach (.Name x pos :: ts) X.env).map (·.2) = assign (.Name x pos) X.env :: (assignEach ts X.env).map (·.2) := by rfl) : PNs X (.Name x pos :: ts) (i :: is) := ⟨⟨fun pins s σ H vs us Q I r hq => by
  cases vs with
  | nil => exact absurd hq.1 (by simp)
  | cons v vs =>
    refine (pgs_cons (pg_name (pos := pos) hN hi hx hf) h.run hs).run pins s σ H _ us Q I r ⟨v, vs, rfl, ?_⟩
    exact ⟨by simpa using hq.1, hq.2⟩⟩⟩
theorem pg_tp {es : List Expr} {k : Nat} {pos : Pos} {is : List Nat} (hc : X.calm = true) (h : PNs X es is) (hn : (assignEach es X.env).length = is.length := by rfl) (hst : (assignEach es X.env).findIdx? (·.1) = none := by rfl) : PG X (.Tuple es k pos) (Tgt.g X.K (.tp is)) :=
  ⟨fun pins s σ H v u Q I r hq => by
    obtain ⟨a, xs, e1, e2 | e2, e3, e4⟩ := hq
    · exact (pg_tup hc h.run hn hst).run pins s σ H v u Q I r ⟨a, xs, e1, e2, e3, e3, e4⟩
    · exact (pg_lst hc h.run hn hst).run pins s σ H v u Q I r ⟨a, xs, e1, e2, e3, e3, e4⟩⟩
end

section
variable {X : Cx}
theorem pg_np (i : Nat) {x : Str} {p1 : Pos} {es : List Expr} {k k2 : Nat} {pos pos2 : Pos} {is : List Nat} (hc : X.calm = true) (hN : X.N.Nodup) (h : PNs X es is) (hi : X.N[i]? = some x := by rfl) (hx : Loc X.env.scope x := by first | exact Or.inl rfl | exact Or.inr rfl) (hf : X.fn x = true ∨ X.env.scope.names.lookup x = some .local := by first | exact .inl rfl | exact .inr rfl | assumption)
    (hn : (assignEach es X.env).length = is.length := by rfl) (hst : (assignEach es X.env).findIdx? (·.1) = none := by rfl)
    (hs1 : (assignEach [.Tuple es k pos] X.env).map (·.2) = assign (.Tuple es k pos) X.env :: (assignEach [] X.env).map (·.2) := by rfl)
    (hs2 : (assignEach [.Name x p1, .Tuple es k pos] X.env).map (·.2) = assign (.Name x p1) X.env :: (assignEach [.Tuple es k pos] X.env).map (·.2) := by rfl)
    (hn2 : (assignEach [.Name x p1, .Tuple es k pos] X.env).length = 2 := by rfl) (hst2 : (assignEach [.Name x p1, .Tuple es k pos] X.env).findIdx? (·.1) = none := by rfl) : PG X (.Tuple [.Name x p1, .Tuple es k pos] k2 pos2) (Tgt.g X.K (.np i is)) :=
  ⟨fun pins s σ H v u Q I r hq => (pg_tup hc (pgs_cons (pg_name hN hi hx hf) (pgs_cons (pg_tup hc h.run hn hst) pgs_nil hs1) hs2) hn2 hst2).run pins s σ H v u Q I r (by
    obtain ⟨a, y, b, xs, e1, e2, e3, e4, e5⟩ := hq
    exact ⟨a, _, e1, e2, rfl, y, _, rfl, .ref b, [], rfl, b, xs, rfl, e3, e4, e4, rfl, e5⟩)⟩
end

/-! ### assignment to a tuple of names -/
def sAsg (t : Tgt) (f : FE) : FS := fun env => bindO (f env) fun d => match t.put d env with
  | some e => .nx e
  | none => .no
theorem vs_asg {X : Cx} {C : Ct} {t : Tgt} {f : FE} {tg e : Expr} {pos : Pos} (h : VE X C e f) (hg : PG X tg (t.g X.K)) (hs : swapsWithSole [tg] e pos.line X.env = pure false := by rfl) (hw : swappedStores [tg] e X.env = pure none := by rfl)
    (h1 : (assignEach [tg] X.env).map (·.2) = [assign tg X.env] := by rfl) : VS X C (.Assign [tg] e pos) (sAsg t f) := PS.of (ps_asg h hg hs hw h1) fun D σ H ⟨F, env, re, q⟩ =>
  ⟨F, env, re, SatS.bind re q fun d v F1 H1 x1 r1 q1 => by
    cases hp : t.put d env with
    | none => rw [hp] at q1; exact q1.elim
    | some e' =>
      rw [hp] at q1
      exact Tgt.go (re.go x1) r1 hp fun vs re2 => q1 _ H1 F1 (Same.refl _) re2⟩

/-! ### what is walked -/
structure ItD (K : PySem.W.Frag) (F : Hp) (J : It) (ds : List D) : Prop where
  go : ∀ F' H' (i : Nat) (d : D), Same F F' → Same F' H' → ds[i]? = some d → J.go i H' ∧ ∀ x H2, J.yld i H' x H2 → ∃ F2, Ext F' H' F2 H2 ∧ Rp K F2 x d
  stop : ∀ F' H' (i : Nat), Same F F' → Same F' H' → ds.length = i → J.stop i H'
theorem ItD.mono {K : PySem.W.Frag} {F F' : Hp} {J : It} {ds : List D} (h : ItD K F J ds) (s : Same F F') : ItD K F' J ds :=
  ⟨fun F2 H2 i d s2 => h.go F2 H2 i d (s.trans s2), fun F2 H2 i s2 => h.stop F2 H2 i (s.trans s2)⟩
def RI (K : PySem.W.Frag) : Rel It (List D) := fun _ _ F' _ J ds => ItD K F' J ds
theorem RI.mono {K : PySem.W.Frag} : RMono (RI K) := fun _ _ _ _ _ _ _ _ _ _ h => h
def TIt (K : PySem.W.Frag) (mg : Str → Option Value) (C : Ct) (g : FA) : TI := fun σ H R => ∃ F env, REnv K C F σ H env ∧ Sat mg C (RI K) (g env) σ F H R
abbrev VI (X : Cx) (C : Ct) (tg e : Expr) (g : FA) : Prop := PI X tg e (TIt X.K X.mg C g)
theorem PI.of {X : Cx} {tg e : Expr} {t u : TI} (h : PI X tg e t) (i : ∀ σ H R, u σ H R → t σ H R) : PI X tg e u := ⟨fun pins s σ H R I q => h.run pins s σ H R I (i _ _ _ q)⟩
section
variable {K : PySem.W.Frag}
theorem itd_list {F : Hp} {a : Addr} {xs : List V} {ds : List D} (h : F a = some (.lst xs)) (r : RpAll K F xs ds) : ItD K F (Itl K a) ds := by
  have q : ∀ {F' H' : Hp}, Same F F' → Same F' H' → SqL K H' a xs := fun s s' => SqL.of (s' _ _ (s _ _ h))
  refine ⟨fun F' H' i d s s' e => ?_, fun F' H' i s s' e => ⟨xs, q s s', by rw [r.length]; exact Nat.le_of_eq e⟩⟩
  obtain ⟨v, h1, h2⟩ := r.get e
  refine ⟨⟨xs, v, q s s', h1⟩, fun x H2 y => ?_⟩
  obtain ⟨e1, e2⟩ := y
  subst e1
  have e3 := e2 xs (q s s')
  rw [h1] at e3
  cases e3
  exact ⟨F', Ext.refl s', Rp.mono s _ _ h2⟩
theorem itd_tup {F : Hp} {a : Addr} {xs : List V} {ds : List D} (h : SqT K F a xs) (r : RpAll K F xs ds) : ItD K F (Itt K a) ds := by
  have q : ∀ {F' H' : Hp}, Same F F' → Same F' H' → SqT K H' a xs := fun s s' => Same.sqt (s.trans s') h
  refine ⟨fun F' H' i d s s' e => ?_, fun F' H' i s s' e => ⟨xs, q s s', by rw [r.length]; exact Nat.le_of_eq e⟩⟩
  obtain ⟨v, h1, h2⟩ := r.get e
  refine ⟨⟨xs, v, q s s', h1⟩, fun x H2 y => ?_⟩
  obtain ⟨e1, e2⟩ := y
  subst e1
  have e3 := e2 xs (q s s')
  rw [h1] at e3
  cases e3
  exact ⟨F', Ext.refl s', Rp.mono s _ _ h2⟩
theorem itd_range {F : Hp} (lo : Int) (n : Nat) : ItD K F (Itr lo n) ((List.range n).map fun i => .int (lo + (i : Nat))) := by
  refine ⟨fun F' H' i d s s' e => ?_, fun F' H' i s s' e => ?_⟩
  · rw [List.getElem?_map] at e
    have hi : i < n := by
      rcases Nat.lt_or_ge i n with h | h
      · exact h
      · rw [List.getElem?_eq_none (by simpa using h)] at e; cases e
    rw [List.getElem?_range hi] at e
    cases e
    refine ⟨hi, fun x H2 y => ?_⟩
    obtain ⟨e1, e2⟩ := y
    subst e1 e2
    exact ⟨F', Ext.refl s', .int _⟩
  · rw [List.length_map, List.length_range] at e
    exact Nat.le_of_eq e
def oneS (c : Nat) : D := .str ⟨#[c]⟩
theorem itd_str {F : Hp} (x : Str) : ItD K F (Its x) (x.cps.toList.map oneS) := by
  refine ⟨fun F' H' i d s s' e => ?_, fun F' H' i s s' e => ?_⟩
  · rw [List.getElem?_map] at e
    cases h : x.cps.toList[i]? with
    | none => rw [h] at e; cases e
    | some c =>
      rw [h] at e
      cases e
      have h' : x.cps[i]? = some c := by rw [← Array.getElem?_toList]; exact h
      refine ⟨(Array.getElem?_eq_some_iff.mp h').1, fun y H2 z => ?_⟩
      obtain ⟨e1, c', e2, e3⟩ := z
      subst e1 e3
      rw [h'] at e2
      cases e2
      exact ⟨F', Ext.refl s', .str _⟩
  · rw [List.length_map, Array.length_toList] at e
    exact Nat.le_of_eq e
end
/-- a list, a tuple, a text, walked -/
def seqD : D → Option (List D)
  | .list l => some l
  | .tuple l => some l
  | .str x => some (x.cps.toList.map oneS)
  | _ => none
def iSeq (f : FE) : FA := fun env => (f env).bind fun d => Rs.ofO (seqD d)
def iSeqT (K : PySem.W.Frag) (tl : TE) : TI := fun σ H R => tl σ H fun x H1 => (∃ a, x = .ref a ∧ (∃ xs, SqL K H1 a xs) ∧ R (Itl K a) H1) ∨ (∃ a, x = .ref a ∧ (∃ xs, SqT K H1 a xs) ∧ R (Itt K a) H1) ∨ (∃ z, x = .str z ∧ R (Its z) H1)
section
variable {X : Cx} {C : Ct} {tg l : Expr}
theorem pi_seq {tl : TE} (hl : PE X l tl) : PI X tg l (iSeqT X.K tl) := by
  refine ⟨fun pins s σ H R I h => ?_⟩
  refine thn (hl.run pins s σ H _ I h) fun v s1 ⟨x, H1, I1, r1, q1⟩ => ?_
  rcases q1 with ⟨a, e, ⟨xs, hq⟩, q⟩ | ⟨a, e, ⟨xs, hq⟩, q⟩ | ⟨z, e, q⟩
  · subst e
    cases r1
    obtain ⟨its, rv, p, hz⟩ := I1.list hq
    refine wpAny_pyIter_list p.isList ?_
    exact pi_one (tk := s1.toks) I1 _ (turn_list a _) ⟨_, Heap.get?_push_size _ rfl, rfl, rfl⟩ q
  · subst e
    cases r1
    obtain ⟨its, rv, p, hz⟩ := I1.tuple hq
    refine wpAny_pyIter_tuple (show s1.heap.IsTuple a its.toArray from p) ?_
    exact pi_one (tk := s1.toks) I1 _ (turn_tuple a _) ⟨_, Heap.get?_push_size _ rfl, rfl, rfl⟩ q
  · subst e
    obtain ⟨t, rfl⟩ := r1
    cases ha : z.cps.all (· < 128)
    · exact wpAny_pyIter_wide ha (pi_one (tk := s1.toks) I1 _ (turn_str _ z t "str_iterator" (.inr rfl)) ⟨_, Heap.get?_push_size _ rfl, rfl, rfl⟩ q)
    · exact wpAny_pyIter_ascii ha (pi_one (tk := s1.toks) I1 _ (turn_str _ z t "str_ascii_iterator" (.inl rfl)) ⟨_, Heap.get?_push_size _ rfl, rfl, rfl⟩ q)
theorem vi_seq {f : FE} (h : VE X C l f) : VI X C tg l (iSeq f) := PI.of (pi_seq h) fun σ H R ⟨F, env, re, q⟩ =>
  ⟨F, env, re, Sat.bind RI.mono q fun d v F1 H1 x1 r1 q1 => by
    have s1 := (re.go x1).same
    cases d with
    | list ds =>
      cases r1 with
      | @lst a xs _ h1 h2 => exact .inl ⟨a, rfl, ⟨xs, SqL.of (s1 _ _ h1)⟩, q1 _ H1 F1 (Ext.refl s1) (itd_list h1 h2)⟩
    | tuple ds =>
      cases r1 with
      | @tup a xs _ h1 h2 => exact .inr (.inl ⟨a, rfl, ⟨xs, Same.sqt s1 h1⟩, q1 _ H1 F1 (Ext.refl s1) (itd_tup h1 h2)⟩)
    | str x =>
      cases r1
      exact .inr (.inr ⟨x, rfl, q1 _ H1 F1 (Ext.refl s1) (itd_str x)⟩)
    | _ => exact q1.elim⟩
/-- range(n), range(a, b) -/
def rng (lo : Int) (n : Nat) : List D := (List.range n).map fun i => .int (lo + (i : Nat))
def BIG : Nat := 1000000
def iRng1D : List D → Option (List D)
  | [.int j] => if j.natAbs ≤ BIG then some (rng 0 j.toNat) else none
  | _ => none
def iRng2D : List D → Option (List D)
  | [.int i, .int j] => if i.natAbs ≤ BIG ∧ j.natAbs ≤ BIG then some (rng i (j - i).toNat) else none
  | _ => none
def iRng1F (fa : FA) : FA := fun env => (fa env).bind fun ds => Rs.ofO (iRng1D ds)
def iRng2F (fa : FA) : FA := fun env => (fa env).bind fun ds => Rs.ofO (iRng2D ds)
theorem RpAll.ints1 {K : PySem.W.Frag} {F : Hp} {vs : List V} {j : Int} (h : RpAll K F vs [.int j]) : vs = [.int j] := by
  cases h with
  | cons a b => cases a; cases b; rfl
theorem RpAll.ints2 {K : PySem.W.Frag} {F : Hp} {vs : List V} {i j : Int} (h : RpAll K F vs [.int i, .int j]) : vs = [.int i, .int j] := by
  cases h with
  | cons a b => cases a; rw [b.ints1]
theorem vi_range1 {a : Expr} {fa : FA} {p pos : Pos} (hg : Gl X "range") (hm : X.mg "range" = none) (ha : VA X C [a] fa) (hs : starEach [a] X.env = [(false, eval a X.env)] := by rfl) : VI X C tg (.Call (.Name "range" p) [a] [] pos) (iRng1F fa) :=
  PI.of (pi_range1 hg hm ha hs) fun σ H R ⟨F, env, re, q⟩ => ⟨F, env, re, Sat.bind RI.mono q fun ds vs F1 H1 x1 r1 q1 => by
    obtain ⟨c, hc, q2⟩ := Sat.ofO q1
    unfold iRng1D at hc
    split at hc
    · rename_i j
      split at hc
      · rename_i hb
        cases hc
        have e := r1.ints1
        subst e
        refine ⟨j, rfl, by unfold BIG at hb; omega, by unfold BIG at hb; omega, q2 _ H1 F1 (Ext.refl (re.go x1).same) ?_⟩
        exact itd_range 0 j.toNat
      · cases hc
    · cases hc⟩
theorem vi_range2 {a b : Expr} {fa : FA} {p pos : Pos} (hg : Gl X "range") (hm : X.mg "range" = none) (ha : VA X C [a, b] fa) (hs : starEach [a, b] X.env = [(false, eval a X.env), (false, eval b X.env)] := by rfl) (hs2 : starEach [b] X.env = [(false, eval b X.env)] := by rfl) : VI X C tg (.Call (.Name "range" p) [a, b] [] pos) (iRng2F fa) :=
  PI.of (pi_range2 hg hm ha hs hs2) fun σ H R ⟨F, env, re, q⟩ => ⟨F, env, re, Sat.bind RI.mono q fun ds vs F1 H1 x1 r1 q1 => by
    obtain ⟨c, hc, q2⟩ := Sat.ofO q1
    unfold iRng2D at hc
    split at hc
    · rename_i i j
      split at hc
      · rename_i hb
        cases hc
        have e := r1.ints2
        subst e
        refine ⟨i, j, rfl, by unfold BIG at hb; omega, q2 _ H1 F1 (Ext.refl (re.go x1).same) ?_⟩
        exact itd_range i (j - i).toNat
      · cases hc
    · cases hc⟩
end

/-! ### for -/
def loopF (t : Tgt) (body : FS) : List D → List Sl → Out
  | [], env => .nx env
  | d :: ds, env => match t.put d env with
    | none => .no
    | some e => match body e with
      | .nx e' => loopF t body ds e'
      | .ct e' => loopF t body ds e'
      | .bk e' => .nx e'
      | o => o
def sFor (t : Tgt) (gi : FA) (body : FS) : FS := fun env => bindO (gi env) fun ds => loopF t body ds env
section
variable {X : Cx} {C : Ct}
theorem vs_for {t : Tgt} {tg iter : Expr} {gi : FA} {g : FS} {body : List Stmt} {pos : Pos} (hp : PassesOwn (model X.prog X.w) X.A X.env X.xe) (hc : X.calm = true) (hi : VI X C tg iter gi) (hg : PG X tg (t.g X.K)) (hb : VSs X C body g)
    (hs : ∀ x, foldedSetIterable iter X.env x = pure x := by intro _; rfl) : VS X C (.For tg iter body [] pos) (sFor t gi g) := PS.of (ps_for hp hc hi hg hb hs) fun D σ H ⟨F, env, re, q⟩ =>
  ⟨F, env, re, SatS.bind (R := RI X.K) re q fun ds J F1 H1 x1 r1 q1 => by
    refine ⟨fun i m σ H => m + i = ds.length ∧ ∃ F env, Same F1 F ∧ REnv X.K C F σ H env ∧ SatS X.K X.mg C (loopF t g (ds.drop i) env) F D, ⟨ds.length, by omega, F1, env, Same.refl _, re.go x1, q1⟩, ?_⟩
    rintro i m σ2 H2 ⟨hm, F2, env2, sF, re2, q2⟩
    by_cases hlt : i < ds.length
    · have hd : ds[i]? = some ds[i] := List.getElem?_eq_getElem hlt
      obtain ⟨g1, g2⟩ := r1.go F2 H2 i ds[i] sF re2.same hd
      refine .inr ⟨g1, fun σ' H' => ∃ F env, Same F1 F ∧ REnv X.K C F σ' H' env ∧ SatS X.K X.mg C (loopF t g (ds.drop (i + 1)) env) F D, fun σ' H' n => ⟨m - 1, by omega, by omega, n⟩, fun x H3 y => ?_⟩
      obtain ⟨F3, x3, r3⟩ := g2 x H3 y
      have re3 := re2.go x3
      rw [List.drop_eq_getElem_cons hlt] at q2
      cases hp : t.put ds[i] env2 with
      | none => simp only [loopF, hp] at q2; exact q2.elim
      | some e =>
        refine Tgt.go re3 r3 hp fun vs re4 => ⟨F3, e, re4, ?_⟩
        simp only [loopF, hp] at q2
        have q3 := SatS.go q2 x3.f
        cases hb : g e with
        | nx e' => rw [hb] at q3; exact fun σ' H' F' s r => ⟨F', e', (sF.trans x3.f).trans s, r, SatS.go q3 s⟩
        | ct e' => rw [hb] at q3; exact fun σ' H' F' s r => ⟨F', e', (sF.trans x3.f).trans s, r, SatS.go q3 s⟩
        | bk e' => rw [hb] at q3; exact q3
        | rt d => rw [hb] at q3; exact q3
        | rn d => rw [hb] at q3; exact q3
        | er c n => rw [hb] at q3; exact q3
        | no => rw [hb] at q3; exact q3
    · have e : ds.drop i = [] := List.drop_eq_nil_of_le (by omega)
      rw [e] at q2
      exact .inl ⟨r1.stop F2 H2 i sF re2.same (by omega), q2 σ2 H2 F2 (Same.refl _) re2⟩⟩

/-! ### while -/
def loopW (c : FB) (body : FS) : Nat → List Sl → Out
  | 0, _ => .no
  | n + 1, env => bindO (c env) fun b => if b = true then (match body env with
      | .nx e => loopW c body n e
      | .ct e => loopW c body n e
      | .bk e => .nx e
      | o => o) else .nx env
def sWhile (n : Nat) (c : FB) (body : FS) : FS := fun env => loopW c body n env
theorem vs_while (n : Nat) {c : Expr} {fc : FB} {g : FS} {body : List Stmt} {pos : Pos} (hp : PassesOwn (model X.prog X.w) X.A X.env X.xe) (hc : VB X C c fc) (hb : VSs X C body g) : VS X C (.While c body [] pos) (sWhile n fc g) := PS.of (ps_while hp hc hb) fun D σ H ⟨F, env, re, q⟩ => by
  refine ⟨fun m σ H => ∃ F env, REnv X.K C F σ H env ∧ SatS X.K X.mg C (loopW fc g m env) F D, ⟨n, F, env, re, q⟩, ?_⟩
  rintro m σ2 H2 ⟨F2, env2, re2, q2⟩
  cases m with
  | zero => exact q2.elim
  | succ m =>
    refine ⟨F2, env2, re2, SatS.bind (R := RB) re2 q2 fun t k F3 H3 x3 r3 q3 => ?_⟩
    have e : k = t := r3
    subst e
    have re3 := re2.go x3
    cases k with
    | false => rw [if_neg Bool.false_ne_true] at q3 ⊢; exact q3 σ2 H3 F3 (Same.refl _) re3
    | true =>
      rw [if_pos rfl] at q3 ⊢
      refine ⟨fun σ' H' => ∃ F env, REnv X.K C F σ' H' env ∧ SatS X.K X.mg C (loopW fc g m env) F D, fun σ' H' w => ⟨m, Nat.lt_succ_self _, w⟩, F3, env2, re3, ?_⟩
      cases hb : g env2 with
      | nx e' => rw [hb] at q3; exact fun σ' H' F' s r => ⟨F', e', r, SatS.go q3 s⟩
      | ct e' => rw [hb] at q3; exact fun σ' H' F' s r => ⟨F', e', r, SatS.go q3 s⟩
      | bk e' => rw [hb] at q3; exact q3
      | rt d => rw [hb] at q3; exact q3
      | rn d => rw [hb] at q3; exact q3
      | er c n => rw [hb] at q3; exact q3
      | no => rw [hb] at q3; exact q3
end

/-! ### comprehensions -/
/-- what the turns make -/
def lcGo (t : Tgt) (tt : FB) (k : List Sl → Rs (List D)) (env : List Sl) : List D → Rs (List D)
  | [] => .ok []
  | d :: ds => match t.put d env with
    | none => .no
    | some e => (tt e).bind fun b => if b = true then (k e).bind fun ys => (lcGo t tt k env ds).bind fun r => .ok (ys ++ r) else lcGo t tt k env ds
def one (f : FE) : List Sl → Rs (List D) := fun e => (f e).bind fun y => .ok [y]
def fLc (gi : FA) (t : Tgt) (tt : FB) (f : FE) (vs : List Nat) : FE := fun env => (gi env).bind fun ds => (lcGo t tt (one f) (wipeE env vs) ds).quiet.bind fun out => if out.length ≤ LINE then .ok (.list out) else .no
def bYes : FB := fun _ => .ok true
abbrev VT (X : Cx) (C : Ct) (ifs : List Expr) (g : FB) : Prop := PTs X ifs (TB X.K X.mg C g)
theorem vt_nil {X : Cx} {C : Ct} : VT X C [] bYes := ⟨fun pins s σ H Q I ⟨F, env, re, q⟩ => pts_nil.run pins s σ H Q I (q true H F (Ext.refl re.same) rfl)⟩
theorem vt_one {X : Cx} {C : Ct} {c : Expr} {g : FB} (h : VB X C c g) : VT X C [c] g := pts_one h
section
variable {X : Cx} {C : Ct}
theorem lcGo_cons_yes {t : Tgt} {tt : FB} {k : List Sl → Rs (List D)} {env e : List Sl} {d : D} {ds out : List D} (hp : t.put d env = some e) (h : lcGo t tt k env (d :: ds) = .ok out) :
    ∃ b, tt e = .ok b ∧ if b = true then ∃ ys r, k e = .ok ys ∧ lcGo t tt k env ds = .ok r ∧ out = ys ++ r else lcGo t tt k env ds = .ok out := by
  unfold lcGo at h
  rw [hp] at h
  have h : ((tt e).bind fun b => if b = true then (k e).bind fun ys => (lcGo t tt k env ds).bind fun r => .ok (ys ++ r) else lcGo t tt k env ds) = .ok out := h
  cases hb : tt e with
  | ok b =>
    rw [hb] at h
    refine ⟨b, rfl, ?_⟩
    have h : (if b = true then (k e).bind fun ys => (lcGo t tt k env ds).bind fun r => .ok (ys ++ r) else lcGo t tt k env ds) = .ok out := h
    cases b with
    | false => rw [if_neg Bool.false_ne_true] at h ⊢; exact h
    | true =>
      rw [if_pos rfl] at h ⊢
      cases hk : k e with
      | ok ys =>
        rw [hk] at h
        cases hr : lcGo t tt k env ds with
        | ok r =>
          rw [hr] at h
          have h : Rs.ok (ys ++ r) = .ok out := h
          cases h
          exact ⟨ys, r, rfl, rfl, rfl⟩
        | er c n => rw [hr] at h; cases h
        | no => rw [hr] at h; cases h
      | er c n => rw [hk] at h; cases h
      | no => rw [hk] at h; cases h
  | er c n => rw [hb] at h; cases h
  | no => rw [hb] at h; cases h
theorem REnv.nox {K : PySem.W.Frag} {F H : Hp} {σ : L2.St} {env : List Sl} (re : REnv K C F σ H env) : REnv K C.nox F σ H env := ⟨re.ext, re.len, fun i s h => by
  have z := re.get i s h
  cases s <;> exact z, re.apart⟩
theorem t_lc {K : PySem.W.Frag} {mg : Str → Option Value} {gi : FA} {t : Tgt} {tt : FB} {f : FE} {vs : List Nat} (hv : ∀ i ∈ t.slots, i ∈ vs) {σ : L2.St} {H : Hp} {Q : VK} :
    TN K mg C (fLc gi t tt f vs) σ H Q → tLc (TIt K mg C gi) (t.g K) (TB K mg C.nox tt) (T K mg C.nox f) vs σ H Q := fun ⟨F, env, re, q⟩ =>
  ⟨F, env, re, Sat.bind (R := RI K) RN.mono q fun ds J F1 H1 x1 r1 q1 Dd hD => by
    have re1 := re.go x1
    cases hout : lcGo t tt (one f) (wipeE env vs) ds with
    | er c n => rw [hout] at q1; exact q1.elim
    | no => rw [hout] at q1; exact q1.elim
    | ok out =>
      rw [hout] at q1
      have q1 : Sat mg C (RN K) (if out.length ≤ LINE then .ok (.list out) else .no) σ F1 H1 Q := q1
      by_cases hl : out.length ≤ LINE
      · rw [if_pos hl] at q1
        have fD : F1 Dd = none := re1.same.free hD
        have cD : C.H Dd = none := re1.ext.h.free hD
        -- behind i turns
        refine ⟨fun i m H => m + i = ds.length ∧ ∃ F acc xs, Ext F1 H1 F H ∧ H Dd = some (.lst xs) ∧ F Dd = none ∧ RpAll K F xs acc ∧ ∃ r, lcGo t tt (one f) (wipeE env vs) (ds.drop i) = .ok r ∧ acc ++ r = out,
          ⟨ds.length, by omega, F1, [], [], Ext.laid re1.same hD, upd_same, fD, .nil, out, hout, rfl⟩, ?_⟩
        rintro i m H2 ⟨hm, F2, acc, xs, x2, hH, hF, ra, r, hr, er⟩
        have re2 := re1.go x2
        by_cases hlt : i < ds.length
        · have hd : ds[i]? = some ds[i] := List.getElem?_eq_getElem hlt
          obtain ⟨g1, g2⟩ := r1.go F2 H2 i ds[i] x2.f re2.same hd
          refine .inr ⟨g1, fun H' => ∃ F acc xs, Ext F1 H1 F H' ∧ H' Dd = some (.lst xs) ∧ F Dd = none ∧ RpAll K F xs acc ∧ ∃ r, lcGo t tt (one f) (wipeE env vs) (ds.drop (i + 1)) = .ok r ∧ acc ++ r = out, fun H' n => ⟨m - 1, by omega, by omega, n⟩, fun x H3 y => ?_⟩
          obtain ⟨F3, x3, r3⟩ := g2 x H3 y
          have re3 := (re2.go x3).wipe vs
          rw [List.drop_eq_getElem_cons hlt] at hr
          cases hp : t.put ds[i] (wipeE env vs) with
          | none => unfold lcGo at hr; rw [hp] at hr; cases hr
          | some e =>
            obtain ⟨b, hb, hr⟩ := lcGo_cons_yes hp hr
            refine Tgt.go re3 r3 hp fun ws re4 => ⟨(wipe_setV vs _ _ _ hv).trans (by
              have z : ∀ (vs : List Nat) (σ : L2.St), L2.wipe (L2.wipe σ vs) vs = L2.wipe σ vs := fun vs σ => by
                refine List.ext_getElem? fun j => ?_
                by_cases hj : j ∈ vs
                · have w : ∀ (σ : L2.St) (us : List Nat), j ∈ us → (L2.wipe σ us)[j]? = if j < σ.length then some none else none := by
                    intro σ us
                    induction us with
                    | nil => intro h; cases h
                    | cons u us ih =>
                      intro h
                      show ((L2.wipe σ us).set u none)[j]? = _
                      by_cases q : u = j
                      · subst q
                        by_cases hlen : u < σ.length
                        · rw [List.getElem?_set_self (by rw [L2.wipe_length]; exact hlen), if_pos hlen]
                        · rw [List.getElem?_eq_none (by rw [List.length_set, L2.wipe_length]; omega), if_neg hlen]
                      · rw [List.getElem?_set_ne q]
                        exact ih (by
                          rcases List.mem_cons.mp h with e | e
                          · exact absurd e.symm q
                          · exact e)
                  rw [w _ vs hj, w _ vs hj, L2.wipe_length]
                · rw [wipe_out hj, wipe_out hj]
              exact z vs σ), F3, e, re4.nox, ?_⟩
            rw [hb]
            refine fun b' H4 F4 x4 eb => ?_
            have eb : b' = b := eb
            subst eb
            dsimp only
            have re5 := re4.go x4
            have hD4 : H4 Dd = some (.lst xs) := x4.h _ _ (x3.h _ _ hH)
            have keepF : ∀ {F5 H5 : Hp}, Ext F3 H3 F5 H5 → F5 Dd = none := fun {F5 H5} x5 => by
              cases z : F5 Dd with
              | none => rfl
              | some o =>
                rcases (x3.trans x5).n _ _ z with w | w
                · rw [hF] at w; cases w
                · rw [hH] at w; cases w
            cases b' with
            | false =>
              rw [if_neg Bool.false_ne_true] at hr ⊢
              exact ⟨F4, acc, xs, x2.trans (x3.trans x4), hD4, keepF x4, RpAll.mono (x3.trans x4).f _ _ ra, r, hr, er⟩
            | true =>
              rw [if_pos rfl] at hr ⊢
              obtain ⟨ys, r', hk, hr', eo⟩ := hr
              subst eo
              unfold one at hk
              cases hf : f e with
              | ok yd =>
                rw [hf] at hk
                have hk : Rs.ok [yd] = .ok ys := hk
                cases hk
                refine ⟨F4, e, re5.nox, ?_⟩
                rw [hf]
                refine fun yv H5 F5 x5 ry => ⟨xs, x5.h _ _ hD4, ?_, F5, acc ++ [yd], xs ++ [yv], ?_, upd_same, keepF (x4.trans x5), ?_, r', hr', by rw [List.append_assoc]; exact er⟩
                · have z := congrArg List.length er
                  rw [List.length_append, List.length_append, List.length_singleton] at z
                  rw [ra.length, line_eq]
                  omega
                · have x6 := x2.trans (x3.trans (x4.trans x5))
                  refine ⟨x6.f, fun c o h => ?_, fun c o h => ?_, x6.n⟩
                  · rw [upd_ne (ne_of_none h hD)]; exact x6.h _ _ h
                  · rw [upd_ne (ne_of_none h (keepF (x4.trans x5)))]; exact x6.s _ _ h
                · exact (RpAll.mono (x3.trans (x4.trans x5)).f _ _ ra).append (.cons ry .nil)
              | er c n => rw [hf] at hk; cases hk
              | no => rw [hf] at hk; cases hk
        · have e : ds.drop i = [] := List.drop_eq_nil_of_le (by omega)
          rw [e] at hr
          cases hr
          rw [List.append_nil] at er
          subst er
          exact .inl ⟨r1.stop F2 H2 i x2.f re2.same (by omega), q1 _ H2 F2 x2 ⟨Dd, xs, acc, rfl, rfl, hH, hF, hD, ra⟩⟩
      · rw [if_neg hl] at q1; exact q1.elim⟩
theorem vn_lc {elt tg iter : Expr} {ifs : List Expr} {scope : Scope} {own : List (Str × Nat)} {pos : Pos} {gi : FA} {t : Tgt} {tt : FB} {f : FE} (am : Am X) (hi : VI X C tg iter gi) (ok : BlkOk X.N X.env.scope scope own)
    (hg : ∀ (s : Shared) (H : Hp) (Cc : Addr) (cl : List (Str × Addr)) (fp : List Addr), PG (X.blk s H scope (compEnvC scope cl Cc X.env) fp) tg (t.g X.K)) (ht : ∀ (s : Shared) (H : Hp) (Cc : Addr) (cl : List (Str × Addr)) (fp : List Addr), VT (X.blk s H scope (compEnvC scope cl Cc X.env) fp) C.nox ifs tt)
    (he : ∀ (s : Shared) (H : Hp) (Cc : Addr) (cl : List (Str × Addr)) (fp : List Addr), VE (X.blk s H scope (compEnvC scope cl Cc X.env) fp) C.nox elt f) (hv : ∀ i ∈ t.slots, i ∈ own.map (·.2)) (hs : ∀ x, foldedSetIterable iter X.env x = pure x := by intro _; rfl) :
    VN X C (.ListComp elt [⟨tg, iter, ifs, 0⟩] scope pos) (fLc gi t tt f (own.map (·.2))) := PE.of (pe_lc am.c am.n hi ok hg ht he hs) fun σ H Q h => t_lc hv h
end
end PD

/-! Part 5: bodies; operations by values -/
namespace PD
open PySem PySem.Spec PyProof.Rows L2

/-! ### a def's body -/
section
variable {P : Program} {w : World} {K : PySem.W.Frag} {mg : Str → Option Value} {base : Heap}
theorem fn_ofG {CX : CXT} {k : Nat} {f : Addr} {name qual : Str} {params : Arguments} {body : List Stmt} {scope : Scope} {dV kV doc pm cdv ct oc : Value} {an od : Option Addr}
    {osl : Array (Option Value)} {N ps : List Str} {sp : Sp} (lk : K.lookup f = some ⟨oc, od, .func (PySem.W.fnOf name qual params body scope dV kV doc pm an cdv ct), osl⟩) (hcd : PySem.W.codeIn K cdv qual = true) (S : FnScope N ps scope)
    (len : ∀ vs H Q E, sp vs H Q E → vs.length = ps.length)
    (hbody : ∀ (A : Around) (outer : List Env) (s : Shared) (H : Hp) (vs : List V) (Q : VK) (E : XK), A.guards = some [] → Room k (A.deeper (envOfC qual scope s.heap.objs.size f cdv)) → sp vs H Q E →
      ∃ t, PSs (cxOf CX P w K mg base N qual scope f cdv A outer s H E) body t ∧ t { nx := fun _ H' => Q .non H', rt := Q } (L2.start N vs) H) :
    FnG P w K mg base CX (k + 1) f (PySem.W.fnOf name qual params body scope dV kV doc pm an cdv ct) ps sp := by
  refine ⟨len, fun A outer s H args us vs Q E hg hr e0 hb r hsp => ?_⟩
  have hl := len _ _ _ _ hsp
  have KX : K.In s.heap := e0.mod.kin.keeps fun b o e => (e0.bs b o e).1
  have lim : s.heap.NoLimit := e0.mod.nolimit.keeps fun b o e => (e0.bs b o e).1
  have hkind : ∀ y ∈ ps.zip us, scope.names.lookup y.1 = some .local ∨ (scope.names.lookup y.1 = some .cell ∧ ((cellsFrom (s.heap.objs.size + 1) scope.names []).lookup y.1).isSome = true) := fun ⟨n, v⟩ hy => by
    rcases S.par n (List.of_mem_zip hy).1 with q | q
    · exact .inl q
    · exact .inr ⟨q, PySem.W.cellsFrom_some _ _ _ (.inl q)⟩
  refine codeAny_call_function hr.depth (KX _ _ lk) rfl S.co S.gen rfl (PySem.W.codeRec_of KX hcd) (hb _ _ _ _ ?_)
  refine wpAny_newFunctionEnv_cells S.kind hkind fun env he s1 x => ?_
  subst he
  refine ⟨lim.keeps x.toInCall.keep, codeAny_func ?_⟩
  obtain ⟨t, ht, hq⟩ := hbody A outer s H vs Q E hg (hr.deeper _) hsp
  have I : Inv (cxOf CX P w K mg base N qual scope f cdv A outer s H E) [] (L2.start N vs) H s1 := inv_start S hr.hd e0 hl r x
  refine wpAny_mono (ht.run [] s1 (L2.start N vs) H _ I hq) (fun fl s' hs => ?_) fun e s' hs => hs
  have fin : ∀ {σ' : L2.St} {H' : Hp} {v : V} {u : Value}, Inv (cxOf CX P w K mg base N qual scope f cdv A outer s H E) [] σ' H' s' → RelV v u → Q v H' → CE outer P w H s Q u s' :=
    fun {σ' H' v u} J rv q => ⟨v, H', J.os, J.bare, J.base, J.hok, rv, q⟩
  cases fl with
  | ret u =>
    obtain ⟨v, σ', H', J, rv, q⟩ := hs
    exact fin J rv q
  | next =>
    obtain ⟨σ', H', J, q⟩ := hs
    exact fin (v := V.non) (u := Value.none) J rfl q
  | brk =>
    obtain ⟨_, _, _, q⟩ := hs
    exact False.elim q
  | cont =>
    obtain ⟨_, _, _, q⟩ := hs
    exact False.elim q

/-- the def as a function on data: m slots, n parameters -/
def env0 (m : Nat) (ds : List D) : List Sl := ds.map Sl.sh ++ List.replicate (m - ds.length) .un
def outD : Out → Rs D
  | .nx _ => .ok .none
  | .rt d => .ok d
  | .rn d => .ok d
  | .er c n => .er c n
  | _ => .no
def outN : Out → Rs D
  | .rn d => .ok d
  | .er c n => .er c n
  | _ => .no
def dfn (m n : Nat) (g : FS) : List D → Rs D := fun ds => if ds.length = n then outD (g (env0 m ds)) else .no
def dfnN (m n : Nat) (g : FS) : List D → Rs D := fun ds => if ds.length = n then outN (g (env0 m ds)) else .no
/-- .. of a def that raises nothing -/
def dfn0 (m n : Nat) (g : FS) : List D → Rs D := fun ds => if ds.length = n then (outD (g (env0 m ds))).quiet else .no
def dfn0N (m n : Nat) (g : FS) : List D → Rs D := fun ds => if ds.length = n then (outN (g (env0 m ds))).quiet else .no
theorem start_sh {K : PySem.W.Frag} {F : Hp} {vs : List V} {ds : List D} (h : RpAll K F vs ds) : ∀ (i : Nat) (s : Sl), (ds.map Sl.sh)[i]? = some s → ∃ d v, s = .sh d ∧ vs[i]? = some v ∧ Rp K F v d := fun i s e => by
  rw [List.getElem?_map] at e
  cases h' : ds[i]? with
  | none => rw [h'] at e; cases e
  | some d =>
    rw [h'] at e
    cases e
    obtain ⟨v, h1, h2⟩ := h.get h'
    exact ⟨d, v, rfl, h1, h2⟩
theorem renv0 {G H : Hp} {E : L2.St → XK} {vs : List V} {ds : List D} {N : List Str} (s : Same G H) (h : RpAll K G vs ds) (hl : ds.length ≤ N.length) : REnv K ⟨G, H, E⟩ G (L2.start N vs) H (env0 N.length ds) := by
  have hlen := h.length
  refine ⟨Ext.refl s, ?_, fun i t e => ?_, fun i j l m _ e _ => ?_⟩
  · unfold L2.start env0
    simp only [List.length_append, List.length_map, List.length_replicate]
    omega
  · unfold env0 at e
    by_cases hi : i < ds.length
    · rw [List.getElem?_append_left (by simpa using hi)] at e
      obtain ⟨d, v, rfl, h1, h2⟩ := start_sh h i t e
      refine ⟨v, ?_, h2⟩
      unfold L2.start
      rw [List.getElem?_append_left (by rw [List.length_map, hlen]; exact hi), List.getElem?_map, h1]
      rfl
    · rw [List.getElem?_append_right (by simpa using hi)] at e
      rw [List.getElem?_replicate] at e
      split at e
      · cases e; trivial
      · cases e
  · unfold env0 at e
    by_cases hi : i < ds.length
    · rw [List.getElem?_append_left (by simpa using hi)] at e
      obtain ⟨d, v, e', _⟩ := start_sh h i _ e
      cases e'
    · rw [List.getElem?_append_right (by simpa using hi)] at e
      rw [List.getElem?_replicate] at e
      split at e
      · cases e
      · cases e
/-- what a body's end gives -/
theorem satS_of {o : Out} {G H : Hp} {E : XK} {Q : VK} (s : Same G H) (q : Sat mg ⟨G, H, fun _ => E⟩ (RD K) (outD o) [] G H Q) : SatS K mg ⟨G, H, fun _ => E⟩ o G { nx := fun _ H' => Q .non H', rt := Q } := by
  cases o with
  | nx e => exact fun σ' H' F' _ r => q .non H' F' r.ext .non
  | rt d => exact fun v H' F' x r => q v H' F' x r
  | rn d =>
    refine fun v H' F' x ⟨p, xs, l, e1, e2, e3, e4, e5, e6⟩ => ?_
    subst e1 e2
    have e5 : H p = none := e5
    have x : Ext G H F' H' := x
    refine q _ H' (upd F' p (.lst xs)) ⟨fun b o z => ?_, x.h, fun b o z => ?_, fun b o z => ?_⟩ (.lst (a := p) (xs := xs) upd_same (RpAll.mono (same_upd e4) _ _ e6))
    · rw [upd_ne (ne_of_none (x.f _ _ z) e4)]; exact x.f _ _ z
    · by_cases w : b = p
      · subst w; rw [upd_same] at z; rw [← z]; exact e3
      · rw [upd_ne w] at z; exact x.s _ _ z
    · by_cases w : b = p
      · subst w; exact .inr e5
      · rw [upd_ne w] at z; exact x.n _ _ z
  | er c n => exact fun σ' => q
  | bk e => exact q.elim
  | ct e => exact q.elim
  | no => exact q.elim
theorem satSN_of {o : Out} {G H : Hp} {E : XK} {Q : VK} (s : Same G H) (q : Sat mg ⟨G, H, fun _ => E⟩ (RN K) (outN o) [] G H Q) : SatS K mg ⟨G, H, fun _ => E⟩ o G { nx := fun _ H' => Q .non H', rt := Q } := by
  cases o with
  | rn d => exact fun v H' F' x r => q v H' F' x r
  | er c n => exact fun σ' => q
  | _ => exact q.elim
theorem sat_len {ds : List D} {n : Nat} {R : Rel V D} {o : Rs D} {C : Ct} {σ : L2.St} {F H : Hp} {Q : VK} (q : Sat mg C R (if ds.length = n then o else .no) σ F H Q) : ds.length = n ∧ Sat mg C R o σ F H Q := by
  by_cases h : ds.length = n
  · rw [if_pos h] at q; exact ⟨h, q⟩
  · rw [if_neg h] at q; exact q.elim
theorem sat_quiet {R : Rel V D} {o : Rs D} {C C' : Ct} {σ σ' : L2.St} {F H : Hp} {Q : VK} (q : Sat mg C R o.quiet σ F H Q) : Sat mg C' R o σ' F H Q := by
  cases o with
  | ok d => exact q
  | er c n => exact q.elim
  | no => exact q
/-- a def that raises nothing -/
theorem def0 {x qual : Str} {st : Stmt} {f : Addr} {fd : FuncData} {N ps : List Str} {k : Nat} {g : FS} (F : Fun K x qual st f fd) (S : FnScope N ps (defScope st)) (hl : ps.length ≤ N.length)
    (hb : ∀ (cdv : Value) (A : Around) (outer : List Env) (s : Shared) (H G : Hp), Am (cxOf CX0 P w K mg base N qual (defScope st) f cdv A outer s H E0).nox → Room k (cxOf CX0 P w K mg base N qual (defScope st) f cdv A outer s H E0).nox.A →
      VSs (cxOf CX0 P w K mg base N qual (defScope st) f cdv A outer s H E0).nox ⟨G, H, fun _ => E0⟩ (defBody st) g) : FnG P w K mg base CX0 (k + 1) f fd ps (spD K mg (dfn0 N.length ps.length g)) := by
  obtain ⟨oc, od, kV, doc, pm, an, cdv, ct, osl, rfl, lk, hcd⟩ := F.ex
  refine fn_ofG lk hcd S (fun vs H Q E h => ?_) fun A outer s H vs Q E hg hr h => ?_
  · obtain ⟨G, ds, _, h2, q⟩ := h
    rw [h2.length]
    exact (sat_len q).1
  · obtain ⟨G, ds, s1, h2, q⟩ := h
    obtain ⟨hn, q⟩ := sat_len q
    have hb' := hb cdv A outer s H G ⟨hg, hr.mono (Nat.zero_le _), rfl, S.nd⟩ hr
    exact ⟨_, PSs.nox hb', G, _, renv0 s1 h2 (by omega), satS_of s1 (sat_quiet q)⟩
theorem def0N {x qual : Str} {st : Stmt} {f : Addr} {fd : FuncData} {N ps : List Str} {k : Nat} {g : FS} (F : Fun K x qual st f fd) (S : FnScope N ps (defScope st)) (hl : ps.length ≤ N.length)
    (hb : ∀ (cdv : Value) (A : Around) (outer : List Env) (s : Shared) (H G : Hp), Am (cxOf CX0 P w K mg base N qual (defScope st) f cdv A outer s H E0).nox → Room k (cxOf CX0 P w K mg base N qual (defScope st) f cdv A outer s H E0).nox.A →
      VSs (cxOf CX0 P w K mg base N qual (defScope st) f cdv A outer s H E0).nox ⟨G, H, fun _ => E0⟩ (defBody st) g) : FnG P w K mg base CX0 (k + 1) f fd ps (spN K mg (dfn0N N.length ps.length g)) := by
  obtain ⟨oc, od, kV, doc, pm, an, cdv, ct, osl, rfl, lk, hcd⟩ := F.ex
  refine fn_ofG lk hcd S (fun vs H Q E h => ?_) fun A outer s H vs Q E hg hr h => ?_
  · obtain ⟨G, ds, _, h2, q⟩ := h
    rw [h2.length]
    exact (sat_len q).1
  · obtain ⟨G, ds, s1, h2, q⟩ := h
    obtain ⟨hn, q⟩ := sat_len q
    have hb' := hb cdv A outer s H G ⟨hg, hr.mono (Nat.zero_le _), rfl, S.nd⟩ hr
    exact ⟨_, PSs.nox hb', G, _, renv0 s1 h2 (by omega), satSN_of s1 (sat_quiet q)⟩
/-- a new list may stand for a list -/
theorem spN_spD {Fn : List D → Rs D} : ∀ vs H Q E, spD K mg Fn vs H Q E → spN K mg Fn vs H Q E := fun vs H Q E ⟨G, ds, s, h, q⟩ => ⟨G, ds, s, h, by
  cases hf : Fn ds with
  | ok d =>
    rw [hf] at q
    refine fun v H' F' x ⟨p, xs, l, e1, e2, e3, e4, e5, e6⟩ => ?_
    subst e1 e2
    refine q _ H' (upd F' p (.lst xs)) ⟨fun b o z => ?_, x.h, fun b o z => ?_, fun b o z => ?_⟩ (.lst (a := p) (xs := xs) upd_same (RpAll.mono (same_upd e4) _ _ e6))
    · rw [upd_ne (ne_of_none (x.f _ _ z) e4)]; exact x.f _ _ z
    · by_cases w : b = p
      · subst w; rw [upd_same] at z; rw [← z]; exact e3
      · rw [upd_ne w] at z; exact x.s _ _ z
    · by_cases w : b = p
      · subst w; exact .inr e5
      · rw [upd_ne w] at z; exact x.n _ _ z
  | er c n => rw [hf] at q; exact q
  | no => rw [hf] at q; exact q⟩
theorem FnG.d {f : Addr} {fd : FuncData} {ps : List Str} {k : Nat} {CX : CXT} {Fn : List D → Rs D} (F : FnG P w K mg base CX k f fd ps (spN K mg Fn)) : FnG P w K mg base CX k f fd ps (spD K mg Fn) := F.imp spN_spD
end

/-! ### arithmetic -/
def BIT64 : Nat := 18446744073709551616
def dAdd : D → D → Option D
  | .int a, .int b => some (.int (a + b))
  | .str a, .str b => if a.length + b.length ≤ LINE then some (.str (a ++ b)) else none
  | .list a, .list b => if a.length + b.length ≤ LINE then some (.list (a ++ b)) else none
  | .tuple a, .tuple b => if a.length + b.length ≤ LINE then some (.tuple (a ++ b)) else none
  | _, _ => none
def dSub : D → D → Option D
  | .int a, .int b => some (.int (a - b))
  | _, _ => none
def dMul : D → D → Option D
  | .int a, .int b => if a.natAbs < BIT64 ∨ b.natAbs < BIT64 then some (.int (a * b)) else none
  | .list a, .int k => if k.natAbs ≤ 1000000 ∧ a.length * k.toNat ≤ LINE then some (.list (List.replicate k.toNat a).flatten) else none
  | .str a, .int k => if k.natAbs ≤ 1000 ∧ a.length ≤ 1000 then some (.str (Txt.mul a k)) else none
  | _, _ => none
def dDiv : D → D → Option D
  | .int a, .int b => if 0 < b ∧ b.natAbs < 1073741824 then some (.int (a / b)) else none
  | _, _ => none
def dMod : D → D → Option D
  | .int a, .int b => if 0 < b then some (.int (a % b)) else none
  | _, _ => none
def dPow : D → D → Option D
  | .int a, .int b => if 0 ≤ b ∧ b.natAbs ≤ 1000 ∧ a.natAbs < 18446744073709551616 then some (.int (a ^ b.toNat)) else none
  | _, _ => none
def dNeg : D → Option D
  | .int a => some (.int (-a))
  | _ => none
section
variable {K : PySem.W.Frag} {X : Cx}
def rAddU (K : PySem.W.Frag) : R2 := fun x y H Q => rI0 (fun i j => .int (i + j)) x y H Q ∨ (∃ i j, x = .str i ∧ y = .str j ∧ i.length + j.length ≤ sizeLine ∧ Q (.str (i ++ j)) H) ∨ rCat x y H Q ∨ rCatA K x y H Q
theorem o_add : OpR X (binaryOp .Add) (rAddU X.K) := op_add.or (op_add_str.or (op_cat.or op_catA))
theorem v_add : V2 K (rAddU K) dAdd := by
  intro F H x y d e c Q s rx ry h q
  cases d with
  | int i =>
    cases e with
    | int j => cases rx; cases ry; cases h; exact .inl ⟨i, j, rfl, rfl, q _ H F (Ext.refl s) (.int _)⟩
    | _ => cases h
  | str i =>
    cases e with
    | str j =>
      cases rx; cases ry
      simp only [dAdd] at h
      split at h
      · rename_i hl; cases h; exact .inr (.inl ⟨i, j, rfl, rfl, by rw [line_eq]; exact hl, q _ H F (Ext.refl s) (.str _)⟩)
      · cases h
    | _ => cases h
  | list i =>
    cases e with
    | list j =>
      simp only [dAdd] at h
      split at h
      · rename_i hl
        cases h
        cases rx with
        | @lst a xs _ a1 a2 =>
          cases ry with
          | @lst b ys _ b1 b2 =>
            refine .inr (.inr (.inl ⟨a, b, xs, ys, rfl, rfl, s _ _ a1, s _ _ b1, by rw [a2.length, b2.length, line_eq]; exact hl, fun p hp => ?_⟩))
            exact q _ _ _ (Ext.new s hp) (.lst upd_same (RpAll.mono (same_upd (s.free hp)) _ _ (a2.append b2)))
      · cases h
    | _ => cases h
  | tuple i =>
    cases e with
    | tuple j =>
      simp only [dAdd] at h
      split at h
      · rename_i hl
        cases h
        cases rx with
        | @tup a xs _ a1 a2 =>
          cases ry with
          | @tup b ys _ b1 b2 =>
            refine .inr (.inr (.inr ⟨a, b, xs, ys, rfl, rfl, Same.sqt s a1, Same.sqt s b1, by rw [a2.length, b2.length, line_eq]; exact hl, fun e => ?_, fun _ e => ?_, fun _ _ p hp => ?_⟩))
            · subst e
              cases a2
              exact q _ H F (Ext.refl s) (.tup b1 b2)
            · subst e
              cases b2
              rw [List.append_nil] at q
              exact q _ H F (Ext.refl s) (.tup a1 a2)
            · exact q _ _ _ (Ext.new s hp) (.tup (SqT.of upd_same) (RpAll.mono (same_upd (s.free hp)) _ _ (a2.append b2)))
      · cases h
    | _ => cases h
  | _ => cases h
/-- two whole numbers to one -/
theorem v_int {C : Int → Int → Prop} {g : Int → Int → Int} {k : D → D → Option D} (hk : ∀ d e c, k d e = some c → ∃ i j, d = .int i ∧ e = .int j ∧ C i j ∧ c = .int (g i j)) : V2 K (rI C fun i j => .int (g i j)) k := by
  intro F H x y d e c Q s rx ry h q
  obtain ⟨i, j, rfl, rfl, hc, rfl⟩ := hk d e c h
  cases rx; cases ry
  exact ⟨i, j, rfl, rfl, hc, q _ H F (Ext.refl s) (.int _)⟩
theorem v_int0 {g : Int → Int → Int} {k : D → D → Option D} (hk : ∀ d e c, k d e = some c → ∃ i j, d = .int i ∧ e = .int j ∧ c = .int (g i j)) : V2 K (rI0 fun i j => .int (g i j)) k := by
  intro F H x y d e c Q s rx ry h q
  obtain ⟨i, j, rfl, rfl, rfl⟩ := hk d e c h
  cases rx; cases ry
  exact ⟨i, j, rfl, rfl, q _ H F (Ext.refl s) (.int _)⟩
theorem v_sub : V2 K (rI0 fun i j => .int (i - j)) dSub := v_int0 fun d e c h => by
  unfold dSub at h
  split at h
  · cases h; exact ⟨_, _, rfl, rfl, rfl⟩
  · cases h
theorem v_div : V2 K (rI CDiv fun i j => .int (i / j)) dDiv := v_int fun d e c h => by
  unfold dDiv at h
  split at h
  · split at h
    · rename_i hc; cases h; exact ⟨_, _, rfl, rfl, ⟨hc.1, by have := hc.2; omega⟩, rfl⟩
    · cases h
  · cases h
theorem v_mod : V2 K (rI (fun _ j => 0 < j) fun i j => .int (i % j)) dMod := v_int fun d e c h => by
  unfold dMod at h
  split at h
  · split at h
    · rename_i hc; cases h; exact ⟨_, _, rfl, rfl, hc, rfl⟩
    · cases h
  · cases h
theorem v_pow : V2 K (rI CPow fun i j => .int (i ^ j.toNat)) dPow := v_int fun d e c h => by
  unfold dPow at h
  split at h
  · split at h
    · rename_i hc; cases h; exact ⟨_, _, rfl, rfl, ⟨hc.1, by have := hc.1; have := hc.2.1; omega, hc.2.2⟩, rfl⟩
    · cases h
  · cases h
theorem v_neg : V1 K (rU fun i => .int (-i)) dNeg := by
  intro F H x d c Q s rx h q
  unfold dNeg at h
  split at h
  · cases h; cases rx; exact ⟨_, rfl, q _ H F (Ext.refl s) (.int _)⟩
  · cases h
def rMulS : R2 := fun x y H Q => ∃ z i, x = .str z ∧ y = .int i ∧ MulOk z i ∧ Q (.str (Txt.mul z i)) H
theorem op_mulS : OpR X (binaryOp .Mult) rMulS := by
  intro pins s σ H x y v u Q I rx ry h
  obtain ⟨z, i, rfl, rfl, hc, q⟩ := h
  obtain ⟨t, rfl⟩ := rx
  obtain ⟨t', rfl⟩ := ry
  exact SB.mul hc fun t' k => ⟨.str _, H, I.tok _, ⟨_, rfl⟩, q⟩
def rMulU : R2 := fun x y H Q => rI CMul (fun i j => .int (i * j)) x y H Q ∨ rRep x y H Q ∨ rMulS x y H Q
theorem o_mul : OpR X (binaryOp .Mult) rMulU := op_mul.or (op_rep.or op_mulS)
theorem v_mul : V2 K rMulU dMul := by
  intro F H x y d e c Q s rx ry h q
  cases d with
  | int i =>
    cases e with
    | int j =>
      cases rx; cases ry
      simp only [dMul] at h
      split at h
      · rename_i hc; cases h; exact .inl ⟨i, j, rfl, rfl, by unfold BIT64 at hc; rcases hc with z | z; exact .inl (by omega); exact .inr (by omega), q _ H F (Ext.refl s) (.int _)⟩
      · cases h
    | _ => cases h
  | list i =>
    cases e with
    | int k =>
      cases ry
      simp only [dMul] at h
      split at h
      · rename_i hc
        cases h
        cases rx with
        | @lst a xs _ a1 a2 =>
          refine .inr (.inl ⟨a, k, xs, rfl, rfl, s _ _ a1, by omega, by omega, by rw [a2.length, line_eq]; exact hc.2, fun p hp => ?_⟩)
          exact q _ _ _ (Ext.new s hp) (.lst upd_same (RpAll.mono (same_upd (s.free hp)) _ _ (a2.rep _)))
      · cases h
    | _ => cases h
  | str i =>
    cases e with
    | int k =>
      cases rx; cases ry
      simp only [dMul] at h
      split at h
      · rename_i hc
        cases h
        exact .inr (.inr ⟨i, k, rfl, rfl, mulOk_of 1000 1000 hc.2 (by omega) (by omega) (by decide) (by decide), q _ H F (Ext.refl s) (.str _)⟩)
      · cases h
    | _ => cases h
  | _ => cases h
/-- list * int, the new list owned -/
theorem v_mulN : ∀ (F H : Hp) (x y : V) (d e c : D) (Q : VK), Same F H → Rp K F x d → Rp K F y e → (match d, e with | .list a, .int k => dMul (.list a) (.int k) | _, _ => none) = some c → (∀ v H' F', Ext F H F' H' → RN K F H F' H' v c → Q v H') → rMulU x y H Q := by
  intro F H x y d e c Q s rx ry h q
  cases d with
  | list i =>
    cases e with
    | int k =>
      cases ry
      simp only [dMul] at h
      split at h
      · rename_i hc
        cases h
        cases rx with
        | @lst a xs _ a1 a2 =>
          refine .inr (.inl ⟨a, k, xs, rfl, rfl, s _ _ a1, by omega, by omega, by rw [a2.length, line_eq]; exact hc.2, fun p hp => ?_⟩)
          exact q _ _ _ (Ext.laid s hp) ⟨p, _, _, rfl, rfl, upd_same, s.free hp, hp, a2.rep _⟩
      · cases h
    | _ => cases h
  | _ => cases h
end

/-! ### comparisons -/
theorem Rp.plain {K : PySem.W.Frag} {H : Hp} : ∀ (d : D) (v : V), Rp K H v d → d.plain = true
  | .none, _, _ => rfl
  | .bool _, _, _ => rfl
  | .int _, _, _ => rfl
  | .str _, _, _ => rfl
  | .list ds, _, h => by
    cases h with
    | lst _ r => exact all ds _ r
  | .tuple ds, _, h => by
    cases h with
    | tup _ r => exact all ds _ r
  | .dict _, _, h => by cases h
where all : ∀ (ds : List D) (vs : List V), RpAll K H vs ds → PyData.plainAll ds = true
  | [], _, _ => rfl
  | d :: ds, _, h => by
    cases h with
    | cons a b => simp only [PyData.plainAll, Rp.plain d _ a, all ds _ b, Bool.and_self]
def DEEP : Nat := 64
def shal (d : D) : Bool := decide (d.depth ≤ 64)
def dEq (d e : D) : Option D := if (shal d || shal e) = true then some (.bool (PyData.eqv d e)) else none
def dNe (d e : D) : Option D := if (shal d || shal e) = true then some (.bool (!PyData.eqv d e)) else none
def notNone : D → Bool
  | .none => false
  | _ => true
def dLtC (d e : D) : Bool := PySem.W.alike d e && notNone d && (shal d || shal e)
def dLt (d e : D) : Option D := if dLtC d e = true then some (.bool (PySem.W.dataLt d e)) else none
def dGt (d e : D) : Option D := if dLtC d e = true then some (.bool (PySem.W.dataLt e d)) else none
def dLe (d e : D) : Option D := if dLtC d e = true then some (.bool (!PySem.W.dataLt e d)) else none
def dGe (d e : D) : Option D := if dLtC d e = true then some (.bool (!PySem.W.dataLt d e)) else none
def dInL (d : D) (l : List D) : Bool := l.any fun y => PyData.eqv y d
/-- x in c: over a list, a tuple; one sign in a text -/
def dIn (d e : D) : Option D := match e with
  | .list l => if shal d = true then some (.bool (dInL d l)) else none
  | .tuple l => if shal d = true then some (.bool (dInL d l)) else none
  | .str z => match d with
    | .str x => some (.bool (!(Builtin.Str.occurrences z x 0 z.length 1).isEmpty))
    | _ => none
  | _ => none
def dNot : D → D
  | .bool b => .bool (!b)
  | d => d
def dNotIn (d e : D) : Option D := (dIn d e).map dNot
section
variable {K : PySem.W.Frag} {X : Cx}
/-- a rule of two values that read as data, the answer a truth value -/
def rDB (K : PySem.W.Frag) (ok : D → D → Bool) (g : D → D → Bool) : R2 := fun x y H Q => ∃ F d e, Same F H ∧ Rp K F x d ∧ Rp K F y e ∧ ok d e = true ∧ Q (.bl (g d e)) H
theorem Rp.reads {pins : List (Addr × Obj)} {σ : L2.St} {F H : Hp} {s : Shared} {d : D} {v : V} {u : Value} (I : Inv X pins σ H s) (sf : Same F H) (h : Rp X.K F v d) (r : RelV v u) : ∃ as, Reads s.heap u d as := Dp.reads I d v u (Rp.dp d v (Rp.mono sf d v h)) r
theorem min_shal {d e : D} (h : (shal d || shal e) = true) : min d.depth e.depth ≤ 64 := by
  rcases Bool.or_eq_true_iff.mp h with q | q
  · have := of_decide_eq_true (p := d.depth ≤ 64) q; omega
  · have := of_decide_eq_true (p := e.depth ≤ 64) q; omega
theorem Am.u (am : Am X) : X.A.units + 200 < cLine := by have := am.r.un; omega
theorem o_eq (am : Am X) : OpR X (compareOp .Eq) (rDB X.K (fun d e => shal d || shal e) PyData.eqv) := by
  intro pins s σ H x y v u Q I rx ry ⟨F, d, e, sf, hd, he, ok, q⟩
  obtain ⟨as, r1⟩ := hd.reads I sf rx
  obtain ⟨bs, r2⟩ := he.reads I sf ry
  have := am.u
  have := min_shal ok
  exact SeqAt.eq_plain r1 r2 (Rp.plain _ _ hd) (Rp.plain _ _ he) (by omega) ⟨.bl _, H, I, rfl, q⟩
theorem o_ne (am : Am X) : OpR X (compareOp .NotEq) (rDB X.K (fun d e => shal d || shal e) fun d e => !PyData.eqv d e) := by
  intro pins s σ H x y v u Q I rx ry ⟨F, d, e, sf, hd, he, ok, q⟩
  obtain ⟨as, r1⟩ := hd.reads I sf rx
  obtain ⟨bs, r2⟩ := he.reads I sf ry
  have := am.u
  have := min_shal ok
  exact SeqAt.ne_plain r1 r2 (Rp.plain _ _ hd) (Rp.plain _ _ he) (by omega) ⟨.bl _, H, I, rfl, q⟩
theorem ltC {d e : D} (h : dLtC d e = true) : PySem.W.alike d e = true ∧ d ≠ .none ∧ min d.depth e.depth ≤ 64 := by
  unfold dLtC at h
  simp only [Bool.and_eq_true] at h
  refine ⟨h.1.1, fun z => ?_, min_shal h.2⟩
  have := h.1.2
  rw [z] at this
  cases this
theorem o_lt (am : Am X) : OpR X (compareOp .Lt) (rDB X.K dLtC PySem.W.dataLt) := by
  intro pins s σ H x y v u Q I rx ry ⟨F, d, e, sf, hd, he, ok, q⟩
  obtain ⟨as, r1⟩ := hd.reads I sf rx
  obtain ⟨bs, r2⟩ := he.reads I sf ry
  obtain ⟨h1, h2, h3⟩ := ltC ok
  have := am.u
  exact PySem.W.lt_data r1 r2 h1 h2 (by omega) ⟨.bl _, H, I, rfl, q⟩
theorem o_gt (am : Am X) : OpR X (compareOp .Gt) (rDB X.K dLtC fun d e => PySem.W.dataLt e d) := by
  intro pins s σ H x y v u Q I rx ry ⟨F, d, e, sf, hd, he, ok, q⟩
  obtain ⟨as, r1⟩ := hd.reads I sf rx
  obtain ⟨bs, r2⟩ := he.reads I sf ry
  obtain ⟨h1, h2, h3⟩ := ltC ok
  have := am.u
  exact PySem.W.gt_data r1 r2 h1 h2 (by omega) ⟨.bl _, H, I, rfl, q⟩
theorem o_le (am : Am X) : OpR X (compareOp .LtE) (rDB X.K dLtC fun d e => !PySem.W.dataLt e d) := by
  intro pins s σ H x y v u Q I rx ry ⟨F, d, e, sf, hd, he, ok, q⟩
  obtain ⟨as, r1⟩ := hd.reads I sf rx
  obtain ⟨bs, r2⟩ := he.reads I sf ry
  obtain ⟨h1, h2, h3⟩ := ltC ok
  have := am.u
  exact PySem.W.le_data r1 r2 h1 h2 (by omega) ⟨.bl _, H, I, rfl, q⟩
theorem o_ge (am : Am X) : OpR X (compareOp .GtE) (rDB X.K dLtC fun d e => !PySem.W.dataLt d e) := by
  intro pins s σ H x y v u Q I rx ry ⟨F, d, e, sf, hd, he, ok, q⟩
  obtain ⟨as, r1⟩ := hd.reads I sf rx
  obtain ⟨bs, r2⟩ := he.reads I sf ry
  obtain ⟨h1, h2, h3⟩ := ltC ok
  have := am.u
  exact PySem.W.ge_data r1 r2 h1 h2 (by omega) ⟨.bl _, H, I, rfl, q⟩
theorem v_DB {ok g : D → D → Bool} : V2 K (rDB K ok g) fun d e => if ok d e = true then some (.bool (g d e)) else none := by
  intro F H x y d e c Q s rx ry h q
  by_cases hc : ok d e = true
  · simp only [if_pos hc] at h; cases h; exact ⟨F, d, e, s, rx, ry, hc, q _ H F (Ext.refl s) (.bl _)⟩
  · simp only [if_neg hc] at h; cases h
theorem v_eq : V2 K (rDB K (fun d e => shal d || shal e) PyData.eqv) dEq := v_DB
theorem v_ne : V2 K (rDB K (fun d e => shal d || shal e) fun d e => !PyData.eqv d e) dNe := v_DB
theorem v_lt : V2 K (rDB K dLtC PySem.W.dataLt) dLt := v_DB
theorem v_gt : V2 K (rDB K dLtC fun d e => PySem.W.dataLt e d) dGt := v_DB
theorem v_le : V2 K (rDB K dLtC fun d e => !PySem.W.dataLt e d) dLe := v_DB
theorem v_ge : V2 K (rDB K dLtC fun d e => !PySem.W.dataLt d e) dGe := v_DB
/-- in, not in -/
def inB (d e : D) : Bool := match dIn d e with
  | some (.bool b) => b
  | _ => false
def inOk (d e : D) : Bool := (dIn d e).isSome
theorem o_in (am : Am X) : OpR X (compareOp .In) (rDB X.K inOk inB) := by
  intro pins s σ H x y v u Q I rx ry ⟨F, d, e, sf, hd, he, ok, q⟩
  obtain ⟨as, r1⟩ := hd.reads I sf rx
  obtain ⟨bs, r2⟩ := he.reads I sf ry
  have hu := am.u
  cases e with
  | list l =>
    simp only [inOk, dIn] at ok
    by_cases hs : shal d = true
    · simp only [inB, dIn, if_pos hs] at q
      have hp : (PyData.list l).plain = true := Rp.plain _ _ he
      have := of_decide_eq_true (p := d.depth ≤ 64) hs
      exact SeqAt.in_list_data r2 r1 (by simpa [PyData.plain] using hp) (Rp.plain _ _ hd) (by omega) ⟨.bl _, H, I, rfl, q⟩
    · rw [if_neg hs] at ok; cases ok
  | tuple l =>
    simp only [inOk, dIn] at ok
    by_cases hs : shal d = true
    · simp only [inB, dIn, if_pos hs] at q
      have hp : (PyData.tuple l).plain = true := Rp.plain _ _ he
      have := of_decide_eq_true (p := d.depth ≤ 64) hs
      exact SeqAt.in_tuple_data r2 r1 (by simpa [PyData.plain] using hp) (Rp.plain _ _ hd) (by omega) ⟨.bl _, H, I, rfl, q⟩
    · rw [if_neg hs] at ok; cases ok
  | str z =>
    cases d with
    | str w =>
      cases hd
      cases he
      exact op_in_str pins s σ H _ _ v u Q I rx ry ⟨w, z, rfl, rfl, q⟩
    | _ => cases ok
  | _ => cases ok
theorem o_notIn (am : Am X) : OpR X (compareOp .NotIn) (rDB X.K inOk fun d e => !inB d e) := by
  intro pins s σ H x y v u Q I rx ry ⟨F, d, e, sf, hd, he, ok, q⟩
  obtain ⟨as, r1⟩ := hd.reads I sf rx
  obtain ⟨bs, r2⟩ := he.reads I sf ry
  have hu := am.u
  cases e with
  | list l =>
    simp only [inOk, dIn] at ok
    by_cases hs : shal d = true
    · simp only [inB, dIn, if_pos hs] at q
      have hp : (PyData.list l).plain = true := Rp.plain _ _ he
      have := of_decide_eq_true (p := d.depth ≤ 64) hs
      exact SeqAt.notIn_list_data r2 r1 (by simpa [PyData.plain] using hp) (Rp.plain _ _ hd) (by omega) ⟨.bl _, H, I, rfl, q⟩
    · rw [if_neg hs] at ok; cases ok
  | tuple l =>
    simp only [inOk, dIn] at ok
    by_cases hs : shal d = true
    · simp only [inB, dIn, if_pos hs] at q
      have hp : (PyData.tuple l).plain = true := Rp.plain _ _ he
      have := of_decide_eq_true (p := d.depth ≤ 64) hs
      exact SeqAt.notIn_tuple_data r2 r1 (by simpa [PyData.plain] using hp) (Rp.plain _ _ hd) (by omega) ⟨.bl _, H, I, rfl, q⟩
    · rw [if_neg hs] at ok; cases ok
  | str z =>
    cases d with
    | str w =>
      cases hd
      cases he
      exact L2.op_notin_str pins s σ H _ _ v u Q I rx ry ⟨w, z, rfl, rfl, q⟩
    | _ => cases ok
  | _ => cases ok
theorem dIn_bool {d e c : D} (h : dIn d e = some c) : ∃ b, c = .bool b := by
  unfold dIn at h
  split at h
  · split at h
    · cases h; exact ⟨_, rfl⟩
    · cases h
  · split at h
    · cases h; exact ⟨_, rfl⟩
    · cases h
  · split at h
    · cases h; exact ⟨_, rfl⟩
    · cases h
  · cases h
theorem v_in : V2 K (rDB K inOk inB) dIn := by
  intro F H x y d e c Q s rx ry h q
  obtain ⟨b, rfl⟩ := dIn_bool h
  exact ⟨F, d, e, s, rx, ry, by simp [inOk, h], by simp only [inB, h]; exact q _ H F (Ext.refl s) (.bl _)⟩
theorem v_notIn : V2 K (rDB K inOk fun d e => !inB d e) dNotIn := by
  intro F H x y d e c Q s rx ry h q
  unfold dNotIn at h
  cases h1 : dIn d e with
  | none => rw [h1] at h; cases h
  | some c' =>
    rw [h1] at h
    obtain ⟨b, rfl⟩ := dIn_bool h1
    cases h
    exact ⟨F, d, e, s, rx, ry, by simp [inOk, h1], by simp only [inB, h1]; exact q _ H F (Ext.refl s) (.bl _)⟩
/-- is, is not: None, True, False on the right -/
def isD : D → D → Option D
  | d, .none => some (.bool (!notNone d))
  | .bool a, .bool b => some (.bool (a == b))
  | .none, .bool _ => some (.bool false)
  | _, _ => none
def isNotD (d e : D) : Option D := (isD d e).map dNot
def rIsU : R2 := fun x y H Q => (y = .non ∧ Q (.bl (decide (x = .non))) H) ∨ (∃ a b, x = .bl a ∧ y = .bl b ∧ Q (.bl (a == b)) H) ∨ (∃ b, x = .non ∧ y = .bl b ∧ Q (.bl false) H)
theorem o_is : OpR X (compareOp .Is) rIsU := by
  intro pins s σ H x y v u Q I rx ry h
  rcases h with h | ⟨a, b, rfl, rfl, q⟩ | ⟨b, rfl, rfl, q⟩
  · exact op_isN pins s σ H x y v u Q I rx ry h
  · cases rx; cases ry
    refine wpAny_is_plain rfl ⟨.bl (a == b), H, I, ?_, q⟩
    show Value.bool _ = Value.bool _
    cases a <;> cases b <;> rfl
  · cases rx; cases ry
    exact wpAny_is_plain rfl ⟨.bl false, H, I, rfl, q⟩
end
end PD

/-! Part 6: is, subscripts, slices, built-ins, texts' methods -/
namespace PD
open PySem PySem.Spec PyProof.Rows L2

section
variable {K : PySem.W.Frag} {X : Cx}
theorem notNone_dec {F : Hp} {v : V} {d : D} (h : Rp K F v d) : decide (v = .non) = !notNone d := by
  cases h <;> simp [notNone]
theorem isD_cases {d e c : D} (h : isD d e = some c) : (e = .none ∧ c = .bool (!notNone d)) ∨ (∃ a b, d = .bool a ∧ e = .bool b ∧ c = .bool (a == b)) ∨ (∃ b, d = .none ∧ e = .bool b ∧ c = .bool false) := by
  unfold isD at h
  split at h
  · cases h; exact .inl ⟨rfl, rfl⟩
  · cases h; exact .inr (.inl ⟨_, _, rfl, rfl, rfl⟩)
  · cases h; exact .inr (.inr ⟨_, rfl, rfl, rfl⟩)
  · cases h
theorem v_is : V2 K rIsU isD := by
  intro F H x y d e c Q s rx ry h q
  rcases isD_cases h with ⟨rfl, rfl⟩ | ⟨a, b, rfl, rfl, rfl⟩ | ⟨b, rfl, rfl, rfl⟩
  · cases ry
    refine .inl ⟨rfl, ?_⟩
    rw [notNone_dec rx]
    exact q _ H F (Ext.refl s) (.bl _)
  · cases rx; cases ry
    exact .inr (.inl ⟨a, b, rfl, rfl, q _ H F (Ext.refl s) (.bl _)⟩)
  · cases rx; cases ry
    exact .inr (.inr ⟨b, rfl, rfl, q _ H F (Ext.refl s) (.bl _)⟩)
def rIsNotU : R2 := fun x y H Q => (y = .non ∧ Q (.bl (!decide (x = .non))) H) ∨ (∃ a b, x = .bl a ∧ y = .bl b ∧ Q (.bl (!(a == b))) H) ∨ (∃ b, x = .non ∧ y = .bl b ∧ Q (.bl true) H)
theorem o_isNot : OpR X (compareOp .IsNot) rIsNotU := by
  intro pins s σ H x y v u Q I rx ry h
  rcases h with h | ⟨a, b, rfl, rfl, q⟩ | ⟨b, rfl, rfl, q⟩
  · exact op_notN pins s σ H x y v u Q I rx ry h
  · cases rx; cases ry
    refine wpAny_isNot_plain rfl ⟨.bl (!(a == b)), H, I, ?_, q⟩
    show Value.bool _ = Value.bool _
    cases a <;> cases b <;> rfl
  · cases rx; cases ry
    exact wpAny_isNot_plain rfl ⟨.bl true, H, I, rfl, q⟩
theorem v_isNot : V2 K rIsNotU isNotD := by
  intro F H x y d e c Q s rx ry h q
  unfold isNotD at h
  cases h1 : isD d e with
  | none => rw [h1] at h; cases h
  | some c' =>
    rw [h1] at h
    cases h
    rcases isD_cases h1 with ⟨rfl, rfl⟩ | ⟨a, b, rfl, rfl, rfl⟩ | ⟨b, rfl, rfl, rfl⟩
    · cases ry
      refine .inl ⟨rfl, ?_⟩
      rw [notNone_dec rx]
      exact q _ H F (Ext.refl s) (.bl _)
    · cases rx; cases ry
      exact .inr (.inl ⟨a, b, rfl, rfl, q _ H F (Ext.refl s) (.bl _)⟩)
    · cases rx; cases ry
      exact .inr (.inr ⟨b, rfl, rfl, q _ H F (Ext.refl s) (.bl _)⟩)

/-! ### subscripts -/
def dIx (d e : D) : Option D := match e with
  | .int i => match d with
    | .list l => atI l i
    | .tuple l => atI l i
    | .str z => if z.length ≤ LINE then (atI z.cps.toList i).map oneS else none
    | _ => none
  | _ => none
theorem RpAll.atI {F : Hp} {vs : List V} {ds : List D} {i : Int} {d : D} (h : RpAll K F vs ds) (e : L2.atI ds i = some d) : ∃ v, L2.atI vs i = some v ∧ Rp K F v d := by
  unfold L2.atI at e ⊢
  rw [h.length]
  cases hj : ixN ds.length i with
  | none => rw [hj] at e; cases e
  | some j =>
    rw [hj] at e
    exact h.get e
theorem v_ix : V2 K (rIx K) dIx := by
  intro F H x y d e c Q s rx ry h q
  cases e with
  | int i =>
    cases ry
    cases d with
    | list l =>
      cases rx with
      | @lst a xs _ a1 a2 =>
        obtain ⟨v, h1, h2⟩ := a2.atI h
        exact .inl ⟨a, xs, i, v, rfl, rfl, SqL.of (s _ _ a1), h1, q v H F (Ext.refl s) h2⟩
    | tuple l =>
      cases rx with
      | @tup a xs _ a1 a2 =>
        obtain ⟨v, h1, h2⟩ := a2.atI h
        exact .inr (.inl ⟨a, xs, i, v, rfl, rfl, Same.sqt s a1, h1, q v H F (Ext.refl s) h2⟩)
    | str z =>
      cases rx
      simp only [dIx] at h
      split at h
      · rename_i hl
        cases hc : L2.atI z.cps.toList i with
        | none => rw [hc] at h; cases h
        | some cc =>
          rw [hc] at h
          cases h
          exact .inr (.inr ⟨z, i, cc, rfl, rfl, by rw [line_eq]; exact hl, hc, q _ H F (Ext.refl s) (.str _)⟩)
      · cases h
    | _ => cases h
  | _ => cases h
end
section
variable {X : Cx} {C : Ct} {f f' : FE} {a b : Expr} {x : Str} {pos p1 : Pos}
theorem ve_ix (ha : VE X C a f) (hb : VE X C b f') (hs : PlainIx b := by intro _ _; rfl) : VE X C (.Subscript a b pos) (f2 dIx f f') := PE.of (pe_ix ix_seq ha hb hs) fun _ _ _ => t_op2 v_ix
/-- an item of an owned list -/
def fIxO (i : Nat) (f' : FE) : FE := fun env => match env[i]? with
  | some (.own l) => (f' env).bind fun e => Rs.ofO (dIx (.list l) e)
  | _ => .no
theorem ve_ixO (i : Nat) (hb : VE X C b f') (hN : X.N[i]? = some x := by rfl) (hv : Vis X.env.scope x := by first | exact Or.inl rfl | exact Or.inr (Or.inl rfl) | exact Or.inr (Or.inr rfl)) (hd : (x == ("__debug__" : Str)) = false := by decide)
    (hcd : (x == ("__classdict__" : Str)) = false := by decide) (hs : PlainIx b := by intro _ _; rfl) : VE X C (.Subscript (.Name x p1) b pos) (fIxO i f') := PE.of (pe_ix ix_list (pe_var hN hv hd hcd) hb hs) fun σ H Q ⟨F, env, re, q⟩ => by
  unfold fIxO at q
  split at q
  · rename_i l e1
    obtain ⟨p, xs, h1, h2, h3, h4, h5⟩ := re.own e1
    refine ⟨.ref p, h1, F, env, re, Sat.bind RD.mono q fun d v F1 H1 x1 r1 q1 => ?_⟩
    obtain ⟨c, hc, q2⟩ := Sat.ofO q1
    obtain ⟨p', xs', g1, g2, g3, g4, g5⟩ := (re.go x1).own e1
    rw [h1] at g1
    cases g1
    cases d with
    | int k =>
      cases r1
      obtain ⟨w, w1, w2⟩ := g5.atI hc
      exact ⟨p, xs', k, w, rfl, rfl, SqL.of g2, w1, q2 w H1 F1 (Ext.refl (re.go x1).same) w2⟩
    | _ => cases hc
  · exact q.elim
end

/-! ### slices -/
abbrev FO := List Sl → Rs (Option Int)
def RO : Rel (Option Int) (Option Int) := fun _ _ _ _ b c => b = c
theorem RO.mono : RMono RO := fun _ _ _ _ _ _ _ _ _ _ h => h
def TOp (K : PySem.W.Frag) (mg : Str → Option Value) (C : Ct) (f : FO) : L2.TO := fun σ H Q => ∃ F env, REnv K C F σ H env ∧ Sat mg C RO (f env) σ F H Q
abbrev VO (X : Cx) (C : Ct) (e : Option Expr) (f : FO) : Prop := PO X e (TOp X.K X.mg C f)
theorem PO.of {X : Cx} {e : Option Expr} {t u : L2.TO} (h : PO X e t) (i : ∀ σ H Q, u σ H Q → t σ H Q) : PO X e u := ⟨fun pins s σ H Q I q => h.run pins s σ H Q I (i _ _ _ q)⟩
def oNone : FO := fun _ => .ok none
def asI : D → Rs Int
  | .int i => .ok i
  | _ => .no
def oSome (f : FE) : FO := fun env => (f env).bind fun d => (asI d).bind fun i => .ok (some i)
def cutD {α : Type} (xs : List α) (lo hi : Option Int) : List α := (xs.drop (HT.sIx xs.length 0 lo)).take (HT.sIx xs.length xs.length hi - HT.sIx xs.length 0 lo)
def dSl (d : D) (lo hi : Option Int) : Option D := match d with
  | .list l => some (.list (cutD l lo hi))
  | .tuple l => some (.tuple (cutD l lo hi))
  | .str z => if z.length ≤ LINE then some (.str (cutS z lo hi)) else none
  | _ => none
def fSl (f : FE) (g g' : FO) : FE := fun env => (f env).bind fun d => (g env).bind fun lo => (g' env).bind fun hi => Rs.ofO (dSl d lo hi)
def fSlN (f : FE) (g g' : FO) : FE := fun env => (f env).bind fun d => (g env).bind fun lo => (g' env).bind fun hi => match d with
  | .list l => .ok (.list (cutD l lo hi))
  | _ => .no
theorem RpAll.cut {K : PySem.W.Frag} {F : Hp} {vs : List V} {ds : List D} (h : RpAll K F vs ds) (lo hi : Option Int) : RpAll K F (cutV vs lo hi) (cutD ds lo hi) := by
  unfold cutV cutD
  rw [h.length]
  exact (h.drop _).take _
def rSlU (K : PySem.W.Frag) : V → Option Int → Option Int → Hp → VK → Prop := fun x lo hi H Q => rSlL K x lo hi H Q ∨ rSlA K x lo hi H Q ∨ rSlS x lo hi H Q
section
variable {X : Cx} {C : Ct} {f : FE} {g g' : FO} {a : Expr} {lo hi : Option Expr} {pos p2 : Pos}
theorem vo_none : VO X C none oNone := PO.of po_none fun σ H Q ⟨F, env, re, q⟩ => q none H F (Ext.refl re.same) rfl
theorem vo_some {e : Expr} (h : VE X C e f) : VO X C (some e) (oSome f) := PO.of (po_some h) fun σ H Q ⟨F, env, re, q⟩ =>
  ⟨F, env, re, Sat.bind RO.mono q fun d v F1 H1 x1 r1 q1 => by
    cases d with
    | int i => cases r1; exact ⟨i, rfl, q1 _ H1 F1 (Ext.refl (re.go x1).same) rfl⟩
    | _ => exact q1.elim⟩
theorem sl_u : L2.SlR X (rSlU X.K) := sl_list.or (sl_tupA.or sl_str)
theorem ve_sl (ha : VE X C a f) (hl : VO X C lo g) (hh : VO X C hi g') : VE X C (.Subscript a (.Slice lo hi none p2) pos) (fSl f g g') := PE.of (pe_slice sl_u ha hl hh) fun σ H Q ⟨F, env, re, q⟩ =>
  ⟨F, env, re, Sat.bind RD.mono q fun d v F1 H1 x1 r1 q1 => ⟨F1, env, re.go x1, Sat.bind RD.mono q1 fun l l' F2 H2 x2 r2 q2 => ⟨F2, env, (re.go x1).go x2, Sat.bind RD.mono q2 fun u u' F3 H3 x3 r3 q3 => by
    have e1 : l' = l := r2
    have e2 : u' = u := r3
    subst e1 e2
    obtain ⟨c, hc, q4⟩ := Sat.ofO q3
    have s3 := ((re.go x1).go x2).go x3 |>.same
    have r1' := Rp.mono (x2.trans x3).f _ _ r1
    cases d with
    | list ds =>
      cases hc
      cases r1' with
      | @lst a xs _ a1 a2 =>
        exact .inl ⟨a, xs, rfl, SqL.of (s3 _ _ a1), fun p hp => q4 _ _ _ (Ext.new s3 hp) (.lst upd_same (RpAll.mono (same_upd (s3.free hp)) _ _ (a2.cut _ _)))⟩
    | tuple ds =>
      cases hc
      cases r1' with
      | @tup a xs _ a1 a2 =>
        refine .inr (.inl ⟨a, xs, rfl, Same.sqt s3 a1, fun hw => ?_, fun _ p hp => q4 _ _ _ (Ext.new s3 hp) (.tup (SqT.of upd_same) (RpAll.mono (same_upd (s3.free hp)) _ _ (a2.cut _ _)))⟩)
        have e : cutD ds l' u' = ds := by
          unfold cutD
          rw [a2.length] at hw
          rw [hw.1, hw.2]
          simp
        rw [e] at q4
        exact q4 _ H3 F3 (Ext.refl s3) (.tup a1 a2)
    | str z =>
      cases r1'
      simp only [dSl] at hc
      split at hc
      · rename_i hl
        cases hc
        exact .inr (.inr ⟨z, rfl, by rw [line_eq]; exact hl, q4 _ H3 F3 (Ext.refl s3) (.str _)⟩)
      · cases hc
    | _ => cases hc⟩⟩⟩
theorem vn_sl (ha : VE X C a f) (hl : VO X C lo g) (hh : VO X C hi g') : VN X C (.Subscript a (.Slice lo hi none p2) pos) (fSlN f g g') := PE.of (pe_slice sl_list ha hl hh) fun σ H Q ⟨F, env, re, q⟩ =>
  ⟨F, env, re, Sat.bind RN.mono q fun d v F1 H1 x1 r1 q1 => ⟨F1, env, re.go x1, Sat.bind RN.mono q1 fun l l' F2 H2 x2 r2 q2 => ⟨F2, env, (re.go x1).go x2, Sat.bind RN.mono q2 fun u u' F3 H3 x3 r3 q3 => by
    have e1 : l' = l := r2
    have e2 : u' = u := r3
    subst e1 e2
    have s3 := ((re.go x1).go x2).go x3 |>.same
    have r1' := Rp.mono (x2.trans x3).f _ _ r1
    cases d with
    | list ds =>
      cases r1' with
      | @lst a xs _ a1 a2 =>
        exact ⟨a, xs, rfl, SqL.of (s3 _ _ a1), fun p hp => q3 _ _ _ (Ext.laid s3 hp) ⟨p, _, _, rfl, rfl, upd_same, s3.free hp, hp, a2.cut _ _⟩⟩
    | _ => exact q3.elim⟩⟩⟩
/-- xs[::-1] of a list -/
def dRev : D → Option D
  | .list l => some (.list l.reverse)
  | _ => none
def fRev (f : FE) : FE := f1 dRev f
theorem ve_revL {k : Nat} {p1 p2 p3 : Pos} (ha : VE X C a f) : VE X C (.Subscript a (.Slice none none (some (.UnaryOp .USub (.Constant (.int 1) k p1) p2)) p3) pos) (fRev f) := PE.of (pe_revL ha) fun σ H Q ⟨F, env, re, q⟩ =>
  ⟨F, env, re, Sat.bind RD.mono q fun d v F1 H1 x1 r1 q1 => by
    obtain ⟨c, hc, q2⟩ := Sat.ofO q1
    have s1 := (re.go x1).same
    cases d with
    | list ds =>
      cases hc
      cases r1 with
      | @lst a xs _ a1 a2 =>
        exact ⟨a, xs, rfl, SqL.of (s1 _ _ a1), fun p hp => q2 _ _ _ (Ext.new s1 hp) (.lst upd_same (RpAll.mono (same_upd (s1.free hp)) _ _ a2.reverse))⟩
    | _ => cases hc⟩
/-- an expression with a new list of scalars, all own lists thawed -/
def flatL : D → Bool
  | .list l => l.all scalD
  | _ => false
def fScalN (f : FE) : FE := fun env => (f (thaw env)).bind fun d => if flatL d = true then .ok d else .no
theorem RpAll.scal {K : PySem.W.Frag} {F F' : Hp} : ∀ (ds : List D) (vs : List V), ds.all scalD = true → RpAll K F' vs ds → RpAll K F vs ds
  | [], _, _, h => by cases h; exact .nil
  | d :: ds, _, s, h => by
    rw [List.all_cons, Bool.and_eq_true] at s
    cases h with
    | cons a b => exact .cons (Rp.scal s.1 a) (RpAll.scal ds _ s.2 b)
theorem vn_scal {e : Expr} (h : VN X C e f) : VN X C e (fScalN f) := PE.of h fun σ H Q ⟨F, env, re, q⟩ => by
  obtain ⟨F', s, re'⟩ := re.thaw
  refine ⟨F', _, re', ?_⟩
  have q : Sat X.mg C (RN X.K) ((f (thaw env)).bind fun d => if flatL d = true then .ok d else .no) σ F H Q := q
  cases hf : f (thaw env) with
  | ok d =>
    rw [hf] at q
    have q : Sat X.mg C (RN X.K) (if flatL d = true then .ok d else .no) σ F H Q := q
    by_cases hd : flatL d = true
    · rw [if_pos hd] at q
      intro v H1 F1 x1 ⟨p, xs, l, e1, e2, e3, e4, e5, e6⟩
      subst e1 e2
      exact q _ H1 F ⟨Same.refl _, x1.h, re.same.trans x1.h, fun _ _ z => .inl z⟩ ⟨p, xs, l, rfl, rfl, e3, re.same.free e5, e5, RpAll.scal l xs hd e6⟩
    · rw [if_neg hd] at q; exact q.elim
  | er c n => rw [hf] at q; exact q
  | no => rw [hf] at q; exact q
end

/-! ### built-ins -/
def dLen : List D → Option D
  | [.str z] => if z.length ≤ LINE then some (.int z.length) else none
  | [.list l] => some (.int l.length)
  | [.tuple l] => some (.int l.length)
  | _ => none
def dAbs : List D → Option D
  | [.int i] => some (.int (if i < 0 then -i else i))
  | _ => none
def dMin2 : List D → Option D
  | [.int i, .int j] => some (.int (if j < i then j else i))
  | _ => none
def dMax2 : List D → Option D
  | [.int i, .int j] => some (.int (if j > i then j else i))
  | _ => none
def dInt : List D → Option D
  | [.int i] => some (.int i)
  | [.bool b] => some (.int (if b then 1 else 0))
  | _ => none
def dList : List D → Option D
  | [.list l] => some (.list l)
  | [.tuple l] => some (.list l)
  | _ => none
def dTuple : List D → Option D
  | [.list l] => some (.tuple l)
  | [.tuple l] => some (.tuple l)
  | _ => none
def boolsD : List D → Option (List Bool)
  | [] => some []
  | .bool b :: r => (boolsD r).map (b :: ·)
  | _ => none
def intsD : List D → Option (List Int)
  | [] => some []
  | .int b :: r => (intsD r).map (b :: ·)
  | _ => none
def strsD : List D → Option (List Str)
  | [] => some []
  | .str b :: r => (strsD r).map (b :: ·)
  | _ => none
def dAll : List D → Option D
  | [.list l] => (boolsD l).map fun bs => .bool (bs.all id)
  | _ => none
def dAny : List D → Option D
  | [.list l] => (boolsD l).map fun bs => .bool (bs.any id)
  | _ => none
def dSum : List D → Option D
  | [.list l] => (intsD l).map fun bs => .int bs.sum
  | _ => none
section
variable {K : PySem.W.Frag} {X : Cx}
theorem RpAll.bools {F : Hp} : ∀ {ds : List D} {vs : List V} {bs : List Bool}, RpAll K F vs ds → boolsD ds = some bs → vs = bs.map V.bl
  | [], _, _, h, e => by cases h; cases e; rfl
  | .bool b :: r, _, _, h, e => by
    cases h with
    | cons a t =>
      cases a
      simp only [boolsD] at e
      cases hr : boolsD r with
      | none => rw [hr] at e; cases e
      | some bs => rw [hr] at e; cases e; rw [t.bools hr]; rfl
  | .int _ :: _, _, _, _, e | .str _ :: _, _, _, _, e | .none :: _, _, _, _, e | .list _ :: _, _, _, _, e | .tuple _ :: _, _, _, _, e | .dict _ :: _, _, _, _, e => by cases e
theorem RpAll.intsd {F : Hp} : ∀ {ds : List D} {vs : List V} {bs : List Int}, RpAll K F vs ds → intsD ds = some bs → vs = bs.map V.int
  | [], _, _, h, e => by cases h; cases e; rfl
  | .int b :: r, _, _, h, e => by
    cases h with
    | cons a t =>
      cases a
      simp only [intsD] at e
      cases hr : intsD r with
      | none => rw [hr] at e; cases e
      | some bs => rw [hr] at e; cases e; rw [t.intsd hr]; rfl
  | .bool _ :: _, _, _, _, e | .str _ :: _, _, _, _, e | .none :: _, _, _, _, e | .list _ :: _, _, _, _, e | .tuple _ :: _, _, _, _, e | .dict _ :: _, _, _, _, e => by cases e
theorem RpAll.strsd {F : Hp} : ∀ {ds : List D} {vs : List V} {bs : List Str}, RpAll K F vs ds → strsD ds = some bs → vs = bs.map V.str
  | [], _, _, h, e => by cases h; cases e; rfl
  | .str b :: r, _, _, h, e => by
    cases h with
    | cons a t =>
      cases a
      simp only [strsD] at e
      cases hr : strsD r with
      | none => rw [hr] at e; cases e
      | some bs => rw [hr] at e; cases e; rw [t.strsd hr]; rfl
  | .bool _ :: _, _, _, _, e | .int _ :: _, _, _, _, e | .none :: _, _, _, _, e | .list _ :: _, _, _, _, e | .tuple _ :: _, _, _, _, e | .dict _ :: _, _, _, _, e => by cases e
theorem RpAll.one' {F : Hp} {vs : List V} {d : D} (h : RpAll K F vs [d]) : ∃ v, vs = [v] ∧ Rp K F v d := by
  cases h with
  | cons a b => cases b; exact ⟨_, rfl, a⟩
theorem RpAll.two' {F : Hp} {vs : List V} {d e : D} (h : RpAll K F vs [d, e]) : ∃ v w, vs = [v, w] ∧ Rp K F v d ∧ Rp K F w e := by
  cases h with
  | cons a b =>
    obtain ⟨w, rfl, h⟩ := b.one'
    exact ⟨_, w, rfl, a, h⟩
abbrev rLen (K : PySem.W.Frag) : List V → Hp → VK → Prop := fun xs H Q => ∃ x n, xs = [x] ∧ LenV K x H n ∧ Q (.int n) H
theorem l_len : VL K (rLen K) dLen := by
  intro F H xs ds c Q s h e q
  unfold dLen at e
  split at e
  · split at e
    · rename_i hl
      cases e
      obtain ⟨v, rfl, r⟩ := h.one'
      cases r
      exact ⟨_, _, rfl, ⟨by rw [line_eq]; exact hl, rfl⟩, q _ H F (Ext.refl s) (.int _)⟩
    · cases e
  · cases e
    obtain ⟨v, rfl, r⟩ := h.one'
    cases r with
    | lst a b => exact ⟨_, _, rfl, .inl ⟨_, SqL.of (s _ _ a), b.length.symm⟩, q _ H F (Ext.refl s) (.int _)⟩
  · cases e
    obtain ⟨v, rfl, r⟩ := h.one'
    cases r with
    | tup a b => exact ⟨_, _, rfl, .inr ⟨_, Same.sqt s a, b.length.symm⟩, q _ H F (Ext.refl s) (.int _)⟩
  · cases e
abbrev rAbs : List V → Hp → VK → Prop := fun xs H Q => ∃ i, xs = [.int i] ∧ Q (.int (if i < 0 then -i else i)) H
theorem l_abs : VL K rAbs dAbs := by
  intro F H xs ds c Q s h e q
  unfold dAbs at e
  split at e
  · cases e
    obtain ⟨v, rfl, r⟩ := h.one'
    cases r
    exact ⟨_, rfl, q _ H F (Ext.refl s) (.int _)⟩
  · cases e
abbrev rMin2 : List V → Hp → VK → Prop := fun xs H Q => ∃ i j, xs = [.int i, .int j] ∧ Q (.int (if j < i then j else i)) H
abbrev rMax2 : List V → Hp → VK → Prop := fun xs H Q => ∃ i j, xs = [.int i, .int j] ∧ Q (.int (if j > i then j else i)) H
theorem l_min2 : VL K rMin2 dMin2 := by
  intro F H xs ds c Q s h e q
  unfold dMin2 at e
  split at e
  · cases e
    obtain ⟨v, w, rfl, r, r'⟩ := h.two'
    cases r; cases r'
    exact ⟨_, _, rfl, q _ H F (Ext.refl s) (.int _)⟩
  · cases e
theorem l_max2 : VL K rMax2 dMax2 := by
  intro F H xs ds c Q s h e q
  unfold dMax2 at e
  split at e
  · cases e
    obtain ⟨v, w, rfl, r, r'⟩ := h.two'
    cases r; cases r'
    exact ⟨_, _, rfl, q _ H F (Ext.refl s) (.int _)⟩
  · cases e
abbrev rInt1 : List V → Hp → VK → Prop := fun xs H Q => (∃ i, xs = [.int i] ∧ Q (.int i) H) ∨ ∃ k, xs = [.bl k] ∧ Q (.int (if k then 1 else 0)) H
theorem l_int : VL K rInt1 dInt := by
  intro F H xs ds c Q s h e q
  unfold dInt at e
  split at e
  · cases e
    obtain ⟨v, rfl, r⟩ := h.one'
    cases r
    exact .inl ⟨_, rfl, q _ H F (Ext.refl s) (.int _)⟩
  · cases e
    obtain ⟨v, rfl, r⟩ := h.one'
    cases r
    exact .inr ⟨_, rfl, q _ H F (Ext.refl s) (.int _)⟩
  · cases e
abbrev rListOf (K : PySem.W.Frag) : List V → Hp → VK → Prop := fun xs H Q => ∃ p ys, xs = [.ref p] ∧ (SqL K H p ys ∨ SqT K H p ys) ∧ ∀ l, H l = none → Q (.ref l) (upd H l (.lst ys))
theorem l_listN : VLN K (rListOf K) dList := by
  intro F H xs ds c Q s h e q
  unfold dList at e
  split at e
  · cases e
    obtain ⟨v, rfl, r⟩ := h.one'
    cases r with
    | @lst a ys _ a1 a2 => exact ⟨a, ys, rfl, .inl (SqL.of (s _ _ a1)), fun p hp => q _ _ _ (Ext.laid s hp) ⟨p, _, _, rfl, rfl, upd_same, s.free hp, hp, a2⟩⟩
  · cases e
    obtain ⟨v, rfl, r⟩ := h.one'
    cases r with
    | @tup a ys _ a1 a2 => exact ⟨a, ys, rfl, .inr (Same.sqt s a1), fun p hp => q _ _ _ (Ext.laid s hp) ⟨p, _, _, rfl, rfl, upd_same, s.free hp, hp, a2⟩⟩
  · cases e
theorem l_list : VL K (rListOf K) dList := by
  intro F H xs ds c Q s h e q
  unfold dList at e
  split at e
  · cases e
    obtain ⟨v, rfl, r⟩ := h.one'
    cases r with
    | @lst a ys _ a1 a2 => exact ⟨a, ys, rfl, .inl (SqL.of (s _ _ a1)), fun p hp => q _ _ _ (Ext.new s hp) (.lst upd_same (RpAll.mono (same_upd (s.free hp)) _ _ a2))⟩
  · cases e
    obtain ⟨v, rfl, r⟩ := h.one'
    cases r with
    | @tup a ys _ a1 a2 => exact ⟨a, ys, rfl, .inr (Same.sqt s a1), fun p hp => q _ _ _ (Ext.new s hp) (.lst upd_same (RpAll.mono (same_upd (s.free hp)) _ _ a2))⟩
  · cases e
abbrev rTupleOf (K : PySem.W.Frag) : List V → Hp → VK → Prop := fun xs H Q => ∃ p ys, xs = [.ref p] ∧ ((SqL K H p ys ∧ ∀ l, H l = none → Q (.ref l) (upd H l (.tup ys))) ∨ (SqT K H p ys ∧ Q (.ref p) H))
theorem l_tuple : VL K (rTupleOf K) dTuple := by
  intro F H xs ds c Q s h e q
  unfold dTuple at e
  split at e
  · cases e
    obtain ⟨v, rfl, r⟩ := h.one'
    cases r with
    | @lst a ys _ a1 a2 => exact ⟨a, ys, rfl, .inl ⟨SqL.of (s _ _ a1), fun p hp => q _ _ _ (Ext.new s hp) (.tup (SqT.of upd_same) (RpAll.mono (same_upd (s.free hp)) _ _ a2))⟩⟩
  · cases e
    obtain ⟨v, rfl, r⟩ := h.one'
    cases r with
    | @tup a ys _ a1 a2 => exact ⟨a, ys, rfl, .inr ⟨Same.sqt s a1, q _ H F (Ext.refl s) (.tup a1 a2)⟩⟩
  · cases e
theorem l_all : VL K (rAll K) dAll := by
  intro F H xs ds c Q s h e q
  unfold dAll at e
  split at e
  · rename_i l
    obtain ⟨v, rfl, r⟩ := h.one'
    cases hb : boolsD l with
    | none => rw [hb] at e; cases e
    | some bs =>
      rw [hb] at e
      cases e
      cases r with
      | @lst a ys _ a1 a2 =>
        have e := a2.bools hb
        subst e
        exact ⟨a, bs, rfl, SqL.of (s _ _ a1), q _ H F (Ext.refl s) (.bl _)⟩
  · cases e
theorem l_any : VL K (rAny K) dAny := by
  intro F H xs ds c Q s h e q
  unfold dAny at e
  split at e
  · rename_i l
    obtain ⟨v, rfl, r⟩ := h.one'
    cases hb : boolsD l with
    | none => rw [hb] at e; cases e
    | some bs =>
      rw [hb] at e
      cases e
      cases r with
      | @lst a ys _ a1 a2 =>
        have e := a2.bools hb
        subst e
        exact ⟨a, bs, rfl, SqL.of (s _ _ a1), q _ H F (Ext.refl s) (.bl _)⟩
  · cases e
theorem l_sum : VL K (rSum K) dSum := by
  intro F H xs ds c Q s h e q
  unfold dSum at e
  split at e
  · rename_i l
    obtain ⟨v, rfl, r⟩ := h.one'
    cases hb : intsD l with
    | none => rw [hb] at e; cases e
    | some bs =>
      rw [hb] at e
      cases e
      cases r with
      | @lst a ys _ a1 a2 =>
        have e := a2.intsd hb
        subst e
        exact ⟨a, bs, rfl, SqL.of (s _ _ a1), q _ H F (Ext.refl s) (.int _)⟩
  · cases e
end

/-! ### a text's join -/
def dJoin (d e : D) : Option D := match d, e with
  | .str a, .list l => (strsD l).bind fun ys => if (ys.map (·.length)).sum + ys.length * a.length ≤ LINE then some (.str (Txt.join a ys)) else none
  | .str a, .tuple l => (strsD l).bind fun ys => if (ys.map (·.length)).sum + ys.length * a.length ≤ LINE then some (.str (Txt.join a ys)) else none
  | _, _ => none
section
variable {X : Cx} {C : Ct} {f f' : FE} {o e : Expr} {apos pos : Pos}
def fJoin (f f' : FE) : FE := fun env => (f env).bind fun d => match d with
  | .str a => (f' env).bind fun l => Rs.ofO (dJoin (.str a) l)
  | _ => .no
theorem ve_join (ho : VE X C o f) (he : VE X C e f') (hs : starEach [e] X.env = [(false, eval e X.env)] := by rfl) (hbase : attributeBase o "join" X.env (eval o X.env) = eval o X.env := by rfl) (hline : (apos.endLine == pos.line) = true := by rfl) :
    VE X C (.Call (.Attribute o "join" apos) [e] [] pos) (fJoin f f') := PE.of (pe_join ho he hs hbase hline) fun σ H Q ⟨F, env, re, q⟩ =>
  ⟨F, env, re, Sat.bind RD.mono q fun d v F1 H1 x1 r1 q1 => by
    cases d with
    | str a =>
      cases r1
      refine ⟨⟨_, rfl⟩, F1, env, re.go x1, Sat.bind RD.mono q1 fun l w F2 H2 x2 r2 q2 => ?_⟩
      obtain ⟨c, hc, q3⟩ := Sat.ofO q2
      have s2 := ((re.go x1).go x2).same
      cases l with
      | list l =>
        simp only [dJoin] at hc
        cases hb : strsD l with
        | none => rw [hb] at hc; cases hc
        | some ys =>
          rw [hb] at hc
          have hc : (if (ys.map (·.length)).sum + ys.length * a.length ≤ LINE then some (PyData.str (Txt.join a ys)) else none) = some c := hc
          by_cases hl : (ys.map (·.length)).sum + ys.length * a.length ≤ LINE
          · rw [if_pos hl] at hc
            cases hc
            cases r2 with
            | @lst p xs _ a1 a2 =>
              have e := a2.strsd hb
              subst e
              exact ⟨a, p, ys, rfl, rfl, .inl (SqL.of (s2 _ _ a1)), hl, q3 _ H2 F2 (Ext.refl s2) (.str _)⟩
          · rw [if_neg hl] at hc; cases hc
      | tuple l =>
        simp only [dJoin] at hc
        cases hb : strsD l with
        | none => rw [hb] at hc; cases hc
        | some ys =>
          rw [hb] at hc
          have hc : (if (ys.map (·.length)).sum + ys.length * a.length ≤ LINE then some (PyData.str (Txt.join a ys)) else none) = some c := hc
          by_cases hl : (ys.map (·.length)).sum + ys.length * a.length ≤ LINE
          · rw [if_pos hl] at hc
            cases hc
            cases r2 with
            | @tup p xs _ a1 a2 =>
              have e := a2.strsd hb
              subst e
              exact ⟨a, p, ys, rfl, rfl, .inr (Same.sqt s2 a1), hl, q3 _ H2 F2 (Ext.refl s2) (.str _)⟩
          · rw [if_neg hl] at hc; cases hc
      | _ => cases hc
    | _ => exact q1.elim⟩
end
end PD

/-! Part 7: enumerate and zip over lists, tuples, texts -/
namespace PD
open PySem PySem.Spec PyProof.Rows L2

theorem ad_ne {n k m : Nat} (h : k ≠ m) : n + k ≠ n + m := by omega
theorem ad_lt {n k : Nat} (h : n + k < n) : False := by omega
theorem ad_le {n c : Nat} (h : c = n + 4 ∨ c = n + 2 ∨ c = n + 3 ∨ c = n ∨ c = n + 1) : n ≤ c := by omega
inductive Sk where
  | l (a : Addr)
  | t (a : Addr)
  | s (z : Str)
namespace Sk
def v : Sk → V
  | .l a => .ref a
  | .t a => .ref a
  | .s z => .str z
def adr : Sk → List Addr
  | .l a => [a]
  | .t a => [a]
  | .s _ => []
def seq (K : PySem.W.Frag) (H : Hp) (k : Sk) (xs : List V) : Prop := match k with
  | .l a => SqL K H a xs
  | .t a => SqT K H a xs
  | .s z => xs = z.cps.toList.map fun c => .str ⟨#[c]⟩
def at' (k : Sk) (it : Addr) (i : Nat) (h : Heap) : Prop := match k with
  | .l a => h.IsListIter it a i
  | .t a => h.IsTupleIter it a i
  | .s z => ∃ tk, h.IsStrIter it (strIterType z) z tk i
end Sk
section
variable {X : Cx} {pins : List (Addr × Obj)} {σ : L2.St} {H : Hp} {s : Shared} {k : Sk} {it : Addr} {xs ys : List V}
theorem Sk.at_obj {i : Nat} {h : Heap} (st : k.at' it i h) : ∃ o, h.get? it = some o ∧ ∀ v, o.data ≠ .cell v := by
  cases k with
  | l a => obtain ⟨o, e, _, d⟩ := st; exact ⟨o, e, fun v z => by rw [d] at z; cases z⟩
  | t a => obtain ⟨o, e, _, d⟩ := st; exact ⟨o, e, fun v z => by rw [d] at z; cases z⟩
  | s z => obtain ⟨tk, o, e, _, d⟩ := st; exact ⟨o, e, fun v z => by rw [d] at z; cases z⟩
theorem Sk.at_keep {i : Nat} {h h' : Heap} (st : k.at' it i h) (hk : ∀ o, h.get? it = some o → h'.get? it = some o) : k.at' it i h' := by
  cases k with
  | l a => obtain ⟨o, e, r⟩ := st; exact ⟨o, hk _ e, r⟩
  | t a => obtain ⟨o, e, r⟩ := st; exact ⟨o, hk _ e, r⟩
  | s z => obtain ⟨tk, o, e, r⟩ := st; exact ⟨tk, o, hk _ e, r⟩
theorem Sk.inj (I : Inv X pins σ H s) (h : k.seq X.K H xs) (h' : k.seq X.K H ys) : xs = ys := by
  cases k with
  | l a => exact I.list_inj h h'
  | t a => exact I.tuple_inj h h'
  | s z => exact Eq.trans h (Eq.symm h')
theorem Sk.draws (hh : X.A.in1.handled = none) (I : Inv X pins σ H s) (hq : k.seq X.K H xs) (hne : it ∉ k.adr) (i : Nat) (st : k.at' it i s.heap) :
    ∃ (n : Nat) (P : Nat → Value → Prop) (St : Nat → Heap → Prop), Draws X.prog X.w X.A.in1 it (it :: k.adr) n P St ∧ n = xs.length ∧ St i s.heap ∧ (∀ j h, St j h → k.at' it j h) ∧ ∀ j x, P j x → ∃ y, xs[j]? = some y ∧ RelV y x := by
  cases k with
  | l a =>
    obtain ⟨its, rv, p, _⟩ := I.list hq
    have ne : a ≠ it := fun z => hne (by rw [z]; exact List.mem_cons_self)
    refine ⟨_, _, _, Draws.list hh it a ne its.toArray, by rw [List.size_toArray]; exact rv.length.symm, ⟨st, p.isList⟩, fun j h q => q.1, fun j x q => ?_⟩
    have q : its[j]? = some x := by simpa using q
    have hj : j < xs.length := by rw [rv.length]; exact (List.getElem?_eq_some_iff.mp q).1
    obtain ⟨u, hu, ru⟩ := rv.get (List.getElem?_eq_getElem hj)
    rw [q] at hu
    cases hu
    exact ⟨_, List.getElem?_eq_getElem hj, ru⟩
  | t a =>
    obtain ⟨its, rv, p, _⟩ := I.tuple hq
    have ne : a ≠ it := fun z => hne (by rw [z]; exact List.mem_cons_self)
    refine ⟨_, _, _, Draws.tuple hh it a ne its.toArray, by rw [List.size_toArray]; exact rv.length.symm, ⟨st, show s.heap.IsTuple a its.toArray from p⟩, fun j h q => q.1, fun j x q => ?_⟩
    have q : its[j]? = some x := by simpa using q
    have hj : j < xs.length := by rw [rv.length]; exact (List.getElem?_eq_some_iff.mp q).1
    obtain ⟨u, hu, ru⟩ := rv.get (List.getElem?_eq_getElem hj)
    rw [q] at hu
    cases hu
    exact ⟨_, List.getElem?_eq_getElem hj, ru⟩
  | s z =>
    obtain ⟨tk, st⟩ := st
    have hq : xs = z.cps.toList.map fun c => .str ⟨#[c]⟩ := hq
    refine ⟨_, _, _, Draws.text hh it z tk, by rw [hq, List.length_map, Array.length_toList], st, fun j h q => ⟨tk, q⟩, fun j x ⟨c, u, q, e⟩ => ?_⟩
    subst e
    refine ⟨.str ⟨#[c]⟩, ?_, ⟨u, rfl⟩⟩
    rw [hq, List.getElem?_map, Array.getElem?_toList, q]
    rfl
end

/-! ### enumerate -/
def IteU (K : PySem.W.Frag) (k : Sk) : It :=
  ⟨fun i H => ∃ (xs : List V) (x : V), k.seq K H xs ∧ xs[i]? = some x, fun i H v H' => ∃ T x, v = .ref T ∧ H T = none ∧ H' = upd H T (.tup [.int (i : Nat), x]) ∧ ∀ xs, k.seq K H xs → xs[i]? = some x, fun i H => ∃ xs : List V, k.seq K H xs ∧ xs.length = i⟩
theorem turn_enumU {P : Program} {w : World} {K : PySem.W.Frag} {elts : List Expr} {kk : Nat} {tpos : Pos} (k : Sk) (e it : Addr) (hne : e ≠ it) (hea : e ∉ k.adr) (hia : it ∉ k.adr) :
    Turn P w K (.Tuple elts kk tpos) (IteU K k) [e, it] e (fun i h => (∃ old, IsEnum h e it ((i : Nat) : Int) old) ∧ k.at' it i h) where
  mem := by simp
  obj := fun i h st b hb => by
    obtain ⟨⟨old, he⟩, st⟩ := st
    have e' : b = e ∨ b = it := by simpa using hb
    rcases e' with z | z
    · rw [z]; exact ⟨_, he, fun v q => nomatch q⟩
    · rw [z]; exact Sk.at_obj st
  keep := fun i h h' st k' => let ⟨⟨old, he⟩, hi⟩ := st; ⟨⟨old, k' e (by simp) _ he⟩, Sk.at_keep hi fun o q => k' it (by simp) o q⟩
  item := by
    intro X hP hw hK hc i pins s σ H E I hf st hg
    subst hP hw hK
    obtain ⟨⟨old, he⟩, hit⟩ := st
    obtain ⟨xs, x, hq, hx⟩ := hg
    obtain ⟨n, P, St, D, hn, hst, hat, hP⟩ := Sk.draws (I.ok.hd hc) I hq hia i hit
    have hel : e < s.heap.objs.size := Heap.lt_size he
    have hil : it < s.heap.objs.size := by obtain ⟨_, q, _⟩ := Sk.at_obj hit; exact Heap.lt_size q
    have hlt : i < n := by rw [hn]; exact (List.getElem?_eq_some_iff.mp hx).1
    refine wpAny_pyNext_enum_itemD D he hst hlt hne (fun z => by
      rcases List.mem_cons.mp z with z | z
      · exact hne z
      · exact hea z) fun u h' tk hu ho hit' hT hsz hk => ?_
    obtain ⟨y, hy, ru⟩ := hP _ _ hu
    rw [hx] at hy
    cases hy
    refine ⟨_, rfl, wpAny_letOwnedTupleGo_enum (s := { s with heap := h', toks := tk + 1 }) ho fun h'' he' sb => ?_⟩
    have hT2 : h''.get? s.heap.objs.size = some { cls := .type "tuple", data := .seq #[.int i tk, u] } := (sb.2 _ (Nat.ne_of_gt hel)).trans hT
    have new : ObjOk X.prog X.w (upd H s.heap.objs.size (.tup [.int (i : Nat), x])) h'' s.heap.objs.size (.tup [.int (i : Nat), x]) :=
      ⟨by show 2 ≤ sizeLine; decide, [.int i tk, u], .cons ⟨_, rfl⟩ (.cons ru .nil), ⟨_, hT2, rfl, _, rfl⟩⟩
    have I1 : Inv X pins σ (upd H s.heap.objs.size (.tup [.int (i : Nat), x])) { s with heap := h'', toks := tk + 1 } :=
      I.turnedNew (ch := [e, it]) (fun b ob hb q => (sb.2 b (fun z => hb (by simp [z]))).trans (hk b ob (fun z => hb (by simp [z])) (fun z => hb (by simp [z])) q)) hf (Nat.le_refl _) new
    refine ⟨.ref s.heap.objs.size, _, I1, rfl, ⟨_, x, rfl, I.hok.fresh (Nat.le_refl _), rfl, fun ys hy => by rw [Sk.inj I hy hq]; exact hx⟩, ⟨⟨u, ?_⟩, Sk.at_keep (hat _ _ hit') fun o q => (sb.2 it (Ne.symm hne)).trans q⟩, fun b hb => ?_⟩
    · have e1 : ((i + 1 : Nat) : Int) = (i : Int) + 1 := by omega
      rw [e1]; exact he'
    · have hb' : b < s.heap.objs.size := by
        have e' : b = e ∨ b = it := by simpa using hb
        rcases e' with z | z
        · rw [z]; exact hel
        · rw [z]; exact hil
      rw [upd_ne (Nat.ne_of_lt hb')]
      exact (hf b hb).1
  done := by
    intro X hP hw hK hc i pins s σ H E I hf st hg
    subst hP hw hK
    obtain ⟨⟨old, he⟩, hit⟩ := st
    obtain ⟨xs, hq, hx⟩ := hg
    obtain ⟨n, P, St, D, hn, hst, hat, hP⟩ := Sk.draws (I.ok.hd hc) I hq hia i hit
    obtain ⟨f0, f1, f2, f3, f4, f5⟩ := hf it (by simp)
    have e : i = n := by rw [hn, hx]
    subst e
    exact wpAny_pyNext_enum_endD D he hst fun h' eb => ⟨rfl, I.turned (t' := s.toks) (fun b o hb q => eb b o hb q) f0 f1 f3 f4 f5⟩
  self := fun A i s Q E st h => let ⟨⟨_, he⟩, _⟩ := st; wpAny_pyIter_enum he h

theorem meets_enumerate_newB {v : Value} {o : Obj} {Hh : Heap → Prop} (B : Begins v o Hh) :
    Meets (Builtin.«enumerate.__new__» ⟨[.type "enumerate", v], []⟩) (fun _ R s => Hh s.heap ∧
      R (.ok (.ret (.ref (s.heap.push o).objs.size)))
        { s with heap := (s.heap.push o).push { cls := .type "enumerate", data := .fields #[.none, .bool false, .ref s.heap.objs.size, rawInt 0, .none, .none] } }) :=
  .of_wp fun prog w A R s h => by
    obtain ⟨hp, g, d, tk, os⟩ := s; obtain ⟨hl, h⟩ := h
    have hsub := sub_enumerate
    have q1 : ∀ {A' : Around} {E : Value → Shared → Prop} {Q : Value → Shared → Prop}, Q (.ref hp.objs.size) ⟨(hp.push o), g, d, tk, os⟩ → wpAny (model prog w) A' (pyIter v) Q E ⟨hp, g, d, tk, os⟩ :=
      fun q => B.iter prog w _ _ ⟨hp, g, d, tk, os⟩ _ (B.keeps _ _ hl fun b o' e => e) q
    wp_walk
    refine wpAny_stack_any fun st => wpAny_pure ?_
    split
    · rename_i c _ _ _ _ _
      cases (c == Value.type "enumerate")
      · wp_walk using q1
        exact ⟨_, rfl, h⟩
      · wp_walk using q1
        exact ⟨_, rfl, h⟩
    · wp_walk using q1
      exact ⟨_, rfl, h⟩
theorem enum_begins {prog : Program} {w : World} {A : Around} {E : Value → Shared → Prop} {s : Shared} {v : Value} {o : Obj} {Hh : Heap → Prop} {Q : Value → Shared → Prop} (B : Begins v o Hh) (h1 : Hh s.heap)
    (h : ∀ h', IsEnum h' (s.heap.objs.size + 1) s.heap.objs.size 0 .none → h'.get? s.heap.objs.size = some o → h'.objs.size = s.heap.objs.size + 2 →
      (∀ b o, s.heap.get? b = some o → h'.get? b = some o) → Q (.ref (s.heap.objs.size + 1)) { s with heap := h' }) :
    wpAny (model prog w) A (call (.type "enumerate") [v]) Q E s := by
  refine callType_new F.called_enumerate (by decide) (F.typeCall_enumerate_1 _) (F.newCall_enumerate_1 _) (fun obj => F.args_object_init_2 obj _) F.entry_enumerate_new
    (meets_enumerate_newB B) ⟨h1, ?_⟩
  have hz : (s.heap.push o).objs.size = s.heap.objs.size + 1 := Heap.size_push ..
  show _ ∧ _
  rw [hz]
  have he : IsEnum ((s.heap.push o).push
      { cls := .type "enumerate", data := .fields #[.none, .bool false, .ref s.heap.objs.size, rawInt 0, .none, .none] }) (s.heap.objs.size + 1) s.heap.objs.size 0 .none := by
    have := Heap.get?_push_size (s.heap.push o)
      (o := { cls := .type "enumerate", data := .fields #[.none, .bool false, .ref s.heap.objs.size, rawInt 0, .none, .none] }) rfl
    rw [hz] at this; exact this
  refine ⟨⟨_, he, rfl⟩, h _ he (Heap.get?_push_of_some _ (Heap.get?_push_size _ B.free)) (by rw [Heap.size_push, hz]) fun b o x => Heap.get?_push_of_some _ (Heap.get?_push_of_some _ x)⟩

/-- the iterator's object of a source -/
def Sk.ob (k : Sk) (tk : Tok) : Obj := match k with
  | .l a => { cls := .type "list_iterator", data := .fields #[.ref a, .int 0 0] }
  | .t a => { cls := .type "tuple_iterator", data := .fields #[.ref a, .int 0 0] }
  | .s z => { cls := .type (strIterType z), data := .fields #[.str z tk, .int 0 0] }
theorem Sk.at_new {k : Sk} {tk : Tok} {h : Heap} {it : Addr} (e : h.get? it = some (k.ob tk)) : k.at' it 0 h := by
  cases k with
  | l a => exact ⟨_, e, rfl, rfl⟩
  | t a => exact ⟨_, e, rfl, rfl⟩
  | s z => exact ⟨tk, _, e, rfl, rfl⟩
theorem Sk.begins {X : Cx} {pins : List (Addr × Obj)} {σ : L2.St} {H : Hp} {s : Shared} {k : Sk} {xs : List V} {u : Value} (I : Inv X pins σ H s) (hq : k.seq X.K H xs) (r : RelV k.v u) :
    ∃ (tk : Tok) (Hh : Heap → Prop), Begins u (k.ob tk) Hh ∧ Hh s.heap ∧ ∀ a ∈ k.adr, a < s.heap.objs.size := by
  cases k with
  | l a =>
    cases r
    obtain ⟨its, rv, p, _⟩ := I.list hq
    exact ⟨0, _, begins_list a its.toArray, p.isList, fun b hb => by rw [List.mem_singleton.mp hb]; exact p.lt⟩
  | t a =>
    cases r
    obtain ⟨its, rv, p, _⟩ := I.tuple hq
    exact ⟨0, _, begins_tuple a its.toArray, (show s.heap.IsTuple a its.toArray from p), fun b hb => by rw [List.mem_singleton.mp hb]; exact p.lt⟩
  | s z =>
    obtain ⟨t, rfl⟩ := r
    exact ⟨t, _, begins_text z t, trivial, fun b hb => by cases hb⟩
def iEnumU (K : PySem.W.Frag) (ta : TA) : TI := fun σ H R => ta σ H fun vs H1 => ∃ k xs, vs = [Sk.v k] ∧ k.seq K H1 xs ∧ R (IteU K k) H1
theorem pi_enumU {X : Cx} {e : Expr} {ta : TA} {p pos tpos : Pos} {elts : List Expr} {kk : Nat} (hg : Gl X "enumerate") (hm : X.mg "enumerate" = none) (ha : PA X [e] ta) (hs : starEach [e] X.env = [(false, eval e X.env)] := by rfl) :
    PI X (.Tuple elts kk tpos) (.Call (.Name "enumerate" p) [e] [] pos) (iEnumU X.K ta) := by
  refine ⟨fun pins s σ H R I h => ?_⟩
  refine Call_ (ld_blt I hg hm boot_enumerate (PyProof.Rows.callWith_type1 (thn (ha.run pos pins s σ H _ I h) fun us s1 ⟨vs, H1, I1, r1, q1⟩ => ?_) hs rfl))
  obtain ⟨k, xs, ex, hq, q⟩ := q1
  subst ex
  cases r1 with
  | cons r rr =>
    cases rr
    obtain ⟨tk, Hh, B, hB, hlt⟩ := Sk.begins I1 hq r
    refine enum_begins B hB fun h' he hit hsz hk => wpAny_pyIter_enum he ?_
    have I2 : Inv X pins σ H1 { s1 with heap := h' } := I1.kept (t' := s1.toks) hk
    refine ⟨s1.heap.objs.size + 1, [s1.heap.objs.size + 1, s1.heap.objs.size], _, _, H1, rfl, I2, turn_enumU k (s1.heap.objs.size + 1) s1.heap.objs.size (Nat.succ_ne_self _) (fun z => ad_lt (hlt _ z)) (fun z => ad_lt (k := 0) (hlt _ z)), ⟨⟨.none, he⟩, Sk.at_new hit⟩, fun b hb => ?_, q⟩
    have e' : b = s1.heap.objs.size + 1 ∨ b = s1.heap.objs.size := by simpa using hb
    have hle : s1.heap.objs.size ≤ b := by
      rcases e' with z | z
      · rw [z]; exact Nat.le_add_right _ _
      · rw [z]; exact Nat.le_refl _
    exact I1.fpOk hle (I1.hok.fresh hle)

/-! ### zip -/
def ItzU (K : PySem.W.Frag) (a b : Sk) : It :=
  ⟨fun i H => ∃ (xs ys : List V) (x y : V), a.seq K H xs ∧ b.seq K H ys ∧ xs[i]? = some x ∧ ys[i]? = some y,
    fun i H v H' => ∃ T x y, v = .ref T ∧ H T = none ∧ H' = upd H T (.tup [x, y]) ∧ (∀ xs, a.seq K H xs → xs[i]? = some x) ∧ ∀ ys, b.seq K H ys → ys[i]? = some y,
    fun i H => ∃ xs ys : List V, a.seq K H xs ∧ b.seq K H ys ∧ min xs.length ys.length = i⟩
theorem turn_zipU {P : Program} {w : World} {K : PySem.W.Frag} {elts : List Expr} {kk : Nat} {tpos : Pos} {a b : Sk} {z TI TO i1 i2 : Addr} (S : ZipSep2 z TI TO i1 i2 (i1 :: a.adr) (i2 :: b.adr)) (n1 : i1 ∉ a.adr) (n2 : i2 ∉ b.adr) :
    Turn P w K (.Tuple elts kk tpos) (ItzU K a b) [z, TI, TO, i1, i2] z (fun i h => IsZip h z TI TO .none ∧ IsTupOf2 h TI (.ref i1) (.ref i2) ∧ (∃ x y, IsTupOf2 h TO x y) ∧ a.at' i1 i h ∧ b.at' i2 i h) where
  mem := by simp
  obj := fun i h st c hc => by
    obtain ⟨hz, hTI, ⟨x, y, hTO⟩, h1, h2⟩ := st
    have e' : c = z ∨ c = TI ∨ c = TO ∨ c = i1 ∨ c = i2 := by simpa using hc
    rcases e' with q | q | q | q | q
    · rw [q]; exact ⟨_, hz, fun v q => nomatch q⟩
    · rw [q]; exact ⟨_, hTI, fun v q => nomatch q⟩
    · rw [q]; exact ⟨_, hTO, fun v q => nomatch q⟩
    · rw [q]; exact Sk.at_obj h1
    · rw [q]; exact Sk.at_obj h2
  keep := fun i h h' st k => by
    obtain ⟨hz, hTI, ⟨x, y, hTO⟩, h1, h2⟩ := st
    exact ⟨k z (by simp) _ hz, k TI (by simp) _ hTI, ⟨x, y, k TO (by simp) _ hTO⟩, Sk.at_keep h1 fun o q => k i1 (by simp) o q, Sk.at_keep h2 fun o q => k i2 (by simp) o q⟩
  item := by
    intro X hP hw hK hc i pins s σ H E I hf st hg
    subst hP hw hK
    obtain ⟨hz, hTI, ⟨x0, y0, hTO⟩, h1, h2⟩ := st
    obtain ⟨xs, ys, x, y, hqx, hqy, hx, hy⟩ := hg
    obtain ⟨m1, P1, St1, D1, hn1, hst1, hat1, hP1⟩ := Sk.draws (I.ok.hd hc) I hqx n1 i h1
    obtain ⟨m2, P2, St2, D2, hn2, hst2, hat2, hP2⟩ := Sk.draws (I.ok.hd hc) I hqy n2 i h2
    have hzl : z < s.heap.objs.size := Heap.lt_size hz
    refine wpAny_pyNext_zipD2_item S D1 D2 hz hTI hTO hst1 hst2 (by rw [hn1]; exact (List.getElem?_eq_some_iff.mp hx).1) (by rw [hn2]; exact (List.getElem?_eq_some_iff.mp hy).1) fun u u2 h' tk p1 p2 z' TO' h1' h2' hT hsz hk => ?_
    obtain ⟨w1, hw1, ru⟩ := hP1 _ _ p1
    obtain ⟨w2, hw2, ru2⟩ := hP2 _ _ p2
    rw [hx] at hw1
    rw [hy] at hw2
    cases hw1
    cases hw2
    refine ⟨_, rfl, wpAny_letOwnedTupleGo_zip (s := { s with heap := h', toks := tk }) z' fun h'' z'' sb => ?_⟩
    have hT2 : h''.get? s.heap.objs.size = some { cls := .type "tuple", data := .seq #[u, u2] } := (sb.2 _ (Nat.ne_of_gt hzl)).trans hT
    have new : ObjOk X.prog X.w (upd H s.heap.objs.size (.tup [x, y])) h'' s.heap.objs.size (.tup [x, y]) :=
      ⟨by show 2 ≤ sizeLine; decide, [u, u2], .cons ru (.cons ru2 .nil), ⟨_, hT2, rfl, _, rfl⟩⟩
    have I1 : Inv X pins σ (upd H s.heap.objs.size (.tup [x, y])) { s with heap := h'', toks := tk } :=
      I.turnedNew (ch := [z, TI, TO, i1, i2]) (fun c o hb q => (sb.2 c (fun q' => hb (by simp [q']))).trans (hk c o (fun q' => hb (by simp [q'])) (fun q' => hb (by simp [q'])) (fun q' => hb (by simp [q'])) (fun q' => hb (by simp [q'])) q)) hf (Nat.le_refl _) new
    refine ⟨.ref s.heap.objs.size, _, I1, rfl, ⟨_, x, y, rfl, I.hok.fresh (Nat.le_refl _), rfl, fun l hl => by rw [Sk.inj I hl hqx]; exact hx, fun l hl => by rw [Sk.inj I hl hqy]; exact hy⟩, ⟨z'', ?_, ⟨u, u2, ?_⟩, ?_, ?_⟩, fun c hcm => ?_⟩
    · exact (sb.2 _ S.TIz).trans (hk _ _ S.TIz S.TITO S.TIi1 S.TIi2 hTI)
    · exact (sb.2 _ S.TOz).trans TO'
    · exact Sk.at_keep (hat1 _ _ h1') fun o q => (sb.2 _ (Ne.symm S.zi1)).trans q
    · exact Sk.at_keep (hat2 _ _ h2') fun o q => (sb.2 _ (Ne.symm S.zi2)).trans q
    · have hlt : c < s.heap.objs.size := by
        have e' : c = z ∨ c = TI ∨ c = TO ∨ c = i1 ∨ c = i2 := by simpa using hcm
        rcases e' with q | q | q | q | q
        · rw [q]; exact hzl
        · rw [q]; exact Heap.lt_size hTI
        · rw [q]; exact Heap.lt_size hTO
        · rw [q]; obtain ⟨_, e1, _⟩ := Sk.at_obj h1; exact Heap.lt_size e1
        · rw [q]; obtain ⟨_, e2, _⟩ := Sk.at_obj h2; exact Heap.lt_size e2
      rw [upd_ne (Nat.ne_of_lt hlt)]
      exact (hf c hcm).1
  done := by
    intro X hP hw hK hc i pins s σ H E I hf st hg
    subst hP hw hK
    obtain ⟨hz, hTI, ⟨x0, y0, hTO⟩, h1, h2⟩ := st
    obtain ⟨xs, ys, hqx, hqy, hend⟩ := hg
    obtain ⟨m1, P1, St1, D1, hn1, hst1, hat1, hP1⟩ := Sk.draws (I.ok.hd hc) I hqx n1 i h1
    obtain ⟨m2, P2, St2, D2, hn2, hst2, hat2, hP2⟩ := Sk.draws (I.ok.hd hc) I hqy n2 i h2
    exact wpAny_pyNext_zipD2_end S D1 D2 hz hTI hTO hst1 hst2 (by omega) (by omega) (by omega) fun h' tk hk => ⟨rfl, I.turnedL (ch := [z, TI, TO, i1, i2]) (fun c o hb q =>
      hk c o (fun q' => hb (by simp [q'])) (fun q' => hb (by simp [q'])) (fun q' => hb (by simp [q'])) (fun q' => hb (by simp [q'])) q) hf⟩
  self := fun A i s Q E st h => wpAny_pyIter_zip st.1 h
def iZipU (K : PySem.W.Frag) (ta : TA) : TI := fun σ H R => ta σ H fun vs H1 => ∃ a b xs ys, vs = [Sk.v a, Sk.v b] ∧ a.seq K H1 xs ∧ b.seq K H1 ys ∧ R (ItzU K a b) H1
theorem pi_zipU {X : Cx} {e e2 : Expr} {ta : TA} {p pos tpos : Pos} {elts : List Expr} {kk : Nat} (hg : Gl X "zip") (hm : X.mg "zip" = none) (ha : PA X [e, e2] ta)
    (hs : starEach [e, e2] X.env = (false, eval e X.env) :: starEach [e2] X.env := by rfl) (hpl : (backTo pos (starEach [e2] X.env)).any (·.1) = false := by rfl) :
    PI X (.Tuple elts kk tpos) (.Call (.Name "zip" p) [e, e2] [] pos) (iZipU X.K ta) := by
  refine ⟨fun pins s σ H R I h => ?_⟩
  refine Call_ (ld_blt I hg hm PyProof.Rows.boot_zip (PyProof.Rows.callWith_type1 (thn (ha.run pos pins s σ H _ I h) fun us s1 ⟨vs, H1, I1, r1, q1⟩ => ?_) hs hpl))
  obtain ⟨a, b, xs, ys, ex, hqx, hqy, q⟩ := q1
  subst ex
  cases r1 with
  | cons r rr =>
    cases rr with
    | cons r' rr =>
      cases rr
      obtain ⟨tk, Hh, B, hB, hlt⟩ := Sk.begins I1 hqx r
      obtain ⟨tk', Hh', B', hB', hlt'⟩ := Sk.begins I1 hqy r'
      refine zip_begins2 B B' hB hB' fun h' hz hTI hTO h1 h2 hsz hk => wpAny_pyIter_zip hz ?_
      have I2 : Inv X pins σ H1 { s1 with heap := h' } := I1.kept (t' := s1.toks) hk
      generalize hn : s1.heap.objs.size = n at hz hTI hTO h1 h2 hlt hlt' ⊢
      have ge : ∀ (k : Nat) (l : List Addr), (∀ c ∈ l, c < n) → n + k ∉ l := fun k l hl z => ad_lt (hl _ z)
      have gg : ∀ (k m : Nat) (l : List Addr), k ≠ m → (∀ c ∈ l, c < n) → n + k ∉ (n + m) :: l := fun k m l hm hl z => by
        rcases List.mem_cons.mp z with z | z
        · exact ad_ne hm z
        · exact ge k l hl z
      have S : ZipSep2 (n + 4) (n + 2) (n + 3) n (n + 1) (n :: a.adr) ((n + 1) :: b.adr) :=
        { TIz := ad_ne (by decide), TOz := ad_ne (by decide), TITO := ad_ne (by decide), TIi1 := ad_ne (m := 0) (by decide), mem1 := List.mem_cons_self, zf1 := gg 4 0 _ (by decide) hlt, Tf1 := gg 3 0 _ (by decide) hlt, TIi2 := ad_ne (by decide), mem2 := List.mem_cons_self, zf2 := gg 4 1 _ (by decide) hlt', Tf2 := gg 3 1 _ (by decide) hlt', sep1_2 := gg 0 1 _ (by decide) hlt', sep2_1 := gg 1 0 _ (by decide) hlt }
      refine ⟨n + 4, [n + 4, n + 2, n + 3, n, n + 1], _, _, H1, rfl, I2, turn_zipU S (ge 0 _ hlt) (ge 1 _ hlt'), ⟨hz, hTI, ⟨_, _, hTO⟩, Sk.at_new h1, Sk.at_new h2⟩, fun c hcm => ?_, q⟩
      have e' : c = n + 4 ∨ c = n + 2 ∨ c = n + 3 ∨ c = n ∨ c = n + 1 := by simpa using hcm
      have hle : s1.heap.objs.size ≤ c := by
        rw [hn]
        exact ad_le e'
      exact I1.fpOk hle (I1.hok.fresh hle)

/-! ### as data -/
def enumD : Nat → List D → List D
  | _, [] => []
  | i, d :: ds => .tuple [.int i, d] :: enumD (i + 1) ds
def zipD : List D → List D → List D
  | x :: xs, y :: ys => .tuple [x, y] :: zipD xs ys
  | _, _ => []
theorem enumD_get : ∀ (ds : List D) (n i : Nat) (d : D), (enumD n ds)[i]? = some d → ∃ c, ds[i]? = some c ∧ d = .tuple [.int ((n + i : Nat) : Int), c]
  | [], _, _, _, e => by simp [enumD] at e
  | c :: ds, n, 0, d, e => by
    simp [enumD] at e
    exact ⟨c, rfl, by simpa using e.symm⟩
  | c :: ds, n, i + 1, d, e => by
    obtain ⟨c', h1, h2⟩ := enumD_get ds (n + 1) i d (by simpa [enumD] using e)
    exact ⟨c', by simpa using h1, by rw [h2, show n + 1 + i = n + (i + 1) by omega]⟩
theorem enumD_len : ∀ (ds : List D) (n : Nat), (enumD n ds).length = ds.length
  | [], _ => rfl
  | _ :: ds, n => congrArg (· + 1) (enumD_len ds (n + 1))
theorem zipD_get : ∀ (xs ys : List D) (i : Nat) (d : D), (zipD xs ys)[i]? = some d → ∃ x y, xs[i]? = some x ∧ ys[i]? = some y ∧ d = .tuple [x, y]
  | [], _, _, _, e => by simp [zipD] at e
  | _ :: _, [], _, _, e => by simp [zipD] at e
  | x :: xs, y :: ys, 0, d, e => by
    simp [zipD] at e
    exact ⟨x, y, rfl, rfl, e.symm⟩
  | x :: xs, y :: ys, i + 1, d, e => by
    obtain ⟨a, b, h1, h2, h3⟩ := zipD_get xs ys i d (by simpa [zipD] using e)
    exact ⟨a, b, by simpa using h1, by simpa using h2, h3⟩
theorem zipD_len : ∀ (xs ys : List D), (zipD xs ys).length = min xs.length ys.length
  | [], _ => by simp [zipD]
  | _ :: _, [] => by simp [zipD]
  | _ :: xs, _ :: ys => by simp [zipD, zipD_len xs ys] <;> omega
section
variable {K : PySem.W.Frag}
/-- a value that is walked -/
theorem Rp.sk {F : Hp} {v : V} {d : D} {ds : List D} (h : Rp K F v d) (e : seqD d = some ds) : ∃ k xs, v = Sk.v k ∧ (∀ F' H', Same F F' → Same F' H' → k.seq K H' xs) ∧ RpAll K F xs ds := by
  cases d with
  | list l =>
    cases e
    cases h with
    | @lst a xs _ a1 a2 => exact ⟨.l a, xs, rfl, fun F' H' s s' => SqL.of (s' _ _ (s _ _ a1)), a2⟩
  | tuple l =>
    cases e
    cases h with
    | @tup a xs _ a1 a2 => exact ⟨.t a, xs, rfl, fun F' H' s s' => Same.sqt (s.trans s') a1, a2⟩
  | str z =>
    cases e
    cases h
    refine ⟨.s z, _, rfl, fun F' H' s s' => rfl, ?_⟩
    generalize z.cps.toList = cs
    induction cs with
    | nil => exact .nil
    | cons c cs ih => exact .cons (.str _) ih
  | _ => cases e
theorem itd_enum {F : Hp} {k : Sk} {xs : List V} {ds : List D} (h : ∀ F' H', Same F F' → Same F' H' → k.seq K H' xs) (r : RpAll K F xs ds) : ItD K F (IteU K k) (enumD 0 ds) := by
  refine ⟨fun F' H' i d s s' e => ?_, fun F' H' i s s' e => ?_⟩
  · obtain ⟨c, h1, h2⟩ := enumD_get ds 0 i d e
    subst h2
    rw [Nat.zero_add]
    obtain ⟨v, g1, g2⟩ := r.get h1
    refine ⟨⟨xs, v, h F' H' s s', g1⟩, fun x H2 ⟨Tt, w, e1, e2, e3, e4⟩ => ?_⟩
    subst e1 e3
    have e5 := e4 xs (h F' H' s s')
    rw [g1] at e5
    cases e5
    exact ⟨_, Ext.new s' e2, .tup (SqT.of upd_same) (.cons (.int _) (.cons (Rp.mono (s.trans (same_upd (s'.free e2))) _ _ g2) .nil))⟩
  · exact ⟨xs, h F' H' s s', by rw [r.length, ← enumD_len ds 0]; exact e⟩
theorem itd_zip {F : Hp} {k k' : Sk} {xs ys : List V} {ds es : List D} (h : ∀ F' H', Same F F' → Same F' H' → k.seq K H' xs) (h' : ∀ F' H', Same F F' → Same F' H' → k'.seq K H' ys) (r : RpAll K F xs ds) (r' : RpAll K F ys es) : ItD K F (ItzU K k k') (zipD ds es) := by
  refine ⟨fun F' H' i d s s' e => ?_, fun F' H' i s s' e => ?_⟩
  · obtain ⟨c, c', h1, h1', h2⟩ := zipD_get ds es i d e
    subst h2
    obtain ⟨v, g1, g2⟩ := r.get h1
    obtain ⟨v', g1', g2'⟩ := r'.get h1'
    refine ⟨⟨xs, ys, v, v', h F' H' s s', h' F' H' s s', g1, g1'⟩, fun x H2 ⟨Tt, w, w', e1, e2, e3, e4, e4'⟩ => ?_⟩
    subst e1 e3
    have e5 := e4 xs (h F' H' s s')
    have e6 := e4' ys (h' F' H' s s')
    rw [g1] at e5
    rw [g1'] at e6
    cases e5
    cases e6
    have sm := s.trans (same_upd (o := .tup [v, v']) (s'.free e2))
    exact ⟨_, Ext.new s' e2, .tup (SqT.of upd_same) (.cons (Rp.mono sm _ _ g2) (.cons (Rp.mono sm _ _ g2') .nil))⟩
  · exact ⟨xs, ys, h F' H' s s', h' F' H' s s', by rw [r.length, r'.length, ← zipD_len ds es]; exact e⟩
end
def iEnumF (f : FE) : FA := fun env => (f env).bind fun d => Rs.ofO ((seqD d).map (enumD 0))
def iZipF (f f' : FE) : FA := fun env => (f env).bind fun d => (f' env).bind fun e => Rs.ofO ((seqD d).bind fun xs => (seqD e).map (zipD xs))
section
variable {X : Cx} {C : Ct} {f f' : FE} {e e2 : Expr} {p pos tpos : Pos} {elts : List Expr} {kk : Nat}
theorem vi_enum (h : VE X C e f) (hg : Gl X "enumerate") (hm : X.mg "enumerate" = none) (hs : starEach [e] X.env = [(false, eval e X.env)] := by rfl) : VI X C (.Tuple elts kk tpos) (.Call (.Name "enumerate" p) [e] [] pos) (iEnumF f) :=
  PI.of (pi_enumU hg hm (pa_cons h pa_nil hs) hs) fun σ H R ⟨F, env, re, q⟩ => ⟨F, env, re, Sat.bind RI.mono q fun d v F1 H1 x1 r1 q1 => by
    obtain ⟨c, hc, q2⟩ := Sat.ofO q1
    cases hd : seqD d with
    | none => rw [hd] at hc; cases hc
    | some ds =>
      rw [hd] at hc
      cases hc
      obtain ⟨k, xs, rfl, h1, h2⟩ := r1.sk hd
      have s1 := (re.go x1).same
      exact ⟨k, xs, rfl, h1 F1 H1 (Same.refl _) s1, q2 _ H1 F1 (Ext.refl s1) (itd_enum h1 h2)⟩⟩
theorem vi_zip (h : VE X C e f) (h' : VE X C e2 f') (hg : Gl X "zip") (hm : X.mg "zip" = none) (hs : starEach [e, e2] X.env = (false, eval e X.env) :: starEach [e2] X.env := by rfl) (hs2 : starEach [e2] X.env = (false, eval e2 X.env) :: starEach [] X.env := by rfl)
    (hpl : (backTo pos (starEach [e2] X.env)).any (·.1) = false := by rfl) : VI X C (.Tuple elts kk tpos) (.Call (.Name "zip" p) [e, e2] [] pos) (iZipF f f') :=
  PI.of (pi_zipU hg hm (pa_cons h (pa_cons h' pa_nil hs2) hs) hs hpl) fun σ H R ⟨F, env, re, q⟩ => ⟨F, env, re, Sat.bind RI.mono q fun d v F1 H1 x1 r1 q1 => ⟨F1, env, re.go x1, Sat.bind RI.mono q1 fun d' v' F2 H2 x2 r2 q2 => by
    obtain ⟨c, hc, q3⟩ := Sat.ofO q2
    cases hd : seqD d with
    | none => rw [hd] at hc; cases hc
    | some ds =>
      rw [hd] at hc
      cases hd' : seqD d' with
      | none => rw [hd'] at hc; cases hc
      | some es =>
        rw [hd'] at hc
        cases hc
        obtain ⟨k, xs, rfl, h1, h2⟩ := (Rp.mono x2.f _ _ r1).sk hd
        obtain ⟨k', ys, rfl, h1', h2'⟩ := r2.sk hd'
        have s2 := ((re.go x1).go x2).same
        exact ⟨k, k', xs, ys, rfl, h1 F2 H2 (Same.refl _) s2, h1' F2 H2 (Same.refl _) s2, q3 _ H2 F2 (Ext.refl s2) (itd_zip h1 h1' h2 h2')⟩⟩⟩
end
end PD

/-! Part 8: comprehensions of two clauses, name = [..], parallel assignment -/
namespace PD
open PySem PySem.Spec PyProof.Rows L2

/-! ### the heap without one cell -/
def del (H : Hp) (D : Addr) : Hp := fun a => if a = D then none else H a
section
variable {K : PySem.W.Frag} {C : Ct} {F H F' H' : Hp} {D : Addr} {σ : L2.St} {env : List Sl}
theorem del_ne {a : Addr} (h : a ≠ D) : del H D a = H a := if_neg h
theorem del_self : del H D D = none := if_pos rfl
theorem del_sub : Same (del H D) H := fun a o e => by
  by_cases q : a = D
  · rw [q, del_self] at e; cases e
  · rw [del_ne q] at e; exact e
theorem del_upd {o : HO} : del (upd H D o) D = del H D := by
  funext a
  by_cases q : a = D
  · rw [q, del_self, del_self]
  · rw [del_ne q, del_ne q, upd_ne q]
theorem del_none (h : H D = none) : del H D = H := by
  funext a
  by_cases q : a = D
  · rw [q, del_self, h]
  · exact del_ne q
theorem same_del (s : Same F H) (h : F D = none) : Same F (del H D) := fun a o e => by
  rw [del_ne (ne_of_none e h)]; exact s _ _ e
theorem Ext.del {o : HO} (e : Ext F H F' H') (hF : F D = none) (hH : H D = some o) : F' D = none ∧ H' D = some o ∧ Ext F (del H D) F' (del H' D) := by
  have h1 : F' D = none := by
    cases q : F' D with
    | none => rfl
    | some u =>
      rcases e.n _ _ q with z | z
      · rw [hF] at z; cases z
      · rw [hH] at z; cases z
  refine ⟨h1, e.h _ _ hH, e.f, fun a u z => ?_, same_del e.s h1, fun a u z => ?_⟩
  · by_cases q : a = D
    · rw [q, del_self] at z; cases z
    · rw [del_ne q] at z ⊢; exact e.h _ _ z
  · by_cases q : a = D
    · exact .inr (by rw [q, del_self])
    · rw [del_ne q]; exact e.n _ _ z
theorem Ext.undel (e : Ext F H F' (PD.del H' D)) : Ext F H F' H' := ⟨e.f, e.h.trans del_sub, e.s.trans del_sub, e.n⟩
theorem REnv.undel (r : REnv K C F σ (del H D) env) : REnv K C F σ H env := by
  refine ⟨r.ext.undel, r.len, fun i s h => ?_, r.apart⟩
  have z := r.get i s h
  cases s with
  | own l => obtain ⟨a, xs, h1, h2, h3⟩ := z; exact ⟨a, xs, h1, del_sub _ _ h2, h3⟩
  | un => trivial
  | sh d => exact z
  | scr ns => exact z
end

theorem Same.sql {K : PySem.W.Frag} {H H' : Hp} {a : Addr} {xs : List V} (e : Same H H') (h : SqL K H a xs) : SqL K H' a xs := by
  rcases h with (h | ⟨o, h⟩) | h
  · exact .inl (.inl (e _ _ h))
  · exact .inl (.inr ⟨o, e _ _ h⟩)
  · exact .inr h
theorem Tgt.g_up {K : PySem.W.Frag} {t : Tgt} {v : V} {σ : L2.St} {H H' : Hp} {Q Q' : L2.St → Hp → Prop} (s : Same H H') (h : t.g K v σ H Q) (hq : ∀ σ', Q σ' H → Q' σ' H') : t.g K v σ H' Q' := by
  cases t with
  | nm i => exact hq _ h
  | tp is => obtain ⟨a, xs, e1, e2, e3, e4⟩ := h; exact ⟨a, xs, e1, e2.imp (Same.sqt s) (Same.sql s), e3, hq _ e4⟩
  | np i is => obtain ⟨a, x, b, xs, e1, e2, e3, e4, e5⟩ := h; exact ⟨a, x, b, xs, e1, Same.sqt s e2, Same.sqt s e3, e4, hq _ e5⟩
theorem Tgt.goD {K : PySem.W.Frag} {C : Ct} {F H : Hp} {Dd : Addr} {σ : L2.St} {env : List Sl} {t : Tgt} {d : D} {v : V} {e : List Sl} {Q : L2.St → Hp → Prop} (re : REnv K C F σ (del H Dd) env) (r : Rp K F v d) (h : t.put d env = some e)
    (q : ∀ vs : List V, REnv K C F (setV t.slots vs σ) (del H Dd) e → Q (setV t.slots vs σ) H) : t.g K v σ H Q := by
  refine Tgt.g_up (H := del H Dd) (Q := fun σ' H' => H' = del H Dd ∧ Q σ' H) del_sub ?_ fun σ' z => z.2
  exact Tgt.go re r h fun vs re' => ⟨rfl, q vs re'⟩

/-! ### two clauses -/
def two (gi1 : FA) (t1 : Tgt) (tt1 : FB) (f : FE) (vs1 : List Nat) : List Sl → Rs (List D) := fun e => (gi1 e).bind fun ds1 => lcGo t1 tt1 (one f) (wipeE e vs1) ds1
def fLc2 (gi : FA) (t : Tgt) (tt : FB) (gi1 : FA) (t1 : Tgt) (tt1 : FB) (f : FE) (vs vs1 : List Nat) : FE := fun env => (gi env).bind fun ds => (lcGo t tt (two gi1 t1 tt1 f vs1) (wipeE env vs) ds).quiet.bind fun out => if out.length ≤ LINE then .ok (.list out) else .no
theorem wipe_wipe (vs : List Nat) (σ : L2.St) : L2.wipe (L2.wipe σ vs) vs = L2.wipe σ vs := by
  refine List.ext_getElem? fun j => ?_
  by_cases hj : j ∈ vs
  · have w : ∀ (σ : L2.St) (us : List Nat), j ∈ us → (L2.wipe σ us)[j]? = if j < σ.length then some none else none := by
      intro σ us
      induction us with
      | nil => intro h; cases h
      | cons u us ih =>
        intro h
        show ((L2.wipe σ us).set u none)[j]? = _
        by_cases q : u = j
        · subst q
          by_cases hlen : u < σ.length
          · rw [List.getElem?_set_self (by rw [L2.wipe_length]; exact hlen), if_pos hlen]
          · rw [List.getElem?_eq_none (by rw [List.length_set, L2.wipe_length]; omega), if_neg hlen]
        · rw [List.getElem?_set_ne q]
          exact ih (by
            rcases List.mem_cons.mp h with e | e
            · exact absurd e.symm q
            · exact e)
    rw [w _ vs hj, w _ vs hj, L2.wipe_length]
  · rw [wipe_out hj, wipe_out hj]
/-- the list that a comprehension fills: what it holds, what is to come -/
structure Acc (K : PySem.W.Frag) (Dd : Addr) (out : List D) (F H : Hp) (rest : List D) : Prop where
  ex : ∃ acc xs, H Dd = some (.lst xs) ∧ F Dd = none ∧ RpAll K F xs acc ∧ acc ++ rest = out
section
variable {K : PySem.W.Frag} {mg : Str → Option Value} {C : Ct} {F H F' H' : Hp} {Dd : Addr} {out rest : List D}
theorem Acc.F0 (a : Acc K Dd out F H rest) : F Dd = none := let ⟨_, _, _, h, _⟩ := a.ex; h
theorem Acc.go (a : Acc K Dd out F H rest) (e : Ext F H F' H') : Acc K Dd out F' H' rest ∧ Ext F (del H Dd) F' (del H' Dd) := by
  obtain ⟨acc, xs, h1, h2, h3, h4⟩ := a.ex
  obtain ⟨g1, g2, g3⟩ := e.del h2 h1
  exact ⟨⟨acc, xs, g2, g1, RpAll.mono e.f _ _ h3, h4⟩, g3⟩
theorem Acc.push {y : D} {yv : V} (a : Acc K Dd out F H (y :: rest)) (r : Rp K F yv y) (hl : out.length ≤ LINE) : ∃ acc, H Dd = some (.lst acc) ∧ acc.length < sizeLine ∧ Acc K Dd out F (upd H Dd (.lst (acc ++ [yv]))) rest := by
  obtain ⟨acc, xs, h1, h2, h3, h4⟩ := a.ex
  refine ⟨xs, h1, ?_, acc ++ [y], xs ++ [yv], upd_same, h2, h3.append (.cons r .nil), by rw [List.append_assoc]; exact h4⟩
  have z := congrArg List.length h4
  rw [List.length_append, List.length_cons] at z
  rw [h3.length, line_eq]
  omega
theorem t_lc2 {gi gi1 : FA} {t t1 : Tgt} {tt tt1 : FB} {f : FE} {vs vs1 : List Nat} (hv : ∀ i ∈ t.slots, i ∈ vs) (hv1 : ∀ i ∈ t1.slots, i ∈ vs1) {σ : L2.St} {Q : VK} :
    TN K mg C (fLc2 gi t tt gi1 t1 tt1 f vs vs1) σ H Q → tLc2 (TIt K mg C gi) (t.g K) (TB K mg C.nox tt) (TIt K mg C.nox gi1) (t1.g K) (TB K mg C.nox tt1) (T K mg C.nox f) vs vs1 σ H Q := fun ⟨F, env, re, q⟩ =>
  ⟨F, env, re, Sat.bind (R := RI K) RN.mono q fun ds J F1 H1 x1 r1 q1 Dd hD => by
    have re1 := re.go x1
    cases hout : lcGo t tt (two gi1 t1 tt1 f vs1) (wipeE env vs) ds with
    | er c n => rw [hout] at q1; exact q1.elim
    | no => rw [hout] at q1; exact q1.elim
    | ok out =>
      rw [hout] at q1
      have q1 : Sat mg C (RN K) (if out.length ≤ LINE then .ok (.list out) else .no) σ F1 H1 Q := q1
      by_cases hl : out.length ≤ LINE
      · rw [if_pos hl] at q1
        have fD : F1 Dd = none := re1.same.free hD
        have cD : C.H Dd = none := re1.ext.h.free hD
        refine ⟨fun i m H => m + i = ds.length ∧ ∃ F r, Ext F1 H1 F (del H Dd) ∧ lcGo t tt (two gi1 t1 tt1 f vs1) (wipeE env vs) (ds.drop i) = .ok r ∧ Acc K Dd out F H r,
          ⟨ds.length, by omega, F1, out, by rw [del_upd, del_none hD]; exact Ext.refl re1.same, hout, ⟨[], [], upd_same, fD, .nil, rfl⟩⟩, ?_⟩
        rintro i m H2 ⟨hm, F2, r, x2, hr, ra⟩
        have re2 := (re1.go x2).undel
        by_cases hlt : i < ds.length
        · have hd : ds[i]? = some ds[i] := List.getElem?_eq_getElem hlt
          obtain ⟨g1, g2⟩ := r1.go F2 H2 i ds[i] x2.f re2.same hd
          refine .inr ⟨g1, fun H' => ∃ F r, Ext F1 H1 F (del H' Dd) ∧ lcGo t tt (two gi1 t1 tt1 f vs1) (wipeE env vs) (ds.drop (i + 1)) = .ok r ∧ Acc K Dd out F H' r, fun H' n => ⟨m - 1, by omega, by omega, n⟩, fun x H3 y => ?_⟩
          obtain ⟨F3, x3, r3⟩ := g2 x H3 y
          obtain ⟨ra3, x3d⟩ := ra.go x3
          have re3d := ((re1.go x2).go x3d).wipe vs
          rw [List.drop_eq_getElem_cons hlt] at hr
          cases hp : t.put ds[i] (wipeE env vs) with
          | none => unfold lcGo at hr; rw [hp] at hr; cases hr
          | some e =>
            obtain ⟨b, hb, hr⟩ := lcGo_cons_yes hp hr
            refine Tgt.goD re3d r3 hp fun ws re4d => ⟨(wipe_setV vs _ _ _ hv).trans (wipe_wipe vs σ), F3, e, re4d.nox.undel, ?_⟩
            rw [hb]
            refine fun b' H4 F4 x4 eb => ?_
            have eb : b' = b := eb
            subst eb
            dsimp only
            obtain ⟨ra4, x4d⟩ := ra3.go x4
            have re5d := re4d.nox.go x4d
            have x24 := (x2.trans x3d).trans x4d
            cases b' with
            | false =>
              rw [if_neg Bool.false_ne_true] at hr ⊢
              exact ⟨F4, r, x24, hr, ra4⟩
            | true =>
              rw [if_pos rfl] at hr ⊢
              obtain ⟨ys, r', hk, hr', eo⟩ := hr
              subst eo
              unfold two at hk
              cases hg1 : gi1 e with
              | er c n => rw [hg1] at hk; cases hk
              | no => rw [hg1] at hk; cases hk
              | ok ds1 =>
                rw [hg1] at hk
                have hk : lcGo t1 tt1 (one f) (wipeE e vs1) ds1 = .ok ys := hk
                refine ⟨F4, e, re5d.undel, ?_⟩
                rw [hg1]
                refine fun J1 H5 F5 x5 r5 => ?_
                obtain ⟨ra5, x5d⟩ := ra4.go x5
                have re6d := re5d.go x5d
                have x25 := x24.trans x5d
                refine ⟨fun j k H => k + j = ds1.length ∧ ∃ F r, Ext F5 (del H5 Dd) F (del H Dd) ∧ lcGo t1 tt1 (one f) (wipeE e vs1) (ds1.drop j) = .ok r ∧ Acc K Dd out F H (r ++ r'),
                  ⟨ds1.length, by omega, F5, ys, Ext.refl (same_del (re6d.undel).same ra5.F0), hk, ra5⟩, ?_⟩
                rintro j k H6 ⟨hk2, F6, rr, x6, hrr, ra6⟩
                have re7 := (re6d.go x6).undel
                by_cases hlt1 : j < ds1.length
                · have hd1 : ds1[j]? = some ds1[j] := List.getElem?_eq_getElem hlt1
                  obtain ⟨g3, g4⟩ := r5.go F6 H6 j ds1[j] x6.f re7.same hd1
                  refine .inr ⟨g3, fun H' => ∃ F r, Ext F5 (del H5 Dd) F (del H' Dd) ∧ lcGo t1 tt1 (one f) (wipeE e vs1) (ds1.drop (j + 1)) = .ok r ∧ Acc K Dd out F H' (r ++ r'), fun H' n => ⟨k - 1, by omega, by omega, n⟩, fun x H7 y => ?_⟩
                  obtain ⟨F7, x7, r7⟩ := g4 x H7 y
                  obtain ⟨ra7, x7d⟩ := ra6.go x7
                  have re8d := ((re6d.go x6).go x7d).wipe vs1
                  rw [List.drop_eq_getElem_cons hlt1] at hrr
                  cases hp1 : t1.put ds1[j] (wipeE e vs1) with
                  | none => unfold lcGo at hrr; rw [hp1] at hrr; cases hrr
                  | some e1 =>
                    obtain ⟨b1, hb1, hrr⟩ := lcGo_cons_yes hp1 hrr
                    refine Tgt.goD re8d r7 hp1 fun ws1 re9d => ⟨(wipe_setV vs1 _ _ _ hv1).trans (wipe_wipe vs1 _), F7, e1, re9d.nox.undel, ?_⟩
                    rw [hb1]
                    refine fun b2 H8 F8 x8 eb => ?_
                    have eb : b2 = b1 := eb
                    subst eb
                    dsimp only
                    obtain ⟨ra8, x8d⟩ := ra7.go x8
                    have re10d := re9d.nox.go x8d
                    have x68 := (x6.trans x7d).trans x8d
                    cases b2 with
                    | false =>
                      rw [if_neg Bool.false_ne_true] at hrr ⊢
                      exact ⟨F8, rr, x68, hrr, ra8⟩
                    | true =>
                      rw [if_pos rfl] at hrr ⊢
                      obtain ⟨ys1, rr', hk1, hrr', eo1⟩ := hrr
                      subst eo1
                      unfold one at hk1
                      cases hf : f e1 with
                      | ok yd =>
                        rw [hf] at hk1
                        have hk1 : Rs.ok [yd] = .ok ys1 := hk1
                        cases hk1
                        refine ⟨F8, e1, re10d.undel, ?_⟩
                        rw [hf]
                        refine fun yv H9 F9 x9 ry => ?_
                        obtain ⟨ra9, x9d⟩ := ra8.go x9
                        obtain ⟨ac, c1, c2, c3⟩ := Acc.push (rest := rr' ++ r') ra9 ry hl
                        exact ⟨ac, c1, c2, F9, rr', by rw [del_upd]; exact x68.trans x9d, hrr', c3⟩
                      | er c n => rw [hf] at hk1; cases hk1
                      | no => rw [hf] at hk1; cases hk1
                · have e0 : ds1.drop j = [] := List.drop_eq_nil_of_le (by omega)
                  rw [e0] at hrr
                  cases hrr
                  exact .inl ⟨r5.stop F6 H6 j x6.f re7.same (by omega), F6, r', x25.trans x6, hr', ra6⟩
        · have e : ds.drop i = [] := List.drop_eq_nil_of_le (by omega)
          rw [e] at hr
          cases hr
          obtain ⟨acc, xs, c1, c2, c3, c4⟩ := ra.ex
          rw [List.append_nil] at c4
          subst c4
          exact .inl ⟨r1.stop F2 H2 i x2.f re2.same (by omega), q1 _ H2 F2 x2.undel ⟨Dd, xs, acc, rfl, rfl, c1, c2, hD, c3⟩⟩
      · rw [if_neg hl] at q1; exact q1.elim⟩
end

section
variable {X : Cx} {C : Ct}
theorem vn_lc2 {elt tg iter tg1 iter1 : Expr} {ifs ifs1 : List Expr} {scope : Scope} {own : List (Str × Nat)} {pos : Pos} {gi gi1 : FA} {t t1 : Tgt} {tt tt1 : FB} {f : FE} (am : Am X) (hi : VI X C tg iter gi) (ok : BlkOk X.N X.env.scope scope own)
    (hg : ∀ (s : Shared) (H : Hp) (Cc : Addr) (cl : List (Str × Addr)) (fp : List Addr), PG (X.blk s H scope (compEnvC scope cl Cc X.env) fp) tg (t.g X.K)) (ht : ∀ (s : Shared) (H : Hp) (Cc : Addr) (cl : List (Str × Addr)) (fp : List Addr), VT (X.blk s H scope (compEnvC scope cl Cc X.env) fp) C.nox ifs tt)
    (hi1 : ∀ (s : Shared) (H : Hp) (Cc : Addr) (cl : List (Str × Addr)) (fp : List Addr), VI (X.blk s H scope (compEnvC scope cl Cc X.env) fp) C.nox tg1 iter1 gi1)
    (hg1 : ∀ (s : Shared) (H : Hp) (Cc : Addr) (cl : List (Str × Addr)) (fp : List Addr), PG (X.blk s H scope (compEnvC scope cl Cc X.env) fp) tg1 (t1.g X.K)) (ht1 : ∀ (s : Shared) (H : Hp) (Cc : Addr) (cl : List (Str × Addr)) (fp : List Addr), VT (X.blk s H scope (compEnvC scope cl Cc X.env) fp) C.nox ifs1 tt1)
    (he : ∀ (s : Shared) (H : Hp) (Cc : Addr) (cl : List (Str × Addr)) (fp : List Addr), VE (X.blk s H scope (compEnvC scope cl Cc X.env) fp) C.nox elt f) (hv : ∀ i ∈ t.slots, i ∈ own.map (·.2)) (hv1 : ∀ i ∈ t1.slots, i ∈ own.map (·.2)) (hs : ∀ x, foldedSetIterable iter X.env x = pure x := by intro _; rfl) (hs1 : ∀ env x, foldedSetIterable iter1 env x = pure x := by intro _ _; rfl) :
    VN X C (.ListComp elt [⟨tg, iter, ifs, 0⟩, ⟨tg1, iter1, ifs1, 0⟩] scope pos) (fLc2 gi t tt gi1 t1 tt1 f (own.map (·.2)) t1.slots) := PE.of (pe_lc2 am.c am.n hi ok hv1 hg ht hi1 hg1 ht1 he hs hs1) fun σ H Q h => t_lc2 hv (fun _ h => h) h

/-! ### name = [..] -/
/-- a new list to a name: shared -/
def sSetF (i : Nat) (f : FE) : FS := fun env => bindO (f env) fun d => match d with
  | .list l => .nx (env.set i (.sh (.list l)))
  | _ => .no
theorem t_setF {K : PySem.W.Frag} {mg : Str → Option Value} {f : FE} {i : Nat} {D : Ends} {σ : L2.St} {H : Hp} : TSt K mg C (sSetF i f) D σ H → TN K mg C f σ H (fun x H1 => gName i x σ H1 D.nx) := fun ⟨F, env, re, q⟩ =>
  ⟨F, env, re, SatS.bind (R := RN K) re q fun d v F1 H1 x1 ⟨p, xs, l, e1, e2, e3, e4, e5, e6⟩ q1 => by
    subst e1 e2
    have re1 := re.go x1
    have x2 : Ext F H (upd F1 p (.lst xs)) H1 := by
      refine ⟨x1.f.trans (same_upd e4), x1.h, fun b o z => ?_, fun b o z => ?_⟩
      · by_cases w : b = p
        · subst w; rw [upd_same] at z; rw [← z]; exact e3
        · rw [upd_ne w] at z; exact x1.s _ _ z
      · by_cases w : b = p
        · subst w; exact .inr e5
        · rw [upd_ne w] at z; exact x1.n _ _ z
    exact q1 _ H1 _ (same_upd e4) ((re.go x2).setSh (.lst (a := p) (xs := xs) upd_same (RpAll.mono (same_upd e4) _ _ e6)))⟩
theorem vs_setF (i : Nat) {x : Str} {e : Expr} {f : FE} {pos pos' : Pos} (h : VN X C e f) (hN : X.N.Nodup) (hi : X.N[i]? = some x := by rfl) (hx : Loc X.env.scope x := by first | exact Or.inl rfl | exact Or.inr rfl) (hs : swapsWith e (some (.Name x pos')) pos.line X.env = pure false := by rfl) (hf : X.fn x = true ∨ X.env.scope.names.lookup x = some .local := by first | exact .inl rfl | exact .inr rfl | assumption) :
    VS X C (.Assign [.Name x pos'] e pos) (sSetF i f) := PS.of (ps_set hN hi hx h hs hf) fun D σ H h => t_setF h
section
variable {y : Str} {py : Pos} {elt tg iter tg1 iter1 : Expr} {ifs ifs1 : List Expr} {scope : Scope} {own : List (Str × Nat)} {pos spos : Pos} {gi gi1 : FA} {t t1 : Tgt} {tt tt1 : FB} {f : FE}
theorem vs_lcN (i : Nat) (am : Am X) (hi : VI X C tg iter gi) (ok : BlkOk X.N X.env.scope scope own)
    (hg : ∀ (s : Shared) (H : Hp) (Cc : Addr) (cl : List (Str × Addr)) (fp : List Addr), PG (X.blk s H scope (compEnvC scope cl Cc X.env) fp) tg (t.g X.K)) (ht : ∀ (s : Shared) (H : Hp) (Cc : Addr) (cl : List (Str × Addr)) (fp : List Addr), VT (X.blk s H scope (compEnvC scope cl Cc X.env) fp) C.nox ifs tt)
    (he : ∀ (s : Shared) (H : Hp) (Cc : Addr) (cl : List (Str × Addr)) (fp : List Addr), VE (X.blk s H scope (compEnvC scope cl Cc X.env) fp) C.nox elt f) (hv : ∀ i ∈ t.slots, i ∈ own.map (·.2))
    (hy : X.N[i]? = some y := by rfl) (hyl : X.env.scope.names.lookup y = some .local := by rfl) (hsw : swapsWith (.ListComp elt [⟨tg, iter, ifs, 0⟩] scope pos) (some (.Name y py)) spos.line X.env = pure true := by rfl) (hs : ∀ x, foldedSetIterable iter X.env x = pure x := by intro _; rfl) :
    VS X C (.Assign [.Name y py] (.ListComp elt [⟨tg, iter, ifs, 0⟩] scope pos) spos) (sSetN i (fLc gi t tt f (own.map (·.2)))) := PS.of (ps_setLc am.c am.n hy hyl hsw hi ok hg ht he hs) fun D σ H h => t_lc hv (t_setN h)
theorem vs_lcF (i : Nat) (am : Am X) (hi : VI X C tg iter gi) (ok : BlkOk X.N X.env.scope scope own)
    (hg : ∀ (s : Shared) (H : Hp) (Cc : Addr) (cl : List (Str × Addr)) (fp : List Addr), PG (X.blk s H scope (compEnvC scope cl Cc X.env) fp) tg (t.g X.K)) (ht : ∀ (s : Shared) (H : Hp) (Cc : Addr) (cl : List (Str × Addr)) (fp : List Addr), VT (X.blk s H scope (compEnvC scope cl Cc X.env) fp) C.nox ifs tt)
    (he : ∀ (s : Shared) (H : Hp) (Cc : Addr) (cl : List (Str × Addr)) (fp : List Addr), VE (X.blk s H scope (compEnvC scope cl Cc X.env) fp) C.nox elt f) (hv : ∀ i ∈ t.slots, i ∈ own.map (·.2))
    (hy : X.N[i]? = some y := by rfl) (hyl : X.env.scope.names.lookup y = some .local := by rfl) (hsw : swapsWith (.ListComp elt [⟨tg, iter, ifs, 0⟩] scope pos) (some (.Name y py)) spos.line X.env = pure true := by rfl) (hs : ∀ x, foldedSetIterable iter X.env x = pure x := by intro _; rfl) :
    VS X C (.Assign [.Name y py] (.ListComp elt [⟨tg, iter, ifs, 0⟩] scope pos) spos) (sSetF i (fLc gi t tt f (own.map (·.2)))) := PS.of (ps_setLc am.c am.n hy hyl hsw hi ok hg ht he hs) fun D σ H h => t_lc hv (t_setF h)
theorem vs_lc2N (i : Nat) (am : Am X) (hi : VI X C tg iter gi) (ok : BlkOk X.N X.env.scope scope own)
    (hg : ∀ (s : Shared) (H : Hp) (Cc : Addr) (cl : List (Str × Addr)) (fp : List Addr), PG (X.blk s H scope (compEnvC scope cl Cc X.env) fp) tg (t.g X.K)) (ht : ∀ (s : Shared) (H : Hp) (Cc : Addr) (cl : List (Str × Addr)) (fp : List Addr), VT (X.blk s H scope (compEnvC scope cl Cc X.env) fp) C.nox ifs tt)
    (hi1 : ∀ (s : Shared) (H : Hp) (Cc : Addr) (cl : List (Str × Addr)) (fp : List Addr), VI (X.blk s H scope (compEnvC scope cl Cc X.env) fp) C.nox tg1 iter1 gi1)
    (hg1 : ∀ (s : Shared) (H : Hp) (Cc : Addr) (cl : List (Str × Addr)) (fp : List Addr), PG (X.blk s H scope (compEnvC scope cl Cc X.env) fp) tg1 (t1.g X.K)) (ht1 : ∀ (s : Shared) (H : Hp) (Cc : Addr) (cl : List (Str × Addr)) (fp : List Addr), VT (X.blk s H scope (compEnvC scope cl Cc X.env) fp) C.nox ifs1 tt1)
    (he : ∀ (s : Shared) (H : Hp) (Cc : Addr) (cl : List (Str × Addr)) (fp : List Addr), VE (X.blk s H scope (compEnvC scope cl Cc X.env) fp) C.nox elt f) (hv : ∀ i ∈ t.slots, i ∈ own.map (·.2)) (hv1 : ∀ i ∈ t1.slots, i ∈ own.map (·.2))
    (hy : X.N[i]? = some y := by rfl) (hyl : X.env.scope.names.lookup y = some .local := by rfl) (hsw : swapsWith (.ListComp elt [⟨tg, iter, ifs, 0⟩, ⟨tg1, iter1, ifs1, 0⟩] scope pos) (some (.Name y py)) spos.line X.env = pure true := by rfl) (hs : ∀ x, foldedSetIterable iter X.env x = pure x := by intro _; rfl) (hs1 : ∀ env x, foldedSetIterable iter1 env x = pure x := by intro _ _; rfl) :
    VS X C (.Assign [.Name y py] (.ListComp elt [⟨tg, iter, ifs, 0⟩, ⟨tg1, iter1, ifs1, 0⟩] scope pos) spos) (sSetN i (fLc2 gi t tt gi1 t1 tt1 f (own.map (·.2)) t1.slots)) := PS.of (ps_setLc2 am.c am.n hy hyl hsw hi ok hv1 hg ht hi1 hg1 ht1 he hs hs1) fun D σ H h => t_lc2 hv (fun _ h => h) (t_setN h)
theorem vs_lc2F (i : Nat) (am : Am X) (hi : VI X C tg iter gi) (ok : BlkOk X.N X.env.scope scope own)
    (hg : ∀ (s : Shared) (H : Hp) (Cc : Addr) (cl : List (Str × Addr)) (fp : List Addr), PG (X.blk s H scope (compEnvC scope cl Cc X.env) fp) tg (t.g X.K)) (ht : ∀ (s : Shared) (H : Hp) (Cc : Addr) (cl : List (Str × Addr)) (fp : List Addr), VT (X.blk s H scope (compEnvC scope cl Cc X.env) fp) C.nox ifs tt)
    (hi1 : ∀ (s : Shared) (H : Hp) (Cc : Addr) (cl : List (Str × Addr)) (fp : List Addr), VI (X.blk s H scope (compEnvC scope cl Cc X.env) fp) C.nox tg1 iter1 gi1)
    (hg1 : ∀ (s : Shared) (H : Hp) (Cc : Addr) (cl : List (Str × Addr)) (fp : List Addr), PG (X.blk s H scope (compEnvC scope cl Cc X.env) fp) tg1 (t1.g X.K)) (ht1 : ∀ (s : Shared) (H : Hp) (Cc : Addr) (cl : List (Str × Addr)) (fp : List Addr), VT (X.blk s H scope (compEnvC scope cl Cc X.env) fp) C.nox ifs1 tt1)
    (he : ∀ (s : Shared) (H : Hp) (Cc : Addr) (cl : List (Str × Addr)) (fp : List Addr), VE (X.blk s H scope (compEnvC scope cl Cc X.env) fp) C.nox elt f) (hv : ∀ i ∈ t.slots, i ∈ own.map (·.2)) (hv1 : ∀ i ∈ t1.slots, i ∈ own.map (·.2))
    (hy : X.N[i]? = some y := by rfl) (hyl : X.env.scope.names.lookup y = some .local := by rfl) (hsw : swapsWith (.ListComp elt [⟨tg, iter, ifs, 0⟩, ⟨tg1, iter1, ifs1, 0⟩] scope pos) (some (.Name y py)) spos.line X.env = pure true := by rfl) (hs : ∀ x, foldedSetIterable iter X.env x = pure x := by intro _; rfl) (hs1 : ∀ env x, foldedSetIterable iter1 env x = pure x := by intro _ _; rfl) :
    VS X C (.Assign [.Name y py] (.ListComp elt [⟨tg, iter, ifs, 0⟩, ⟨tg1, iter1, ifs1, 0⟩] scope pos) spos) (sSetF i (fLc2 gi t tt gi1 t1 tt1 f (own.map (·.2)) t1.slots)) := PS.of (ps_setLc2 am.c am.n hy hyl hsw hi ok hv1 hg ht hi1 hg1 ht1 he hs hs1) fun D σ H h => t_lc2 hv (fun _ h => h) (t_setF h)
end
end

/-! ### a, b = x, y -/
inductive Mv where
  | s (d : D)
  | n (l : List D)
def Mv.sl : Mv → Sl
  | .s d => .sh d
  | .n l => .own l
abbrev FM := List Sl → Rs Mv
def RMv (K : PySem.W.Frag) : Rel V Mv := fun _ H F' H' v m => match m with
  | .s d => Rp K F' v d
  | .n l => ∃ p xs, v = .ref p ∧ H' p = some (.lst xs) ∧ F' p = none ∧ H p = none ∧ RpAll K F' xs l
theorem RMv.mono {K : PySem.W.Frag} : RMono (RMv K) := fun _ _ _ _ _ _ _ m e _ h => by
  cases m with
  | s d => exact h
  | n l => obtain ⟨p, xs, a, b, c, d, g⟩ := h; exact ⟨p, xs, a, b, c, e.h.free d, g⟩
def TM (K : PySem.W.Frag) (mg : Str → Option Value) (C : Ct) (f : FM) : TE := fun σ H Q => ∃ F env, REnv K C F σ H env ∧ Sat mg C (RMv K) (f env) σ F H Q
abbrev VM (X : Cx) (C : Ct) (e : Expr) (f : FM) : Prop := PE X e (TM X.K X.mg C f)
def mS (f : FE) : FM := fun env => (f env).bind fun d => .ok (.s d)
def mN (f : FE) : FM := fun env => (f env).bind fun d => match d with
  | .list l => .ok (.n l)
  | _ => .no
def sPar (i j : Nat) (ma mb : FM) : FS := fun env => bindO (ma env) fun a => bindO (mb env) fun b => .nx ((env.set i a.sl).set j b.sl)
section
variable {X : Cx} {C : Ct} {e a b : Expr} {f : FE} {ma mb : FM}
theorem vm_s (h : VE X C e f) : VM X C e (mS f) := PE.of h fun σ H Q ⟨F, env, re, q⟩ => ⟨F, env, re, Sat.bind RMv.mono q fun d v F1 H1 x1 r1 q1 => q1 v H1 F1 (Ext.refl (re.go x1).same) r1⟩
theorem vm_n (h : VN X C e f) : VM X C e (mN f) := PE.of h fun σ H Q ⟨F, env, re, q⟩ => ⟨F, env, re, by
  have q : Sat X.mg C (RMv X.K) ((f env).bind fun d => match d with
    | .list l => .ok (.n l)
    | _ => .no) σ F H Q := q
  cases hf : f env with
  | ok d =>
    rw [hf] at q
    intro v H1 F1 x1 ⟨p, xs, l, e1, e2, e3, e4, e5, e6⟩
    subst e1 e2
    exact q _ H1 F1 x1 ⟨p, xs, rfl, e3, e4, e5, e6⟩
  | er c n => rw [hf] at q; exact q
  | no => rw [hf] at q; exact q⟩
theorem REnv.setM {K : PySem.W.Frag} {F H : Hp} {σ : L2.St} {env : List Sl} {i : Nat} {v : V} {m : Mv} (re : REnv K C F σ H env) (h : match m with
    | .s d => Rp K F v d
    | .n l => ∃ p xs, v = .ref p ∧ H p = some (.lst xs) ∧ F p = none ∧ C.H p = none ∧ RpAll K F xs l ∧ ∀ (j : Nat) (m : List D), σ[j]? = some (some (.ref p)) → env[j]? ≠ some (.own m)) : REnv K C F (σ.set i (some v)) H (env.set i m.sl) := by
  cases m with
  | s d => exact re.setSh h
  | n l => obtain ⟨p, xs, e, h1, h2, h3, h4, h5⟩ := h; subst e; exact re.setOwn h1 h2 h3 h4 h5
theorem t_par {K : PySem.W.Frag} {mg : Str → Option Value} {i j : Nat} {D : Ends} {σ : L2.St} {H : Hp} : TSt K mg C (sPar i j ma mb) D σ H →
    TM K mg C ma σ H fun v H1 => TM K mg C mb σ H1 fun w H2 => D.nx ((σ.set i (some v)).set j (some w)) H2 ∧ ∀ T, H2 T = none → D.nx ((σ.set i (some v)).set j (some w)) (upd H2 T (.tup [v, w])) := fun ⟨F, env, re, q⟩ =>
  ⟨F, env, re, SatS.bind (R := RMv K) re q fun m v F1 H1 x1 r1 q1 => ⟨F1, env, re.go x1, SatS.bind (R := RMv K) (re.go x1) q1 fun m' w F2 H2 x2 r2 q2 => by
    have re2 := (re.go x1).go x2
    have z1 : REnv K C F2 (σ.set i (some v)) H2 (env.set i m.sl) := re2.setM (by
      cases m with
      | s d => exact Rp.mono x2.f _ _ r1
      | n l =>
        obtain ⟨p, xs, e1, e2, e3, e4, e5⟩ := r1
        obtain ⟨g1, g2, _⟩ := x2.del e3 e2
        refine ⟨p, xs, e1, g2, g1, re.ext.h.free e4, RpAll.mono x2.f _ _ e5, fun j m h => re.newSlot e4 j m h⟩)
    have z2 : REnv K C F2 ((σ.set i (some v)).set j (some w)) H2 ((env.set i m.sl).set j m'.sl) := z1.setM (by
      cases m' with
      | s d => exact r2
      | n l =>
        obtain ⟨p, xs, e1, e2, e3, e4, e5⟩ := r2
        refine ⟨p, xs, e1, e2, e3, (re.go x1).ext.h.free e4, e5, fun k n h hk => ?_⟩
        obtain ⟨a', ys, w1, w2, _⟩ := z1.own hk
        rw [h] at w1
        cases w1
        by_cases ik : i = k
        · subst ik
          have hi : i < σ.length := by
            rcases Nat.lt_or_ge i σ.length with z | z
            · exact z
            · rw [List.getElem?_eq_none (by rw [List.length_set]; exact z)] at h; cases h
          rw [List.getElem?_set_self hi] at h
          cases h
          have hi' : i < env.length := by rw [← re.len]; exact hi
          rw [List.getElem?_set_self hi'] at hk
          cases m with
          | s d => cases hk
          | n l' =>
            obtain ⟨p', xs', u1, u2, u3, u4, u5⟩ := r1
            cases u1
            rw [u2] at e4
            cases e4
        · rw [List.getElem?_set_ne ik] at h hk
          exact (re.go x1).newSlot e4 k n h hk)
    refine ⟨q2 _ H2 F2 (Same.refl _) z2, fun T hT => q2 _ _ _ (same_upd (z2.same.free hT)) (z2.go (Ext.new z2.same hT))⟩⟩⟩
theorem vs_par (i j : Nat) {x y : Str} {px py pt pos : Pos} {kt k2 : Nat} {pt2 : Pos} (am : Am X) (ha : VM X C a ma) (hb : VM X C b mb) (hij : i ≠ j := by decide) (hi : X.N[i]? = some x := by rfl) (hj : X.N[j]? = some y := by rfl)
    (hx : X.env.scope.names.lookup x = some .local := by rfl) (hy : X.env.scope.names.lookup y = some .local := by rfl) (he : starEach [a, b] X.env = (false, eval a X.env) :: starEach [b] X.env := by rfl) (he2 : starEach [b] X.env = (false, eval b X.env) :: starEach [] X.env := by rfl)
    (hw : swappedStores [.Tuple [.Name x px, .Name y py] kt pt] (.Tuple [a, b] k2 pt2) X.env = pure (some [x, y]) := by rfl)
    (hs : swapsWithSole [.Tuple [.Name x px, .Name y py] kt pt] (.Tuple [a, b] k2 pt2) pos.line X.env = pure false := by rfl) :
    VS X C (.Assign [.Tuple [.Name x px, .Name y py] kt pt] (.Tuple [a, b] k2 pt2) pos) (sPar i j ma mb) := PS.of (ps_par am.c am.n hi hj hij hx hy (pa_cons ha (pa_cons hb pa_nil he2) he) hw hs) fun D σ H h => by
  have z := t_par h
  obtain ⟨F, env, re, q⟩ := z
  refine ⟨F, env, re, q.imp fun v H1 ⟨F1, env1, re1, q1⟩ => ⟨F1, env1, re1, q1.imp fun w H2 q2 => ?_⟩⟩
  exact ⟨v, w, rfl, q2.1⟩
/-- .. where a name is a cell: by a pair -/
theorem vs_parC (i j : Nat) {x y : Str} {px py pt pos : Pos} {kt k2 : Nat} {pt2 : Pos} (am : Am X) (ha : VM X C a ma) (hb : VM X C b mb) (hij : i ≠ j := by decide) (hi : X.N[i]? = some x := by rfl) (hj : X.N[j]? = some y := by rfl)
    (hx : Loc X.env.scope x := by first | exact Or.inl rfl | exact Or.inr rfl) (hy : Loc X.env.scope y := by first | exact Or.inl rfl | exact Or.inr rfl)
    (hfx : X.fn x = true ∨ X.env.scope.names.lookup x = some .local := by first | exact .inl rfl | exact .inr rfl | assumption) (hfy : X.fn y = true ∨ X.env.scope.names.lookup y = some .local := by first | exact .inl rfl | exact .inr rfl | assumption)
    (he : starEach [a, b] X.env = (false, eval a X.env) :: starEach [b] X.env := by rfl) (he2 : starEach [b] X.env = (false, eval b X.env) :: starEach [] X.env := by rfl)
    (hw : swappedStores [.Tuple [.Name x px, .Name y py] kt pt] (.Tuple [a, b] k2 pt2) X.env = pure none := by rfl)
    (hs : swapsWithSole [.Tuple [.Name x px, .Name y py] kt pt] (.Tuple [a, b] k2 pt2) pos.line X.env = pure false := by rfl) (h1 : (assignEach [.Tuple [.Name x px, .Name y py] kt pt] X.env).map (·.2) = [assign (.Tuple [.Name x px, .Name y py] kt pt) X.env] := by rfl)
    (hs1 : (assignEach [.Name y py] X.env).map (·.2) = assign (.Name y py) X.env :: (assignEach [] X.env).map (·.2) := by rfl) (hs2 : (assignEach [.Name x px, .Name y py] X.env).map (·.2) = assign (.Name x px) X.env :: (assignEach [.Name y py] X.env).map (·.2) := by rfl)
    (hn : (assignEach [.Name x px, .Name y py] X.env).length = 2 := by rfl) (hst : (assignEach [.Name x px, .Name y py] X.env).findIdx? (·.1) = none := by rfl) :
    VS X C (.Assign [.Tuple [.Name x px, .Name y py] kt pt] (.Tuple [a, b] k2 pt2) pos) (sPar i j ma mb) := PS.of (ps_asg (pe_tup (pa_cons ha (pa_cons hb pa_nil he2) he)) (pg_tup am.c (pgs_cons (pg_name am.n hi hx hfx) (pgs_cons (pg_name am.n hj hy hfy) pgs_nil hs1) hs2) hn hst) hs hw h1) fun D σ H h => by
  have z := t_par h
  obtain ⟨F, env, re, q⟩ := z
  refine ⟨F, env, re, q.imp fun v H1 ⟨F1, env1, re1, q1⟩ => ⟨F1, env1, re1, q1.imp fun w H2 q2 => ?_⟩⟩
  refine ⟨by show 2 ≤ sizeLine; decide, fun T hT => ⟨T, [v, w], rfl, SqT.of upd_same, rfl, v, _, rfl, w, _, rfl, rfl, q2.2 T hT⟩⟩
end
end PD

/-! Part 9: repr, list(range), max, min, index -/
namespace PD
open PySem PySem.Spec PyProof.Rows L2

/-! ### a mirror by another -/
def Rle {α : Type} (r r' : Rs α) : Prop := r = .no ∨ r = r'
section
variable {X : Cx} {C : Ct} {e : Expr} {f f' : FE} {g g' : FB}
theorem Sat.le {α β : Type} {mg : Str → Option Value} {R : Rel β α} {r r' : Rs α} {σ : L2.St} {F H : Hp} {Q : β → Hp → Prop} (l : Rle r r') (q : Sat mg C R r σ F H Q) : Sat mg C R r' σ F H Q := by
  rcases l with h | h
  · rw [h] at q; exact q.elim
  · rw [← h]; exact q
theorem VE.le (h : VE X C e f) (l : ∀ env, Rle (f' env) (f env)) : VE X C e f' := PE.of h fun σ H Q ⟨F, env, re, q⟩ => ⟨F, env, re, Sat.le (l env) q⟩
theorem VB.le (h : VB X C e g) (l : ∀ env, Rle (g' env) (g env)) : VB X C e g' := PT.of h fun σ H Q ⟨F, env, re, q⟩ => ⟨F, env, re, Sat.le (l env) q⟩
end

/-! ### repr -/
mutual
def rleaf : D → Bool
  | .none | .bool _ => true
  | .int i => decide (i.natAbs < 1000000000000)
  | .str x => x.cps.toList.all fun c => decide (c < 4294967296)
  | .list xs | .tuple xs => rleafAll xs
  | .dict _ => false
def rleafAll : List D → Bool
  | [] => true
  | x :: xs => rleaf x && rleafAll xs
end
def reprOk (d : D) : Bool := rleaf d && decide (d.weight ≤ 1048576) && shal d
mutual
theorem rleaf_ok : ∀ d : D, rleaf d = true → d.leavesShort 13 = true ∧ d.showable = true ∧ d.hasDict = false
  | .none, _ => ⟨rfl, rfl, rfl⟩
  | .bool _, _ => ⟨rfl, rfl, rfl⟩
  | .int i, h => by
    have h : i.natAbs < 1000000000000 := by simpa [rleaf] using h
    have hi := PyData.shown_int_le (i := i) (by omega)
    refine ⟨by simp only [PyData.leavesShort]; exact decide_eq_true hi, ?_, rfl⟩
    simp only [PyData.showable]
    refine decide_eq_true ?_
    by_cases z : i.natAbs = 0
    · rw [z]; decide
    · have := (Nat.log2_lt z (k := 40)).mpr (by omega)
      omega
  | .str x, h => by
    refine ⟨?_, rfl, rfl⟩
    have h : (x.cps.toList.all fun c => decide (c < 4294967296)) = true := h
    show (x.cps.toList.all fun c => decide (c < 16 ^ 8)) = true
    simpa using h
  | .list xs, h => by
    obtain ⟨h1, h2, h3⟩ := rleafAll_ok xs h
    exact ⟨h1, h2, h3⟩
  | .tuple xs, h => by
    obtain ⟨h1, h2, h3⟩ := rleafAll_ok xs h
    exact ⟨h1, h2, h3⟩
  | .dict _, h => by cases h
theorem rleafAll_ok : ∀ ds : List D, rleafAll ds = true → PyData.leavesShortAll 13 ds = true ∧ PyData.showableAll ds = true ∧ PyData.hasDictAll ds = false
  | [], _ => ⟨rfl, rfl, rfl⟩
  | d :: ds, h => by
    have h : (rleaf d && rleafAll ds) = true := h
    rw [Bool.and_eq_true] at h
    obtain ⟨a1, a2, a3⟩ := rleaf_ok d h.1
    obtain ⟨b1, b2, b3⟩ := rleafAll_ok ds h.2
    refine ⟨?_, ?_, ?_⟩
    · show (d.leavesShort 13 && PyData.leavesShortAll 13 ds) = true
      rw [a1, b1]; rfl
    · show (d.showable && PyData.showableAll ds) = true
      rw [a2, b2]; rfl
    · show (d.hasDict || PyData.hasDictAll ds) = false
      rw [a3, b3]; rfl
end
theorem reprOk_fits {d : D} (h : reprOk d = true) : d.showable = true ∧ d.hasDict = false ∧ d.shown.length ≤ sizeLine ∧ d.depth ≤ 64 := by
  unfold reprOk at h
  simp only [Bool.and_eq_true, decide_eq_true_eq] at h
  obtain ⟨⟨h1, h2⟩, h3⟩ := h
  obtain ⟨a, b, c⟩ := rleaf_ok d h1
  exact ⟨b, c, PyData.shown_fits (B := 13) (by decide) (by decide) a (by omega), of_decide_eq_true h3⟩
def dRepr : List D → Option D
  | [d] => if reprOk d = true then some (.str d.shown) else none
  | _ => none
def rRepr (K : PySem.W.Frag) : List V → Hp → VK → Prop := fun xs H Q => ∃ F v d, Same F H ∧ xs = [v] ∧ Rp K F v d ∧ reprOk d = true ∧ Q (.str d.shown) H
section
variable {K : PySem.W.Frag} {X : Cx} {C : Ct}
theorem call_reprD (am : Am X) : CallR X (.builtin "repr") (rRepr X.K) := by
  intro pins s σ H xs us Q I r ⟨F, v, d, sf, ex, hd, ok, q⟩
  subst ex
  obtain ⟨u, rfl, ru⟩ := vals1 r
  obtain ⟨as, hr⟩ := hd.reads I sf ru
  obtain ⟨o1, o2, o3, o4⟩ := reprOk_fits ok
  have hu := am.u
  have big : ∀ {a : Addr}, u = .ref a → wpAny (model X.prog X.w) X.A (call (.builtin "repr") [u]) (EP X pins σ Q) X.xe s := fun {a} e => by
    subst e
    exact repr_of_reads' hr o1 (fun z => by rw [o2] at z; cases z) am.g (by omega) (fun _ _ e => e) (fun h' u tk hk => ⟨.str _, H, I.kept hk, ⟨_, rfl⟩, q⟩) o3
  cases hd with
  | non => cases ru; exact PySem.P.repr_of_none ⟨.str _, H, I.tok _, ⟨_, rfl⟩, q⟩
  | bl b => cases ru; exact PySem.P.repr_of_bool ⟨.str _, H, I.tok _, ⟨_, rfl⟩, q⟩
  | int i =>
    obtain ⟨t, rfl⟩ := ru
    exact PySem.P.repr_of_int (of_decide_eq_true (by simpa only [PyData.showable] using o1)) ⟨.str _, H, I.tok _, ⟨_, rfl⟩, q⟩
  | str x =>
    obtain ⟨t, rfl⟩ := ru
    exact PySem.P.repr_of_str ⟨.str _, H, I.tok _, ⟨_, rfl⟩, q⟩ o3
  | lst _ _ => exact big ru
  | tup _ _ => exact big ru
theorem l_repr : VL K (rRepr K) dRepr := by
  intro F H xs ds c Q s h e q
  unfold dRepr at e
  split at e
  · split at e
    · rename_i ok
      cases e
      obtain ⟨v, rfl, r⟩ := h.one'
      exact ⟨F, v, _, s, rfl, r, ok, q _ H F (Ext.refl s) (.str _)⟩
    · cases e
  · cases e
end
/-! data that is the same -/
mutual
def eqD : D → D → Bool
  | .none, .none => true
  | .bool a, .bool b => a == b
  | .int a, .int b => decide (a = b)
  | .str a, .str b => decide (a.cps.toList = b.cps.toList)
  | .list a, .list b => eqDs a b
  | .tuple a, .tuple b => eqDs a b
  | _, _ => false
def eqDs : List D → List D → Bool
  | [], [] => true
  | a :: as, b :: bs => eqD a b && eqDs as bs
  | _, _ => false
end
mutual
theorem eqD_eq : ∀ a b : D, eqD a b = true → a = b
  | .none, b, h => by cases b <;> first | rfl | cases h
  | .bool x, b, h => by
    cases b with
    | bool y => rw [show x = y by simpa [eqD] using h]
    | _ => cases h
  | .int x, b, h => by
    cases b with
    | int y => rw [show x = y by simpa [eqD] using h]
    | _ => cases h
  | .str x, b, h => by
    cases b with
    | str y =>
      have e : x.cps.toList = y.cps.toList := by simpa [eqD] using h
      obtain ⟨⟨xs⟩⟩ := x
      obtain ⟨⟨ys⟩⟩ := y
      have e : xs = ys := e
      rw [e]
    | _ => cases h
  | .list xs, b, h => by
    cases b with
    | list ys => rw [eqDs_eq xs ys h]
    | _ => cases h
  | .tuple xs, b, h => by
    cases b with
    | tuple ys => rw [eqDs_eq xs ys h]
    | _ => cases h
  | .dict _, b, h => by cases b <;> cases h
theorem eqDs_eq : ∀ as bs : List D, eqDs as bs = true → as = bs
  | [], bs, h => by cases bs <;> first | rfl | cases h
  | a :: as, bs, h => by
    cases bs with
    | nil => cases h
    | cons b bs =>
      have h : (eqD a b && eqDs as bs) = true := h
      rw [Bool.and_eq_true] at h
      rw [eqD_eq a b h.1, eqDs_eq as bs h.2]
end
/-- repr(a) != repr(b), and ==, of data that is the same -/
def fRNe (f f' : FE) : FB := fun env => (f env).bind fun a => if reprOk a = true then (f' env).bind fun b => if eqD a b = true then .ok false else .no else .no
def fREq (f f' : FE) : FB := fun env => (f env).bind fun a => if reprOk a = true then (f' env).bind fun b => if eqD a b = true then .ok true else .no else .no
theorem str_eqv (x : Str) : PyData.eqv (.str x) (.str x) = true := by simp [PyData.eqv]
theorem shal_str (x : Str) : shal (.str x) = true := by simp [shal, PyData.depth]
section
variable {X : Cx} {C : Ct} {f f' : FE} {a b : Expr} {pos p p1 p2 p3 : Pos}
theorem vb_reprNe (am : Am X) (hg : Gl X "repr") (hm : X.mg "repr" = none) (ha : VE X C a f) (hb : VE X C b f') (h1 : starEach [a] X.env = (false, eval a X.env) :: starEach [] X.env := by rfl) (h2 : starEach [b] X.env = (false, eval b X.env) :: starEach [] X.env := by rfl)
    (hm2 : behindInMarks .NotEq (.Call (.Name "repr" p2) [b] [] p3) = false := by first | exact nomark _ | with_unfolding_all rfl) :
    VB X C (.Compare (.Call (.Name "repr" p) [a] [] p1) [.NotEq] [.Call (.Name "repr" p2) [b] [] p3] pos) (fRNe f f') :=
  VB.le (vb_cmp (o_ne am) v_ne (ve_callB (call_reprD am) l_repr hg hm rfl (va_cons ha va_nil h1) (he := h1) (hpl := by rfl)) (ve_callB (call_reprD am) l_repr hg hm rfl (va_cons hb va_nil h2) (he := h2) (hpl := by rfl)) hm2) fun env => by
    unfold fRNe
    cases hf : f env with
    | no => exact .inl rfl
    | er c n => exact .inr (by simp [fB, f2, fCB, aCons, hf])
    | ok d =>
      show Rle (if reprOk d = true then _ else _) _
      by_cases hd : reprOk d = true
      · rw [if_pos hd]
        cases hf' : f' env with
        | no => exact .inl rfl
        | er c n => exact .inr (by simp [fB, f2, fCB, aCons, aNil, hf, hf', dRepr, hd])
        | ok e =>
          show Rle (if eqD d e = true then _ else _) _
          by_cases he : eqD d e = true
          · rw [if_pos he]
            have := eqD_eq d e he
            subst this
            refine .inr ?_
            simp [fB, f2, fCB, aCons, aNil, hf, hf', dRepr, hd, dNe, shal_str, str_eqv, Rs.ofO]
            rfl
          · rw [if_neg he]; exact .inl rfl
      · rw [if_neg hd]; exact .inl rfl
theorem vb_reprEq (am : Am X) (hg : Gl X "repr") (hm : X.mg "repr" = none) (ha : VE X C a f) (hb : VE X C b f') (h1 : starEach [a] X.env = (false, eval a X.env) :: starEach [] X.env := by rfl) (h2 : starEach [b] X.env = (false, eval b X.env) :: starEach [] X.env := by rfl)
    (hm2 : behindInMarks .Eq (.Call (.Name "repr" p2) [b] [] p3) = false := by first | exact nomark _ | with_unfolding_all rfl) :
    VB X C (.Compare (.Call (.Name "repr" p) [a] [] p1) [.Eq] [.Call (.Name "repr" p2) [b] [] p3] pos) (fREq f f') :=
  VB.le (vb_cmp (o_eq am) v_eq (ve_callB (call_reprD am) l_repr hg hm rfl (va_cons ha va_nil h1) (he := h1) (hpl := by rfl)) (ve_callB (call_reprD am) l_repr hg hm rfl (va_cons hb va_nil h2) (he := h2) (hpl := by rfl)) hm2) fun env => by
    unfold fREq
    cases hf : f env with
    | no => exact .inl rfl
    | er c n => exact .inr (by simp [fB, f2, fCB, aCons, hf])
    | ok d =>
      show Rle (if reprOk d = true then _ else _) _
      by_cases hd : reprOk d = true
      · rw [if_pos hd]
        cases hf' : f' env with
        | no => exact .inl rfl
        | er c n => exact .inr (by simp [fB, f2, fCB, aCons, aNil, hf, hf', dRepr, hd])
        | ok e =>
          show Rle (if eqD d e = true then _ else _) _
          by_cases he : eqD d e = true
          · rw [if_pos he]
            have := eqD_eq d e he
            subst this
            refine .inr ?_
            simp [fB, f2, fCB, aCons, aNil, hf, hf', dRepr, hd, dEq, shal_str, str_eqv, Rs.ofO]
            rfl
          · rw [if_neg he]; exact .inl rfl
      · rw [if_neg hd]; exact .inl rfl
end

/-! ### list(range(..)) -/
def rgD (a b : Int) : List D := (List.range (b - a).toNat).map fun i => .int (a + (i : Nat))
def fRg1 (f : FE) (k : List D → D) : FE := fun env => (f env).bind fun d => match d with
  | .int n => if n.natAbs ≤ 1000000 then .ok (k (rgD 0 n)) else .no
  | _ => .no
def fRg2 (f f' : FE) (k : List D → D) : FE := fun env => (f env).bind fun d => (f' env).bind fun e => match d, e with
  | .int a, .int n => if a.natAbs ≤ 1000000 ∧ n.natAbs ≤ 1000000 then .ok (k (rgD a n)) else .no
  | _, _ => .no
theorem rp_rg {K : PySem.W.Frag} {F : Hp} (a b : Int) : RpAll K F (rgV a b) (rgD a b) := by
  unfold rgV rgD
  induction List.range (b - a).toNat with
  | nil => exact .nil
  | cons i l ih => exact .cons (.int _) ih
section
variable {X : Cx} {C : Ct} {f f' : FE} {a b : Expr} {p p2 pos pos2 : Pos}
theorem vn_listRg1 (am : Am X) (hg : Gl X "list") (hm : X.mg "list" = none) (hg' : Gl X "range") (hm' : X.mg "range" = none) (ha : VE X C a f) (na : starEach [a] X.env = (false, eval a X.env) :: starEach [] X.env := by rfl)
    (nb : starEach [.Call (.Name "range" p2) [a] [] pos2] X.env = (false, eval (.Call (.Name "range" p2) [a] [] pos2) X.env) :: starEach [] X.env := by rfl) :
    VN X C (.Call (.Name "list" p) [.Call (.Name "range" p2) [a] [] pos2] [] pos) (fRg1 f .list) := PE.of (pe_listRg am.c hg hm (prg_1 hg' hm' ha na) nb) fun σ H Q ⟨F, env, re, q⟩ =>
  ⟨F, env, re, Sat.bind RN.mono q fun d v F1 H1 x1 r1 q1 => by
    cases d with
    | int n =>
      cases r1
      have q1 : Sat X.mg C (RN X.K) (if n.natAbs ≤ 1000000 then .ok (.list (rgD 0 n)) else .no) σ F1 H1 Q := q1
      by_cases hn : n.natAbs ≤ 1000000
      · rw [if_pos hn] at q1
        refine ⟨n, rfl, ⟨by omega, by omega, by omega, by omega, by omega⟩, fun p hp => ?_⟩
        have s1 := (re.go x1).same
        exact q1 _ _ F1 (Ext.laid s1 hp) ⟨p, _, _, rfl, rfl, upd_same, s1.free hp, hp, rp_rg 0 n⟩
      · rw [if_neg hn] at q1; exact q1.elim
    | _ => exact q1.elim⟩
theorem vn_listRg2 (am : Am X) (hg : Gl X "list") (hm : X.mg "list" = none) (hg' : Gl X "range") (hm' : X.mg "range" = none) (ha : VE X C a f) (hb : VE X C b f') (na : starEach [a, b] X.env = (false, eval a X.env) :: starEach [b] X.env := by rfl) (nb' : starEach [b] X.env = (false, eval b X.env) :: starEach [] X.env := by rfl)
    (hp : (backTo pos2 (starEach [b] X.env)).any (·.1) = false := by rfl)
    (nb : starEach [.Call (.Name "range" p2) [a, b] [] pos2] X.env = (false, eval (.Call (.Name "range" p2) [a, b] [] pos2) X.env) :: starEach [] X.env := by rfl) :
    VN X C (.Call (.Name "list" p) [.Call (.Name "range" p2) [a, b] [] pos2] [] pos) (fRg2 f f' .list) := PE.of (pe_listRg am.c hg hm (prg_2 hg' hm' ha hb na nb' hp) nb) fun σ H Q ⟨F, env, re, q⟩ =>
  ⟨F, env, re, Sat.bind RN.mono q fun d v F1 H1 x1 r1 q1 => ⟨F1, env, re.go x1, Sat.bind RN.mono q1 fun e w F2 H2 x2 r2 q2 => by
    cases d with
    | int k =>
      cases r1
      cases e with
      | int n =>
        cases r2
        have q2 : Sat X.mg C (RN X.K) (if k.natAbs ≤ 1000000 ∧ n.natAbs ≤ 1000000 then .ok (.list (rgD k n)) else .no) σ F2 H2 Q := q2
        by_cases hn : k.natAbs ≤ 1000000 ∧ n.natAbs ≤ 1000000
        · rw [if_pos hn] at q2
          refine ⟨k, n, rfl, rfl, ⟨by omega, by omega, by omega, by omega, by omega⟩, fun p hp => ?_⟩
          have s2 := ((re.go x1).go x2).same
          exact q2 _ _ F2 (Ext.laid s2 hp) ⟨p, _, _, rfl, rfl, upd_same, s2.free hp, hp, rp_rg k n⟩
        · rw [if_neg hn] at q2; exact q2.elim
      | _ => exact q2.elim
    | _ => exact q2.elim⟩⟩
theorem ve_tupRg1 (am : Am X) (hg : Gl X "tuple") (hm : X.mg "tuple" = none) (hg' : Gl X "range") (hm' : X.mg "range" = none) (ha : VE X C a f) (na : starEach [a] X.env = (false, eval a X.env) :: starEach [] X.env := by rfl)
    (nb : starEach [.Call (.Name "range" p2) [a] [] pos2] X.env = (false, eval (.Call (.Name "range" p2) [a] [] pos2) X.env) :: starEach [] X.env := by rfl) :
    VE X C (.Call (.Name "tuple" p) [.Call (.Name "range" p2) [a] [] pos2] [] pos) (fRg1 f .tuple) := PE.of (pe_tupRg am.c hg hm (prg_1 hg' hm' ha na) nb) fun σ H Q ⟨F, env, re, q⟩ =>
  ⟨F, env, re, Sat.bind RD.mono q fun d v F1 H1 x1 r1 q1 => by
    cases d with
    | int n =>
      cases r1
      have q1 : Sat X.mg C (RD X.K) (if n.natAbs ≤ 1000000 then .ok (.tuple (rgD 0 n)) else .no) σ F1 H1 Q := q1
      by_cases hn : n.natAbs ≤ 1000000
      · rw [if_pos hn] at q1
        refine ⟨n, rfl, ⟨by omega, by omega, by omega, by omega, by omega⟩, fun p hp => ?_⟩
        have s1 := (re.go x1).same
        exact q1 _ _ _ (Ext.new s1 hp) (.tup (SqT.of upd_same) (rp_rg 0 n))
      · rw [if_neg hn] at q1; exact q1.elim
    | _ => exact q1.elim⟩
theorem ve_tupRg2 (am : Am X) (hg : Gl X "tuple") (hm : X.mg "tuple" = none) (hg' : Gl X "range") (hm' : X.mg "range" = none) (ha : VE X C a f) (hb : VE X C b f') (na : starEach [a, b] X.env = (false, eval a X.env) :: starEach [b] X.env := by rfl) (nb' : starEach [b] X.env = (false, eval b X.env) :: starEach [] X.env := by rfl)
    (hp : (backTo pos2 (starEach [b] X.env)).any (·.1) = false := by rfl)
    (nb : starEach [.Call (.Name "range" p2) [a, b] [] pos2] X.env = (false, eval (.Call (.Name "range" p2) [a, b] [] pos2) X.env) :: starEach [] X.env := by rfl) :
    VE X C (.Call (.Name "tuple" p) [.Call (.Name "range" p2) [a, b] [] pos2] [] pos) (fRg2 f f' .tuple) := PE.of (pe_tupRg am.c hg hm (prg_2 hg' hm' ha hb na nb' hp) nb) fun σ H Q ⟨F, env, re, q⟩ =>
  ⟨F, env, re, Sat.bind RD.mono q fun d v F1 H1 x1 r1 q1 => ⟨F1, env, re.go x1, Sat.bind RD.mono q1 fun e w F2 H2 x2 r2 q2 => by
    cases d with
    | int k =>
      cases r1
      cases e with
      | int n =>
        cases r2
        have q2 : Sat X.mg C (RD X.K) (if k.natAbs ≤ 1000000 ∧ n.natAbs ≤ 1000000 then .ok (.tuple (rgD k n)) else .no) σ F2 H2 Q := q2
        by_cases hn : k.natAbs ≤ 1000000 ∧ n.natAbs ≤ 1000000
        · rw [if_pos hn] at q2
          refine ⟨k, n, rfl, rfl, ⟨by omega, by omega, by omega, by omega, by omega⟩, fun p hp => ?_⟩
          have s2 := ((re.go x1).go x2).same
          exact q2 _ _ _ (Ext.new s2 hp) (.tup (SqT.of upd_same) (rp_rg k n))
        · rw [if_neg hn] at q2; exact q2.elim
      | _ => exact q2.elim
    | _ => exact q2.elim⟩⟩
end

/-! ### max, min of a list of ints; index -/
def dMaxL : List D → Option D
  | [.list l] => match intsD l with
    | some (n :: ns) => some (.int (ns.foldl (fun a y => if a < y then y else a) n))
    | _ => none
  | _ => none
def dMinL : List D → Option D
  | [.list l] => match intsD l with
    | some (n :: ns) => some (.int (ns.foldl (fun a y => if y < a then y else a) n))
    | _ => none
  | _ => none
theorem foldMax : ∀ (ns : List Int) (n : Int), (ns.foldl (fun a y => if a < y then y else a) n) ∈ n :: ns ∧ ∀ y ∈ n :: ns, y ≤ ns.foldl (fun a y => if a < y then y else a) n
  | [], n => ⟨List.mem_cons_self, fun y h => by rw [List.mem_singleton.mp h]; exact Int.le_refl _⟩
  | m :: ns, n => by
    obtain ⟨h1, h2⟩ := foldMax ns (if n < m then m else n)
    rw [List.foldl_cons]
    refine ⟨?_, fun y hy => ?_⟩
    · rcases List.mem_cons.mp h1 with e | e
      · rw [e]; split
        · exact List.mem_cons_of_mem _ List.mem_cons_self
        · exact List.mem_cons_self
      · exact List.mem_cons_of_mem _ (List.mem_cons_of_mem _ e)
    · have h0 := h2 _ List.mem_cons_self
      rcases List.mem_cons.mp hy with e | hy
      · rw [e]; split at h0 <;> rename_i q <;> simp only [q, if_true, if_false] at h0 ⊢ <;> omega
      · rcases List.mem_cons.mp hy with e | hy
        · rw [e]; split at h0 <;> rename_i q <;> simp only [q, if_true, if_false] at h0 ⊢ <;> omega
        · exact h2 y (List.mem_cons_of_mem _ hy)
theorem foldMin : ∀ (ns : List Int) (n : Int), (ns.foldl (fun a y => if y < a then y else a) n) ∈ n :: ns ∧ ∀ y ∈ n :: ns, ns.foldl (fun a y => if y < a then y else a) n ≤ y
  | [], n => ⟨List.mem_cons_self, fun y h => by rw [List.mem_singleton.mp h]; exact Int.le_refl _⟩
  | m :: ns, n => by
    obtain ⟨h1, h2⟩ := foldMin ns (if m < n then m else n)
    rw [List.foldl_cons]
    refine ⟨?_, fun y hy => ?_⟩
    · rcases List.mem_cons.mp h1 with e | e
      · rw [e]; split
        · exact List.mem_cons_of_mem _ List.mem_cons_self
        · exact List.mem_cons_self
      · exact List.mem_cons_of_mem _ (List.mem_cons_of_mem _ e)
    · have h0 := h2 _ List.mem_cons_self
      rcases List.mem_cons.mp hy with e | hy
      · rw [e]; split at h0 <;> rename_i q <;> simp only [q, if_true, if_false] at h0 ⊢ <;> omega
      · rcases List.mem_cons.mp hy with e | hy
        · rw [e]; split at h0 <;> rename_i q <;> simp only [q, if_true, if_false] at h0 ⊢ <;> omega
        · exact h2 y (List.mem_cons_of_mem _ hy)
section
variable {K : PySem.W.Frag}
theorem l_maxL : VL K (rMax K) dMaxL := by
  intro F H xs ds c Q s h e q
  unfold dMaxL at e
  split at e
  · rename_i l
    obtain ⟨v, rfl, r⟩ := h.one'
    split at e
    · rename_i n ns hi
      cases e
      cases r with
      | @lst a ys _ a1 a2 =>
        have e := a2.intsd hi
        subst e
        refine ⟨a, n :: ns, rfl, SqL.of (s _ _ a1), by simp, fun m hm hall => ?_⟩
        obtain ⟨h1, h2⟩ := foldMax ns n
        rw [show m = ns.foldl (fun a y => if a < y then y else a) n from Int.le_antisymm (h2 m hm) (hall _ h1)]
        exact q _ H F (Ext.refl s) (.int _)
    · cases e
  · cases e
theorem l_minL : VL K (rMin K) dMinL := by
  intro F H xs ds c Q s h e q
  unfold dMinL at e
  split at e
  · rename_i l
    obtain ⟨v, rfl, r⟩ := h.one'
    split at e
    · rename_i n ns hi
      cases e
      cases r with
      | @lst a ys _ a1 a2 =>
        have e := a2.intsd hi
        subst e
        refine ⟨a, n :: ns, rfl, SqL.of (s _ _ a1), by simp, fun m hm hall => ?_⟩
        obtain ⟨h1, h2⟩ := foldMin ns n
        rw [show m = ns.foldl (fun a y => if y < a then y else a) n from Int.le_antisymm (hall _ h1) (h2 m hm)]
        exact q _ H F (Ext.refl s) (.int _)
    · cases e
  · cases e
end
/-- the first place, texts or whole numbers -/
def placeS (x : Str) : List Str → Nat → Option Nat
  | [], _ => none
  | y :: r, i => if y == x then some i else placeS x r (i + 1)
def dIndex (d e : D) : Option D := match d, e with
  | .list l, .str x => (strsD l).bind fun ys => (placeS x ys 0).map fun j => .int (j : Nat)
  | _, _ => none
theorem placeS_at : ∀ (ys : List Str) (x : Str) (i j : Nat), placeS x ys i = some j → ∃ k, j = i + k ∧ (∃ y, ys[k]? = some y ∧ (y == x) = true) ∧ ∀ m y, m < k → ys[m]? = some y → (y == x) = false
  | [], _, _, _, h => by cases h
  | y :: r, x, i, j, h => by
    unfold placeS at h
    by_cases q : (y == x) = true
    · rw [if_pos q] at h
      cases h
      exact ⟨0, rfl, ⟨y, rfl, q⟩, fun m y hm => absurd hm (Nat.not_lt_zero _)⟩
    · rw [if_neg q] at h
      obtain ⟨k, h1, ⟨z, h2, h3⟩, h4⟩ := placeS_at r x (i + 1) j h
      refine ⟨k + 1, by omega, ⟨z, by simpa using h2, h3⟩, fun m w hm hw => ?_⟩
      cases m with
      | zero =>
        have e : y = w := by simpa using hw
        subst e
        exact Bool.eq_false_iff.mpr q
      | succ m => exact h4 m w (by omega) (by simpa using hw)
theorem flat_strs (ys : List Str) : (ys.map V.str).all flatV = true := by
  induction ys with
  | nil => rfl
  | cons y r ih => rw [List.map_cons, List.all_cons, ih]; rfl
section
variable {X : Cx} {C : Ct} {f f' : FE} {o e : Expr} {apos pos : Pos}
def fIndex (f f' : FE) : FE := fun env => (f env).bind fun d => match d with
  | .list l => (f' env).bind fun e => Rs.ofO (dIndex (.list l) e)
  | _ => .no
theorem ve_index (ho : VE X C o f) (he : VE X C e f') (hbase : attributeBase o "index" X.env (eval o X.env) = eval o X.env := by rfl) (hline : (apos.endLine == pos.line) = true := by rfl) (hs : starEach [e] X.env = (false, eval e X.env) :: starEach [] X.env := by rfl)
    (hfew : ((backTo pos (starEach [e] X.env)).all (fun x => !x.1) && (backToKw pos (keywordEach [] X.env)).all (fun x => x.1.isSome)
      && decide ([e].length + ([] : List Keyword).length + (if ([] : List Keyword).isEmpty then 0 else 1) < 30)) = true := by rfl) (hplain : (backTo pos (starEach [] X.env)).any (·.1) = false := by rfl) :
    VE X C (.Call (.Attribute o "index" apos) [e] [] pos) (fIndex f f') := PE.of (pe_bm PySem.F.plainAttrs_list PySem.F.slot_list_index PySem.F.type_list_index mt_index ho (va_cons he va_nil hs) hbase hfew hline hs hplain) fun σ H Q ⟨F, env, re, q⟩ =>
  ⟨F, env, re, Sat.bind RD.mono q fun d v F1 H1 x1 r1 q1 => by
    cases d with
    | list l =>
      cases r1 with
      | @lst a ys _ a1 a2 =>
        refine ⟨.inl ⟨rfl, ys, SqL.of ((re.go x1).same _ _ a1)⟩, F1, env, re.go x1, ?_⟩
        have q1 : Sat X.mg C (RD X.K) ((f' env).bind fun e => Rs.ofO (dIndex (.list l) e)) σ F1 H1 Q := q1
        unfold aCons aNil
        cases hf : f' env with
        | er c n => rw [hf] at q1; exact q1
        | no => rw [hf] at q1; exact q1
        | ok e =>
          rw [hf] at q1
          have q1 : Sat X.mg C (RD X.K) (Rs.ofO (dIndex (.list l) e)) σ F1 H1 Q := q1
          intro vs H2 F2 x2 r2
          obtain ⟨c, hc, q2⟩ := Sat.ofO (Sat.go RD.mono q1 x2)
          have s2 := ((re.go x1).go x2).same
          obtain ⟨w, rfl, rw'⟩ := RpAll.one' r2
          cases e with
          | str x =>
            cases rw'
            simp only [dIndex] at hc
            cases hb : strsD l with
            | none => rw [hb] at hc; cases hc
            | some zs =>
              rw [hb] at hc
              have hc : (placeS x zs 0).map (fun j : Nat => (PyData.int (j : Nat))) = some c := hc
              cases hp : placeS x zs 0 with
              | none => rw [hp] at hc; cases hc
              | some j =>
                rw [hp] at hc
                cases hc
                have e := a2.strsd hb
                subst e
                obtain ⟨k, k1, ⟨z, k2, k3⟩, k4⟩ := placeS_at zs x 0 j hp
                rw [Nat.zero_add] at k1
                subst k1
                refine ⟨a, _, .str x, j, .str z, rfl, rfl, SqL.of (s2 _ _ (x2.f _ _ a1)), rfl, flat_strs zs, by rw [List.getElem?_map, k2]; rfl, k3, fun m z' hm hz => ?_, q2 _ H2 F2 (Ext.refl s2) (.int _)⟩
                rw [List.getElem?_map] at hz
                cases hz' : zs[m]? with
                | none => rw [hz'] at hz; cases hz
                | some w => rw [hz'] at hz; cases hz; exact k4 m w hm hz'
          | _ => cases hc
    | _ => exact q1.elim⟩
end
end PD

/-! Part 10: the script; the ends -/
namespace PD
open PySem PySem.Spec PyProof.Rows L2

section
variable {X : Cx} {C : Ct} {f : FE} {b : Expr} {x : Str} {pos p1 p2 : Pos}
/-- script[k] -/
def fScrIx (i : Nat) (f : FE) : FE := fun env => match env[i]? with
  | some (.scr ns) => (f env).bind fun d => match d with
    | .int k => Rs.ofO ((atI ns k).map PyData.int)
    | _ => .no
  | _ => .no
theorem REnv.scr {K : PySem.W.Frag} {F H : Hp} {σ : L2.St} {env : List Sl} {i : Nat} {ns : List Int} (re : REnv K C F σ H env) (h : env[i]? = some (.scr ns)) : ∃ a, σ[i]? = some (some (.ref a)) ∧ SqL K H a (ns.map V.int) := by
  obtain ⟨a, h1, h2⟩ := re.get i _ h
  exact ⟨a, h1, Same.sql re.ext.h h2⟩
theorem atI_map {α β : Type} (g : α → β) (xs : List α) (i : Int) : atI (xs.map g) i = (atI xs i).map g := by
  unfold atI
  rw [List.length_map]
  cases ixN xs.length i with
  | none => rfl
  | some j => exact List.getElem?_map
theorem ve_scrIx (i : Nat) (hb : VE X C b f) (hN : X.N[i]? = some x := by rfl) (hv : Vis X.env.scope x := by first | exact Or.inl rfl | exact Or.inr (Or.inl rfl) | exact Or.inr (Or.inr rfl)) (hd : (x == ("__debug__" : Str)) = false := by decide)
    (hcd : (x == ("__classdict__" : Str)) = false := by decide) (hs : PlainIx b := by intro _ _; rfl) : VE X C (.Subscript (.Name x p1) b pos) (fScrIx i f) := PE.of (pe_ix ix_list (pe_var hN hv hd hcd) hb hs) fun σ H Q ⟨F, env, re, q⟩ => by
  unfold fScrIx at q
  split at q
  · rename_i ns e1
    obtain ⟨a, h1, h2⟩ := re.scr e1
    refine ⟨.ref a, h1, F, env, re, Sat.bind RD.mono q fun d v F1 H1 x1 r1 q1 => ?_⟩
    cases d with
    | int k =>
      cases r1
      obtain ⟨c, hc, q2⟩ := Sat.ofO q1
      cases ha : atI ns k with
      | none => rw [ha] at hc; cases hc
      | some m =>
        rw [ha] at hc
        cases hc
        exact ⟨a, _, k, .int m, rfl, rfl, Same.sql x1.h h2, by rw [atI_map, ha]; rfl, q2 _ H1 F1 (Ext.refl (re.go x1).same) (.int _)⟩
    | _ => exact q1.elim
  · exact q.elim
/-- len(script) -/
def fScrLen (i : Nat) : FE := fun env => match env[i]? with
  | some (.scr ns) => .ok (.int (ns.length : Nat))
  | _ => .no
theorem ve_scrLen (i : Nat) (hg : Gl X "len") (hm : X.mg "len" = none) (hN : X.N[i]? = some x := by rfl) (hv : Vis X.env.scope x := by first | exact Or.inl rfl | exact Or.inr (Or.inl rfl) | exact Or.inr (Or.inr rfl)) (hd : (x == ("__debug__" : Str)) = false := by decide)
    (hcd : (x == ("__classdict__" : Str)) = false := by decide) (he : starEach [.Name x p2] X.env = (false, eval (.Name x p2) X.env) :: starEach [] X.env := by rfl) (hpl : (backTo pos (starEach [] X.env)).any (·.1) = false := by rfl) :
    VE X C (.Call (.Name "len" p1) [.Name x p2] [] pos) (fScrLen i) := PE.of (pe_callB (call_len) hg hm rfl (pa_cons (pe_var hN hv hd hcd) pa_nil he) (by decide) (by decide) he hpl) fun σ H Q ⟨F, env, re, q⟩ => by
  unfold fScrLen at q
  split at q
  · rename_i ns e1
    obtain ⟨a, h1, h2⟩ := re.scr e1
    refine ⟨.ref a, h1, .ref a, ns.length, rfl, .inl ⟨_, h2, by rw [List.length_map]⟩, q _ H F (Ext.refl re.same) (.int _)⟩
  · exact q.elim
/-- a def of the script -/
def spScr (K : PySem.W.Frag) (mg : Str → Option Value) (Fn : List Int → Rs D) : Sp := fun vs H Q E => ∃ G a ns, Same G H ∧ vs = [.ref a] ∧ SqL K H a (ns.map V.int) ∧ Sat mg ⟨G, H, fun _ => E⟩ (RN K) (Fn ns) [] G H Q
def fScrCall (i : Nat) (Fn : List Int → Rs D) : FE := fun env => match env[i]? with
  | some (.scr ns) => Fn ns
  | _ => .no
theorem vn_callScr {Fn : List Int → Rs D} {CX : CXT} {k : Nat} {f : Addr} {fd : FuncData} {ps : List Str} {g : Str} (i : Nat) (F : FnG X.prog X.w X.K X.mg X.base CX k f fd ps (spScr X.K X.mg Fn)) (am : Am X) (hr : Room k X.A) (hg : Gl X g) (hm : X.mg g = some (.ref f)) (hk : PySem.W.keepIn X.K (.ref f) = true) (hb : Binds X.K fd ps []) (hx : ∀ σ, PassesAt CX X σ (C.E σ))
    (hN : X.N[i]? = some x := by rfl) (hv : Vis X.env.scope x := by first | exact Or.inl rfl | exact Or.inr (Or.inl rfl) | exact Or.inr (Or.inr rfl)) (hd : (x == ("__debug__" : Str)) = false := by decide)
    (hcd : (x == ("__classdict__" : Str)) = false := by decide) (hdb : (g == ("__debug__" : Str)) = false := by decide) (he : starEach [.Name x p2] X.env = (false, eval (.Name x p2) X.env) :: starEach [] X.env := by rfl) (hpl : (backTo pos (starEach [] X.env)).any (·.1) = false := by rfl) :
    VN X C (.Call (.Name g p1) [.Name x p2] [] pos) (fScrCall i Fn) := PE.of (pe_callG F am.g hr hg hm hk hb hx (pa_cons (pe_var hN hv hd hcd) pa_nil he) hdb he hpl) fun σ H Q ⟨F, env, re, q⟩ => by
  unfold fScrCall at q
  split at q
  · rename_i ns e1
    obtain ⟨a, h1, h2⟩ := re.scr e1
    exact ⟨.ref a, h1, F, a, ns, re.same, rfl, h2, Sat.call q⟩
  · exact q.elim
end

section
variable {P : Program} {w : World} {K : PySem.W.Frag} {mg : Str → Option Value} {base : Heap}
def envS (m : Nat) (ns : List Int) : List Sl := .scr ns :: List.replicate (m - 1) .un
def dfnS (m : Nat) (g : FS) : List Int → Rs D := fun ns => (outN (g (envS m ns))).quiet
theorem renvS {G H : Hp} {E : L2.St → XK} {a : Addr} {ns : List Int} {N : List Str} (s : Same G H) (h : SqL K H a (ns.map V.int)) (hl : 1 ≤ N.length) : REnv K ⟨G, H, E⟩ G (L2.start N [.ref a]) H (envS N.length ns) := by
  refine ⟨Ext.refl s, ?_, fun i t e => ?_, fun i j l m _ e _ => ?_⟩
  · unfold L2.start envS
    simp only [List.length_append, List.length_map, List.length_replicate, List.length_cons, List.length_nil]
    omega
  · cases i with
    | zero =>
      have e : Sl.scr ns = t := by simpa [envS] using e
      subst e
      exact ⟨a, rfl, h⟩
    | succ i =>
      unfold envS at e
      rw [List.getElem?_cons_succ, List.getElem?_replicate] at e
      split at e
      · cases e; trivial
      · cases e
  · cases i with
    | zero => have e : Sl.scr ns = .own l := by simpa [envS] using e
              cases e
    | succ i =>
      unfold envS at e
      rw [List.getElem?_cons_succ, List.getElem?_replicate] at e
      split at e
      · cases e
      · cases e
/-- a def of the script that hands back a new list -/
theorem defScr {x qual : Str} {st : Stmt} {f : Addr} {fd : FuncData} {N : List Str} {p : Str} {k : Nat} {g : FS} (F : Fun K x qual st f fd) (S : FnScope N [p] (defScope st)) (hl : 1 ≤ N.length)
    (hb : ∀ (cdv : Value) (A : Around) (outer : List Env) (s : Shared) (H G : Hp), Am (cxOf CX0 P w K mg base N qual (defScope st) f cdv A outer s H E0).nox → Room k (cxOf CX0 P w K mg base N qual (defScope st) f cdv A outer s H E0).nox.A →
      VSs (cxOf CX0 P w K mg base N qual (defScope st) f cdv A outer s H E0).nox ⟨G, H, fun _ => E0⟩ (defBody st) g) : FnG P w K mg base CX0 (k + 1) f fd [p] (spScr K mg (dfnS N.length g)) := by
  obtain ⟨oc, od, kV, doc, pm, an, cdv, ct, osl, rfl, lk, hcd⟩ := F.ex
  refine fn_ofG lk hcd S (fun vs H Q E h => ?_) fun A outer s H vs Q E hg hr h => ?_
  · obtain ⟨G, a, ns, _, h2, _⟩ := h
    rw [h2]; rfl
  · obtain ⟨G, a, ns, s1, h2, h3, q⟩ := h
    subst h2
    have hb' := hb cdv A outer s H G ⟨hg, hr.mono (Nat.zero_le _), rfl, S.nd⟩ hr
    exact ⟨_, PSs.nox hb', G, _, renvS s1 h3 hl, satSN_of s1 (sat_quiet q)⟩
/-- the law: True of every script -/
def spLaw (K : PySem.W.Frag) : Sp := fun vs H Q _ => ∃ (a : Addr) (ns : List Int), vs = [.ref a] ∧ SqL K H a (ns.map V.int) ∧ ns.length ≤ 63 ∧ ∀ H', Q (.bl true) H'
def isTrueOut : Out → Bool
  | .rt (.bool true) => true
  | _ => false
theorem defLaw {x qual : Str} {st : Stmt} {f : Addr} {fd : FuncData} {N : List Str} {p : Str} {k : Nat} {g : FS} (F : Fun K x qual st f fd) (S : FnScope N [p] (defScope st)) (hl : 1 ≤ N.length)
    (hb : ∀ (cdv : Value) (A : Around) (outer : List Env) (s : Shared) (H G : Hp), Am (cxOf CX0 P w K mg base N qual (defScope st) f cdv A outer s H E0).nox → Room k (cxOf CX0 P w K mg base N qual (defScope st) f cdv A outer s H E0).nox.A →
      VSs (cxOf CX0 P w K mg base N qual (defScope st) f cdv A outer s H E0).nox ⟨G, H, fun _ => E0⟩ (defBody st) g)
    (plain : ∀ ns : List Int, ns.length ≤ 63 → isTrueOut (g (envS N.length ns)) = true) : FnG P w K mg base CX0 (k + 1) f fd [p] (spLaw K) := by
  obtain ⟨oc, od, kV, doc, pm, an, cdv, ct, osl, rfl, lk, hcd⟩ := F.ex
  refine fn_ofG lk hcd S (fun vs H Q E h => ?_) fun A outer s H vs Q E hg hr h => ?_
  · obtain ⟨a, ns, h2, _⟩ := h
    rw [h2]; rfl
  · obtain ⟨a, ns, h2, h3, h4, q⟩ := h
    subst h2
    have hb' := hb cdv A outer s H (fun _ => none) ⟨hg, hr.mono (Nat.zero_le _), rfl, S.nd⟩ hr
    refine ⟨_, PSs.nox hb', fun _ => none, _, renvS (fun _ _ e => by cases e) h3 hl, ?_⟩
    have hp := plain ns h4
    cases ho : g (envS N.length ns) with
    | rt d =>
      rw [ho] at hp
      unfold isTrueOut at hp
      split at hp
      · rename_i e
        cases e
        intro v H' F' x r
        cases r
        exact q H'
      · cases hp
    | _ => rw [ho] at hp; cases hp
end
/-- the head: as HandS.Ends tells it, for FnG -/
theorem law_callG {P : Program} {w : World} {K : PySem.W.Frag} {mg mb : Str → Option Value} {CX : CXT} {k : Nat} {fa a : Addr} {fd : FuncData} {x : Str} {sp : Sp} {s₁ : Shared} {vs : List Value} {ns : List Int}
    (KX : K.In s₁.heap) (hns : s₁.heap.Ns mainGlobals mg) (hb : s₁.heap.Ns builtinsNs mb) (hbb : ∀ x : Str, x ≠ "__name__" → mb x = bootBuiltins x) (hlim : s₁.heap.NoLimit) (hg : s₁.gens = #[])
    (ha : s₁.heap.get? a = some { cls := .type "list", data := .seq vs.toArray }) (hi : IntsAre vs ns) (hl : ns.length ≤ sizeLine) (hr : Room k callerA)
    (F : ∀ base : Heap, K.In base → base.Ns mainGlobals mg → FnG P w K mg base CX k fa fd [x] sp) (hbind : ∀ (s : Shared) (u : Value), BindsTo s fd ⟨[u], []⟩ [(x, u)])
    (hsp : ∀ H : Hp, Only H → SqL K H a (ns.map V.int) → sp [.ref a] H (fun v _ => v = .bl true) fun _ _ _ => False)
    (hCX : ∀ H e s', CX [] H s₁ (fun _ _ _ => False) e s' → False) :
    codeAny (model P w) callerA (.call (.ref fa) ⟨[.ref a], []⟩) (fun r s' => r = .ok (.ret (.bool true)) ∧ OldK s₁.heap s'.heap ∧ s'.os = s₁.os ∧ AllBare s'.gens) s₁ := by
  have rv := vals_ints hi
  have lenV := hi.length
  have core : ∀ H : Hp, Only H → SqL K H a (ns.map V.int) → HOk P w H s₁.heap → (∀ b, H b ≠ none → b = a) → (H a ≠ none → K.lookup a = none) →
      codeAny (model P w) callerA (.call (.ref fa) ⟨[.ref a], []⟩) (fun r s' => r = .ok (.ret (.bool true)) ∧ OldK s₁.heap s'.heap ∧ s'.os = s₁.os ∧ AllBare s'.gens) s₁ := by
    intro H hO hS hok hA hK
    have base_of : ∀ {b : Addr} {o : Obj}, s₁.heap.get? b = some o → H b = none → (hidT s₁.heap H).get? b = some o := fun e n => hidT_get e n
    have noA : ∀ {b : Addr} {o : Obj} {es : Array DictEntry} {ep : Nat}, s₁.heap.get? b = some o → o.data = .dict es ep → H b = none := fun {b o es ep} e d => by
      cases q : H b with
      | none => rfl
      | some u =>
        have e' : b = a := hA b (by rw [q]; simp)
        subst e'
        rw [ha] at e; cases e
        have d' : Data.seq vs.toArray _ = Data.dict es ep := d
        cases d'
    have nsK : ∀ {b : Addr} {m : Str → Option Value}, s₁.heap.Ns b m → (hidT s₁.heap H).Ns b m := fun {b m} ⟨o, es, ep, e, d, r⟩ => ⟨o, es, ep, base_of e (noA e d), d, r⟩
    have hKb : K.In (hidT s₁.heap H) := fun b o e => base_of (KX b o e) (by
      cases q : H b with
      | none => rfl
      | some u =>
        have e' : b = a := hA b (by rw [q]; simp)
        subst e'
        rw [hK (by rw [q]; simp)] at e; cases e)
    have hM : Mod K mg (hidT s₁.heap H) := ⟨hKb, nsK hns, ⟨mb, nsK hb, hbb⟩, let ⟨mc, h1, h2⟩ := hlim; ⟨mc, nsK h1, h2⟩⟩
    have e0 : Env0 P w K mg (hidT s₁.heap H) callerA [] s₁ H := ⟨rfl, hM, fun b o e => of_hidT e, Nat.le_of_eq (hidT_size _ _), trivial, fun b hb => absurd (show b ∈ ([] : List Addr) from hb) (by simp), hok, .of_eq hg⟩
    refine codeAny_mono ((F _ hKb (nsK hns)).run callerA [] s₁ H ⟨[.ref a], []⟩ [.ref a] [.ref a] _ _ rfl hr e0 (hbind s₁ (.ref a)) (.cons rfl .nil) (hsp H hO hS)) fun r s' h => ?_
    cases r with
    | error e => exact (hCX H e s' h).elim
    | ok fl =>
      cases fl with
      | next => exact False.elim h
      | brk => exact False.elim h
      | cont => exact False.elim h
      | ret u =>
        obtain ⟨v, H', os, bare, un, hok', r', q⟩ := h
        have q' : v = .bl true := q
        subst q'
        obtain rfl : u = Value.bool true := r'
        refine ⟨rfl, OldK.of_keep fun b o e => ?_, os, bare⟩
        cases q : H b with
        | none => exact un.keep b o e q (by intro z; exact absurd (show b ∈ ([] : List Addr) from z) (by simp)) (by simp)
        | some u =>
          rcases hO b with z | ⟨ob, xs, z⟩
          · rw [q] at z; cases z
          · have z2 := un.frzs b ob _ z
            obtain ⟨e1, _⟩ := hok b _ z
            obtain ⟨e2, _⟩ := hok' b _ z2
            rw [e] at e1; cases e1
            exact e2
  cases hk : K.lookup a with
  | some o =>
    have e := KX a o hk
    rw [ha] at e
    cases e
    refine core (fun _ => none) (fun _ => .inl rfl) (.inr ⟨_, vs.toArray, _, hk, rfl, rfl, rfl, by rw [List.size_toArray, lenV]; exact hl, by simpa using rv⟩) (fun b u z => by have z' : (none : Option HO) = some u := z; cases z') (fun b z => absurd rfl z) fun z => absurd rfl z
  | none =>
    refine core (fun b => if b = a then some (.frz { cls := .type "list", data := .seq vs.toArray } (.lst (ns.map V.int))) else none) (fun b => ?_) (.inl (.inr ⟨{ cls := .type "list", data := .seq vs.toArray }, if_pos rfl⟩)) (fun b u z => ?_) (fun b z => ?_) fun _ => hk
    · by_cases hb : b = a
      · exact .inr ⟨_, _, if_pos hb⟩
      · exact .inl (if_neg hb)
    · by_cases hb : b = a
      · have z' := (if_pos hb).symm.trans z
        cases z'
        subst hb
        exact ⟨ha, by rw [List.length_map]; exact hl, vs, _, rv, ha⟩
      · have z' := (if_neg hb).symm.trans z
        cases z'
    · by_cases hb : b = a
      · exact hb
      · exact absurd (if_neg hb) z
theorem walkG {l : PySem.W.OpenLaw} {k : Nat} {q : Program} {loose : List Str} {XP : (Str → Option Value) → Heap → Prop} {YP : World → Heap → Prop} {d : DefRec} {K : Params → PySem.W.Frag}
    (hn : l.most = some 63) (hdf : d.params.defaults = []) (hr : Room k callerA)
    (hY : ∀ (w : World) (h : Heap), YP w h → (K w.params).In h)
    (F : ∀ (w : World) (mg : Str → Option Value) (fa : Addr) (h : Heap), (K w.params).In h → h.Ns mainGlobals mg → mg d.name = some (.ref fa) →
      ∃ fd : FuncData, (∀ (s : Shared) (u : Value), BindsTo s fd ⟨[u], []⟩ [("script", u)]) ∧
        ∀ base : Heap, (K w.params).In base → base.Ns mainGlobals mg → FnG l.prog w (K w.params) mg base CX0 k fa fd ["script"] (spLaw (K w.params))) :
    PySem.W.WalkO q loose XP YP l.row.toRowW d [] (fun f vs => PySem.call f vs) := by
  refine Att.attach_call hn hdf fun w s₀ s₁ mg mb fa o pm cd doc a vs ns G Y ho hd hcd hmg hobj hints hlen hg => ?_
  have KX := hY w _ Y
  obtain ⟨fd, hb, hF⟩ := F w mg fa _ KX G.T.g hmg
  exact law_callG KX G.T.g G.T.b G.T.builtins G.T.nolimit hg hobj hints (Nat.le_trans hlen (by decide)) hr hF hb (fun H hO hS => ⟨a, ns, rfl, hS, hlen, fun _ => rfl⟩) fun H e s' z => z
end PD

/-! Part 11: defs in bundles, for the printed derivations -/
namespace PD
open PySem PySem.Spec PyProof.Rows L2
abbrev CXo (P : Program) (w : World) (K : PySem.W.Frag) (mg : Str → Option Value) (base : Heap) (N : List Str) (qual : Str) (scope : Scope) (f : Addr) (cd : Value) (A : Around) (outer : List Env) (s : Shared) (H : Hp) : Cx := (cxOf CX0 P w K mg base N qual scope f cd A outer s H E0).nox
/-- the context of a body that raises nothing -/
abbrev Ct0 (G H : Hp) : Ct := ⟨G, H, fun _ => E0⟩
/-- a def as the top has left it -/
structure Def (K : PySem.W.Frag) (mg : Str → Option Value) (x : Str) (st : Stmt) (ps : List Str) : Prop where
  ex : ∃ f fd, Fun K x x st f fd ∧ mg x = some (.ref f) ∧ PySem.W.keepIn K (.ref f) = true ∧ ∀ us : List Value, us.length = ps.length → bindArgs fd ⟨us, []⟩ = pure (ps.zip us)
/-- a def with its promise -/
structure Cal (P : Program) (w : World) (K : PySem.W.Frag) (mg : Str → Option Value) (base : Heap) (k : Nat) (x : Str) (ps : List Str) (sp : Sp) : Prop where
  ex : ∃ f fd, FnG P w K mg base CX0 k f fd ps sp ∧ mg x = some (.ref f) ∧ PySem.W.keepIn K (.ref f) = true ∧ Binds K fd ps []
section
variable {P : Program} {w : World} {K : PySem.W.Frag} {mg : Str → Option Value} {base : Heap} {k : Nat} {x : Str} {ps N : List Str} {st : Stmt} {g : FS} {Fn : List D → Rs D}
theorem Cal.d (c : Cal P w K mg base k x ps (spN K mg Fn)) : Cal P w K mg base k x ps (spD K mg Fn) := let ⟨f, fd, F, r⟩ := c.ex; ⟨f, fd, F.d, r⟩
theorem Cal.mono {j : Nat} {sp : Sp} (c : Cal P w K mg base j x ps sp) (h : j ≤ k) : Cal P w K mg base k x ps sp := let ⟨f, fd, F, r⟩ := c.ex; ⟨f, fd, F.mono h, r⟩
theorem Def.d0 (d : Def K mg x st ps) (S : FnScope N ps (defScope st)) (hl : ps.length ≤ N.length)
    (hb : ∀ (f : Addr) (cdv : Value) (A : Around) (outer : List Env) (s : Shared) (H G : Hp), Am (CXo P w K mg base N x (defScope st) f cdv A outer s H) → Room k (CXo P w K mg base N x (defScope st) f cdv A outer s H).A →
      VSs (CXo P w K mg base N x (defScope st) f cdv A outer s H) (Ct0 G H) (defBody st) g) : Cal P w K mg base (k + 1) x ps (spD K mg (dfn0 N.length ps.length g)) :=
  let ⟨f, fd, F, h1, h2, h3⟩ := d.ex; ⟨f, fd, def0 F S hl fun cdv A outer s H G => hb f cdv A outer s H G, h1, h2, Binds.all h3⟩
theorem Def.d0N (d : Def K mg x st ps) (S : FnScope N ps (defScope st)) (hl : ps.length ≤ N.length)
    (hb : ∀ (f : Addr) (cdv : Value) (A : Around) (outer : List Env) (s : Shared) (H G : Hp), Am (CXo P w K mg base N x (defScope st) f cdv A outer s H) → Room k (CXo P w K mg base N x (defScope st) f cdv A outer s H).A →
      VSs (CXo P w K mg base N x (defScope st) f cdv A outer s H) (Ct0 G H) (defBody st) g) : Cal P w K mg base (k + 1) x ps (spN K mg (dfn0N N.length ps.length g)) :=
  let ⟨f, fd, F, h1, h2, h3⟩ := d.ex; ⟨f, fd, def0N F S hl fun cdv A outer s H G => hb f cdv A outer s H G, h1, h2, Binds.all h3⟩
theorem Def.scr {p : Str} (d : Def K mg x st [p]) (S : FnScope N [p] (defScope st)) (hl : 1 ≤ N.length)
    (hb : ∀ (f : Addr) (cdv : Value) (A : Around) (outer : List Env) (s : Shared) (H G : Hp), Am (CXo P w K mg base N x (defScope st) f cdv A outer s H) → Room k (CXo P w K mg base N x (defScope st) f cdv A outer s H).A →
      VSs (CXo P w K mg base N x (defScope st) f cdv A outer s H) (Ct0 G H) (defBody st) g) : Cal P w K mg base (k + 1) x [p] (spScr K mg (dfnS N.length g)) :=
  let ⟨f, fd, F, h1, h2, h3⟩ := d.ex; ⟨f, fd, defScr F S hl fun cdv A outer s H G => hb f cdv A outer s H G, h1, h2, Binds.all h3⟩
theorem fs (h1 : (defScope st).kind = .function) (h2 : (defScope st).isCoroutine = false) (h3 : (defScope st).isGenerator = false) (h4 : N.Nodup) (h5 : N.take ps.length = ps) (h6 : (ps.all fun x => (defScope st).names.lookup x == some .local || (defScope st).names.lookup x == some .cell) = true)
    (h7 : ((defScope st).names.all fun y => match y.2 with | .free => false | _ => true) = true) : FnScope N ps (defScope st) := by
  refine ⟨h1, h2, h3, h4, h5, fun x hx => ?_, fun y hy e => ?_⟩
  · have q := List.all_eq_true.mp h6 x hx
    have bq : ∀ (a b : Option NameKind), (a == b) = true → a = b := fun a b h => by
      cases a with
      | none => cases b with
        | none => rfl
        | some _ => cases h
      | some a => cases b with
        | none => cases h
        | some b => cases a <;> cases b <;> first | rfl | cases h
    rcases Bool.or_eq_true_iff.mp q with z | z
    · exact .inl (bq _ _ z)
    · exact .inr (bq _ _ z)
  · have q := List.all_eq_true.mp h7 y hy
    rw [e] at q
    cases q
end
section
variable {X : Cx} {C : Ct}
theorem Am.blk {s : Shared} {H : Hp} {scope : Scope} {ce : Env} {fp : List Addr} (am : Am X) : Am (X.blk s H scope ce fp) := ⟨am.g, am.r, am.c, am.n⟩
theorem pa0 {E : L2.St → XK} : ∀ σ, PassesAt CX0 X σ (E σ) := fun _ _ _ _ _ _ _ h => h.elim
variable {k : Nat} {x : Str} {ps : List Str} {Fn : List D → Rs D} {fa : FA} {e : Expr} {es : List Expr} {p pos : Pos} {j : Nat}
theorem ve_calC (c : Cal X.prog X.w X.K X.mg X.base j x ps (spD X.K X.mg Fn)) (am : Am X) (hr : Room k X.A) (ha : VA X C (e :: es) fa) (hj : j ≤ k := by first | decide | omega) (hg : Gl X x := by rfl)
    (hdb : (x == ("__debug__" : Str)) = false := by decide) (he : starEach (e :: es) X.env = (false, eval e X.env) :: starEach es X.env := by rfl) (hpl : (backTo pos (starEach es X.env)).any (·.1) = false := by rfl) :
    VE X C (.Call (.Name x p) (e :: es) [] pos) (fCall Fn fa) := let ⟨f, fd, F, hm, hk, hb⟩ := c.ex; ve_call F am (hr.mono hj) hg hm hk hb pa0 ha hdb he hpl
theorem vn_calC (c : Cal X.prog X.w X.K X.mg X.base j x ps (spN X.K X.mg Fn)) (am : Am X) (hr : Room k X.A) (ha : VA X C (e :: es) fa) (hj : j ≤ k := by first | decide | omega) (hg : Gl X x := by rfl)
    (hdb : (x == ("__debug__" : Str)) = false := by decide) (he : starEach (e :: es) X.env = (false, eval e X.env) :: starEach es X.env := by rfl) (hpl : (backTo pos (starEach es X.env)).any (·.1) = false := by rfl) :
    VN X C (.Call (.Name x p) (e :: es) [] pos) (fCall Fn fa) := let ⟨f, fd, F, hm, hk, hb⟩ := c.ex; vn_call F am (hr.mono hj) hg hm hk hb pa0 ha hdb he hpl
theorem vn_calS {Fn : List Int → Rs D} {y : Str} {p2 : Pos} (i : Nat) (c : Cal X.prog X.w X.K X.mg X.base j x ps (spScr X.K X.mg Fn)) (am : Am X) (hr : Room k X.A) (hj : j ≤ k := by first | decide | omega) (hg : Gl X x := by rfl) (hN : X.N[i]? = some y := by rfl) (hv : Vis X.env.scope y := by first | exact Or.inl rfl | exact Or.inr (Or.inl rfl) | exact Or.inr (Or.inr rfl)) (hd : (y == ("__debug__" : Str)) = false := by decide)
    (hcd : (y == ("__classdict__" : Str)) = false := by decide) (hdb : (x == ("__debug__" : Str)) = false := by decide) (he : starEach [.Name y p2] X.env = (false, eval (.Name y p2) X.env) :: starEach [] X.env := by rfl) (hpl : (backTo pos (starEach [] X.env)).any (·.1) = false := by rfl) :
    VN X C (.Call (.Name x p) [.Name y p2] [] pos) (fScrCall i Fn) := let ⟨f, fd, F, hm, hk, hb⟩ := c.ex; vn_callScr i F am (hr.mono hj) hg hm hk hb pa0 hN hv hd hcd hdb he hpl
/-- a tuple of the module -/
theorem tupG {K : PySem.W.Frag} {a : Addr} {od : Option Addr} {its : Array Value} {n : Nat} {sl : Array (Option Value)} {vs : List V} {ds : List D} (h : K.lookup a = some ⟨.type "tuple", od, .seq its n, sl⟩) (hv : Vals vs its.toList) (hl : vs.length ≤ LINE) (r : ∀ H, RpAll K H vs ds) (H : Hp) : Rp K H (.ref a) (.tuple ds) :=
  .tup (.inr ⟨_, its, n, h, rfl, rfl, by
    have e : vs.length = its.size := by rw [hv.length, Array.length_toList]
    rw [← e, line_eq]
    exact hl, hv⟩) (r H)
end
/-- a constant of the module -/
structure GlobV (K : PySem.W.Frag) (mg : Str → Option Value) (x : Str) (d : D) : Prop where
  ex : ∃ v u, mg x = some u ∧ L2.RelV v u ∧ ∀ H, Rp K H v d
theorem ve_globC {X : Cx} {C : Ct} {x : Str} {d : D} {pos : Pos} (h : GlobV X.K X.mg x d) (hg : Gl X x := by rfl) (hd : (x == ("__debug__" : Str)) = false := by decide) : VE X C (.Name x pos) (fC d) := let ⟨_, _, h1, h2, h3⟩ := h.ex; ve_glob hg h1 h2 h3 hd
theorem GlobV.int {K : PySem.W.Frag} {mg : Str → Option Value} {h : Heap} {x : Str} {i : Int} {t : Tok} (X : K.In h) (G : h.Ns mainGlobals mg) (e : PySem.W.nsIn K mainGlobals x = some (some (.int i t))) : GlobV K mg x (.int i) := ⟨.int i, _, PySem.W.mg_of X G e, ⟨t, rfl⟩, fun _ => .int i⟩
theorem GlobV.str {K : PySem.W.Frag} {mg : Str → Option Value} {h : Heap} {x : Str} {i : Str} {t : Tok} (X : K.In h) (G : h.Ns mainGlobals mg) (e : PySem.W.nsIn K mainGlobals x = some (some (.str i t))) : GlobV K mg x (.str i) := ⟨.str i, _, PySem.W.mg_of X G e, ⟨t, rfl⟩, fun _ => .str i⟩
theorem GlobV.tup {K : PySem.W.Frag} {mg : Str → Option Value} {h : Heap} {x : Str} {a : Addr} {od : Option Addr} {its : Array Value} {n : Nat} {sl : Array (Option Value)} {vs : List V} {ds : List D} (X : K.In h) (G : h.Ns mainGlobals mg) (e : PySem.W.nsIn K mainGlobals x = some (some (.ref a)))
    (l : K.lookup a = some ⟨.type "tuple", od, .seq its n, sl⟩) (hv : Vals vs its.toList) (hl : vs.length ≤ LINE) (r : ∀ H, RpAll K H vs ds) : GlobV K mg x (.tuple ds) := ⟨.ref a, _, PySem.W.mg_of X G e, rfl, tupG l hv hl r⟩
theorem Def.mk' {K : PySem.W.Frag} {mg : Str → Option Value} {h : Heap} {x : Str} {st : Stmt} {ps : List Str} {f : Addr} {od an : Option Addr} {oc kV dc pm cd ct : Value} {sl : Array (Option Value)} (X : K.In h) (G : h.Ns mainGlobals mg)
    (a : PySem.W.nsIn K mainGlobals x = some (some (.ref f))) (l : K.lookup f = some ⟨oc, od, .func (PySem.W.fnOf x x (defArgs st) (defBody st) (defScope st) .none kV dc pm an cd ct), sl⟩) (c : PySem.W.codeIn K cd x = true) (k : PySem.W.keepIn K (.ref f) = true)
    (hb : ∀ us : List Value, us.length = ps.length → bindArgs (PySem.W.fnOf x x (defArgs st) (defBody st) (defScope st) .none kV dc pm an cd ct) ⟨us, []⟩ = pure (ps.zip us)) : Def K mg x st ps :=
  ⟨f, _, fun_mk l c k, PySem.W.mg_of X G a, k, hb⟩
/-- what the head asks -/
theorem lawHead {P : Program} {w : World} {K : PySem.W.Frag} {mg : Str → Option Value} {k : Nat} {st : Stmt} {fa : Addr} (d : Def K mg "law" st ["script"]) (hfa : mg "law" = some (.ref fa))
    (h : ∀ (f : Addr) (fd : FuncData) (base : Heap), Fun K "law" "law" st f fd → FnG P w K mg base CX0 k f fd ["script"] (spLaw K)) :
    ∃ fd : FuncData, (∀ (s : Shared) (v : Value), BindsTo s fd ⟨[v], []⟩ [("script", v)]) ∧ ∀ base : Heap, K.In base → base.Ns mainGlobals mg → FnG P w K mg base CX0 k fa fd ["script"] (spLaw K) := by
  obtain ⟨f, fd, F, h1, h2, h3⟩ := d.ex
  have e := h1.symm.trans hfa
  cases e
  exact ⟨fd, fun s v => .of_eq (h3 [v] rfl), fun base _ _ => h _ fd base F⟩
end PD

/-! Part 12: the plain side: how mirrors are reckoned -/
namespace PD
open PySem PySem.Spec PyProof.Rows L2

/-! ### data told by a test -/
def okD (r : Rs D) (d : D) : Bool := match r with
  | .ok e => eqD e d
  | _ => false
theorem okD_eq {r : Rs D} {d : D} (h : okD r d = true) : r = .ok d := by
  unfold okD at h
  split at h
  · rw [eqD_eq _ _ h]
  · cases h
mutual
theorem eqD_refl : ∀ a : D, a.plain = true → eqD a a = true
  | .none, _ => rfl
  | .bool a, _ => by simp [eqD]
  | .int a, _ => by simp [eqD]
  | .str a, _ => by simp [eqD]
  | .list l, h => eqDs_refl l (by simpa [PyData.plain] using h)
  | .tuple l, h => eqDs_refl l (by simpa [PyData.plain] using h)
  | .dict _, h => by cases h
theorem eqDs_refl : ∀ as : List D, PyData.plainAll as = true → eqDs as as = true
  | [], _ => rfl
  | a :: as, h => by
    have h : (a.plain && PyData.plainAll as) = true := h
    rw [Bool.and_eq_true] at h
    show (eqD a a && eqDs as as) = true
    rw [eqD_refl a h.1, eqDs_refl as h.2]; rfl
end

/-! ### comparisons -/
section
variable (a b : Int) (x y : Str)
@[simp] theorem shal_int : shal (.int a) = true := by simp [shal, PyData.depth]
@[simp] theorem shal_bool (b : Bool) : shal (.bool b) = true := by simp [shal, PyData.depth]
@[simp] theorem shal_none : shal .none = true := by simp [shal, PyData.depth]
@[simp] theorem shal_s : shal (.str x) = true := by simp [shal, PyData.depth]
@[simp] theorem dLt_int : dLt (.int a) (.int b) = some (.bool (decide (a < b))) := by
  have : dLtC (.int a) (.int b) = true := by simp [dLtC, PySem.W.alike, notNone]
  simp only [dLt, this, if_true, PySem.W.dataLt_int]
@[simp] theorem dGt_int : dGt (.int a) (.int b) = some (.bool (decide (b < a))) := by
  have : dLtC (.int a) (.int b) = true := by simp [dLtC, PySem.W.alike, notNone]
  simp only [dGt, this, if_true, PySem.W.dataLt_int]
@[simp] theorem dLe_int : dLe (.int a) (.int b) = some (.bool (decide (a ≤ b))) := by
  have : dLtC (.int a) (.int b) = true := by simp [dLtC, PySem.W.alike, notNone]
  simp only [dLe, this, if_true, PySem.W.dataLt_int]
  by_cases h : a ≤ b
  · simp [h, Int.not_lt.mpr h]
  · simp [h, Int.not_le.mp h]
@[simp] theorem dGe_int : dGe (.int a) (.int b) = some (.bool (decide (b ≤ a))) := by
  have : dLtC (.int a) (.int b) = true := by simp [dLtC, PySem.W.alike, notNone]
  simp only [dGe, this, if_true, PySem.W.dataLt_int]
  by_cases h : b ≤ a
  · simp [h, Int.not_lt.mpr h]
  · simp [h, Int.not_le.mp h]
@[simp] theorem dEq_int : dEq (.int a) (.int b) = some (.bool (decide (a = b))) := by
  simp only [dEq, shal_int, Bool.or_self, if_true, PyData.eqv]
  rfl
@[simp] theorem dNe_int : dNe (.int a) (.int b) = some (.bool (!decide (a = b))) := by
  simp only [dNe, shal_int, Bool.or_self, if_true, PyData.eqv]
  rfl
@[simp] theorem dEq_str : dEq (.str x) (.str y) = some (.bool (x == y)) := by
  simp [dEq, PyData.eqv]
@[simp] theorem dNe_str : dNe (.str x) (.str y) = some (.bool (!(x == y))) := by
  simp [dNe, PyData.eqv]
end
@[simp] theorem intsD_map : ∀ l : List Int, intsD (l.map PyData.int) = some l
  | [] => rfl
  | a :: l => by simp [intsD, intsD_map l]
@[simp] theorem boolsD_map : ∀ l : List Bool, boolsD (l.map PyData.bool) = some l
  | [] => rfl
  | a :: l => by simp [boolsD, boolsD_map l]
@[simp] theorem strsD_map : ∀ l : List Str, strsD (l.map PyData.str) = some l
  | [] => rfl
  | a :: l => by simp [strsD, strsD_map l]

/-! ### loops -/
theorem loopF_inv {t : Tgt} {body : FS} {ds : List D} (I : Nat → List Sl → Prop) (h : ∀ (i : Nat) (env : List Sl) (d : D), ds[i]? = some d → I i env → ∃ e e', t.put d env = some e ∧ body e = .nx e' ∧ I (i + 1) e') :
    ∀ env, I 0 env → ∃ e', loopF t body ds env = .nx e' ∧ I ds.length e' := by
  have key : ∀ (n i : Nat) (env : List Sl), n + i = ds.length → I i env → ∃ e', loopF t body (ds.drop i) env = .nx e' ∧ I ds.length e' := by
    intro n
    induction n with
    | zero =>
      intro i env hn hi
      have e : i = ds.length := by omega
      subst e
      rw [List.drop_eq_nil_of_le (Nat.le_refl _)]
      exact ⟨env, rfl, hi⟩
    | succ n ih =>
      intro i env hn hi
      have hlt : i < ds.length := by omega
      obtain ⟨e, e', h1, h2, h3⟩ := h i env ds[i] (List.getElem?_eq_getElem hlt) hi
      obtain ⟨e2, h4, h5⟩ := ih (i + 1) e' (by omega) h3
      refine ⟨e2, ?_, h5⟩
      rw [List.drop_eq_getElem_cons hlt]
      simp only [loopF, h1, h2]
      exact h4
  intro env h0
  exact key ds.length 0 env rfl h0
/-- a comprehension whose turns all give something -/
theorem lcGo_map {t : Tgt} {tt : FB} {k : List Sl → Rs (List D)} {env : List Sl} (F : D → List D) : ∀ ds : List D, (∀ d ∈ ds, ∃ e b, t.put d env = some e ∧ tt e = .ok b ∧ (b = true → k e = .ok (F d)) ∧ (b = false → F d = [])) → lcGo t tt k env ds = .ok (ds.flatMap F)
  | [], _ => rfl
  | d :: ds, h => by
    obtain ⟨e, b, h1, h2, h3, h4⟩ := h d List.mem_cons_self
    have ih := lcGo_map (t := t) (tt := tt) (k := k) (env := env) F ds fun c hc => h c (List.mem_cons_of_mem _ hc)
    simp only [lcGo, h1, h2, Rs.bind_ok, List.flatMap_cons]
    cases b with
    | true => simp [h3 rfl, ih]
    | false => simp [h4 rfl, ih]
@[simp] theorem rng_eq (n : Nat) : (List.range n).length = n := List.length_range
theorem iRng1_n {n : Nat} (h : n ≤ 1000000) : iRng1D [.int (n : Int)] = some (rng 0 n) := by
  have hb : (n : Int).natAbs ≤ BIG := by unfold BIG; omega
  show (if (n : Int).natAbs ≤ BIG then some (rng 0 (n : Int).toNat) else none) = _
  rw [if_pos hb]; rfl
theorem iRng2_n {a b : Int} (ha : a.natAbs ≤ 1000000) (hb : b.natAbs ≤ 1000000) : iRng2D [.int a, .int b] = some (rng a (b - a).toNat) := by
  have hb : a.natAbs ≤ BIG ∧ b.natAbs ≤ BIG := ⟨by unfold BIG; omega, by unfold BIG; omega⟩
  show (if a.natAbs ≤ BIG ∧ b.natAbs ≤ BIG then some (rng a (b - a).toNat) else none) = _
  rw [if_pos hb]
def intL (l : List Int) : List D := l.map .int
theorem intL_snoc (l : List Int) (x : Int) : intL l ++ [PyData.int x] = intL (l ++ [x]) := by simp [intL]
theorem intL_len (l : List Int) : (intL l).length = l.length := by simp [intL]
theorem rng_get {lo : Int} {n i : Nat} {d : D} (h : (rng lo n)[i]? = some d) : i < n ∧ d = .int (lo + (i : Nat)) := by
  unfold rng at h
  rw [List.getElem?_map] at h
  by_cases q : i < n
  · rw [List.getElem?_range q] at h
    exact ⟨q, by simpa using h.symm⟩
  · rw [List.getElem?_eq_none (by simpa using q)] at h; cases h
theorem rng_len (lo : Int) (n : Nat) : (rng lo n).length = n := by simp [rng]
theorem d_add (a b : Int) : dAdd (.int a) (.int b) = some (.int (a + b)) := rfl
theorem d_int (a : Int) : dInt [.int a] = some (.int a) := rfl
theorem d_mod {a b : Int} (h : 0 < b) : dMod (.int a) (.int b) = some (.int (a % b)) := if_pos h
theorem d_div {a b : Int} (h : 0 < b ∧ b.natAbs < 1073741824) : dDiv (.int a) (.int b) = some (.int (a / b)) := if_pos h
theorem d_mulR {a b : Int} (h : b.natAbs < BIT64) : dMul (.int a) (.int b) = some (.int (a * b)) := if_pos (.inr h)
theorem d_mulL {a b : Int} (h : a.natAbs < BIT64) : dMul (.int a) (.int b) = some (.int (a * b)) := if_pos (.inl h)
theorem e_seq {g g' : FS} {e e' : List Sl} {o : Out} (h : g e = .nx e') (h' : g' e' = o) : sSeq g g' e = o := by unfold sSeq; rw [h]; exact h'
theorem e_if {c : FB} {g g' : FS} {e : List Sl} {b : Bool} {o : Out} (h : c e = .ok b) (h' : (if b = true then g e else g' e) = o) : sIf c g g' e = o := by unfold sIf; rw [h]; exact h'
theorem e_f2 {k : D → D → Option D} {f f' : FE} {e : List Sl} {a b c : D} (h : f e = .ok a) (h' : f' e = .ok b) (hk : k a b = some c) : f2 k f f' e = .ok c := by unfold f2; rw [h]; show (f' e).bind _ = _; rw [h']; show Rs.ofO (k a b) = _; rw [hk]; rfl
theorem e_cb1 {k : List D → Option D} {f : FE} {e : List Sl} {a c : D} (h : f e = .ok a) (hk : k [a] = some c) : fCB k (aCons f aNil) e = .ok c := by unfold fCB aCons aNil; rw [h]; show Rs.ofO (k [a]) = _; rw [hk]; rfl
theorem e_cb2 {k : List D → Option D} {f f' : FE} {e : List Sl} {a b c : D} (h : f e = .ok a) (h' : f' e = .ok b) (hk : k [a, b] = some c) : fCB k (aCons f (aCons f' aNil)) e = .ok c := by
  unfold fCB aCons aNil; rw [h]; show (((f' e).bind _).bind _).bind _ = _; rw [h']; show Rs.ofO (k [a, b]) = _; rw [hk]; rfl
theorem e_B {f : FE} {e : List Sl} {b : Bool} (h : f e = .ok (.bool b)) : fB f e = .ok b := by unfold fB; rw [h]; rfl
theorem e_scrIx {f : FE} {e : List Sl} {ns : List Int} {k c : Int} (h0 : e[0]? = some (.scr ns)) (h : f e = .ok (.int k)) (ha : atI ns k = some c) : fScrIx 0 f e = .ok (.int c) := by
  unfold fScrIx; rw [h0]; show (f e).bind _ = _; rw [h]; show Rs.ofO _ = _; rw [ha]; rfl
theorem e_setN {i : Nat} {f : FE} {e e' : List Sl} {l : List D} (h : f e = .ok (.list l)) (h' : e.set i (.own l) = e') : sSetN i f e = .nx e' := by unfold sSetN; rw [h]; show Out.nx (e.set i (.own l)) = _; rw [h']
theorem e_set {i : Nat} {f : FE} {e e' : List Sl} {d : D} (h : f e = .ok d) (h' : e.set i (.sh d) = e') : sSet i f e = .nx e' := by unfold sSet; rw [h]; show Out.nx (e.set i (.sh d)) = _; rw [h']
theorem e_setF {i : Nat} {f : FE} {e e' : List Sl} {l : List D} (h : f e = .ok (.list l)) (h' : e.set i (.sh (.list l)) = e') : sSetF i f e = .nx e' := by unfold sSetF; rw [h]; show Out.nx (e.set i (.sh (.list l))) = _; rw [h']
theorem e_var {i : Nat} {e : List Sl} {d : D} (h : e[i]? = some (.sh d)) : fVar i e = .ok d := by unfold fVar; rw [h]
theorem e_call {Fn : List D → Rs D} {fa : FA} {e : List Sl} {ds : List D} {d : D} (h : fa e = .ok ds) (h' : Fn ds = .ok d) : fCall Fn fa e = .ok d := by unfold fCall; rw [h]; exact h'
theorem e_nil {e : List Sl} : aNil e = .ok [] := rfl
theorem e_cons {f : FE} {fa : FA} {e : List Sl} {d : D} {ds : List D} (h : f e = .ok d) (h' : fa e = .ok ds) : aCons f fa e = .ok (d :: ds) := by unfold aCons; rw [h]; show (fa e).bind _ = _; rw [h']; rfl
theorem e_cb {k : List D → Option D} {fa : FA} {e : List Sl} {ds : List D} {c : D} (h : fa e = .ok ds) (hk : k ds = some c) : fCB k fa e = .ok c := by unfold fCB; rw [h]; show Rs.ofO (k ds) = _; rw [hk]; rfl
theorem e_lst {fa : FA} {e : List Sl} {ds : List D} (h : fa e = .ok ds) (hl : ds.length ≤ LINE) : fLst fa e = .ok (.list ds) := by unfold fLst; rw [h]; exact if_pos hl
theorem e_tup {fa : FA} {e : List Sl} {ds : List D} (h : fa e = .ok ds) (hl : ds.length ≤ LINE) : fTup fa e = .ok (.tuple ds) := by unfold fTup; rw [h]; exact if_pos hl
theorem le_line {n : Nat} (h : n ≤ 1000000) : n ≤ LINE := Nat.le_trans h (by unfold LINE; omega)
theorem lt_line {n : Nat} (h : n ≤ 1000000) : n < LINE := Nat.lt_of_le_of_lt h (by unfold LINE; omega)
theorem e_lst0 {e : List Sl} : fLst aNil e = .ok (.list []) := e_lst e_nil (le_line (Nat.zero_le _))
theorem e_fIf {g : FB} {f f' : FE} {e : List Sl} {b : Bool} {r : Rs D} (h : g e = .ok b) (h' : (if b = true then f e else f' e) = r) : fIf g f f' e = r := by unfold fIf; rw [h]; exact h'
theorem e_or {g g' : FB} {e : List Sl} {a b : Bool} (h : g e = .ok a) (h' : a = false → g' e = .ok b) : fOr g g' e = .ok (a || b) := by
  unfold fOr; rw [h]; cases a with
  | true => rfl
  | false => exact h' rfl
theorem e_and {g g' : FB} {e : List Sl} {a b : Bool} (h : g e = .ok a) (h' : a = true → g' e = .ok b) : fAnd g g' e = .ok (a && b) := by
  unfold fAnd; rw [h]; cases a with
  | false => rfl
  | true => exact h' rfl
theorem e_not {g : FB} {e : List Sl} {a : Bool} (h : g e = .ok a) : fNot g e = .ok (!a) := by unfold fNot; rw [h]; rfl
theorem e_tru {f : FE} {e : List Sl} {d : D} {b : Bool} (h : f e = .ok d) (h' : truD d = some b) : fTru f e = .ok b := by unfold fTru; rw [h]; show Rs.ofO (truD d) = _; rw [h']; rfl
theorem e_th {g : FB} {e e' : List Sl} {r : Rs Bool} (he : thaw e = e') (h : g e' = r) : fThB g e = r := by unfold fThB; rw [he]; exact h
theorem e_asg {t : Tgt} {f : FE} {e e' : List Sl} {d : D} (h : f e = .ok d) (h' : t.put d e = some e') : sAsg t f e = .nx e' := by unfold sAsg; rw [h]; show (match t.put d e with | some e => Out.nx e | none => .no) = _; rw [h']
theorem e_drop {f : FE} {e : List Sl} {d : D} (h : f e = .ok d) : sDrop f e = .nx e := by unfold sDrop; rw [h]; rfl
theorem e_ret {f : FE} {e : List Sl} {d : D} (h : f e = .ok d) : sRet f e = .rt d := by unfold sRet; rw [h]; rfl
theorem e_retN {f : FE} {e : List Sl} {d : D} (h : f e = .ok d) : sRetN f e = .rn d := by unfold sRetN; rw [h]; rfl
theorem e_retO {i : Nat} {e : List Sl} {l : List D} (h : e[i]? = some (.own l)) : sRetO i e = .rn (.list l) := by unfold sRetO; rw [h]
theorem e_for {t : Tgt} {gi : FA} {g : FS} {e : List Sl} {ds : List D} {o : Out} (h : gi e = .ok ds) (h' : loopF t g ds e = o) : sFor t gi g e = o := by unfold sFor; rw [h]; exact h'
theorem e_appI {i : Nat} {f : FE} {e e' : List Sl} {l : List D} {d : D} (h0 : e[i]? = some (.own l)) (h : f e = .ok d) (hl : l.length < LINE) (h' : e.set i (.own (l ++ [d])) = e') : sApp i f e = .nx e' := by
  unfold sApp; rw [h0]; show bindO (f e) _ = _; rw [h]; show (if l.length < LINE then Out.nx (e.set i (.own (l ++ [d]))) else .no) = _; rw [if_pos hl, h']
theorem e_par {i j : Nat} {ma mb : FM} {e e' : List Sl} {a b : Mv} (h : ma e = .ok a) (h' : mb e = .ok b) (h2 : (e.set i a.sl).set j b.sl = e') : sPar i j ma mb e = .nx e' := by unfold sPar; rw [h]; show bindO (mb e) _ = _; rw [h']; show Out.nx _ = _; rw [h2]
theorem e_mS {f : FE} {e : List Sl} {d : D} (h : f e = .ok d) : mS f e = .ok (.s d) := by unfold mS; rw [h]; rfl
theorem e_mN {f : FE} {e : List Sl} {l : List D} (h : f e = .ok (.list l)) : mN f e = .ok (.n l) := by unfold mN; rw [h]; rfl
theorem e_iSeq {f : FE} {e : List Sl} {d : D} {ds : List D} (h : f e = .ok d) (h' : seqD d = some ds) : iSeq f e = .ok ds := by unfold iSeq; rw [h]; show Rs.ofO _ = _; rw [h']; rfl
theorem e_rng1 {f : FE} {e : List Sl} {n : Nat} (h : f e = .ok (.int n)) (hn : n ≤ 1000000) : iRng1F (aCons f aNil) e = .ok (rng 0 n) := by
  unfold iRng1F; rw [e_cons h e_nil, Rs.bind_ok, iRng1_n hn]; rfl
theorem e_lc {gi : FA} {t : Tgt} {tt : FB} {f : FE} {vs : List Nat} {e : List Sl} {ds out : List D} (h : gi e = .ok ds) (h' : lcGo t tt (one f) (wipeE e vs) ds = .ok out) (hl : out.length ≤ LINE) : fLc gi t tt f vs e = .ok (.list out) := by
  unfold fLc; rw [h]; show ((lcGo t tt (one f) (wipeE e vs) ds).quiet.bind _) = _; rw [h']; exact if_pos hl
theorem e_one {f : FE} {e : List Sl} {d : D} (h : f e = .ok d) : one f e = .ok [d] := by unfold one; rw [h]; rfl
/-- the result of a def that raises nothing -/
theorem d_fn {m n : Nat} {g : FS} {ds : List D} {d : D} {e : List Sl} (hn : ds.length = n) (he : env0 m ds = e) (h : g e = .rt d) : dfn0 m n g ds = .ok d := by unfold dfn0; rw [if_pos hn, he, h]; rfl
theorem d_fnR {m n : Nat} {g : FS} {ds : List D} {d : D} {e : List Sl} (hn : ds.length = n) (he : env0 m ds = e) (h : g e = .rn d) : dfn0 m n g ds = .ok d := by unfold dfn0; rw [if_pos hn, he, h]; rfl
theorem d_fnX {m n : Nat} {g : FS} {ds : List D} {e e' : List Sl} (hn : ds.length = n) (he : env0 m ds = e) (h : g e = .nx e') : dfn0 m n g ds = .ok .none := by unfold dfn0; rw [if_pos hn, he, h]; rfl
theorem d_fnN {m n : Nat} {g : FS} {ds : List D} {d : D} {e : List Sl} (hn : ds.length = n) (he : env0 m ds = e) (h : g e = .rn d) : dfn0N m n g ds = .ok d := by unfold dfn0N; rw [if_pos hn, he, h]; rfl
theorem e_lcC {t : Tgt} {tt : FB} {k : List Sl → Rs (List D)} {env e : List Sl} {d : D} {ds ys r : List D} (h : t.put d env = some e) (ht : tt e = .ok true) (hk : k e = .ok ys) (hr : lcGo t tt k env ds = .ok r) : lcGo t tt k env (d :: ds) = .ok (ys ++ r) := by
  simp only [lcGo, h, ht, Rs.bind_ok, if_true, hk, hr]
theorem e_lcS {t : Tgt} {tt : FB} {k : List Sl → Rs (List D)} {env e : List Sl} {d : D} {ds r : List D} (h : t.put d env = some e) (ht : tt e = .ok false) (hr : lcGo t tt k env ds = .ok r) : lcGo t tt k env (d :: ds) = .ok r := by
  simp only [lcGo, h, ht, Rs.bind_ok, Bool.false_eq_true, if_false, hr]
theorem e_loopC {t : Tgt} {body : FS} {d : D} {ds : List D} {env e e' : List Sl} {o : Out} (h : t.put d env = some e) (hb : body e = .nx e') (hr : loopF t body ds e' = o) : loopF t body (d :: ds) env = o := by
  simp only [loopF, h, hb, hr]
theorem e_loopR {t : Tgt} {body : FS} {d v : D} {ds : List D} {env e : List Sl} (h : t.put d env = some e) (hb : body e = .rt v) : loopF t body (d :: ds) env = .rt v := by
  simp only [loopF, h, hb]
theorem e_seqR {g g' : FS} {e : List Sl} {d : D} (h : g e = .rt d) : sSeq g g' e = .rt d := by unfold sSeq; rw [h]; rfl
theorem e_ixO {i : Nat} {f : FE} {e : List Sl} {l : List D} {d c : D} (h0 : e[i]? = some (.own l)) (h : f e = .ok d) (hk : dIx (.list l) d = some c) : fIxO i f e = .ok c := by
  unfold fIxO; rw [h0]; show (f e).bind _ = _; rw [h]; show Rs.ofO _ = _; rw [hk]; rfl
def okI (r : Rs D) (i : Int) : Bool := match r with
  | .ok (.int j) => decide (i = j)
  | _ => false
theorem okI_eq {r : Rs D} {i : Int} (h : okI r i = true) : r = .ok (.int i) := by
  unfold okI at h
  split at h
  · rw [of_decide_eq_true h]
  · cases h
def okO (r : Option D) (d : D) : Bool := match r with
  | some e => eqD e d
  | none => false
theorem okO_eq {r : Option D} {d : D} (h : okO r d = true) : r = some d := by
  unfold okO at h
  split at h
  · rw [eqD_eq _ _ h]
  · cases h
theorem e_f1 {k : D → Option D} {f : FE} {e : List Sl} {a c : D} (h : f e = .ok a) (hk : k a = some c) : f1 k f e = .ok c := by unfold f1; rw [h]; show Rs.ofO (k a) = _; rw [hk]; rfl
theorem d_neg (a : Int) : dNeg (.int a) = some (.int (-a)) := rfl
theorem d_ix {l : List D} {i : Int} {c : D} (h : atI l i = some c) : dIx (.list l) (.int i) = some c := h
theorem e_c {d : D} {e : List Sl} : fC d e = .ok d := rfl
theorem e_f3 {k k' : D → D → Option D} {f f' f'' : FE} {e : List Sl} {a b c m : D} {t : Bool} (h : f e = .ok a) (h' : f' e = .ok b) (hk : k a b = some (.bool t)) (ht : t = true) (h'' : f'' e = .ok c) (hk' : k' b c = some m) : f3 k k' f f' f'' e = .ok m := by
  subst ht
  unfold f3
  rw [h, Rs.bind_ok, h', Rs.bind_ok, hk]
  show (f'' e).bind _ = _
  rw [h'']
  show Rs.ofO (k' b c) = _
  rw [hk']; rfl
theorem d_sub (a b : Int) : dSub (.int a) (.int b) = some (.int (a - b)) := rfl
theorem e_rng2 {f f' : FE} {e : List Sl} {a b : Int} (h : f e = .ok (.int a)) (h' : f' e = .ok (.int b)) (ha : a.natAbs ≤ 1000000) (hb : b.natAbs ≤ 1000000) : iRng2F (aCons f (aCons f' aNil)) e = .ok (rng a (b - a).toNat) := by
  unfold iRng2F; rw [e_cons h (e_cons h' e_nil), Rs.bind_ok, iRng2_n ha hb]; rfl
mutual
theorem eqv_self : ∀ d : D, d.plain = true → PyData.eqv d d = true
  | .none, _ => rfl
  | .bool b, _ => by simp [PyData.eqv]
  | .int i, _ => by simp [PyData.eqv]
  | .str x, _ => by simp [PyData.eqv]
  | .list l, h => eqvAll_self l (by simpa [PyData.plain] using h)
  | .tuple l, h => eqvAll_self l (by simpa [PyData.plain] using h)
  | .dict _, h => by cases h
theorem eqvAll_self : ∀ l : List D, PyData.plainAll l = true → PyData.eqvAll l l = true
  | [], _ => rfl
  | d :: l, h => by
    have h : (d.plain && PyData.plainAll l) = true := h
    rw [Bool.and_eq_true] at h
    show (PyData.eqv d d && PyData.eqvAll l l) = true
    rw [eqv_self d h.1, eqvAll_self l h.2]; rfl
end
/-- data of small weight: depth k, weight w -/
structure Small (k w : Nat) (d : D) : Prop where
  l : rleaf d = true
  w : d.weight ≤ w
  k : d.depth ≤ k
  p : d.plain = true
theorem Small.int {i : Int} (h : i.natAbs < 1000000) : Small 0 20 (.int i) := by
  refine ⟨by simp only [rleaf]; exact decide_eq_true (by omega), ?_, Nat.le_refl _, rfl⟩
  show (if (i == 0) = true then 0 else i.natAbs.log2 + 1) ≤ 20
  split
  · omega
  · rename_i z
    have hz : i.natAbs ≠ 0 := fun e => z (by have : i = 0 := by omega
                                             rw [this]; rfl)
    have := (Nat.log2_lt hz (k := 20)).mpr (by omega)
    omega
theorem Small.none : Small 0 0 .none := ⟨rfl, Nat.le_refl _, Nat.le_refl _, rfl⟩
theorem Small.bool {b : Bool} : Small 0 0 (.bool b) := ⟨rfl, Nat.le_refl _, Nat.le_refl _, rfl⟩
theorem Small.str {l : List Nat} (h : ∀ c ∈ l, c < 4294967296) : Small 0 l.length (.str ⟨l.toArray⟩) := by
  refine ⟨?_, ?_, Nat.le_refl _, rfl⟩
  · show (l.toArray.toList.all fun c => decide (c < 4294967296)) = true
    rw [List.toList_toArray, List.all_eq_true]
    exact fun c hc => decide_eq_true (h c hc)
  · show l.toArray.size ≤ l.length
    simp
theorem Small.mono {k k' w w' : Nat} {d : D} (h : Small k w d) (hk : k ≤ k') (hw : w ≤ w') : Small k' w' d := ⟨h.l, Nat.le_trans h.w hw, Nat.le_trans h.k hk, h.p⟩
theorem small_all {k w : Nat} : ∀ {l : List D}, (∀ d ∈ l, Small k w d) → rleafAll l = true ∧ PyData.weightAll l ≤ (w + 1) * l.length ∧ PyData.depthAll l ≤ k ∧ PyData.plainAll l = true
  | [], _ => ⟨rfl, Nat.zero_le _, Nat.zero_le _, rfl⟩
  | d :: l, h => by
    obtain ⟨a1, a2, a3, a4⟩ := h d List.mem_cons_self
    obtain ⟨b1, b2, b3, b4⟩ := small_all (l := l) fun e he => h e (List.mem_cons_of_mem _ he)
    refine ⟨?_, ?_, ?_, ?_⟩
    · show (rleaf d && rleafAll l) = true
      rw [a1, b1]; rfl
    · show d.weight + 1 + PyData.weightAll l ≤ (w + 1) * (l.length + 1)
      rw [Nat.mul_succ]; omega
    · show max d.depth (PyData.depthAll l) ≤ k
      omega
    · show (d.plain && PyData.plainAll l) = true
      rw [a4, b4]; rfl
theorem Small.list {k w n : Nat} {l : List D} (h : ∀ d ∈ l, Small k w d) (hn : l.length ≤ n) : Small (k + 1) ((w + 1) * n) (.list l) := by
  obtain ⟨b1, b2, b3, b4⟩ := small_all h
  refine ⟨b1, ?_, Nat.succ_le_succ b3, by simpa [PyData.plain] using b4⟩
  exact Nat.le_trans b2 (Nat.mul_le_mul (Nat.le_refl _) hn)
theorem Small.tup {k w n : Nat} {l : List D} (h : ∀ d ∈ l, Small k w d) (hn : l.length ≤ n) : Small (k + 1) ((w + 1) * n) (.tuple l) := by
  obtain ⟨b1, b2, b3, b4⟩ := small_all h
  refine ⟨b1, ?_, Nat.succ_le_succ b3, by simpa [PyData.plain] using b4⟩
  exact Nat.le_trans b2 (Nat.mul_le_mul (Nat.le_refl _) hn)
theorem Small.repr {k w : Nat} {d : D} (h : Small k w d) (hk : k ≤ 64) (hw : w ≤ 1048576) : reprOk d = true := by
  unfold reprOk shal
  rw [h.l, decide_eq_true (Nat.le_trans h.w hw), decide_eq_true (Nat.le_trans h.k hk)]; rfl
theorem Small.shal {k w : Nat} {d : D} (h : Small k w d) (hk : k ≤ 64) : PD.shal d = true := decide_eq_true (Nat.le_trans h.k hk)
theorem Small.ne {k w : Nat} {d : D} (h : Small k w d) (hk : k ≤ 64) : dNe d d = some (.bool false) := by
  unfold dNe; rw [h.shal hk, Bool.or_self, if_pos rfl, eqv_self d h.p]; rfl
theorem Small.eq {k w : Nat} {d : D} (h : Small k w d) (hk : k ≤ 64) : dEq d d = some (.bool true) := by
  unfold dEq; rw [h.shal hk, Bool.or_self, if_pos rfl, eqv_self d h.p]
theorem e_RNe {k w : Nat} {f f' : FE} {e : List Sl} {d : D} (s : Small k w d) (hk : k ≤ 64) (hw : w ≤ 1048576) (h : f e = .ok d) (h' : f' e = .ok d) : fRNe f f' e = .ok false := by
  unfold fRNe; rw [h, Rs.bind_ok, if_pos (s.repr hk hw), h', Rs.bind_ok, if_pos (eqD_refl d s.p)]
theorem e_REq {k w : Nat} {f f' : FE} {e : List Sl} {d : D} (s : Small k w d) (hk : k ≤ 64) (hw : w ≤ 1048576) (h : f e = .ok d) (h' : f' e = .ok d) : fREq f f' e = .ok true := by
  unfold fREq; rw [h, Rs.bind_ok, if_pos (s.repr hk hw), h', Rs.bind_ok, if_pos (eqD_refl d s.p)]
theorem e_scal {f : FE} {e e' : List Sl} {d : D} (he : thaw e = e') (h : f e' = .ok d) (hs : scalD d = true) : fScal f e = .ok d := by
  unfold fScal; rw [he, h, Rs.bind_ok, if_pos hs]
def th1 : Sl → Sl
  | .own l => .sh (.list l)
  | s => s
theorem thaw_map : ∀ e : List Sl, thaw e = e.map th1
  | [] => rfl
  | .own l :: r => congrArg (_ :: ·) (thaw_map r)
  | .un :: r => congrArg (_ :: ·) (thaw_map r)
  | .sh d :: r => congrArg (_ :: ·) (thaw_map r)
  | .scr d :: r => congrArg (_ :: ·) (thaw_map r)
theorem e_thM {g : FB} {e : List Sl} {r : Rs Bool} (h : g (e.map th1) = r) : fThB g e = r := by unfold fThB; rw [thaw_map]; exact h
theorem e_scalM {f : FE} {e : List Sl} {d : D} (h : f (e.map th1) = .ok d) (hs : scalD d = true) : fScal f e = .ok d := e_scal (thaw_map e) h hs
end PD

/-! Part 13: sorted; defs that call themselves; more of owned lists -/
namespace PD
open PySem PySem.Spec PyProof.Rows L2

/-! ### sorting by insertion -/
section
variable {α : Type} (le : α → α → Bool)
def insG (x : α) : List α → List α
  | [] => [x]
  | y :: r => if le x y = true then x :: y :: r else y :: insG x r
def isort : List α → List α
  | [] => []
  | x :: l => insG le x (isort l)
variable {le}
theorem insG_mem {x z : α} : ∀ {l : List α}, z ∈ insG le x l ↔ z = x ∨ z ∈ l
  | [] => by simp [insG]
  | y :: r => by
    unfold insG
    split
    · simp
    · rw [List.mem_cons, insG_mem, List.mem_cons]
      constructor
      · rintro (h | h | h)
        · exact .inr (.inl h)
        · exact .inl h
        · exact .inr (.inr h)
      · rintro (h | h | h)
        · exact .inr (.inl h)
        · exact .inl h
        · exact .inr (.inr h)
theorem insG_sorted (h : PySem.W.TotalLe le) {x : α} : ∀ {l : List α}, l.Pairwise (fun a b => le a b = true) → (insG le x l).Pairwise fun a b => le a b = true
  | [], _ => by simp [insG]
  | y :: r, hp => by
    unfold insG
    rw [List.pairwise_cons] at hp
    split
    · rename_i hx
      refine List.pairwise_cons.mpr ⟨fun z hz => ?_, List.pairwise_cons.mpr hp⟩
      rcases List.mem_cons.mp hz with e | e
      · rw [e]; exact hx
      · exact h.trans _ _ _ hx (hp.1 z e)
    · rename_i hx
      refine List.pairwise_cons.mpr ⟨fun z hz => ?_, insG_sorted h hp.2⟩
      rcases insG_mem.mp hz with e | e
      · rw [e]
        rcases h.total y x with t | t
        · exact t
        · exact absurd t hx
      · exact hp.1 z e
theorem isort_sorted (h : PySem.W.TotalLe le) : ∀ l : List α, (isort le l).Pairwise fun a b => le a b = true
  | [] => List.Pairwise.nil
  | x :: l => insG_sorted h (isort_sorted h l)
theorem insG_filter (h : PySem.W.TotalLe le) (c x : α) : ∀ l : List α, (insG le x l).filter (PySem.W.sameRank le c) = (x :: l).filter (PySem.W.sameRank le c)
  | [] => rfl
  | y :: r => by
    unfold insG
    split
    · rfl
    · rename_i hx
      have ih := insG_filter h c x r
      cases hsx : PySem.W.sameRank le c x with
      | true =>
        have hy : ¬ PySem.W.sameRank le c y = true := fun hy => by
          unfold PySem.W.sameRank at hsx hy
          rw [Bool.and_eq_true] at hsx hy
          exact hx (h.trans _ _ _ hsx.2 hy.1)
        rw [List.filter_cons_of_neg hy, ih, List.filter_cons_of_pos hsx, List.filter_cons_of_pos hsx, List.filter_cons_of_neg hy]
      | false =>
        have hsx' : ¬ PySem.W.sameRank le c x = true := by rw [hsx]; exact Bool.false_ne_true
        rw [List.filter_cons_of_neg hsx'] at ih ⊢
        by_cases hy : PySem.W.sameRank le c y = true
        · rw [List.filter_cons_of_pos hy, List.filter_cons_of_pos hy, ih]
        · rw [List.filter_cons_of_neg hy, List.filter_cons_of_neg hy, ih]
theorem isort_filter (h : PySem.W.TotalLe le) (c : α) : ∀ l : List α, (isort le l).filter (PySem.W.sameRank le c) = l.filter (PySem.W.sameRank le c)
  | [] => rfl
  | x :: l => by
    show (insG le x (isort le l)).filter _ = _
    rw [insG_filter h c x]
    by_cases hx : PySem.W.sameRank le c x = true
    · rw [List.filter_cons_of_pos hx, List.filter_cons_of_pos hx, isort_filter h c l]
    · rw [List.filter_cons_of_neg hx, List.filter_cons_of_neg hx, isort_filter h c l]
theorem isort_merge (h : PySem.W.TotalLe le) (l : List α) : isort le l = l.mergeSort le := PySem.W.sort_unique h (isort_sorted h l) fun c => isort_filter h c l
theorem insG_len (x : α) : ∀ l : List α, (insG le x l).length = l.length + 1
  | [] => rfl
  | y :: r => by
    unfold insG
    split
    · rfl
    · rw [List.length_cons, insG_len x r, List.length_cons]
theorem isort_len : ∀ l : List α, (isort le l).length = l.length
  | [] => rfl
  | x :: l => by
    show (insG le x (isort le l)).length = _
    rw [insG_len, isort_len l, List.length_cons]
theorem insG_map {β : Type} {le' : β → β → Bool} (f : α → β) (h : ∀ a b, le a b = le' (f a) (f b)) (x : α) : ∀ l : List α, (insG le x l).map f = insG le' (f x) (l.map f)
  | [] => rfl
  | y :: r => by
    by_cases hx : le x y = true
    · have hx' : le' (f x) (f y) = true := by rw [← h]; exact hx
      simp only [insG, List.map_cons, hx, hx', if_true]
    · have hx' : ¬ le' (f x) (f y) = true := by rw [← h]; exact hx
      simp only [insG, List.map_cons, if_neg hx, if_neg hx']
      rw [insG_map f h x r]
theorem isort_map {β : Type} {le' : β → β → Bool} (f : α → β) (h : ∀ a b, le a b = le' (f a) (f b)) : ∀ l : List α, (isort le l).map f = isort le' (l.map f)
  | [] => rfl
  | x :: l => by
    show (insG le x (isort le l)).map f = insG le' (f x) (isort le' (l.map f))
    rw [insG_map f h, isort_map f h l]
theorem isort_mem {z : α} : ∀ {l : List α}, z ∈ isort le l ↔ z ∈ l
  | [] => Iff.rfl
  | x :: l => by
    show z ∈ insG le x (isort le l) ↔ _
    rw [insG_mem, isort_mem, List.mem_cons]
end
def leD (x y : D) : Bool := !PySem.W.dataLt y x
def sortD (l : List D) : List D := isort leD l
def isTup1 : D → Bool
  | .tuple (_ :: _) => true
  | _ => false
def notTN : D → Bool
  | .tuple _ => false
  | .none => false
  | _ => true
def sortOk (l : List D) : Bool := (l.all fun x => l.all fun y => PySem.W.alike x y) && (l.all isTup1 || l.all notTN) && decide (l.length ≤ LINE) && l.all shal
def dSorted : List D → Option D
  | [.list l] => if sortOk l = true then some (.list (sortD l)) else none
  | _ => none
theorem leD_total : PySem.W.TotalLe leD := PySem.W.sortLe_total (PyProof.Rows.listOrd PyProof.Rows.itemOrd) false PySem.W.keyToks
def rSortD (K : PySem.W.Frag) : List V → Hp → VK → Prop := fun xs H Q => ∃ F a vs ds, Same F H ∧ xs = [.ref a] ∧ F a = some (.lst vs) ∧ RpAll K F vs ds ∧ sortOk ds = true ∧
  ∀ p ws, H p = none → RpAll K F ws (sortD ds) → Q (.ref p) (upd H p (.lst ws))
theorem vals_each {K : PySem.W.Frag} {F : Hp} : ∀ {vs : List V} {us : List Value} {ds : List D}, Vals vs us → RpAll K F vs ds → PySem.W.EachIs (fun (u : Value) (b : D × V) => RelV b.2 u ∧ Rp K F b.2 b.1) us (ds.zip vs)
  | _, _, _, .nil, h => by cases h; exact .nil
  | _, _, _, .cons r t, h => by
    cases h with
    | cons a b => exact .cons ⟨r, a⟩ (vals_each t b)
theorem each_vals {K : PySem.W.Frag} {F : Hp} : ∀ {us : List Value} {bs : List (D × V)}, PySem.W.EachIs (fun (u : Value) (b : D × V) => RelV b.2 u ∧ Rp K F b.2 b.1) us bs → Vals (bs.map Prod.snd) us ∧ RpAll K F (bs.map Prod.snd) (bs.map Prod.fst)
  | _, _, .nil => ⟨.nil, .nil⟩
  | _, _, .cons h t => let ⟨a, b⟩ := each_vals t; ⟨.cons h.1 a, .cons h.2 b⟩
theorem zip_fst {K : PySem.W.Frag} {F : Hp} : ∀ {vs : List V} {ds : List D}, RpAll K F vs ds → (ds.zip vs).map Prod.fst = ds
  | _, _, .nil => rfl
  | _, _, .cons a b => by rw [List.zip_cons_cons, List.map_cons, zip_fst b]
theorem call_sortedD {X : Cx} (am : Am X) : CallR X (.builtin "sorted") (rSortD X.K) := by
  intro pins s σ H xs us Q I r ⟨F, a, vs, ds, sf, ex, ha, hd, ok, q⟩
  subst ex
  obtain ⟨its, rv, hl, _⟩ := I.list (SqL.of (sf _ _ ha))
  rw [Vals.ref1 r]
  unfold sortOk at ok
  simp only [Bool.and_eq_true, decide_eq_true_eq] at ok
  obtain ⟨⟨⟨o1, o2⟩, o3⟩, o4⟩ := ok
  have hfst := zip_fst hd
  have hal : PySem.W.AllAlike ((ds.zip vs).map Prod.fst) := by
    rw [hfst]
    exact fun d h1 d' h2 => List.all_eq_true.mp (List.all_eq_true.mp o1 d h1) d' h2
  have hk : PySem.W.Sortable ((ds.zip vs).map Prod.fst) := by
    rw [hfst]
    rcases Bool.or_eq_true_iff.mp o2 with z | z
    · refine .inl fun d h1 => ?_
      have := List.all_eq_true.mp z d h1
      unfold isTup1 at this
      split at this
      · exact ⟨_, _, rfl⟩
      · cases this
    · refine .inr fun d h1 => ?_
      have := List.all_eq_true.mp z d h1
      exact ⟨fun e => (by rw [e] at this; cases this), fun xs e => (by rw [e] at this; cases this)⟩
  have hlen : (ds.zip vs).length = ds.length := by rw [← List.length_map (f := Prod.fst), hfst]
  have hu := am.u
  have e := vals_each rv hd
  have er : PySem.W.EachIs (fun (u : Value) (b : D × V) => ∃ as, Reads s.heap u b.1 as) its (ds.zip vs) := e.mono fun u b h => h.2.reads I sf h.1
  refine PySem.W.sorted_data (enc := Prod.fst) hl.isList e er hal hk (by rw [hlen, line_eq]; exact o3) (fun b hb => ?_) fun out ho hout => ?_
  · have hm : b.1 ∈ ds := by rw [← hfst]; exact List.mem_map.mpr ⟨b, hb, rfl⟩
    have := of_decide_eq_true (p := b.1.depth ≤ 64) (List.all_eq_true.mp o4 _ hm)
    omega
  · obtain ⟨g1, g2⟩ := each_vals hout
    have hs : ((ds.zip vs).mergeSort (PySem.W.dataLe false Prod.fst)).map Prod.fst = sortD ds := by
      unfold sortD
      rw [isort_merge leD_total, PySem.W.sort_maps (r := PySem.W.dataLe false Prod.fst) (s := leD) Prod.fst (fun a _ b _ => rfl), hfst]
    rw [hs] at g2
    obtain ⟨ep, he'⟩ := PyProof.Rows.sortedAll_at s.heap its out.toArray
    refine ⟨.ref _, upd H (s.heap.objs.size + 1) (.lst _), I.laid (t' := s.toks) (fun _ _ => PyProof.Rows.sortedAll_old) (Nat.le_succ _) ⟨?_, out, ep, g1, he'⟩, rfl, q _ _ (I.hok.fresh (Nat.le_succ _)) g2⟩
    rw [g2.length]
    unfold sortD
    rw [isort_len, line_eq]
    exact o3
section
variable {K : PySem.W.Frag}
theorem l_sortedN : VLN K (rSortD K) dSorted := by
  intro F H xs ds c Q s h e q
  unfold dSorted at e
  split at e
  · split at e
    · rename_i ok
      cases e
      obtain ⟨v, rfl, r⟩ := h.one'
      cases r with
      | @lst a ys _ a1 a2 => exact ⟨F, a, ys, _, s, rfl, a1, a2, ok, fun p ws hp hw => q _ _ _ (Ext.laid s hp) ⟨p, _, _, rfl, rfl, upd_same, s.free hp, hp, hw⟩⟩
    · cases e
  · cases e
theorem l_sorted : VL K (rSortD K) dSorted := by
  intro F H xs ds c Q s h e q
  unfold dSorted at e
  split at e
  · split at e
    · rename_i ok
      cases e
      obtain ⟨v, rfl, r⟩ := h.one'
      cases r with
      | @lst a ys _ a1 a2 => exact ⟨F, a, ys, _, s, rfl, a1, a2, ok, fun p ws hp hw => q _ _ _ (Ext.new s hp) (.lst upd_same (RpAll.mono (same_upd (s.free hp)) _ _ hw))⟩
    · cases e
  · cases e
end
end PD

/-! Part 14: starred displays; extend, remove, item store of owned lists; defs that call themselves; sets of ints, sets of tuples -/
namespace PD
open PySem PySem.Spec PyProof.Rows L2

/-! ### *e in a display -/
def aStar (f : FE) (fa : FA) : FA := fun env => (f env).bind fun d => match d with
  | .list l => (fa env).bind fun ds => .ok (l ++ ds)
  | .tuple l => (fa env).bind fun ds => .ok (l ++ ds)
  | _ => .no
section
variable {X : Cx} {C : Ct} {f : FE} {fa : FA} {e : Expr} {es : List Expr} {p : Pos}
theorem va_star (h : VE X C e f) (h' : VA X C es fa) (hs : starEach (.Starred e p :: es) X.env = (true, eval e X.env) :: starEach es X.env := by rfl) : VA X C (.Starred e p :: es) (aStar f fa) := PA.of (StX.pa_star h h' hs) fun σ H Q ⟨F, env, re, q⟩ =>
  ⟨F, env, re, Sat.bind RDs.mono q fun d v F1 H1 x1 r1 q1 => by
    cases d with
    | list l =>
      cases r1 with
      | @lst a xs _ a1 a2 =>
        have q1 : Sat X.mg C (RDs X.K) ((fa env).bind fun ds => .ok (l ++ ds)) σ F1 H1 Q := q1
        refine ⟨a, xs, rfl, .inr (SqL.of ((re.go x1).same _ _ a1)), F1, env, re.go x1, Sat.bind RDs.mono q1 fun ds vs F2 H2 x2 r2 q2 => ?_⟩
        exact q2 (xs ++ vs) H2 F2 (Ext.refl (re.go (x1.trans x2)).same) ((RpAll.mono x2.f _ _ a2).append r2)
    | tuple l =>
      cases r1 with
      | @tup a xs _ a1 a2 =>
        have q1 : Sat X.mg C (RDs X.K) ((fa env).bind fun ds => .ok (l ++ ds)) σ F1 H1 Q := q1
        refine ⟨a, xs, rfl, .inl (Same.sqt (re.go x1).same a1), F1, env, re.go x1, Sat.bind RDs.mono q1 fun ds vs F2 H2 x2 r2 q2 => ?_⟩
        exact q2 (xs ++ vs) H2 F2 (Ext.refl (re.go (x1.trans x2)).same) ((RpAll.mono x2.f _ _ a2).append r2)
    | _ => exact q1.elim⟩
end

/-! ### owned lists: extend, remove, store -/
def sExt (i : Nat) (f : FE) : FS := fun env => match env[i]? with
  | some (.own l) => bindO (f env) fun d => match d with
    | .list m => if l.length + m.length ≤ LINE then .nx (env.set i (.own (l ++ m))) else .no
    | _ => .no
  | _ => .no
def sRem (i : Nat) (f : FE) : FS := fun env => match env[i]? with
  | some (.own l) => bindO (f env) fun d => match d with
    | .int k => match intsD l with
      | some ns => if k ∈ ns then .nx (env.set i (.own ((ns.erase k).map PyData.int))) else .no
      | none => .no
    | _ => .no
  | _ => .no
def sPut (i : Nat) (fv fi : FE) : FS := fun env => match env[i]? with
  | some (.own l) => bindO (fv env) fun v => bindO (fi env) fun d => match d with
    | .int k => match ixN l.length k with
      | some j => .nx (env.set i (.own (l.set j v)))
      | none => .no
    | _ => .no
  | _ => .no
theorem rem_at {k : Int} : ∀ {ns : List Int}, k ∈ ns → ∃ j : Nat, ns[j]? = some k ∧ (∀ m : Nat, m < j → ns[m]? ≠ some k) ∧ ns.eraseIdx j = ns.erase k
  | [], h => by cases h
  | a :: r, h => by
    by_cases e : a = k
    · subst e
      exact ⟨0, rfl, fun m hm => by omega, by simp⟩
    · have h' : k ∈ r := by
        rcases List.mem_cons.mp h with z | z
        · exact absurd z.symm e
        · exact z
      obtain ⟨j, h1, h2, h3⟩ := rem_at h'
      refine ⟨j + 1, by simpa using h1, fun m hm => ?_, ?_⟩
      · cases m with
        | zero => intro z; exact e (by simpa using z)
        | succ m => intro z; exact h2 m (by omega) (by simpa using z)
      · rw [List.eraseIdx_cons_succ, h3, List.erase_cons_tail (by simpa using e)]
section
variable {X : Cx} {C : Ct} {e : Expr} {f : FE} {x : Str} {pos p1 p2 p3 : Pos}
theorem vs_extend (i : Nat) (h : VE X C e f) (hN : X.N[i]? = some x := by rfl) (hv : Vis X.env.scope x := by first | exact Or.inl rfl | exact Or.inr (Or.inl rfl) | exact Or.inr (Or.inr rfl)) (hd : (x == ("__debug__" : Str)) = false := by decide)
    (hcd : (x == ("__classdict__" : Str)) = false := by decide) (he : starEach [e] X.env = (false, eval e X.env) :: starEach [] X.env := by rfl)
    (ht : ∀ {to : TE} {t : TA}, PE X (.Name x p3) to → PA X [e] t → PE X (.Call (.Attribute (.Name x p3) "extend" p1) [e] [] p2) (tBM X.K "list" rExtend to t) := by
      intro to t ho ha; exact pe_bm PySem.F.plainAttrs_list PySem.F.slot_list_extend PySem.F.type_list_extend mt_extend ho ha)
    (hs : swapsWith (.Call (.Attribute (.Name x p3) "extend" p1) [e] [] p2) none pos.line X.env = pure false := by rfl) :
    VS X C (.Expr (.Call (.Attribute (.Name x p3) "extend" p1) [e] [] p2) pos) (sExt i f) := PS.of (ps_expr (ht (pe_var hN hv hd hcd) (pa_cons h pa_nil he)) hs) fun D σ H ⟨F, env, re, q⟩ => by
  unfold sExt at q
  split at q
  · rename_i l e1
    obtain ⟨a, xs, h1, h2, h3, h4, h5⟩ := re.own e1
    refine ⟨.ref a, h1, .inl ⟨rfl, _, SqL.of h2⟩, F, env, re, SatS.bind re q fun d v F1 H1 x1 r1 q1 => ?_⟩
    cases d with
    | list m =>
      have q1 : SatS X.K X.mg C (if l.length + m.length ≤ LINE then .nx (env.set i (.own (l ++ m))) else .no) F1 D := q1
      by_cases hl : l.length + m.length ≤ LINE
      · rw [if_pos hl] at q1
        obtain ⟨a', xs', g1, g2, g3, g4, g5⟩ := (re.go x1).own e1
        rw [h1] at g1; cases g1
        cases r1 with
        | @lst b zs _ b1 b2 =>
          refine ⟨a, b, xs', zs, rfl, rfl, g2, (re.go x1).same _ _ b1, by rw [g5.length, b2.length, line_eq]; exact hl, ?_⟩
          exact q1 σ _ F1 (Same.refl _) ((re.go x1).write e1 h1 g3 g4 (g5.append b2))
      · rw [if_neg hl] at q1; exact q1.elim
    | _ => exact q1.elim
  · exact q.elim
theorem vs_remove (i : Nat) (h : VE X C e f) (hN : X.N[i]? = some x := by rfl) (hv : Vis X.env.scope x := by first | exact Or.inl rfl | exact Or.inr (Or.inl rfl) | exact Or.inr (Or.inr rfl)) (hd : (x == ("__debug__" : Str)) = false := by decide)
    (hcd : (x == ("__classdict__" : Str)) = false := by decide) (he : starEach [e] X.env = (false, eval e X.env) :: starEach [] X.env := by rfl)
    (ht : ∀ {to : TE} {t : TA}, PE X (.Name x p3) to → PA X [e] t → PE X (.Call (.Attribute (.Name x p3) "remove" p1) [e] [] p2) (tBM X.K "list" rRemI to t) := by
      intro to t ho ha; exact pe_bm PySem.F.plainAttrs_list PySem.F.slot_list_remove PySem.F.type_list_remove mt_remove ho ha)
    (hs : swapsWith (.Call (.Attribute (.Name x p3) "remove" p1) [e] [] p2) none pos.line X.env = pure false := by rfl) :
    VS X C (.Expr (.Call (.Attribute (.Name x p3) "remove" p1) [e] [] p2) pos) (sRem i f) := PS.of (ps_expr (ht (pe_var hN hv hd hcd) (pa_cons h pa_nil he)) hs) fun D σ H ⟨F, env, re, q⟩ => by
  unfold sRem at q
  split at q
  · rename_i l e1
    obtain ⟨a, xs, h1, h2, h3, h4, h5⟩ := re.own e1
    refine ⟨.ref a, h1, .inl ⟨rfl, _, SqL.of h2⟩, F, env, re, SatS.bind re q fun d v F1 H1 x1 r1 q1 => ?_⟩
    cases d with
    | int k =>
      cases r1
      cases hi : intsD l with
      | none => simp only [hi] at q1; exact q1.elim
      | some ns =>
        simp only [hi] at q1
        by_cases hk : k ∈ ns
        · rw [if_pos hk] at q1
          obtain ⟨a', xs', g1, g2, g3, g4, g5⟩ := (re.go x1).own e1
          rw [h1] at g1; cases g1
          have ex := g5.intsd hi
          subst ex
          obtain ⟨j, j1, j2, j3⟩ := rem_at hk
          refine ⟨a, ns, k, j, rfl, rfl, g2, j1, j2, ?_⟩
          refine q1 σ _ F1 (Same.refl _) ((re.go x1).write e1 h1 g3 g4 ?_)
          rw [j3]
          have : ∀ l : List Int, RpAll X.K F1 (l.map V.int) (l.map PyData.int) := fun l => by
            induction l with
            | nil => exact .nil
            | cons b r ih => exact .cons (.int _) ih
          exact this _
        · rw [if_neg hk] at q1; exact q1.elim
    | _ => exact q1.elim
  · exact q.elim
variable {fv fi : FE} {v i' : Expr}
theorem vs_put (i : Nat) (h : VE X C v fv) (h' : VE X C i' fi) (hN : X.N[i]? = some x := by rfl) (hv : Vis X.env.scope x := by first | exact Or.inl rfl | exact Or.inr (Or.inl rfl) | exact Or.inr (Or.inr rfl)) (hd : (x == ("__debug__" : Str)) = false := by decide)
    (hcd : (x == ("__classdict__" : Str)) = false := by decide)
    (ht : ∀ {to ti : TE} {te : TE}, PE X v te → PE X (.Name x p1) to → PE X i' ti → PS X (.Assign [.Subscript (.Name x p1) i' p2] v pos) (tAsg te (gSub to ti rSetL)) := by
      intro to ti te he ho hi; exact ps_asg he (pg_sub ho hi set_list)) :
    VS X C (.Assign [.Subscript (.Name x p1) i' p2] v pos) (sPut i fv fi) := PS.of (ht h (pe_var hN hv hd hcd) h') fun D σ H ⟨F, env, re, q⟩ => by
  unfold sPut at q
  split at q
  · rename_i l e1
    refine ⟨F, env, re, SatS.bind re q fun d y F1 H1 x1 r1 q1 => ?_⟩
    obtain ⟨a, xs, h1, h2, h3, h4, h5⟩ := (re.go x1).own e1
    refine ⟨.ref a, h1, F1, env, re.go x1, SatS.bind (re.go x1) q1 fun k z F2 H2 x2 r2 q2 => ?_⟩
    cases k with
    | int k =>
      cases r2
      cases hj : ixN l.length k with
      | none => simp only [hj] at q2; exact q2.elim
      | some j =>
        simp only [hj] at q2
        obtain ⟨a', xs', g1, g2, g3, g4, g5⟩ := ((re.go x1).go x2).own e1
        rw [h1] at g1; cases g1
        refine ⟨a, xs', k, j, rfl, rfl, g2, by rw [g5.length]; exact hj, ?_⟩
        exact q2 σ _ F2 (Same.refl _) (((re.go x1).go x2).write e1 h1 g3 g4 (g5.set j (Rp.mono x2.f _ _ r1)))
    | _ => exact q2.elim
  · exact q.elim
end

/-! ### defs that call themselves: the bottom -/
section
variable {P : Program} {w : World} {K : PySem.W.Frag} {mg : Str → Option Value} {base : Heap} {k : Nat} {x : Str} {ps : List Str} {st : Stmt}
theorem Cal.bot (d : Def K mg x st ps) : Cal P w K mg base k x ps (spD K mg fun _ => .no) :=
  let ⟨f, fd, F, h1, h2, h3⟩ := d.ex
  ⟨f, fd, ⟨fun vs H Q E ⟨_, _, _, _, q⟩ => q.elim, fun A outer s H args us vs Q E _ _ _ _ _ ⟨_, _, _, _, q⟩ => q.elim⟩, h1, h2, Binds.all h3⟩
theorem Cal.botN (d : Def K mg x st ps) : Cal P w K mg base k x ps (spN K mg fun _ => .no) :=
  let ⟨f, fd, F, h1, h2, h3⟩ := d.ex
  ⟨f, fd, ⟨fun vs H Q E ⟨_, _, _, _, q⟩ => q.elim, fun A outer s H args us vs Q E _ _ _ _ _ ⟨_, _, _, _, q⟩ => q.elim⟩, h1, h2, Binds.all h3⟩
end
end PD

/-! Part 15: sets. call_setI is HandS' lemma on set(tuple of ints), turned to lists. -/
namespace PD
open PySem PySem.Spec PyProof.Rows L2
section
variable {P : Program} {w : World} {A : Around} {E : Value → Shared → Prop} {s : Shared}
set_option maxRecDepth 100000 in
set_option maxHeartbeats 3200000 in
theorem call_setI {l : Addr} {items : Array Value} (ns : List Int) {Q : Value → Shared → Prop} (hh : A.handled = none) (hl : s.heap.IsList l items) (hit : IntsAre items.toList ns) (hb : ns.length + 1 < scanBound)
    (h : ∀ (h' : Heap) (tk c : Nat), SetR w h' s.heap.objs.size (fun j => decide (j ∈ ns)) c → c ≤ ns.length → (∀ b o, s.heap.get? b = some o → h'.get? b = some o) → Q (.ref s.heap.objs.size) { s with heap := h', toks := tk }) :
    wpAny (model P w) A (call (.type "set") [.ref l]) Q E s := by
  have hisz : items.size = ns.length := by
    have q := IntsAre.length hit
    rw [Array.length_toList] at q
    exact q
  obtain ⟨c, tl, hmro⟩ := F.called_set.mro
  have hmade := F.called_set.made
  have hsub := F.called_set.sub
  refine wpAny_call (codeAny_of_tree ?_)
  show wpAny _ _ (callAny (.type "set") _) _ _ _
  refine wpAny_pure ⟨Code.quiet_builtin _ (by decide +kernel), codeAny_builtin F.entry_type_call ?_⟩
  rw [Around.under_plain (weight_type_call_type "set" [.ref l] []) rfl]
  have h1 := F.called_set.notType
  have h2 := F.called_set.canCreate
  have hct := F.typeCall_set_1 (.ref l)
  repeat (any_goals (first | assumption | wp_step))

  refine codeAny_mono (code_set_led1 (.ref l) (E := E) (Q₁ := fun obj s₁ => obj = .ref s.heap.objs.size ∧ s₁ = { s with heap := s.heap.push { cls := .type "set", dict := none, data := .set #[] 0 (.fresh 0 0 (!w.params.followText "set-order")) } }) ⟨rfl, rfl⟩) fun r s₁ hr => ?_
  cases r with
  | error e => exact hr
  | ok fl =>
    cases fl with
    | ret obj =>
      obtain ⟨rfl, rfl⟩ := hr
      have hS : (s.heap.push { cls := .type "set", dict := none, data := .set #[] 0 (.fresh 0 0 (!w.params.followText "set-order")) }).get? s.heap.objs.size = some { cls := .type "set", dict := none, data := .set #[] 0 (.fresh 0 0 (!w.params.followText "set-order")) } := Heap.get?_push_size _ rfl
      have hT : Shared.TypeIs { s with heap := s.heap.push { cls := .type "set", dict := none, data := .set #[] 0 (.fresh 0 0 (!w.params.followText "set-order")) } } (.ref s.heap.objs.size) "set" := ⟨_, hS, rfl⟩
      have hli := F.called_set.init.lookup
      have hbi := F.called_set.init.bind (.ref s.heap.objs.size)
      repeat (any_goals (first | assumption | wp_step))

      refine codeAny_mono (codeAny_call_builtin (R := wants (fun r s₂ => r = .none ∧ ∃ h' tk c, s₂ = { s with heap := h', toks := tk } ∧ SetR w h' s.heap.objs.size (fun j => decide (j ∈ ns)) c ∧ c ≤ ns.length ∧
          (∀ b o, s.heap.get? b = some o → h'.get? b = some o)) E) F.called_set.init.plain F.entry_set_init (check_set_init_1 hT ?_)) fun r₂ s₂ hr₂ => ?_
      · obtain ⟨ol, hol, hcl, nl, hdl⟩ := hl
        obtain ⟨ocls, odict, odata, oslots⟩ := ol
        simp only at hcl hdl
        subst hcl; subst hdl
        have hol' : (s.heap.push { cls := .type "set", dict := none, data := .set #[] 0 (.fresh 0 0 (!w.params.followText "set-order")) }).get? l = some { cls := .type "list", dict := odict, data := .seq items nl, slots := oslots } := Heap.get?_push_of_some _ hol
        have hsls := F.sub_list_set
        have hslf := F.sub_list_frozenset
        have hne : (Value.type "list" == Value.type "dict") = false := by decide
        have hl1 : (s.heap.push { cls := .type "set", dict := none, data := .set #[] 0 (.fresh 0 0 (!w.params.followText "set-order")) }).IsList l items := ⟨_, hol', rfl, nl, rfl⟩
        unfold Builtin.«set.__init__» noKeywords Builtin.Frozenset.updateFrom
        generalize hPI : pyIter = PI
        wp_walk
        subst hPI

        refine wpAny_pyIter_list hl1 ?_
        refine wpAny_bind (wpAny_runValue ?_)
        have hlS : l < s.heap.objs.size := Heap.lt_size hol
        have hh3 : A.in1.in1.in1.handled = none := by simp [hh]
        have hz1 : (s.heap.push { cls := .type "set", dict := none, data := .set #[] 0 (.fresh 0 0 (!w.params.followText "set-order")) }).objs.size = s.heap.objs.size + 1 := Heap.size_push ..
        have hneI : l ≠ (s.heap.push { cls := .type "set", dict := none, data := .set #[] 0 (.fresh 0 0 (!w.params.followText "set-order")) }).objs.size := by
          rw [Heap.size_push]; exact Nat.ne_of_lt (Nat.lt_succ_of_lt hlS)
        have hSf : s.heap.objs.size ∉ [(s.heap.push { cls := .type "set", dict := none, data := .set #[] 0 (.fresh 0 0 (!w.params.followText "set-order")) }).objs.size, l] := by
          rw [Heap.size_push]; simp only [List.mem_cons, List.mem_singleton, List.not_mem_nil, or_false, not_or]
          exact ⟨Nat.ne_of_lt (Nat.lt_succ_self _), Nat.ne_of_gt hlS⟩
        have hval : ∀ (i : Nat) (v : Value), items[i]? = some v → ∃ k t, ns[i]? = some k ∧ v = .int k t := fun i v hv => by
          have hi : i < ns.length := by rw [← hisz]; exact (Array.getElem?_eq_some_iff.mp hv).1
          obtain ⟨t, e⟩ := PyProof.Rows.IntsAre.int_at hit i v (by rw [Array.getElem?_toList]; exact hv)
          refine ⟨ns[i], t, List.getElem?_eq_getElem hi, ?_⟩
          rw [e, List.getD_eq_getElem?_getD, List.getElem?_eq_getElem hi] <;> rfl
        refine set_update_ints ((Walks.list hh3 _ l hneI items).toS) s.heap.objs.size
          hSf ns hisz hb hval (items.size - 0) 0 _ (by omega) (Nat.zero_le _)
          ⟨⟨_, Heap.get?_push_size _ rfl, rfl, rfl⟩, (hl1.push _)⟩ ?hS0 ?hR
        case hS0 =>
          have hget : ((s.heap.push { cls := .type "set", dict := none, data := .set #[] 0 (.fresh 0 0 (!w.params.followText "set-order")) }).push { cls := .type "list_iterator", data := .fields #[.ref l, .int 0 0] }).get? s.heap.objs.size
              = some { cls := .type "set", dict := none, data := .set #[] 0 (.fresh 0 0 (!w.params.followText "set-order")) } := Heap.get?_push_of_some _ hS
          exact ⟨0, Nat.le_refl 0, setR_new_at hget⟩
        case hR =>
          intro s' c' hm hc' hS'
          obtain ⟨h', g2, d', tk', os'⟩ := s'
          have eg : g2 = s.gens := hm.gens
          have ed : d' = s.drawn := hm.drawn
          have eo : os' = s.os := hm.os
          subst eg; subst ed; subst eo
          show wpAny _ _ _ _ _ _
          refine wpAny_pure ?_
          show wpAny _ _ (ret Value.none) _ _ _
          rw [hisz] at hc'
          refine wpAny_pure ⟨rfl, h', tk', c', rfl, hS', hc', fun b o e => ?_⟩
          have hb0 : b < s.heap.objs.size := Heap.lt_size e
          have hb1 : b ≠ s.heap.objs.size := Nat.ne_of_lt hb0
          have hb2 : b ≠ (s.heap.push { cls := .type "set", dict := none, data := .set #[] 0 (.fresh 0 0 (!w.params.followText "set-order")) }).objs.size := by
            rw [Heap.size_push]; exact Nat.ne_of_lt (Nat.lt_succ_of_lt hb0)
          exact hm.heap b o (by simp only [List.mem_cons, List.mem_singleton, List.not_mem_nil, or_false, not_or]; exact ⟨hb1, hb2⟩) (Heap.get?_push_of_some _ (Heap.get?_push_of_some _ e))

      · cases r₂ with
        | error e => exact hr₂
        | ok fl₂ =>
          cases fl₂ with
          | ret r =>
            obtain ⟨rfl, h', tk, c', rfl, hS', hc', hk'⟩ := hr₂
            repeat (any_goals (first | assumption | wp_step))
            exact h _ _ _ hS' hc' hk'
          | _ => exact hr₂.elim
    | _ => exact hr.elim
end
end PD

/-! Part 16: sorted(set(ints)), len(set(tuples of ints)) -/
namespace PD
open PySem PySem.Spec PyProof.Rows L2

/-! ### a set as its rising row -/
def insS (a : Int) : List Int → List Int
  | [] => [a]
  | b :: r => if a < b then a :: b :: r else if a = b then b :: r else b :: insS a r
def setI : List Int → List Int
  | [] => []
  | a :: l => insS a (setI l)
theorem insS_mem {a z : Int} : ∀ {l : List Int}, z ∈ insS a l ↔ z = a ∨ z ∈ l
  | [] => by simp [insS]
  | b :: r => by
    unfold insS
    split
    · simp
    · split
      · rename_i e; subst e; simp
      · rw [List.mem_cons, insS_mem, List.mem_cons]
        constructor
        · rintro (h | h | h)
          · exact .inr (.inl h)
          · exact .inl h
          · exact .inr (.inr h)
        · rintro (h | h | h)
          · exact .inr (.inl h)
          · exact .inl h
          · exact .inr (.inr h)
theorem insS_lt {a : Int} : ∀ {l : List Int}, l.Pairwise (· < ·) → (insS a l).Pairwise (· < ·)
  | [], _ => by simp [insS]
  | b :: r, h => by
    unfold insS
    obtain ⟨h1, h2⟩ := List.pairwise_cons.mp h
    split
    · rename_i hab
      refine List.pairwise_cons.mpr ⟨fun z hz => ?_, h⟩
      rcases List.mem_cons.mp hz with e | e
      · subst e; exact hab
      · exact Int.lt_trans hab (h1 z e)
    · split
      · exact h
      · refine List.pairwise_cons.mpr ⟨fun z hz => ?_, insS_lt h2⟩
        rcases insS_mem.mp hz with e | e
        · subst e; omega
        · exact h1 z e
theorem setI_mem {z : Int} : ∀ {l : List Int}, z ∈ setI l ↔ z ∈ l
  | [] => by simp [setI]
  | a :: l => by rw [setI, insS_mem, setI_mem, List.mem_cons]
theorem setI_lt : ∀ l : List Int, (setI l).Pairwise (· < ·)
  | [] => List.Pairwise.nil
  | a :: l => insS_lt (setI_lt l)
theorem lt_unique : ∀ {l m : List Int}, l.Pairwise (· < ·) → m.Pairwise (· < ·) → (∀ z, z ∈ l ↔ z ∈ m) → l = m
  | [], [], _, _, _ => rfl
  | [], b :: m, _, _, h => by have := (h b).mpr List.mem_cons_self; cases this
  | a :: l, [], _, _, h => by have := (h a).mp List.mem_cons_self; cases this
  | a :: l, b :: m, h1, h2, h => by
    obtain ⟨a1, a2⟩ := List.pairwise_cons.mp h1
    obtain ⟨b1, b2⟩ := List.pairwise_cons.mp h2
    have e : a = b := by
      rcases List.mem_cons.mp ((h a).mp List.mem_cons_self) with z | z
      · exact z
      · rcases List.mem_cons.mp ((h b).mpr List.mem_cons_self) with y | y
        · exact y.symm
        · have := b1 a z; have := a1 b y; omega
    subst e
    rw [lt_unique a2 b2 fun z => ?_]
    constructor
    · intro hz
      rcases List.mem_cons.mp ((h z).mp (List.mem_cons_of_mem _ hz)) with y | y
      · subst y; have := a1 _ hz; omega
      · exact y
    · intro hz
      rcases List.mem_cons.mp ((h z).mpr (List.mem_cons_of_mem _ hz)) with y | y
      · subst y; have := b1 _ hz; omega
      · exact y
theorem ints_of_map : ∀ {ns : List Int} {us : List Value}, Vals (ns.map V.int) us → PyProof.Rows.IntsAre us ns
  | [], _, .nil => .nil
  | n :: ns, _, .cons r t => by
    obtain ⟨k, rfl⟩ := r
    exact .cons n k (ints_of_map t)
/-- set(xs) of ints -/
def rSetI (K : PySem.W.Frag) (w : World) : List V → Hp → VK → Prop := fun xs H Q => ∃ (l : Addr) (ns : List Int), xs = [.ref l] ∧ SqL K H l (ns.map V.int) ∧ ns.length ≤ 4000 ∧
  ∀ a c, H a = none → c ≤ ns.length → Q (.ref a) (upd H a (SetO w a (fun j => decide (j ∈ ns)) c))
theorem cr_setI {X : Cx} (hc : X.calm = true) : CallR X (.type "set") (rSetI X.K X.w) := by
  intro pins s σ H xs us Q I r ⟨l, ns, ex, hl, hb, q⟩
  subst ex
  rw [Vals.ref1 r]
  obtain ⟨its, rv, pl, hz⟩ := I.list hl
  have hn : H s.heap.objs.size = none := I.hok.fresh (Nat.le_refl _)
  refine call_setI ns (I.ok.hd hc) pl.isList (by simpa using ints_of_map rv) (by unfold scanBound; omega) fun h' tk c hS hcl k => ?_
  exact ⟨.ref _, upd H s.heap.objs.size (SetO X.w s.heap.objs.size (fun j => decide (j ∈ ns)) c), I.laid (t' := tk) k (Nat.le_refl _) (setO_new hS), rfl, q _ c hn hcl⟩
/-- sorted(set(xs)) -/
def dSortSet : D → Option D
  | .list l => match intsD l with
    | some ns => if ns.length < 64 then some (.list ((setI ns).map PyData.int)) else none
    | none => none
  | _ => none
theorem rp_ints {K : PySem.W.Frag} {F : Hp} : ∀ l : List Int, RpAll K F (l.map V.int) (l.map PyData.int)
  | [] => .nil
  | _ :: l => .cons (.int _) (rp_ints l)
section
variable {X : Cx} {C : Ct} {f : FE} {a : Expr} {p p2 pos pos2 : Pos}
theorem Ext.laid2 {F H : Hp} {p q : Addr} {o u : HO} (s : Same F H) (hp : H p = none) (hq : upd H p o q = none) : Ext F H (upd F q u) (upd (upd H p o) q u) :=
  (Ext.laid s hp).trans (Ext.new (Ext.laid (o := o) s hp).s hq)
theorem ve_sortSet (am : Am X) (hg : Gl X "sorted") (hm : X.mg "sorted" = none) (hg' : Gl X "set") (hm' : X.mg "set" = none) (ha : VE X C a f) (na : starEach [a] X.env = (false, eval a X.env) :: starEach [] X.env := by rfl)
    (nb : starEach [.Call (.Name "set" p2) [a] [] pos2] X.env = (false, eval (.Call (.Name "set" p2) [a] [] pos2) X.env) :: starEach [] X.env := by rfl)
    (h1 : (backTo pos2 (starEach [] X.env)).any (·.1) = false := by rfl) (h2 : (backTo pos (starEach [] X.env)).any (·.1) = false := by rfl) :
    VE X C (.Call (.Name "sorted" p) [.Call (.Name "set" p2) [a] [] pos2] [] pos) (f1 dSortSet f) :=
  PE.of (pe_callB (cr_sortedSet am.c) hg hm rfl (pa_cons (pe_callTy (cr_setI am.c) hg' hm' rfl (pa_cons ha pa_nil na) (by decide) (by decide) na h1) pa_nil nb) (by decide) (by decide) nb h2) fun σ H Q ⟨F, env, re, q⟩ =>
  ⟨F, env, re, Sat.bind RD.mono q fun d v F1 H1 x1 r1 q1 => by
    obtain ⟨c, hc, q2⟩ := Sat.ofO q1
    cases d with
    | list l =>
      simp only [dSortSet] at hc
      cases hi : intsD l with
      | none => rw [hi] at hc; cases hc
      | some ns =>
        rw [hi] at hc
        simp only at hc
        split at hc
        · rename_i hl
          cases hc
          cases r1 with
          | @lst b xs _ b1 b2 =>
            have ex := b2.intsd hi
            subst ex
            have s1 := (re.go x1).same
            refine ⟨b, ns, rfl, SqL.of (s1 _ _ b1), by omega, fun p c hp hcl => ⟨p, _, c, rfl, upd_same, by omega, fun ms p' hlt hmem hlen hp' => ?_⟩⟩
            have e : ms = setI ns := lt_unique hlt (setI_lt ns) fun z => by rw [hmem, setI_mem]; simp
            subst e
            exact q2 _ _ _ (Ext.laid2 s1 hp hp') (.lst upd_same (rp_ints _))
        · cases hc
    | _ => cases hc⟩
/-- len(set(xs)) of tuples of ints -/
def tupsD : List D → Option (List (List Int))
  | [] => some []
  | .tuple l :: r => match intsD l, tupsD r with
    | some a, some b => some (a :: b)
    | _, _ => none
  | _ => none
/-- how many unlike ones -/
def unlikeN : List (List Int) → Nat
  | [] => 0
  | a :: r => if a ∈ r then unlikeN r else unlikeN r + 1
def dLenSetT : D → Option D
  | .list l => match tupsD l with
    | some ks => if ks.length < 64 then some (.int (unlikeN ks : Nat)) else none
    | none => none
  | _ => none
def unl : List (List Int) → List (List Int)
  | [] => []
  | a :: r => if a ∈ r then unl r else a :: unl r
theorem unl_mem {z : List Int} : ∀ {l : List (List Int)}, z ∈ unl l ↔ z ∈ l
  | [] => Iff.rfl
  | a :: r => by
    unfold unl
    split
    · rename_i h
      rw [unl_mem, List.mem_cons]
      constructor
      · exact .inr
      · rintro (e | e)
        · rw [e]; exact h
        · exact e
    · rw [List.mem_cons, List.mem_cons, unl_mem]
theorem unl_nodup : ∀ l : List (List Int), (unl l).Nodup
  | [] => List.nodup_nil
  | a :: r => by
    unfold unl
    split
    · exact unl_nodup r
    · rename_i h
      exact List.nodup_cons.mpr ⟨fun q => h (unl_mem.mp q), unl_nodup r⟩
theorem unl_len : ∀ l : List (List Int), (unl l).length = unlikeN l
  | [] => rfl
  | a :: r => by
    unfold unl unlikeN
    split
    · exact unl_len r
    · rw [List.length_cons, unl_len r]
theorem nodup_len {α : Type} [DecidableEq α] : ∀ {l m : List α}, l.Nodup → m.Nodup → (∀ z, z ∈ l ↔ z ∈ m) → l.length = m.length := fun {l m} h1 h2 h =>
  Nat.le_antisymm (h1.length_le_of_subset fun z hz => (h z).mp hz) (h2.length_le_of_subset fun z hz => (h z).mpr hz)
theorem RpAll.tups {K : PySem.W.Frag} {F : Hp} : ∀ {ds : List D} {vs : List V} {ks : List (List Int)}, RpAll K F vs ds → tupsD ds = some ks → ∃ ps : List (Addr × List Int), vs = ps.map (fun p => V.ref p.1) ∧ ps.map (·.2) = ks ∧ ∀ p ∈ ps, SqT K F p.1 (p.2.map V.int)
  | [], _, _, h, e => by cases h; cases e; exact ⟨[], rfl, rfl, fun p hp => by cases hp⟩
  | d :: ds, _, _, h, e => by
    cases h with
    | cons r t =>
      cases d with
      | tuple l =>
        simp only [tupsD] at e
        cases hi : intsD l with
        | none => rw [hi] at e; cases e
        | some ns =>
          cases ht : tupsD ds with
          | none => rw [hi, ht] at e; cases e
          | some ks =>
            rw [hi, ht] at e
            cases e
            obtain ⟨ps, h1, h2, h3⟩ := t.tups ht
            cases r with
            | @tup a xs _ a1 a2 =>
              have ex := a2.intsd hi
              subst ex
              refine ⟨(a, ns) :: ps, by rw [List.map_cons, h1], by rw [List.map_cons, h2], fun p hp => ?_⟩
              rcases List.mem_cons.mp hp with z | z
              · subst z; exact a1
              · exact h3 p z
      | _ => cases e
def rLenSetT (P : Program) (w : World) : List V → Hp → VK → Prop := fun xs H Q => ∃ (a : Addr) (L : List (Addr × List Int)), xs = [.ref a] ∧ H a = some (SetTO P w a L) ∧ ((L.map (·.2)).Nodup → Q (.int (L.length : Nat)) H)
theorem cr_lenSetT : CallR X (.builtin "len") (rLenSetT X.prog X.w) := by
  intro pins s σ H xs us Q I r ⟨a, L, ex, ha, q⟩
  subst ex
  rw [Vals.ref1 r]
  have R0 : SetT0 X.prog X.w s.heap a L := (I.hok a _ ha).1
  obtain ⟨es, ep, t, ⟨o, ho, hex, hd⟩, hrows, htab, hnd, hpl, hled, hroom, hfew⟩ := R0.ex
  have hsz : es.size = L.length := by
    have := congrArg List.length hrows
    rw [Array.length_toList] at this
    rw [this]
    simp [rowsOf]
  have hf : t.fits es.size = true := by
    have h1 := htab.sz
    rw [List.length_map] at h1
    unfold SetTable.fits SetTable.fill
    rw [htab.dm, Bool.and_eq_true, beq_iff_eq, decide_eq_true_eq]
    show t.place.size = es.size ∧ t.place.size + 0 ≤ t.mask
    omega
  refine call_len_set ho hex hd hf (by rw [hsz]; omega) ⟨.int (L.length : Nat), H, I.tok _, ⟨_, by rw [hsz]⟩, q hnd⟩
theorem ve_lenSet (am : Am X) (hg : Gl X "len") (hm : X.mg "len" = none) (hg' : Gl X "set") (hm' : X.mg "set" = none) (ha : VE X C a f) (na : starEach [a] X.env = (false, eval a X.env) :: starEach [] X.env := by rfl)
    (nb : starEach [.Call (.Name "set" p2) [a] [] pos2] X.env = (false, eval (.Call (.Name "set" p2) [a] [] pos2) X.env) :: starEach [] X.env := by rfl)
    (h1 : (backTo pos2 (starEach [] X.env)).any (·.1) = false := by rfl) (h2 : (backTo pos (starEach [] X.env)).any (·.1) = false := by rfl) :
    VE X C (.Call (.Name "len" p) [.Call (.Name "set" p2) [a] [] pos2] [] pos) (f1 dLenSetT f) :=
  PE.of (pe_callB cr_lenSetT hg hm rfl (pa_cons (pe_callTy (cr_setOfT am.c (by have := am.u; omega)) hg' hm' rfl (pa_cons ha pa_nil na) (by decide) (by decide) na h1) pa_nil nb) (by decide) (by decide) nb h2) fun σ H Q ⟨F, env, re, q⟩ =>
  ⟨F, env, re, Sat.bind RD.mono q fun d v F1 H1 x1 r1 q1 => by
    obtain ⟨c, hc, q2⟩ := Sat.ofO q1
    cases d with
    | list l =>
      simp only [dLenSetT] at hc
      cases hi : tupsD l with
      | none => rw [hi] at hc; cases hc
      | some ks =>
        rw [hi] at hc
        simp only at hc
        split at hc
        · rename_i hl
          cases hc
          cases r1 with
          | @lst b xs _ b1 b2 =>
            obtain ⟨ps, e1, e2, e3⟩ := b2.tups hi
            subst e1
            have s1 := (re.go x1).same
            refine ⟨b, ps, rfl, SqL.of (s1 _ _ b1), fun p hp => Same.sqt s1 (e3 p hp), by rw [← e2, List.length_map] at hl; exact hl, fun p L hp hL1 hL2 => ⟨p, L, rfl, upd_same, fun hnd => ?_⟩⟩
            have e : L.length = unlikeN ks := by
              rw [← unl_len, ← List.length_map (f := fun p : Addr × List Int => p.2)]
              refine nodup_len hnd (unl_nodup ks) fun z => ?_
              rw [unl_mem, ← e2]
              constructor
              · intro hz
                obtain ⟨p, hp, rfl⟩ := List.mem_map.mp hz
                exact List.mem_map.mpr ⟨p, hL1 p hp, rfl⟩
              · intro hz
                obtain ⟨p, hp, rfl⟩ := List.mem_map.mp hz
                exact hL2 p hp
            rw [e]
            exact q2 _ _ F1 (Ext.laid s1 hp) (.int _)
        · cases hc
    | _ => cases hc⟩
end
end PD

/-! Part 17: gcd; more rules of the plain side -/
namespace PD
open PySem PySem.Spec PyProof.Rows L2
def dGcd : List D → Option D
  | [.int a, .int b] => some (.int ((Nat.gcd a.natAbs b.natAbs : Nat) : Int))
  | _ => none
section
variable {K : PySem.W.Frag} {X : Cx} {C : Ct} {fa : FA} {x : Str} {e : Expr} {es : List Expr} {p pos : Pos} {id : String} {r : List V → Hp → VK → Prop} {g : List D → Option D}
theorem l_gcd : VL K rGcd dGcd := by
  intro F H xs ds c Q s h e q
  unfold dGcd at e
  split at e
  · rename_i a b
    cases e
    have z := h.ints2
    exact ⟨a, b, z, q _ H F (Ext.refl s) (.int _)⟩
  · cases e
theorem ve_callF (hc : CallR X (.builtin id) r) (hv : VL X.K r g) (hg : Gl X x) (hm : X.mg x = some (.builtin id)) (ha : VA X C (e :: es) fa) (hdb : (x == ("__debug__" : Str)) = false := by decide)
    (he : starEach (e :: es) X.env = (false, eval e X.env) :: starEach es X.env := by rfl) (hpl : (backTo pos (starEach es X.env)).any (·.1) = false := by rfl) : VE X C (.Call (.Name x p) (e :: es) [] pos) (fCB g fa) := PE.of (pe_callBfun hc hg hm ha hdb he hpl) fun _ _ _ => t_cb hv
end
theorem e_seqN {g g' : FS} {e : List Sl} {d : D} (h : g e = .rn d) : sSeq g g' e = .rn d := by unfold sSeq; rw [h]; rfl
theorem ixN_natP {n j : Nat} (hj : j < n) : ixN n (j : Int) = some j := by
  unfold ixN
  rw [if_pos (by omega), if_pos (by omega), Int.toNat_natCast]
theorem e_put {i j : Nat} {fv fi : FE} {e e' : List Sl} {l : List D} {v : D} {k : Int} (h0 : e[i]? = some (.own l)) (hv : fv e = .ok v) (hi : fi e = .ok (.int k)) (hj : ixN l.length k = some j) (h' : e.set i (.own (l.set j v)) = e') : sPut i fv fi e = .nx e' := by
  unfold sPut; rw [h0]; show bindO (fv e) _ = _; rw [hv]; show bindO (fi e) _ = _; rw [hi]
  show (match ixN l.length k with | some j => Out.nx (e.set i (.own (l.set j v))) | none => .no) = _
  rw [hj, ← h']
end PD

/-! Part 18: frames: what a block does where some slots are not known (un), it does whatever they hold -/
namespace PD
open PySem PySem.Spec PyProof.Rows L2

/-- e' knows more -/
structure Le (e e' : List Sl) : Prop where
  len : e'.length = e.length
  get : ∀ (i : Nat) (s : Sl), e[i]? = some s → s ≠ .un → e'[i]? = some s
/-- from e, e' to f, f': no slot is forgotten; what is not known in f was not written -/
structure Ge (e e' f f' : List Sl) : Prop where
  le : Le f f'
  len : f'.length = e'.length
  un : ∀ i : Nat, f[i]? = some .un → e[i]? = some .un ∧ f'[i]? = e'[i]?
section
variable {e e' f f' g g' : List Sl}
theorem Le.refl (e : List Sl) : Le e e := ⟨rfl, fun _ _ h _ => h⟩
theorem Ge.refl (h : Le e e') : Ge e e' e e' := ⟨h, rfl, fun _ q => ⟨q, rfl⟩⟩
theorem Ge.trans (a : Ge e e' f f') (b : Ge f f' g g') : Ge e e' g g' := ⟨b.le, b.len.trans a.len, fun i q => by
  obtain ⟨h1, h2⟩ := b.un i q
  obtain ⟨h3, h4⟩ := a.un i h1
  exact ⟨h3, h2.trans h4⟩⟩
theorem Le.sh {i : Nat} {d : D} (h : Le e e') (q : e[i]? = some (.sh d)) : e'[i]? = some (.sh d) := h.get i _ q (by intro z; cases z)
theorem Le.own {i : Nat} {d : List D} (h : Le e e') (q : e[i]? = some (.own d)) : e'[i]? = some (.own d) := h.get i _ q (by intro z; cases z)
theorem Le.scr {i : Nat} {d : List Int} (h : Le e e') (q : e[i]? = some (.scr d)) : e'[i]? = some (.scr d) := h.get i _ q (by intro z; cases z)
theorem Ge.set (h : Le e e') (i : Nat) {s : Sl} (hs : s ≠ .un) : Ge e e' (e.set i s) (e'.set i s) := by
  refine ⟨⟨by rw [List.length_set, List.length_set, h.len], fun j t q ht => ?_⟩, List.length_set, fun j q => ?_⟩
  · by_cases hj : i = j
    · subst hj
      have hi : i < e.length := by
        rcases Nat.lt_or_ge i e.length with z | z
        · exact z
        · rw [List.getElem?_eq_none (by rw [List.length_set]; exact z)] at q; cases q
      rw [List.getElem?_set_self hi] at q
      rw [List.getElem?_set_self (by rw [h.len]; exact hi)]
      exact q
    · rw [List.getElem?_set_ne hj] at q ⊢
      exact h.get j t q ht
  · by_cases hj : i = j
    · subst hj
      have hi : i < e.length := by
        rcases Nat.lt_or_ge i e.length with z | z
        · exact z
        · rw [List.getElem?_eq_none (by rw [List.length_set]; exact z)] at q; cases q
      rw [List.getElem?_set_self hi] at q
      cases q
      exact absurd rfl hs
    · rw [List.getElem?_set_ne hj] at q ⊢
      exact ⟨q, rfl⟩
theorem Le.setUn (h : Le e e') (i : Nat) : Le (e.set i .un) (e'.set i .un) := by
  refine ⟨by rw [List.length_set, List.length_set, h.len], fun j t q ht => ?_⟩
  by_cases hj : i = j
  · subst hj
    have hi : i < e.length := by
      rcases Nat.lt_or_ge i e.length with z | z
      · exact z
      · rw [List.getElem?_eq_none (by rw [List.length_set]; exact z)] at q; cases q
    rw [List.getElem?_set_self hi] at q
    cases q
    exact absurd rfl ht
  · rw [List.getElem?_set_ne hj] at q ⊢
    exact h.get j t q ht
theorem Le.wipe (h : Le e e') : ∀ vs : List Nat, Le (wipeE e vs) (wipeE e' vs)
  | [] => h
  | v :: vs => (Le.wipe h vs).setUn v
theorem Le.thaw (h : Le e e') : Le (thaw e) (thaw e') := by
  refine ⟨by rw [thaw_len, thaw_len, h.len], fun j t q ht => ?_⟩
  rw [thaw_get] at q ⊢
  cases ej : e[j]? with
  | none => rw [ej] at q; cases q
  | some s =>
    rw [ej] at q
    cases s with
    | un => cases q; exact absurd rfl ht
    | sh d => rw [h.sh ej]; exact q
    | own d => rw [h.own ej]; exact q
    | scr d => rw [h.scr ej]; exact q
theorem Le.nil : Le [] [] := ⟨rfl, fun _ _ h _ => h⟩
theorem Le.un {s : Sl} (h : Le e e') : Le (.un :: e) (s :: e') := ⟨by simp [h.len], fun i t q ht => by
  cases i with
  | zero => have q : Sl.un = t := by simpa using q
            exact absurd q.symm ht
  | succ i => exact h.get i t q ht⟩
theorem Le.cons {s : Sl} (h : Le e e') : Le (s :: e) (s :: e') := ⟨by simp [h.len], fun i t q ht => by
  cases i with
  | zero => exact q
  | succ i => exact h.get i t q ht⟩
theorem Le.rep : ∀ {n : Nat} {R : List Sl}, R.length = n → Le (List.replicate n .un) R
  | 0, [], _ => Le.nil
  | n + 1, s :: R, h => Le.un (Le.rep (by simpa using h))
end

/-! ### expressions -/
def Mn {α : Type} (f : List Sl → Rs α) : Prop := ∀ e e' : List Sl, Le e e' → f e ≠ .no → f e' = f e
section
variable {α β : Type}
theorem mn_k (r : Rs α) : Mn fun _ => r := fun _ _ _ _ => rfl
theorem mn_bind {f : List Sl → Rs α} {k : α → List Sl → Rs β} (hf : Mn f) (hk : ∀ a, Mn (k a)) : Mn fun e => (f e).bind fun a => k a e := fun e e' h q => by
  have q : ((f e).bind fun a => k a e) ≠ .no := q
  show ((f e').bind fun a => k a e') = (f e).bind fun a => k a e
  cases hfe : f e with
  | ok a =>
    rw [hfe] at q
    rw [hf e e' h (by rw [hfe]; intro z; cases z), hfe]
    exact hk a e e' h q
  | er c n => rw [hf e e' h (by rw [hfe]; intro z; cases z), hfe]; rfl
  | no => rw [hfe] at q; exact absurd rfl q
theorem mn_bindX {F : List Sl → Rs β} {f : List Sl → Rs α} {k : α → List Sl → Rs β} (hF : ∀ e, F e = (f e).bind fun a => k a e) (hf : Mn f) (hk : ∀ a, Mn (k a)) : Mn F := by
  have : F = fun e => (f e).bind fun a => k a e := funext hF
  rw [this]
  exact mn_bind hf hk
theorem mn_quiet {f : List Sl → Rs α} (hf : Mn f) : Mn fun e => (f e).quiet := fun e e' h q => by
  have q : (f e).quiet ≠ .no := q
  show (f e').quiet = (f e).quiet
  cases hfe : f e with
  | ok a => rw [hf e e' h (by rw [hfe]; intro z; cases z), hfe]
  | er c n => rw [hfe] at q; exact absurd rfl q
  | no => rw [hfe] at q; exact absurd rfl q
theorem mn_thaw {f : List Sl → Rs α} (hf : Mn f) : Mn fun e => f (thaw e) := fun e e' h q => hf _ _ h.thaw q
theorem mn_ite {c : Prop} [Decidable c] {f g : List Sl → Rs α} (hf : Mn f) (hg : Mn g) : Mn fun e => if c then f e else g e := fun e e' h q => by
  by_cases hc : c
  · simp only [if_pos hc] at q ⊢; exact hf e e' h q
  · simp only [if_neg hc] at q ⊢; exact hg e e' h q
end
section
variable {f f' f'' : FE} {b b' : FB} {fa fa' : FA} {o o' : FO} {t t1 : Tgt}
theorem mn_var (i : Nat) : Mn (fVar i) := fun e e' h q => by
  unfold fVar at q ⊢
  split at q
  · rename_i d hd
    rw [h.sh hd]
  · exact absurd rfl q
theorem mn_c (d : D) : Mn (fC d) := mn_k _
theorem mn_f2 {k : D → D → Option D} (h : Mn f) (h' : Mn f') : Mn (f2 k f f') := mn_bind h fun _ => mn_bind h' fun _ => mn_k _
theorem mn_f1 {k : D → Option D} (h : Mn f) : Mn (f1 k f) := mn_bind h fun _ => mn_k _
theorem mn_f3 {k k' : D → D → Option D} (h : Mn f) (h' : Mn f') (h'' : Mn f'') : Mn (f3 k k' f f' f'') := mn_bind h fun _ => mn_bind h' fun _ => mn_bind (mn_k _) fun _ => mn_bind (mn_k _) fun _ => mn_ite (mn_bind h'' fun _ => mn_k _) (mn_k _)
theorem mn_B (h : Mn f) : Mn (fB f) := mn_bind h fun _ => mn_k _
theorem mn_tru (h : Mn f) : Mn (fTru f) := mn_bind h fun _ => mn_k _
theorem mn_and (h : Mn b) (h' : Mn b') : Mn (fAnd b b') := mn_bind h fun _ => mn_ite h' (mn_k _)
theorem mn_or (h : Mn b) (h' : Mn b') : Mn (fOr b b') := mn_bind h fun _ => mn_ite (mn_k _) h'
theorem mn_not (h : Mn b) : Mn (fNot b) := mn_bind h fun _ => mn_k _
theorem mn_andV (h : Mn f) (h' : Mn f') : Mn (fAndV f f') := mn_bind h fun _ => mn_bind (mn_k _) fun _ => mn_ite h' (mn_k _)
theorem mn_orV (h : Mn f) (h' : Mn f') : Mn (fOrV f f') := mn_bind h fun _ => mn_bind (mn_k _) fun _ => mn_ite (mn_k _) h'
theorem mn_notV (h : Mn f) : Mn (fNotV f) := mn_bind h fun _ => mn_bind (mn_k _) fun _ => mn_k _
theorem mn_if (h : Mn b) (h1 : Mn f) (h2 : Mn f') : Mn (fIf b f f') := mn_bind h fun _ => mn_ite h1 h2
theorem mn_nil : Mn aNil := mn_k _
theorem mn_cons (h : Mn f) (h' : Mn fa) : Mn (aCons f fa) := mn_bind h fun _ => mn_bind h' fun _ => mn_k _
theorem mn_star (h : Mn f) (h' : Mn fa) : Mn (aStar f fa) := mn_bindX (fun _ => rfl) h fun d => by cases d <;> first | exact mn_bind h' fun _ => mn_k _ | exact mn_k _
theorem mn_lst (h : Mn fa) : Mn (fLst fa) := mn_bind h fun _ => mn_ite (mn_k _) (mn_k _)
theorem mn_tup (h : Mn fa) : Mn (fTup fa) := mn_bind h fun _ => mn_ite (mn_k _) (mn_k _)
theorem mn_cb {g : List D → Option D} (h : Mn fa) : Mn (fCB g fa) := mn_bind h fun _ => mn_k _
theorem mn_call {Fn : List D → Rs D} (h : Mn fa) : Mn (fCall Fn fa) := mn_bind h fun _ => mn_k _
theorem mn_thB (h : Mn b) : Mn (fThB b) := mn_thaw h
theorem mn_scal (h : Mn f) : Mn (fScal f) := mn_bind (f := fun e => f (thaw e)) (mn_thaw h) fun _ => mn_ite (mn_k _) (mn_k _)
theorem mn_scalN (h : Mn f) : Mn (fScalN f) := mn_bind (f := fun e => f (thaw e)) (mn_thaw h) fun _ => mn_ite (mn_k _) (mn_k _)
theorem mn_ixO (i : Nat) (h : Mn f) : Mn (fIxO i f) := fun e e' le q => by
  unfold fIxO at q ⊢
  split at q
  · rename_i l hl
    rw [le.own hl]
    exact (mn_bind (k := fun d _ => Rs.ofO (dIx (.list l) d)) h fun _ => mn_k _) e e' le q
  · exact absurd rfl q
theorem mn_oN : Mn oNone := mn_k _
theorem mn_oS (h : Mn f) : Mn (oSome f) := mn_bind h fun _ => mn_bind (mn_k _) fun _ => mn_k _
theorem mn_sl (h : Mn f) (h1 : Mn o) (h2 : Mn o') : Mn (fSl f o o') := mn_bind h fun _ => mn_bind h1 fun _ => mn_bind h2 fun _ => mn_k _
theorem mn_slN (h : Mn f) (h1 : Mn o) (h2 : Mn o') : Mn (fSlN f o o') := mn_bind h fun _ => mn_bind h1 fun _ => mn_bind h2 fun _ => mn_k _
theorem mn_rev (h : Mn f) : Mn (fRev f) := mn_f1 h
theorem mn_join (h : Mn f) (h' : Mn f') : Mn (fJoin f f') := mn_bindX (fun _ => rfl) h fun d => by cases d <;> first | exact mn_bind h' fun _ => mn_k _ | exact mn_k _
theorem mn_index (h : Mn f) (h' : Mn f') : Mn (fIndex f f') := mn_bindX (fun _ => rfl) h fun d => by cases d <;> first | exact mn_bind h' fun _ => mn_k _ | exact mn_k _
theorem mn_RNe (h : Mn f) (h' : Mn f') : Mn (fRNe f f') := mn_bind h fun _ => mn_ite (mn_bind h' fun _ => mn_ite (mn_k _) (mn_k _)) (mn_k _)
theorem mn_REq (h : Mn f) (h' : Mn f') : Mn (fREq f f') := mn_bind h fun _ => mn_ite (mn_bind h' fun _ => mn_ite (mn_k _) (mn_k _)) (mn_k _)
theorem mn_rg1 {k : List D → D} (h : Mn f) : Mn (fRg1 f k) := mn_bind h fun _ => mn_k _
theorem mn_rg2 {k : List D → D} (h : Mn f) (h' : Mn f') : Mn (fRg2 f f' k) := mn_bind h fun _ => mn_bind h' fun _ => mn_k _
theorem mn_enum (h : Mn f) : Mn (iEnumF f) := mn_bind h fun _ => mn_k _
theorem mn_zip (h : Mn f) (h' : Mn f') : Mn (iZipF f f') := mn_bind h fun _ => mn_bind h' fun _ => mn_k _
theorem mn_seq (h : Mn f) : Mn (iSeq f) := mn_bind h fun _ => mn_k _
theorem mn_rng1 (h : Mn fa) : Mn (iRng1F fa) := mn_bind h fun _ => mn_k _
theorem mn_rng2 (h : Mn fa) : Mn (iRng2F fa) := mn_bind h fun _ => mn_k _
theorem mn_yes : Mn bYes := mn_k _
theorem setE_ge : ∀ (is : List Nat) (l : List D) {e e' f f' : List Sl}, Ge e e' f f' → Ge e e' (setE is l f) (setE is l f')
  | [], _, _, _, _, _, h => by unfold setE; exact h
  | _ :: _, [], _, _, _, _, h => by unfold setE; exact h
  | i :: is, d :: ds, _, _, _, _, h => setE_ge is ds (h.trans (Ge.set h.le i (s := .sh d) (by intro z; cases z)))
theorem Tgt.put_ge (t : Tgt) {d : D} {e e' f : List Sl} (h : Le e e') (q : t.put d e = some f) : ∃ f', t.put d e' = some f' ∧ Ge e e' f f' := by
  cases t with
  | nm i =>
    have q : e.set i (.sh d) = f := Option.some.inj q
    subst q
    exact ⟨_, rfl, Ge.set h i (by intro z; cases z)⟩
  | tp is =>
    cases d with
    | tuple l =>
      have q : (if l.length = is.length then some (setE is l e) else none) = some f := q
      by_cases hl : l.length = is.length
      · rw [if_pos hl] at q
        cases q
        exact ⟨_, if_pos hl, setE_ge is l (Ge.refl h)⟩
      · rw [if_neg hl] at q; cases q
    | list l =>
      have q : (if l.length = is.length then some (setE is l e) else none) = some f := q
      by_cases hl : l.length = is.length
      · rw [if_pos hl] at q
        cases q
        exact ⟨_, if_pos hl, setE_ge is l (Ge.refl h)⟩
      · rw [if_neg hl] at q; cases q
    | _ => cases q
  | np i is =>
    unfold Tgt.put at q ⊢
    cases hn : npD d with
    | none => simp only [hn] at q; cases q
    | some p =>
      obtain ⟨c, l⟩ := p
      simp only [hn] at q ⊢
      by_cases hl : l.length = is.length
      · rw [if_pos hl] at q ⊢
        cases q
        exact ⟨_, rfl, setE_ge is l (Ge.set h i (by intro z; cases z))⟩
      · rw [if_neg hl] at q; cases q
theorem mn_lcGo {tt : FB} {k : List Sl → Rs (List D)} (ht : Mn tt) (hk : Mn k) : ∀ ds : List D, Mn fun e => lcGo t tt k e ds
  | [] => fun _ _ _ _ => rfl
  | d :: ds => fun e e' h q => by
    have q : lcGo t tt k e (d :: ds) ≠ .no := q
    show lcGo t tt k e' (d :: ds) = lcGo t tt k e (d :: ds)
    unfold lcGo at q ⊢
    cases hp : t.put d e with
    | none => rw [hp] at q; exact absurd rfl q
    | some f =>
      obtain ⟨f', hp', ge⟩ := t.put_ge h hp
      rw [hp] at q
      rw [hp']
      have q : ((tt f).bind fun b => if b = true then (k f).bind fun ys => (lcGo t tt k e ds).bind fun r => .ok (ys ++ r) else lcGo t tt k e ds) ≠ .no := q
      show ((tt f').bind fun b => if b = true then (k f').bind fun ys => (lcGo t tt k e' ds).bind fun r => .ok (ys ++ r) else lcGo t tt k e' ds) = ((tt f).bind fun b => if b = true then (k f).bind fun ys => (lcGo t tt k e ds).bind fun r => .ok (ys ++ r) else lcGo t tt k e ds)
      have ih := mn_lcGo ht hk ds e e' h
      cases hb : tt f with
      | no => rw [hb] at q; exact absurd rfl q
      | er c n => rw [ht f f' ge.le (by rw [hb]; intro z; cases z), hb]; rfl
      | ok b =>
        rw [ht f f' ge.le (by rw [hb]; intro z; cases z), hb]
        rw [hb] at q
        have q : (if b = true then (k f).bind fun ys => (lcGo t tt k e ds).bind fun r => .ok (ys ++ r) else lcGo t tt k e ds) ≠ .no := q
        show (if b = true then (k f').bind fun ys => (lcGo t tt k e' ds).bind fun r => .ok (ys ++ r) else lcGo t tt k e' ds) = (if b = true then (k f).bind fun ys => (lcGo t tt k e ds).bind fun r => .ok (ys ++ r) else lcGo t tt k e ds)
        cases b with
        | false =>
          rw [if_neg Bool.false_ne_true] at q ⊢
          rw [if_neg Bool.false_ne_true]
          exact ih q
        | true =>
          rw [if_pos rfl] at q ⊢
          rw [if_pos rfl]
          cases hkf : k f with
          | no => rw [hkf] at q; exact absurd rfl q
          | er c n => rw [hk f f' ge.le (by rw [hkf]; intro z; cases z), hkf]; rfl
          | ok ys =>
            rw [hk f f' ge.le (by rw [hkf]; intro z; cases z), hkf]
            rw [hkf] at q
            have q : ((lcGo t tt k e ds).bind fun r => .ok (ys ++ r)) ≠ .no := q
            show ((lcGo t tt k e' ds).bind fun r => .ok (ys ++ r)) = ((lcGo t tt k e ds).bind fun r => .ok (ys ++ r))
            have ih : lcGo t tt k e ds ≠ .no → lcGo t tt k e' ds = lcGo t tt k e ds := ih
            cases hr : lcGo t tt k e ds with
            | no => rw [hr] at q; exact absurd rfl q
            | er c n => rw [ih (by rw [hr]; intro z; cases z), hr]
            | ok r => rw [ih (by rw [hr]; intro z; cases z), hr]
theorem mn_one (h : Mn f) : Mn (one f) := mn_bind h fun _ => mn_k _
theorem mn_wipe {α : Type} {g : List Sl → Rs α} (h : Mn g) (vs : List Nat) : Mn fun e => g (wipeE e vs) := fun e e' le q => h _ _ (le.wipe vs) q
theorem mn_lc {vs : List Nat} (hi : Mn fa) (ht : Mn b) (hf : Mn f) : Mn (fLc fa t b f vs) :=
  mn_bind hi fun ds => mn_bind (f := fun e => (lcGo t b (one f) (wipeE e vs) ds).quiet) (mn_quiet (mn_wipe (mn_lcGo ht (mn_one hf) ds) vs)) fun _ => mn_ite (mn_k _) (mn_k _)
end
section
variable {f f' : FE} {b b' : FB} {fa fa' : FA} {t t1 : Tgt}
theorem mn_two {vs : List Nat} (hi : Mn fa) (ht : Mn b) (hf : Mn f) : Mn (two fa t b f vs) := mn_bind hi fun ds => mn_wipe (mn_lcGo ht (mn_one hf) ds) vs
theorem mn_lc2 {vs vs1 : List Nat} (hi : Mn fa) (ht : Mn b) (hi1 : Mn fa') (ht1 : Mn b') (hf : Mn f) : Mn (fLc2 fa t b fa' t1 b' f vs vs1) :=
  mn_bind hi fun ds => mn_bind (f := fun e => (lcGo t b (two fa' t1 b' f vs1) (wipeE e vs) ds).quiet) (mn_quiet (mn_wipe (mn_lcGo ht (mn_two hi1 ht1 hf) ds) vs)) fun _ => mn_ite (mn_k _) (mn_k _)
end

/-! ### statements -/
def RO2 (e e' : List Sl) : Out → Out → Prop
  | .nx f, o => ∃ f', o = .nx f' ∧ Ge e e' f f'
  | .bk f, o => ∃ f', o = .bk f' ∧ Ge e e' f f'
  | .ct f, o => ∃ f', o = .ct f' ∧ Ge e e' f f'
  | .no, _ => True
  | a, o => o = a
def Ms (g : FS) : Prop := ∀ e e' : List Sl, Le e e' → RO2 e e' (g e) (g e')
section
variable {f : FE} {b : FB} {fa : FA} {t : Tgt} {g g' : FS}
theorem RO2.trans {e e' f f' : List Sl} (h : Ge e e' f f') {o o' : Out} (r : RO2 f f' o o') : RO2 e e' o o' := by
  cases o with
  | nx a => obtain ⟨x, h1, h2⟩ := r; exact ⟨x, h1, h.trans h2⟩
  | bk a => obtain ⟨x, h1, h2⟩ := r; exact ⟨x, h1, h.trans h2⟩
  | ct a => obtain ⟨x, h1, h2⟩ := r; exact ⟨x, h1, h.trans h2⟩
  | rt d => exact r
  | rn d => exact r
  | er c n => exact r
  | no => trivial
theorem ms_bind {α : Type} {f : List Sl → Rs α} {k : α → FS} (hf : Mn f) (hk : ∀ a, Ms (k a)) : Ms fun e => bindO (f e) fun a => k a e := fun e e' h => by
  show RO2 e e' (bindO (f e) fun a => k a e) (bindO (f e') fun a => k a e')
  cases hfe : f e with
  | ok a => rw [hf e e' h (by rw [hfe]; intro z; cases z), hfe]; exact hk a e e' h
  | er c n => rw [hf e e' h (by rw [hfe]; intro z; cases z), hfe]; exact rfl
  | no => trivial
theorem ms_bindX {α : Type} {F : FS} {f : List Sl → Rs α} {k : α → FS} (hF : ∀ e, F e = bindO (f e) fun a => k a e) (hf : Mn f) (hk : ∀ a, Ms (k a)) : Ms F := by
  have : F = fun e => bindO (f e) fun a => k a e := funext hF
  rw [this]
  exact ms_bind hf hk
theorem ms_set' (i : Nat) {s : Sl} (hs : s ≠ .un) : Ms fun e => .nx (e.set i s) := fun e e' h => ⟨_, rfl, Ge.set h i hs⟩
theorem ms_no : Ms fun _ => .no := fun _ _ _ => trivial
theorem ms_next : Ms sNext := fun e e' h => ⟨_, rfl, Ge.refl h⟩
theorem ms_brk : Ms sBrk := fun e e' h => ⟨_, rfl, Ge.refl h⟩
theorem ms_cnt : Ms sCnt := fun e e' h => ⟨_, rfl, Ge.refl h⟩
theorem ms_sNo : Ms sNo := ms_no
theorem ms_rtc (o : D) : Ms fun _ => .rt o := fun _ _ _ => rfl
theorem ms_rnc (o : D) : Ms fun _ => .rn o := fun _ _ _ => rfl
theorem ms_none : Ms sNone := ms_rtc _
theorem ms_ite {c : Prop} [Decidable c] (h : Ms g) (h' : Ms g') : Ms fun e => if c then g e else g' e := fun e e' le => by
  by_cases hc : c
  · simp only [if_pos hc]; exact h e e' le
  · simp only [if_neg hc]; exact h' e e' le
theorem ms_seq (h : Ms g) (h' : Ms g') : Ms (sSeq g g') := fun e e' le => by
  have r := h e e' le
  unfold sSeq
  cases hg : g e with
  | nx x =>
    rw [hg] at r
    obtain ⟨x', h1, h2⟩ := r
    rw [h1]
    exact RO2.trans h2 (h' x x' h2.le)
  | bk x => rw [hg] at r; obtain ⟨x', h1, h2⟩ := r; rw [h1]; exact ⟨x', rfl, h2⟩
  | ct x => rw [hg] at r; obtain ⟨x', h1, h2⟩ := r; rw [h1]; exact ⟨x', rfl, h2⟩
  | rt d => rw [hg] at r; have r : g e' = .rt d := r; rw [r]; exact rfl
  | rn d => rw [hg] at r; have r : g e' = .rn d := r; rw [r]; exact rfl
  | er c n => rw [hg] at r; have r : g e' = .er c n := r; rw [r]; exact rfl
  | no => trivial
theorem ms_set (i : Nat) (h : Mn f) : Ms (sSet i f) := ms_bind h fun _ => ms_set' i (by intro z; cases z)
theorem ms_setN (i : Nat) (h : Mn f) : Ms (sSetN i f) := ms_bindX (fun _ => rfl) h fun d => by
    cases d <;> first | exact ms_no | exact ms_set' i (by intro z; cases z)
theorem ms_setF (i : Nat) (h : Mn f) : Ms (sSetF i f) := ms_bindX (fun _ => rfl) h fun d => by
    cases d <;> first | exact ms_no | exact ms_set' i (by intro z; cases z)
theorem ms_drop (h : Mn f) : Ms (sDrop f) := ms_bind h fun _ => ms_next
theorem ms_if (h : Mn b) (h1 : Ms g) (h2 : Ms g') : Ms (sIf b g g') := ms_bind h fun _ => ms_ite h1 h2
theorem ms_ret (h : Mn f) : Ms (sRet f) := ms_bind h fun _ => ms_rtc _
theorem ms_retN (h : Mn f) : Ms (sRetN f) := ms_bind h fun _ => ms_rnc _
theorem ms_retO (i : Nat) : Ms (sRetO i) := fun e e' le => by
  unfold sRetO
  split
  · rename_i l hl
    rw [le.own hl]; exact rfl
  · trivial
theorem ms_frz (i : Nat) (h : Ms g) : Ms (sFrz i g) := fun e e' le => by
  unfold sFrz
  cases hi : e[i]? with
  | none =>
    have hi' : e'[i]? = none := by
      rw [List.getElem?_eq_none_iff] at hi ⊢
      rw [le.len]; exact hi
    rw [hi']
    show RO2 e e' (g (frz1 i e)) (g (frz1 i e'))
    unfold frz1
    rw [hi, hi']
    exact h e e' le
  | some s =>
    cases s with
    | un => trivial
    | sh d =>
      rw [le.sh hi]
      show RO2 e e' (g (frz1 i e)) (g (frz1 i e'))
      unfold frz1
      rw [hi, le.sh hi]
      exact h e e' le
    | own l =>
      rw [le.own hi]
      show RO2 e e' (g (frz1 i e)) (g (frz1 i e'))
      unfold frz1
      rw [hi, le.own hi]
      have ge := Ge.set le i (s := .sh (.list l)) (by intro z; cases z)
      exact RO2.trans ge (h _ _ ge.le)
    | scr ns =>
      rw [le.scr hi]
      show RO2 e e' (g (frz1 i e)) (g (frz1 i e'))
      unfold frz1
      rw [hi, le.scr hi]
      exact h e e' le
theorem ms_own {i : Nat} {k : List D → FS} (hk : ∀ l, Ms (k l)) : Ms fun e => match e[i]? with
  | some (.own l) => k l e
  | _ => .no := fun e e' le => by
  dsimp only
  cases hi : e[i]? with
  | none => trivial
  | some s =>
    cases s with
    | own l => rw [le.own hi]; exact hk l e e' le
    | _ => trivial
theorem ms_app (i : Nat) (h : Mn f) : Ms (sApp i f) := ms_own fun l => ms_bind h fun _ => ms_ite (ms_set' i (by intro z; cases z)) ms_no
theorem ms_ext (i : Nat) (h : Mn f) : Ms (sExt i f) := ms_own fun l => ms_bindX (fun _ => rfl) h fun d => by
    cases d <;> first | exact ms_no | exact ms_ite (ms_set' i (by intro z; cases z)) ms_no
theorem ms_rem (i : Nat) (h : Mn f) : Ms (sRem i f) := ms_own fun l => ms_bindX (fun _ => rfl) h fun d => by
    cases d with
    | int k =>
      cases hl : intsD l with
      | none => exact ms_no
      | some ns => exact ms_ite (ms_set' i (by intro z; cases z)) ms_no
    | _ => exact ms_no
theorem ms_put (i : Nat) {fv fi : FE} (h : Mn fv) (h' : Mn fi) : Ms (sPut i fv fi) := ms_own fun l => ms_bind h fun v => ms_bindX (fun _ => rfl) h' fun d => by
    cases d with
    | int k =>
      show Ms fun e => match ixN l.length k with
        | some j => .nx (e.set i (.own (l.set j v)))
        | none => .no
      cases hl : ixN l.length k with
      | none => exact ms_no
      | some ns => exact ms_set' i (s := .own (l.set ns v)) (by intro z; cases z)
    | _ => exact ms_no
theorem ms_asg (h : Mn f) : Ms (sAsg t f) := ms_bindX (fun _ => rfl) h fun d e e' le => by
    show RO2 e e' (match t.put d e with | some x => .nx x | none => .no) (match t.put d e' with | some x => .nx x | none => .no)
    cases hp : t.put d e with
    | none => trivial
    | some x =>
      obtain ⟨x', h1, h2⟩ := t.put_ge le hp
      rw [h1]
      exact ⟨x', rfl, h2⟩
theorem mn_mS (h : Mn f) : Mn (mS f) := mn_bind h fun _ => mn_k _
theorem mn_mN (h : Mn f) : Mn (mN f) := mn_bind h fun d => mn_k _
theorem ms_par (i j : Nat) {ma mb : FM} (h : Mn ma) (h' : Mn mb) : Ms (sPar i j ma mb) := ms_bind h fun a => ms_bind h' fun b e e' le => by
  have h1 := Ge.set le i (s := a.sl) (by cases a <;> (intro z; cases z))
  exact ⟨_, rfl, h1.trans (Ge.set h1.le j (s := b.sl) (by cases b <;> (intro z; cases z)))⟩
theorem ms_loopF (h : Ms g) : ∀ ds : List D, Ms (loopF t g ds)
  | [] => fun e e' le => ⟨e', rfl, Ge.refl le⟩
  | d :: ds => fun e e' le => by
    unfold loopF
    cases hp : t.put d e with
    | none => trivial
    | some x =>
      obtain ⟨x', h1, h2⟩ := t.put_ge le hp
      rw [h1]
      dsimp only
      have r := h x x' h2.le
      have ih := ms_loopF h ds
      cases hg : g x with
      | nx y =>
        rw [hg] at r
        obtain ⟨y', r1, r2⟩ := r
        rw [r1]
        exact RO2.trans (h2.trans r2) (ih y y' r2.le)
      | ct y =>
        rw [hg] at r
        obtain ⟨y', r1, r2⟩ := r
        rw [r1]
        exact RO2.trans (h2.trans r2) (ih y y' r2.le)
      | bk y =>
        rw [hg] at r
        obtain ⟨y', r1, r2⟩ := r
        rw [r1]
        exact ⟨y', rfl, h2.trans r2⟩
      | rt d => rw [hg] at r; have r : g x' = .rt d := r; rw [r]; exact rfl
      | rn d => rw [hg] at r; have r : g x' = .rn d := r; rw [r]; exact rfl
      | er c n => rw [hg] at r; have r : g x' = .er c n := r; rw [r]; exact rfl
      | no => trivial
theorem ms_for (hi : Mn fa) (h : Ms g) : Ms (sFor t fa g) := ms_bind hi fun ds => ms_loopF h ds
theorem ms_loopW (hb : Mn b) (h : Ms g) : ∀ n : Nat, Ms (loopW b g n)
  | 0 => fun _ _ _ => trivial
  | n + 1 => by
    have ih := ms_loopW hb h n
    refine ms_bindX (fun _ => rfl) hb fun c => ms_ite (fun e e' le => ?_) ms_next
    show RO2 e e' (match g e with | .nx e => loopW b g n e | .ct e => loopW b g n e | .bk e => .nx e | o => o) (match g e' with | .nx e => loopW b g n e | .ct e => loopW b g n e | .bk e => .nx e | o => o)
    have r := h e e' le
    cases hg : g e with
    | nx y =>
      rw [hg] at r
      obtain ⟨y', r1, r2⟩ := r
      rw [r1]
      exact RO2.trans r2 (ih y y' r2.le)
    | ct y =>
      rw [hg] at r
      obtain ⟨y', r1, r2⟩ := r
      rw [r1]
      exact RO2.trans r2 (ih y y' r2.le)
    | bk y =>
      rw [hg] at r
      obtain ⟨y', r1, r2⟩ := r
      rw [r1]
      exact ⟨y', rfl, r2⟩
    | rt d => rw [hg] at r; have r : g e' = .rt d := r; rw [r]; exact rfl
    | rn d => rw [hg] at r; have r : g e' = .rn d := r; rw [r]; exact rfl
    | er c n => rw [hg] at r; have r : g e' = .er c n := r; rw [r]; exact rfl
    | no => trivial
theorem ms_while (n : Nat) (hb : Mn b) (h : Ms g) : Ms (sWhile n b g) := ms_loopW hb h n
end

/-! ### a block reckoned -/
def isUn (o : Option Sl) : Bool := match o with
  | some .un => true
  | _ => false
def nxOk (keep : List Nat) (o : Out) : Bool := match o with
  | .nx f => keep.all fun i => isUn f[i]?
  | _ => false
theorem run_nx {g : FS} (m : Ms g) {keep : List Nat} {e e' : List Sl} (h : nxOk keep (g e) = true) (le : Le e e') : ∃ f', g e' = .nx f' ∧ f'.length = e'.length ∧ ∀ i ∈ keep, f'[i]? = e'[i]? := by
  have r := m e e' le
  cases hg : g e with
  | nx f =>
    rw [hg] at r h
    obtain ⟨f', h1, h2⟩ := r
    have hun : ∀ i ∈ keep, f[i]? = some .un := fun i hi => by
      have z := List.all_eq_true.mp h i hi
      unfold isUn at z
      split at z
      · assumption
      · cases z
    exact ⟨f', h1, h2.len, fun i hi => (h2.un i (hun i hi)).2⟩
  | _ => rw [hg] at h; cases h
end PD

/-! Part 19: laws that go in turns, by frames -/
namespace PD
open PySem PySem.Spec PyProof.Rows L2
/-- a turn: the slots but those of the script, the draws and the turn are not known -/
def eT (d t : D) (n : Nat) : List Sl := .un :: .sh d :: .sh t :: List.replicate n .un
/-- what a turn must do -/
def TurnOk (g : FS) (d : D) (n : Nat) (t : Nat) : Prop := ∃ f, g (eT d (.int (t : Int)) n) = .nx f ∧ f[0]? = some .un ∧ f[1]? = some (.sh d)
theorem turn_run {g : FS} (m : Ms g) {d : D} {n t : Nat} (h : TurnOk g d n t) {s0 : Sl} {R : List Sl} (hR : R.length = n) : ∃ s2 R', R'.length = n ∧ g (s0 :: .sh d :: .sh (.int (t : Int)) :: R) = .nx (s0 :: .sh d :: s2 :: R') := by
  obtain ⟨f, h1, h2, h3⟩ := h
  have le : Le (eT d (.int (t : Int)) n) (s0 :: .sh d :: .sh (.int (t : Int)) :: R) := Le.un (Le.cons (Le.cons (Le.rep hR)))
  have r := m _ _ le
  rw [h1] at r
  obtain ⟨f', e1, ge⟩ := r
  have a0 := (ge.un 0 h2).2
  have a1 := ge.le.sh h3
  have hl := ge.len
  match f', hl with
  | [], hl => simp at hl
  | [_], hl => simp at hl
  | [_, _], hl => simp at hl
  | x :: y :: z :: R', hl =>
    have e0 : x = s0 := by simpa using a0
    have e1' : y = .sh d := by simpa using a1
    subst e0 e1'
    exact ⟨z, R', by simp at hl; omega, e1⟩
theorem turns_ok {g : FS} (m : Ms g) {d : D} {n k : Nat} (hk : k ≤ 1000000) (h : ∀ t, t < k → TurnOk g d n t) {s0 s2 : Sl} {R : List Sl} (hR : R.length = n) : ∃ s2' R', R'.length = n ∧ sFor (Tgt.nm 2) (iRng1F (aCons (fC (.int (k : Int))) aNil)) g (s0 :: .sh d :: s2 :: R) = .nx (s0 :: .sh d :: s2' :: R') := by
  obtain ⟨e', h1, s2', R', hR', rfl⟩ := loopF_inv (t := Tgt.nm 2) (body := g) (ds := rng 0 k) (I := fun _ e => ∃ s2 R, R.length = n ∧ e = s0 :: .sh d :: s2 :: R) (fun i e d' hd ⟨s2, R, hR, he⟩ => by
    subst he
    obtain ⟨hi, rfl⟩ := rng_get hd
    rw [Int.zero_add]
    obtain ⟨s2', R', hR', h1⟩ := turn_run m (h i hi) (s0 := s0) hR
    exact ⟨_, _, rfl, h1, s2', R', hR', rfl⟩) (s0 :: .sh d :: s2 :: R) ⟨s2, R, hR, rfl⟩
  exact ⟨s2', R', hR', e_for (e_rng1 (n := k) e_c hk) h1⟩
/-- the law: draws, turns, the end -/
theorem law_turns {dr : List Int → Rs D} {g fin : FS} {l : List D} {n k : Nat} {ns : List Int} (hd : dr ns = .ok (.list l)) (m : Ms g) (hk : k ≤ 1000000) (h : ∀ t, t < k → TurnOk g (.list l) n t)
    (hf : ∀ e : List Sl, fin e = .rt (.bool true)) : isTrueOut (sSeq (sSet 1 (fScrCall 0 dr)) (sSeq (sFor (Tgt.nm 2) (iRng1F (aCons (fC (.int (k : Int))) aNil)) g) fin) (envS (n + 3) ns)) = true := by
  obtain ⟨s2, R', hR', h1⟩ := turns_ok m hk h (s0 := .scr ns) (s2 := .un) (R := List.replicate n .un) List.length_replicate
  have z : sSeq (sSet 1 (fScrCall 0 dr)) (sSeq (sFor (Tgt.nm 2) (iRng1F (aCons (fC (.int (k : Int))) aNil)) g) fin) (envS (n + 3) ns) = .rt (.bool true) := by
    refine e_seq (e' := .scr ns :: .sh (.list l) :: .un :: List.replicate n .un) (e_set (d := .list l) (by show dr ns = _; exact hd) ?_) (e_seq h1 (hf _))
    unfold envS
    rw [show n + 3 - 1 = n + 1 + 1 by omega, List.replicate_succ, List.replicate_succ]
    rfl
  rw [z]; rfl
end PD

namespace k97
open PySem PySem.Spec PyProof.Rows L2 PD
abbrev gd_LEAST_WAYS : D := (.int 2)
abbrev gd_MOST_BOUND : D := (.int 6)
abbrev gd_MOST_CORNERS : D := (.int 7)
abbrev gd_MOST_PLACE : D := (.int 1000)
abbrev gd_MOST_WAYS : D := (.int 4)
abbrev gd_SIZES : D := (.tuple [(.int 0), (.int 1), (.int 3), (.int 6), (.int 10), (.int 15), (.int 21)])
def g_fraction : FS :=
  (sSeq (sIf (fB (f2 dLt (fVar 1) (fC (.int 0)))) (sPar 0 1 (mS (f1 dNeg (fVar 0))) (mS (f1 dNeg (fVar 1)))) sNext)
  (sSeq (sSet 2 (fCB dGcd (aCons (fVar 0) (aCons (fVar 1) aNil))))
  (sRet (fTup (aCons (f2 dDiv (fVar 0) (fVar 2)) (aCons (f2 dDiv (fVar 1) (fVar 2)) aNil))))))
def fn_fraction : List D → Rs D := dfn0 3 2 g_fraction
def g_is_less : FS :=
  (sRet (f2 dLt (f2 dMul (f2 dIx (fVar 0) (fC (.int 0))) (f2 dIx (fVar 1) (fC (.int 1)))) (f2 dMul (f2 dIx (fVar 1) (fC (.int 0))) (f2 dIx (fVar 0) (fC (.int 1))))))
def fn_is_less : List D → Rs D := dfn0 2 2 g_is_less
def g_check_size : FS :=
  (sSeq (sIf (fNot (fB (f3 dLe dLe (fC gd_LEAST_WAYS) (fVar 0) (fC gd_MOST_WAYS)))) sNo sNext)
  (sIf (fNot (fB (f3 dLe dLe (fC (.int 1)) (fVar 1) (fC gd_MOST_BOUND)))) sNo sNext))
def fn_check_size : List D → Rs D := dfn0 2 2 g_check_size
def g_is_stop : FS :=
  (sRet (fAndV (f3 dLe dLt (fC (.int 0)) (f2 dIx (fVar 2) (fC (.int 0))) (fVar 0)) (f3 dLe dLe (fC (.int 1)) (f2 dIx (fVar 2) (fC (.int 1))) (fVar 1))))
def fn_is_stop : List D → Rs D := dfn0 3 3 g_is_stop
def g_check_walk : FS :=
  (sSeq (sDrop (fCall fn_check_size (aCons (fVar 0) (aCons (fVar 1) aNil))))
  (sFor (Tgt.tp [3, 4]) (iEnumF (fVar 2)) (sIf (fNot (fTru (fCall fn_is_stop (aCons (fVar 0) (aCons (fVar 1) (aCons (fVar 4) aNil)))))) sNo sNext)))
def fn_check_walk : List D → Rs D := dfn0 5 3 g_check_walk
def g_check_stop : FS :=
  (sSeq (sDrop (fCall fn_check_walk (aCons (fVar 0) (aCons (fVar 1) (aCons (fVar 2) aNil)))))
  (sIf (fNot (fTru (fCall fn_is_stop (aCons (fVar 0) (aCons (fVar 1) (aCons (fVar 3) aNil)))))) sNo sNext))
def fn_check_stop : List D → Rs D := dfn0 4 4 g_check_stop
def g_time_of : FS :=
  (sSeq (sSet 2 (fC (.int 0)))
  (sSeq (sFor (Tgt.tp [3, 4]) (iSeq (fVar 0)) (sSeq (sIf (fAnd (fB (f2 dEq (fVar 3) (f2 dIx (fVar 1) (fC (.int 0))))) (fB (f2 dGe (fVar 4) (f2 dIx (fVar 1) (fC (.int 1)))))) (sRet (f2 dAdd (fVar 2) (f2 dIx (fVar 1) (fC (.int 1))))) sNext)
  (sSet 2 (f2 dAdd (fVar 2) (f2 dMul (fC (.int 2)) (fVar 4))))))
  (sRet (fC .none))))
def fn_time_of : List D → Rs D := dfn0 5 2 g_time_of
def g_time : FS :=
  (sSeq (sDrop (fCall fn_check_stop (aCons (fVar 0) (aCons (fVar 1) (aCons (fVar 2) (aCons (fVar 3) aNil))))))
  (sRet (fCall fn_time_of (aCons (fVar 2) (aCons (fVar 3) aNil)))))
def fn_time : List D → Rs D := dfn0 4 4 g_time
def g_stops_of : FS :=
  (sRetN (fLc2 (iRng1F (aCons (fVar 0) aNil)) (Tgt.nm 2) bYes (iRng2F (aCons (fC (.int 1)) (aCons (f2 dAdd (fVar 1) (fC (.int 1))) aNil))) (Tgt.nm 3) bYes (fTup (aCons (fVar 2) (aCons (fVar 3) aNil))) [2, 3] (Tgt.nm 3).slots))
def fn_stops_of : List D → Rs D := dfn0N 4 2 g_stops_of
def g_is_whole_of : FS :=
  (sRet (fCB dAll (aCons (fLc (iRng1F (aCons (fVar 0) aNil)) (Tgt.nm 3) bYes (f2 dIn (fTup (aCons (fVar 3) (aCons (fVar 1) aNil))) (fVar 2)) [3]) aNil)))
def fn_is_whole_of : List D → Rs D := dfn0 4 3 g_is_whole_of
def g_is_whole : FS :=
  (sSeq (sDrop (fCall fn_check_walk (aCons (fVar 0) (aCons (fVar 1) (aCons (fVar 2) aNil)))))
  (sRet (fCall fn_is_whole_of (aCons (fVar 0) (aCons (fVar 1) (aCons (fVar 2) aNil))))))
def fn_is_whole : List D → Rs D := dfn0 3 3 g_is_whole
def g_worst_of : FS :=
  (sSeq (sIf (fNot (fTru (fCall fn_is_whole_of (aCons (fVar 0) (aCons (fVar 1) (aCons (fVar 2) aNil)))))) (sRet (fC .none)) sNext)
  (sSeq (sSet 3 (fC .none))
  (sSeq (sFor (Tgt.nm 4) (iSeq (fCall fn_stops_of (aCons (fVar 0) (aCons (fVar 1) aNil)))) (sSeq (sSet 5 (fCall fn_fraction (aCons (fCall fn_time_of (aCons (fVar 2) (aCons (fVar 4) aNil))) (aCons (f2 dIx (fVar 4) (fC (.int 1))) aNil))))
  (sIf (fOr (fB (f2 isD (fVar 3) (fC .none))) (fTru (fCall fn_is_less (aCons (f2 dIx (fVar 3) (fC (.int 0))) (aCons (fVar 5) aNil))))) (sSet 3 (fTup (aCons (fVar 5) (aCons (fVar 4) aNil)))) sNext)))
  (sRet (fVar 3)))))
def fn_worst_of : List D → Rs D := dfn0 6 3 g_worst_of
def g_worst : FS :=
  (sSeq (sDrop (fCall fn_check_walk (aCons (fVar 0) (aCons (fVar 1) (aCons (fVar 2) aNil)))))
  (sRet (fCall fn_worst_of (aCons (fVar 0) (aCons (fVar 1) (aCons (fVar 2) aNil))))))
def fn_worst : List D → Rs D := dfn0 3 3 g_worst
def g_length : FS :=
  (sSeq (sDrop (fCall fn_check_walk (aCons (fVar 0) (aCons (fVar 1) (aCons (fVar 2) aNil)))))
  (sRet (fCB dSum (aCons (fLc (iSeq (fVar 2)) (Tgt.tp [3, 4]) bYes (f2 dMul (fC (.int 2)) (fVar 4)) [3, 4]) aNil))))
def fn_length : List D → Rs D := dfn0 5 3 g_length
def g_check_corners : FS :=
  (sSeq (sIf (fNot (fB (f3 dLe dLe (fC (.int 1)) (fCB dLen (aCons (fVar 0) aNil)) (fC gd_MOST_CORNERS)))) sNo sNext)
  (sFor (Tgt.tp [1, 2]) (iEnumF (fVar 0)) (sIf (fOr (fAnd (fB (f2 dEq (fVar 1) (fC (.int 0)))) (fB (f2 dNe (fVar 2) (fC (.int 0))))) (fOr (fAnd (fB (f2 dGt (fVar 1) (fC (.int 0)))) (fB (f2 dLe (fVar 2) (f2 dIx (fVar 0) (f2 dSub (fVar 1) (fC (.int 1))))))) (fB (f2 dGt (fVar 2) (fC gd_MOST_PLACE))))) sNo sNext)))
def fn_check_corners : List D → Rs D := dfn0 3 1 g_check_corners
def g_check_echoes : FS :=
  (sSeq (sIf (fB (f2 dNotIn (fCB dLen (aCons (fVar 0) aNil)) (fC gd_SIZES))) sNo sNext)
  (sFor (Tgt.tp [1, 2]) (iEnumF (fVar 0)) (sIf (fOr (fNot (fB (f3 dLe dLe (fC (.int 1)) (fVar 2) (fC gd_MOST_PLACE)))) (fAnd (fB (f2 dGt (fVar 1) (fC (.int 0)))) (fB (f2 dGt (f2 dIx (fVar 0) (f2 dSub (fVar 1) (fC (.int 1)))) (fVar 2))))) sNo sNext)))
def fn_check_echoes : List D → Rs D := dfn0 3 1 g_check_echoes
def g_echoes_of : FS :=
  (sSeq (sSetN 1 (fLst aNil))
  (sSeq (sFor (Tgt.tp [2, 3]) (iEnumF (fVar 0)) (sExt 1 (fLc (iSeq (fSl (fVar 0) oNone (oSome (fVar 2)))) (Tgt.nm 4) bYes (f2 dSub (fVar 3) (fVar 4)) [4])))
  (sFrz 1 (sRetN (fCB dSorted (aCons (fVar 1) aNil))))))
def fn_echoes_of : List D → Rs D := dfn0N 5 1 g_echoes_of
def g_echoes : FS :=
  (sSeq (sDrop (fCall fn_check_corners (aCons (fVar 0) aNil)))
  (sRetN (fCall fn_echoes_of (aCons (fVar 0) aNil))))
def fn_echoes : List D → Rs D := dfn0N 1 1 g_echoes
def g_mirrored_of : FS :=
  (sRetN (fLc (iSeq (fRev (fVar 0))) (Tgt.nm 1) bYes (f2 dSub (f2 dIx (fVar 0) (f1 dNeg (fC (.int 1)))) (fVar 1)) [1]))
def fn_mirrored_of : List D → Rs D := dfn0N 2 1 g_mirrored_of
def g_mirrored : FS :=
  (sSeq (sDrop (fCall fn_check_corners (aCons (fVar 0) aNil)))
  (sRetN (fCall fn_mirrored_of (aCons (fVar 0) aNil))))
def fn_mirrored : List D → Rs D := dfn0N 1 1 g_mirrored
def g_ear : FS :=
  (sSeq (sDrop (fCall fn_check_corners (aCons (fVar 0) aNil)))
  (sSeq (sIf (fNot (fB (f3 dLe dLt (fC (.int 0)) (fVar 1) (fCB dLen (aCons (fVar 0) aNil))))) sNo sNext)
  (sRet (f1 dSortSet (fLc (iSeq (fVar 0)) (Tgt.nm 2) (fB (f2 dNe (fVar 2) (f2 dIx (fVar 0) (fVar 1)))) (fCB dAbs (aCons (f2 dSub (fVar 2) (f2 dIx (fVar 0) (fVar 1))) aNil)) [2])))))
def fn_ear : List D → Rs D := dfn0 3 2 g_ear
def g_does_meet : FS :=
  (sSeq (sDrop (fCall fn_check_corners (aCons (fVar 0) aNil)))
  (sSeq (sDrop (fCall fn_check_echoes (aCons (fVar 1) aNil)))
  (sRet (f2 dEq (fCall fn_echoes_of (aCons (fVar 0) aNil)) (fVar 1)))))
def fn_does_meet : List D → Rs D := dfn0 2 2 g_does_meet
def g_without : FS :=
  (sSeq (sSetN 2 (fCB dList (aCons (fVar 0) aNil)))
  (sSeq (sFor (Tgt.nm 3) (iSeq (fVar 1)) (sSeq (sIf (fThB (fB (f2 dNotIn (fVar 3) (fVar 2)))) (sRet (fC .none)) sNext)
  (sRem 2 (fVar 3))))
  (sRetO 2)))
def fn_without : List D → Rs D := dfn0 4 2 g_without
def g_gone_on (self : List D → Rs D) : FS :=
  (sSeq (sIf (fB (f2 dEq (fCB dLen (aCons (fVar 1) aNil)) (fC (.int 0)))) (sRetN (fLst (aCons (fCB dSorted (aCons (fVar 0) aNil)) aNil))) sNext)
  (sSeq (sSetN 2 (fLst aNil))
  (sSeq (sSet 3 (fCB dMaxL (aCons (fVar 0) aNil)))
  (sSeq (sSet 4 (f2 dIx (fVar 1) (f1 dNeg (fC (.int 1)))))
  (sSeq (sFor (Tgt.nm 5) (iSeq (f1 dSortSet (fLst (aCons (fVar 4) (aCons (f2 dSub (fVar 3) (fVar 4)) aNil))))) (sIf (fB (f2 dNotIn (fVar 5) (fVar 0))) (sSeq (sSet 7 (fCall fn_without (aCons (fVar 1) (aCons (fLc (iSeq (fVar 0)) (Tgt.nm 6) bYes (fCB dAbs (aCons (f2 dSub (fVar 5) (fVar 6)) aNil)) [6]) aNil))))
  (sIf (fB (f2 isNotD (fVar 7) (fC .none))) (sExt 2 (fCall self (aCons (fLst (aStar (fVar 0) (aCons (fVar 5) aNil))) (aCons (fVar 7) aNil)))) sNext)) sNext))
  (sRetO 2))))))
def rec_gone_on : Nat → List D → Rs D
  | 0 => fun _ => .no
  | n + 1 => dfn0N 8 2 (g_gone_on (rec_gone_on n))
def fn_gone_on : List D → Rs D := rec_gone_on 8
def g_unlike : FS :=
  (sSeq (sSetN 1 (fLst aNil))
  (sSeq (sFor (Tgt.nm 2) (iSeq (fCB dSorted (aCons (fVar 0) aNil))) (sIf (fOr (fThB (fB (f2 dEq (fCB dLen (aCons (fVar 1) aNil)) (fC (.int 0))))) (fB (f2 dNe (fIxO 1 (f1 dNeg (fC (.int 1)))) (fVar 2)))) (sApp 1 (fVar 2)) sNext))
  (sRetO 1)))
def fn_unlike : List D → Rs D := dfn0N 3 1 g_unlike
def g_answers_of : FS :=
  (sSeq (sIf (fB (f2 dEq (fCB dLen (aCons (fVar 0) aNil)) (fC (.int 0)))) (sRetN (fLst (aCons (fLst (aCons (fC (.int 0)) aNil)) aNil))) sNext)
  (sRetN (fCall fn_unlike (aCons (fCall fn_gone_on (aCons (fLst (aCons (fC (.int 0)) (aCons (f2 dIx (fVar 0) (f1 dNeg (fC (.int 1)))) aNil))) (aCons (fSl (fVar 0) oNone (oSome (f1 dNeg (fC (.int 1))))) aNil))) aNil))))
def fn_answers_of : List D → Rs D := dfn0N 1 1 g_answers_of
def g_answers : FS :=
  (sSeq (sDrop (fCall fn_check_echoes (aCons (fVar 0) aNil)))
  (sRetN (fCall fn_answers_of (aCons (fVar 0) aNil))))
def fn_answers : List D → Rs D := dfn0N 1 1 g_answers
def g__law_draws : FS :=
  (sSeq (sSetN 1 (fLst aNil))
  (sSeq (sFor (Tgt.nm 2) (iRng1F (aCons (fCB dMin2 (aCons (fC (.int 63)) (aCons (fScrLen 0) aNil))) aNil)) (sSeq (sSet 3 (fCB dAbs (aCons (fScrIx 0 (fVar 2)) aNil)))
  (sIf (fB (f2 dGe (fVar 3) (f2 dPow (fC (.int 10)) (fC (.int 18))))) (sFor (Tgt.nm 4) (iRng1F (aCons (fC (.int 60)) aNil)) (sIf (fB (f2 dGt (fVar 3) (fC (.int 0)))) (sSeq (sApp 1 (f2 dMod (fCB dInt (aCons (fVar 3) aNil)) (fC (.int 65536))))
  (sSet 3 (f2 dDiv (fVar 3) (fC (.int 65536))))) sNext)) (sSeq (sSet 5 (f2 dMod (fCB dInt (aCons (f2 dAdd (f2 dMul (fVar 3) (fC (.int 48271))) (f2 dMul (f2 dAdd (fVar 2) (fC (.int 1))) (fC (.int 69621)))) aNil)) (fC (.int 2147483647))))
  (sSeq (sSet 5 (f2 dMod (fCB dInt (aCons (f2 dAdd (f2 dAdd (f2 dMul (fVar 5) (fC (.int 16807))) (f2 dMul (fC (.int 11)) (fVar 2))) (fC (.int 5))) aNil)) (fC (.int 2147483629))))
  (sSeq (sApp 1 (f2 dMod (fCB dInt (aCons (fVar 5) aNil)) (fC (.int 65536))))
  (sApp 1 (f2 dMod (fCB dInt (aCons (f2 dDiv (fVar 5) (fC (.int 65536))) aNil)) (fC (.int 32768))))))))))
  (sRetO 1)))
def fn__law_draws : List Int → Rs D := dfnS 6 g__law_draws
def g__law_mix : FS :=
  (sSeq (sSet 3 (fC (.int 0)))
  (sSeq (sIf (fB (f2 dGt (fCB dLen (aCons (fVar 0) aNil)) (fC (.int 0)))) (sSet 3 (f2 dIx (fVar 0) (f2 dMod (fCB dInt (aCons (fVar 1) aNil)) (fCB dLen (aCons (fVar 0) aNil))))) sNext)
  (sSeq (sIf (fB (f2 dLt (fVar 1) (fCB dLen (aCons (fVar 0) aNil)))) (sRet (f2 dMod (fCB dInt (aCons (fVar 3) aNil)) (fVar 2))) sNext)
  (sRet (f2 dMod (fCB dInt (aCons (f2 dDiv (fCB dInt (aCons (f2 dAdd (f2 dMul (fVar 3) (fC (.int 7919))) (f2 dMul (fVar 1) (fC (.int 104729)))) aNil)) (fC (.int 3))) aNil)) (fVar 2))))))
def fn__law_mix : List D → Rs D := dfn0 4 3 g__law_mix
def g__law_corners : FS :=
  (sSeq (sSetN 4 (fLst (aCons (fC (.int 0)) aNil)))
  (sSeq (sFor (Tgt.nm 5) (iRng1F (aCons (fCall fn__law_mix (aCons (fVar 0) (aCons (fVar 1) (aCons (fVar 2) aNil)))) aNil)) (sApp 4 (f2 dAdd (f2 dAdd (fIxO 4 (f1 dNeg (fC (.int 1)))) (fC (.int 1))) (fCall fn__law_mix (aCons (fVar 0) (aCons (f2 dAdd (f2 dAdd (fVar 1) (fC (.int 1))) (fVar 5)) (aCons (fVar 3) aNil)))))))
  (sRetO 4)))
def fn__law_corners : List D → Rs D := dfn0N 6 4 g__law_corners
def g_law : FS :=
  (sSeq (sSet 1 (fScrCall 0 fn__law_draws))
  (sSeq (sFor (Tgt.nm 2) (iRng1F (aCons (fC (.int 3)) aNil)) (sSeq (sSet 3 (fCall fn__law_corners (aCons (fVar 1) (aCons (f2 dAdd (fC (.int 10)) (f2 dMul (fC (.int 10)) (fVar 2))) (aCons (fC (.int 6)) (aCons (f2 dIx (fLst (aCons (fC (.int 4)) (aCons (fC (.int 60)) aNil))) (fCall fn__law_mix (aCons (fVar 1) (aCons (fVar 2) (aCons (fC (.int 2)) aNil))))) aNil))))))
  (sSeq (sSet 4 (f2 dAdd (fVar 3) (fLst (aCons (f2 dAdd (f2 dAdd (f2 dIx (fVar 3) (f1 dNeg (fC (.int 1)))) (fC (.int 1))) (fCall fn__law_mix (aCons (fVar 1) (aCons (f2 dAdd (fC (.int 3)) (fVar 2)) (aCons (fC (.int 9)) aNil))))) aNil))))
  (sSeq (sSetF 6 (fLc (iSeq (fVar 3)) (Tgt.nm 5) bYes (f2 dSub (f2 dIx (fVar 4) (f1 dNeg (fC (.int 1)))) (fVar 5)) [5]))
  (sSeq (sIf (fOr (fB (f2 dNe (fCall fn_echoes (aCons (fVar 4) aNil)) (fCB dSorted (aCons (f2 dAdd (fCall fn_echoes (aCons (fVar 3) aNil)) (fVar 6)) aNil)))) (fOr (fB (f2 isNotD (fCall fn_does_meet (aCons (fVar 4) (aCons (fCall fn_echoes (aCons (fVar 4) aNil)) aNil))) (fC (.bool true)))) (fB (f2 dNe (fCall fn_ear (aCons (fVar 4) (aCons (fCB dLen (aCons (fVar 3) aNil)) aNil))) (f1 dSortSet (fVar 6)))))) (sRet (fC (.bool false))) sNext)
  (sSeq (sIf (fOr (fB (f2 dNe (f2 dAdd (fLst (aCons (fC (.int 0)) aNil)) (fCall fn_ear (aCons (fVar 3) (aCons (fC (.int 0)) aNil)))) (fVar 3))) (fB (f2 dNotIn (fCall fn_mirrored (aCons (fVar 4) aNil)) (fCall fn_answers (aCons (fCall fn_echoes (aCons (fVar 4) aNil)) aNil))))) (sRet (fC (.bool false))) sNext)
  (sSeq (sPar 7 8 (mS (f2 dAdd (fC (.int 2)) (fCall fn__law_mix (aCons (fVar 1) (aCons (f2 dAdd (fC (.int 6)) (fVar 2)) (aCons (fC (.int 3)) aNil)))))) (mS (f2 dAdd (fC (.int 1)) (fCall fn__law_mix (aCons (fVar 1) (aCons (f2 dAdd (fC (.int 9)) (fVar 2)) (aCons (fC (.int 6)) aNil)))))))
  (sSeq (sSetF 10 (fLc (iRng1F (aCons (fVar 7) aNil)) (Tgt.nm 9) bYes (fTup (aCons (fVar 9) (aCons (fVar 8) aNil))) [9]))
  (sSeq (sFor (Tgt.nm 9) (iRng1F (aCons (fVar 7) aNil)) (sFor (Tgt.nm 11) (iRng2F (aCons (fC (.int 1)) (aCons (f2 dAdd (fVar 8) (fC (.int 1))) aNil))) (sIf (fB (f2 dNe (fCall fn_time (aCons (fVar 7) (aCons (fVar 8) (aCons (fVar 10) (aCons (fTup (aCons (fVar 9) (aCons (fVar 11) aNil))) aNil))))) (f2 dAdd (f2 dMul (f2 dMul (fC (.int 2)) (fVar 9)) (fVar 8)) (fVar 11)))) (sRet (fC (.bool false))) sNext)))
  (sSeq (sAsg (Tgt.tp [12, 13]) (fCall fn_worst (aCons (fVar 7) (aCons (fVar 8) (aCons (fVar 10) aNil)))))
  (sIf (fOr (fB (f2 isNotD (fCall fn_is_whole (aCons (fVar 7) (aCons (fVar 8) (aCons (fVar 10) aNil)))) (fC (.bool true)))) (fOr (fB (f2 dNe (fVar 12) (fTup (aCons (f2 dAdd (f2 dMul (f2 dMul (fC (.int 2)) (f2 dSub (fVar 7) (fC (.int 1)))) (fVar 8)) (fC (.int 1))) (aCons (fC (.int 1)) aNil))))) (fOr (fB (f2 dNe (fVar 13) (fTup (aCons (f2 dSub (fVar 7) (fC (.int 1))) (aCons (fC (.int 1)) aNil))))) (fB (f2 dNe (fCall fn_length (aCons (fVar 7) (aCons (fVar 8) (aCons (fVar 10) aNil)))) (f2 dMul (f2 dMul (fC (.int 2)) (fVar 7)) (fVar 8))))))) (sRet (fC (.bool false))) sNext)))))))))))
  (sRet (fC (.bool true)))))
end k97
namespace k97
open PySem PySem.Spec PyProof.Rows L2 PD
open PySem PySem.Spec PyProof.Rows L2 PD
def leI (a b : Int) : Bool := decide (a ≤ b)
theorem leI_total : PySem.W.TotalLe leI := ⟨fun a b c => by simp only [leI, decide_eq_true_eq]; omega, fun a b => by simp only [leI, decide_eq_true_eq]; omega⟩
def sortI (l : List Int) : List Int := isort leI l
theorem insG_perm (x : Int) : ∀ l : List Int, (insG leI x l).Perm (x :: l)
  | [] => .refl _
  | y :: r => by
    unfold insG
    split
    · exact .refl _
    · exact ((insG_perm x r).cons y).trans (.swap x y r)
theorem sortI_perm : ∀ l : List Int, (sortI l).Perm l
  | [] => .refl _
  | x :: l => (insG_perm x (isort leI l)).trans ((sortI_perm l).cons x)
theorem sortI_le (l : List Int) : (sortI l).Pairwise (· ≤ ·) := (isort_sorted leI_total l).imp fun {a b} h => of_decide_eq_true h
theorem le_perm_eq : ∀ {l m : List Int}, l.Pairwise (· ≤ ·) → m.Pairwise (· ≤ ·) → l.Perm m → l = m
  | [], m, _, _, p => (List.Perm.nil_eq p)
  | a :: l, [], _, _, p => by have := p.length_eq; simp at this
  | a :: l, b :: m, h1, h2, p => by
    obtain ⟨a1, a2⟩ := List.pairwise_cons.mp h1
    obtain ⟨b1, b2⟩ := List.pairwise_cons.mp h2
    have e : a = b := by
      have x1 : a ∈ b :: m := p.mem_iff.mp List.mem_cons_self
      have x2 : b ∈ a :: l := p.mem_iff.mpr List.mem_cons_self
      rcases List.mem_cons.mp x1 with z | z
      · exact z
      · rcases List.mem_cons.mp x2 with y | y
        · exact y.symm
        · have := b1 a z; have := a1 b y; omega
    subst e
    rw [le_perm_eq a2 b2 (List.Perm.cons_inv p)]
theorem sortI_eq {l m : List Int} (p : l.Perm m) : sortI l = sortI m := le_perm_eq (sortI_le l) (sortI_le m) ((sortI_perm l).trans (p.trans (sortI_perm m).symm))
theorem sortI_id {l : List Int} (h : l.Pairwise (· ≤ ·)) : sortI l = l := le_perm_eq (sortI_le l) h (sortI_perm l)
/-! distances -/
def dst (a b : Int) : Int := ((a - b).natAbs : Nat)
theorem dst_comm (a b : Int) : dst a b = dst b a := by unfold dst; omega
def ds (p : Int) (cs : List Int) : List Int := cs.map (dst p)
def dset : List Int → List Int
  | [] => []
  | c :: r => ds c r ++ dset r
/-- from the left: as the program goes -/
def dif (pre : List Int) : List Int → List Int
  | [] => []
  | c :: r => pre.map (c - ·) ++ dif (pre ++ [c]) r
def echI (cs : List Int) : List Int := sortI (dif [] cs)
theorem ds_perm {p : Int} {l m : List Int} (h : l.Perm m) : (ds p l).Perm (ds p m) := h.map _
theorem dset_perm : ∀ {l m : List Int}, l.Perm m → (dset l).Perm (dset m) := fun {l m} h => by
  induction h with
  | nil => exact .refl _
  | cons x h ih => exact (ds_perm h).append ih
  | swap x y l =>
    show (dst y x :: ds y l ++ (ds x l ++ dset l)).Perm (dst x y :: ds x l ++ (ds y l ++ dset l))
    rw [dst_comm x y]
    refine List.Perm.cons _ ?_
    show (ds y l ++ (ds x l ++ dset l)).Perm (ds x l ++ (ds y l ++ dset l))
    rw [← List.append_assoc, ← List.append_assoc]
    exact List.perm_append_comm.append_right _
  | trans _ _ a b => exact a.trans b
/-- cross -/
def crs (us cs : List Int) : List Int := us.flatMap fun u => ds u cs
theorem dset_app : ∀ (cs us : List Int), (dset (cs ++ us)).Perm (dset cs ++ (crs us cs ++ dset us))
  | cs, [] => by simp [crs, dset]
  | cs, u :: us => by
    have h1 : (cs ++ u :: us).Perm (u :: (cs ++ us)) := List.perm_middle
    refine (dset_perm h1).trans ?_
    show (ds u (cs ++ us) ++ dset (cs ++ us)).Perm _
    have e : ds u (cs ++ us) = ds u cs ++ ds u us := by simp [ds]
    rw [e]
    refine ((List.Perm.refl _).append (dset_app cs us)).trans ?_
    show ((ds u cs ++ ds u us) ++ (dset cs ++ (crs us cs ++ dset us))).Perm (dset cs ++ ((ds u cs ++ crs us cs) ++ (ds u us ++ dset us)))
    generalize ds u cs = a
    generalize ds u us = b
    generalize dset cs = c
    generalize crs us cs = d
    generalize dset us = e
    refine List.perm_iff_count.mpr fun z => ?_
    simp only [List.count_append]
    omega
theorem dset_snoc (cs : List Int) (u : Int) : (dset (cs ++ [u])).Perm (dset cs ++ ds u cs) := by
  have := dset_app cs [u]
  simpa [crs, dset, ds] using this
theorem dif_dset : ∀ (pre cs : List Int), (pre ++ cs).Pairwise (· ≤ ·) → (dset pre ++ dif pre cs).Perm (dset (pre ++ cs))
  | pre, [], _ => by simp [dif]
  | pre, c :: r, h => by
    have e : pre.map (c - ·) = ds c pre := by
      unfold ds
      refine List.map_congr_left fun x hx => ?_
      have := (List.pairwise_append.mp h).2.2 x hx c List.mem_cons_self
      unfold dst; omega
    have h' : ((pre ++ [c]) ++ r).Pairwise (· ≤ ·) := by simpa using h
    have ih := dif_dset (pre ++ [c]) r h'
    unfold dif
    rw [e, ← List.append_assoc]
    have e2 : pre ++ c :: r = (pre ++ [c]) ++ r := by simp
    rw [e2]
    exact ((dset_snoc pre c).symm.append_right _).trans ih
theorem dif_perm {cs : List Int} (h : cs.Pairwise (· ≤ ·)) : (dif [] cs).Perm (dset cs) := by simpa [dset] using dif_dset [] cs (by simpa using h)
/-! without -/
def woI : List Int → List Int → Option (List Int)
  | told, [] => some told
  | told, x :: r => if x ∈ told then woI (told.erase x) r else none
theorem woI_perm : ∀ {some told left : List Int}, woI told some = Option.some left → told.Perm (some ++ left) ∧ left.Sublist told
  | [], told, left, h => by cases h; exact ⟨.refl _, List.Sublist.refl _⟩
  | x :: r, told, left, h => by
    unfold woI at h
    split at h
    · rename_i hx
      obtain ⟨h1, h2⟩ := woI_perm h
      exact ⟨(List.perm_cons_erase hx).trans (h1.cons x), h2.trans List.erase_sublist⟩
    · cases h
theorem woI_some : ∀ {some told left : List Int}, told.Perm (some ++ left) → ∃ l, woI told some = Option.some l ∧ l.Perm left
  | [], told, left, h => ⟨told, rfl, h⟩
  | x :: r, told, left, h => by
    have hx : x ∈ told := h.mem_iff.mpr (by simp)
    have h2 : (told.erase x).Perm (r ++ left) := List.Perm.cons_inv ((List.perm_cons_erase hx).symm.trans h)
    obtain ⟨l, a, b⟩ := woI_some h2
    exact ⟨l, by unfold woI; rw [if_pos hx]; exact a, b⟩
/-! the search -/
def lastI (l : List Int) : Int := l.getLastD 0
def maxI (l : List Int) : Int := l.foldl (fun a b => if a < b then b else a) (l.headD 0)
def plI (T far : Int) : List Int := setI [far, T - far]
def goneI : Nat → Int → List Int → List Int → List (List Int)
  | 0, _, _, _ => []
  | n + 1, T, cs, rest => if rest = [] then [sortI cs] else (plI T (lastI rest)).flatMap fun p => if p ∈ cs then [] else match woI rest (ds p cs) with
    | none => []
    | some left => goneI n T (cs ++ [p]) left
def tri : Nat → Nat → Nat
  | _, 0 => 0
  | c, k + 1 => c + tri (c + 1) k
structure In (told : List Int) (T : Int) (cs rest : List Int) : Prop where
  z : 0 ∈ cs
  t : T ∈ cs
  b : ∀ c ∈ cs, 0 ≤ c ∧ c ≤ T
  nd : cs.Nodup
  p : told.Perm (dset cs ++ rest)
  s : rest.Pairwise (· ≤ ·)
  r : ∀ x ∈ rest, 1 ≤ x ∧ x ≤ T
theorem lastI_mem {l : List Int} (h : l ≠ []) : lastI l ∈ l := by
  unfold lastI
  rw [List.getLastD_eq_getLast?, List.getLast?_eq_getLast h]
  exact List.getLast_mem h
theorem lastI_max {l : List Int} (h : l.Pairwise (· ≤ ·)) {x : Int} (hx : x ∈ l) : x ≤ lastI l := by
  have hne : l ≠ [] := fun e => by rw [e] at hx; cases hx
  have e : lastI l = l.getLast hne := by unfold lastI; rw [List.getLastD_eq_getLast?, List.getLast?_eq_getLast hne]; rfl
  rw [e]
  obtain ⟨i, hi, rfl⟩ := List.getElem_of_mem hx
  rw [List.getLast_eq_getElem]
  rcases Nat.lt_or_ge i (l.length - 1) with q | q
  · exact List.pairwise_iff_getElem.mp h i (l.length - 1) hi (by omega) q
  · have : i = l.length - 1 := by omega
    subst this; exact Int.le_refl _
theorem plI_mem {T far z : Int} : z ∈ plI T far ↔ z = far ∨ z = T - far := by unfold plI; rw [setI_mem]; simp
theorem In.next {told : List Int} {T : Int} {cs rest left : List Int} {p : Int} (I : In told T cs rest) (hr : rest ≠ []) (hp : p ∈ plI T (lastI rest)) (hc : p ∉ cs) (hw : woI rest (ds p cs) = some left) : In told T (cs ++ [p]) left := by
  obtain ⟨h1, h2⟩ := woI_perm hw
  have hl := I.r _ (lastI_mem hr)
  have hb : 0 ≤ p ∧ p ≤ T := by rcases plI_mem.mp hp with e | e <;> subst e <;> omega
  refine ⟨by simp [I.z], by simp [I.t], fun c hc => ?_, ?_, ?_, I.s.sublist h2, fun x hx => I.r x (h2.subset hx)⟩
  · rcases List.mem_append.mp hc with q | q
    · exact I.b c q
    · rw [List.mem_singleton.mp q]; exact hb
  · refine List.nodup_append.mpr ⟨I.nd, by simp, fun a ha b hb' => ?_⟩
    rw [List.mem_singleton.mp hb']
    intro e; subst e; exact hc ha
  · refine I.p.trans (((List.Perm.refl _).append h1).trans ?_)
    rw [← List.append_assoc]
    exact (dset_snoc cs p).symm.append_right _
/-- every row told is right -/
theorem gone_sound : ∀ (n : Nat) {told : List Int} {T : Int} {cs rest row : List Int}, In told T cs rest → row ∈ goneI n T cs rest → ∃ cs', row = sortI cs' ∧ In told T cs' []
  | 0, _, _, _, _, _, _, h => by cases h
  | n + 1, told, T, cs, rest, row, I, h => by
    unfold goneI at h
    split at h
    · rename_i e
      subst e
      exact ⟨cs, by simpa using h, I⟩
    · rename_i hr
      obtain ⟨p, hp, h⟩ := List.mem_flatMap.mp h
      split at h
      · cases h
      · rename_i hc
        split at h
        · cases h
        · rename_i left hw
          exact gone_sound n (I.next hr hp hc hw) h
theorem ds_len (p : Int) (l : List Int) : (ds p l).length = l.length := by simp [ds]
theorem left_len {rest left cs : List Int} {p : Int} (hw : woI rest (ds p cs) = some left) : rest.length = cs.length + left.length := by
  have := (woI_perm hw).1.length_eq
  rwa [List.length_append, ds_len] at this
theorem insS_len (a : Int) : ∀ l : List Int, (insS a l).length ≤ l.length + 1
  | [] => by simp [insS]
  | b :: r => by
    unfold insS
    split
    · simp
    · split
      · simp
      · have := insS_len a r
        rw [List.length_cons, List.length_cons]; omega
theorem setI_len : ∀ l : List Int, (setI l).length ≤ l.length
  | [] => by simp [setI]
  | a :: l => by
    have := insS_len a (setI l); have := setI_len l
    show (insS a (setI l)).length ≤ _
    rw [List.length_cons]; omega
theorem pl_len (T far : Int) : (plI T far).length ≤ 2 := setI_len _
theorem flat_len {α β : Type} (f : α → List β) (b : Nat) : ∀ l : List α, (∀ x ∈ l, (f x).length ≤ b) → (l.flatMap f).length ≤ l.length * b
  | [], _ => by simp
  | x :: l, h => by
    rw [List.flatMap_cons, List.length_append, List.length_cons, Nat.add_mul, Nat.one_mul]
    have := h x List.mem_cons_self
    have := flat_len f b l fun y hy => h y (List.mem_cons_of_mem _ hy)
    omega
theorem gone_few : ∀ (k n : Nat) {T : Int} {cs rest : List Int}, rest.length ≤ tri cs.length k → (goneI n T cs rest).length ≤ 2 ^ k
  | _, 0, _, _, _, _ => by simp [goneI]
  | 0, n + 1, T, cs, rest, h => by
    have : rest = [] := List.eq_nil_of_length_eq_zero (by simpa [tri] using h)
    unfold goneI
    rw [if_pos this]; simp
  | k + 1, n + 1, T, cs, rest, h => by
    unfold goneI
    split
    · simp; exact Nat.one_le_two_pow
    · refine Nat.le_trans (flat_len _ (2 ^ k) _ fun p hp => ?_) ?_
      · split
        · simp
        · split
          · simp
          · rename_i left hw
            have := left_len hw
            refine gone_few k n ?_
            rw [List.length_append, List.length_singleton]
            simp only [tri] at h
            omega
      · have := pl_len T (lastI rest)
        rw [Nat.pow_succ, Nat.mul_comm]
        exact Nat.mul_le_mul_left _ this
/-! completeness -/
theorem crs_snoc : ∀ (us cs : List Int) (u : Int), (crs us (cs ++ [u])).Perm (crs us cs ++ ds u us)
  | [], cs, u => by simp [crs, ds]
  | v :: us, cs, u => by
    show (ds v (cs ++ [u]) ++ crs us (cs ++ [u])).Perm ((ds v cs ++ crs us cs) ++ (dst u v :: ds u us))
    have e : ds v (cs ++ [u]) = ds v cs ++ [dst u v] := by simp [ds, dst_comm]
    rw [e]
    refine ((List.Perm.refl _).append (crs_snoc us cs u)).trans ?_
    refine List.perm_iff_count.mpr fun z => ?_
    have : (dst u v :: ds u us) = [dst u v] ++ ds u us := rfl
    rw [this]
    simp only [List.count_append]
    omega
theorem crs_mem {x : Int} {us cs : List Int} (h : x ∈ crs us cs) : ∃ u ∈ us, ∃ c ∈ cs, x = dst u c := by
  obtain ⟨u, hu, h⟩ := List.mem_flatMap.mp h
  obtain ⟨c, hc, e⟩ := List.mem_map.mp h
  exact ⟨u, hu, c, hc, e.symm⟩
theorem mem_crs {u c : Int} {us cs : List Int} (hu : u ∈ us) (hc : c ∈ cs) : dst u c ∈ crs us cs := List.mem_flatMap.mpr ⟨u, hu, List.mem_map.mpr ⟨c, hc, rfl⟩⟩
theorem dset_mem {x : Int} : ∀ {l : List Int}, x ∈ dset l → ∃ a ∈ l, ∃ b ∈ l, x = dst a b
  | [], h => by cases h
  | c :: r, h => by
    rcases List.mem_append.mp h with h | h
    · obtain ⟨b, hb, e⟩ := List.mem_map.mp h
      exact ⟨c, List.mem_cons_self, b, List.mem_cons_of_mem _ hb, e.symm⟩
    · obtain ⟨a, ha, b, hb, e⟩ := dset_mem h
      exact ⟨a, List.mem_cons_of_mem _ ha, b, List.mem_cons_of_mem _ hb, e⟩
theorem gone_full : ∀ (k n : Nat) {told : List Int} {T : Int} {cs rest U : List Int}, k < n → rest.length ≤ tri cs.length k → In told T cs rest → (cs ++ U).Nodup → (∀ x ∈ U, 0 ≤ x ∧ x ≤ T) → rest.Perm (crs U cs ++ dset U) → sortI (cs ++ U) ∈ goneI n T cs rest
  | _, 0, _, _, _, _, _, h, _, _, _, _, _ => by omega
  | k, n + 1, told, T, cs, rest, U, hk, hl, I, nd, hb, hp => by
    by_cases hr : rest = []
    · have hU : U = [] := by
        cases U with
        | nil => rfl
        | cons u us =>
          have := mem_crs (us := u :: us) List.mem_cons_self I.z
          have : dst u 0 ∈ rest := hp.mem_iff.mpr (List.mem_append_left _ this)
          rw [hr] at this; cases this
      subst hU
      unfold goneI
      rw [if_pos hr]; simp
    · cases k with
      | zero => exact absurd (List.eq_nil_of_length_eq_zero (by simpa [tri] using hl)) hr
      | succ k =>
        have hfar := lastI_mem hr
        have pick : ∀ u ∈ U, ∀ v, 0 ≤ v ∧ v ≤ T → lastI rest = dst u v → u = lastI rest ∨ u = T - lastI rest := by
          intro u hu v hv e
          have h0 := lastI_max I.s (hp.mem_iff.mpr (List.mem_append_left _ (mem_crs hu I.z)))
          have hT := lastI_max I.s (hp.mem_iff.mpr (List.mem_append_left _ (mem_crs hu I.t)))
          have := hb u hu
          unfold dst at e h0 hT
          omega
        have hex : ∃ u ∈ U, u = lastI rest ∨ u = T - lastI rest := by
          rcases List.mem_append.mp (hp.mem_iff.mp hfar) with h | h
          · obtain ⟨u, hu, c, hc, e⟩ := crs_mem h
            exact ⟨u, hu, pick u hu c (I.b c hc) e⟩
          · obtain ⟨u, hu, v, hv, e⟩ := dset_mem h
            exact ⟨u, hu, pick u hu v (hb v hv) e⟩
        obtain ⟨u, hu, hpl⟩ := hex
        have huc : u ∉ cs := fun h => (List.nodup_append.mp nd).2.2 u h u hu rfl
        have pU := List.perm_cons_erase hu
        have hp2 : rest.Perm (ds u cs ++ (crs (U.erase u) (cs ++ [u]) ++ dset (U.erase u))) := by
          refine hp.trans ((((pU.flatMap_right _).append (dset_perm pU))).trans ?_)
          show ((ds u cs ++ crs (U.erase u) cs) ++ (ds u (U.erase u) ++ dset (U.erase u))).Perm _
          refine List.Perm.trans ?_ ((List.Perm.refl _).append ((crs_snoc (U.erase u) cs u).symm.append_right _))
          refine List.perm_iff_count.mpr fun z => ?_
          simp only [List.count_append]
          omega
        obtain ⟨left, hw, hleft⟩ := woI_some hp2
        have I' := I.next hr (plI_mem.mpr hpl) huc hw
        have hperm : (cs ++ U).Perm ((cs ++ [u]) ++ U.erase u) := by
          rw [List.append_assoc]
          exact (List.Perm.refl _).append pU
        have ih := gone_full k n (U := U.erase u) (by omega) (by
          have := left_len hw
          rw [List.length_append, List.length_singleton]
          simp only [tri] at hl
          omega) I' (hperm.nodup_iff.mp nd) (fun x hx => hb x (List.mem_of_mem_erase hx)) hleft
        rw [← sortI_eq hperm] at ih
        unfold goneI
        rw [if_neg hr]
        refine List.mem_flatMap.mpr ⟨u, plI_mem.mpr hpl, ?_⟩
        rw [if_neg huc, hw]
        exact ih
/-- .. told of the whole row -/
theorem gone_all {k n : Nat} {told : List Int} {T : Int} {cs rest S : List Int} (hk : k < n) (hl : rest.length ≤ tri cs.length k) (I : In told T cs rest) (nd : S.Nodup) (hc : ∀ c ∈ cs, c ∈ S) (hb : ∀ x ∈ S, 0 ≤ x ∧ x ≤ T) (hp : (dset S).Perm told) : sortI S ∈ goneI n T cs rest := by
  have hS : S.Perm (cs ++ S.filter fun x => decide (x ∉ cs)) := by
    have nd2 : (cs ++ S.filter fun x => decide (x ∉ cs)).Nodup := List.nodup_append.mpr ⟨I.nd, nd.sublist List.filter_sublist, fun a ha b hb e => by
      subst e
      have := (List.mem_filter.mp hb).2
      simp at this
      exact this ha⟩
    refine (List.perm_ext_iff_of_nodup nd nd2).mpr fun x => ?_
    rw [List.mem_append, List.mem_filter]
    constructor
    · intro hx
      by_cases h : x ∈ cs
      · exact .inl h
      · exact .inr ⟨hx, by simpa using h⟩
    · rintro (h | h)
      · exact hc x h
      · exact h.1
  rw [sortI_eq hS]
  refine gone_full k n hk hl I (hS.nodup_iff.mp nd) (fun x hx => hb x (List.mem_filter.mp hx).1) ?_
  have h1 := I.p.symm.trans (hp.symm.trans ((dset_perm hS).trans (dset_app cs _)))
  exact (List.perm_append_left_iff _).mp h1
/-! rows in order, each once -/
def leR (a b : List Int) : Bool := !decide (b < a)
theorem leR_D (a b : List Int) : leD (.list (a.map .int)) (.list (b.map .int)) = leR a b := by
  unfold leD leR
  rw [PySem.W.dataLt_list]
  have := PySem.W.dataLt_ints b a
  exact congrArg (!·) this
theorem leR_total : PySem.W.TotalLe leR := ⟨fun a b c h1 h2 => by
    have h1 : ¬ b < a := by simpa [leR] using h1
    have h2 : ¬ c < b := by simpa [leR] using h2
    have : a ≤ c := List.le_trans (List.not_lt.mp h1) (List.not_lt.mp h2)
    simpa [leR] using List.not_lt.mpr this, fun a b => by
    by_cases h : b < a
    · right
      have : ¬ a < b := List.lt_asymm h
      simpa [leR] using this
    · left; simpa [leR] using h⟩
theorem leR_anti {a b : List Int} (h1 : leR a b = true) (h2 : leR b a = true) : a = b := by
  have h1 : ¬ b < a := by simpa [leR] using h1
  have h2 : ¬ a < b := by simpa [leR] using h2
  exact List.le_antisymm (List.not_lt.mp h1) (List.not_lt.mp h2)
theorem isort_id {α : Type} {le : α → α → Bool} : ∀ {l : List α}, l.Pairwise (fun a b => le a b = true) → isort le l = l
  | [], _ => rfl
  | x :: l, h => by
    obtain ⟨h1, h2⟩ := List.pairwise_cons.mp h
    show insG le x (isort le l) = _
    rw [isort_id h2]
    cases l with
    | nil => rfl
    | cons y r => unfold insG; rw [if_pos (h1 y List.mem_cons_self)]
def uq : Option (List Int) → List (List Int) → List (List Int)
  | _, [] => []
  | p, x :: r => if p = some x then uq p r else x :: uq (some x) r
theorem uq_mem : ∀ {l : List (List Int)} {p : Option (List Int)} {z : List Int}, z ∈ uq p l → z ∈ l
  | [], _, _, h => by cases h
  | x :: r, p, z, h => by
    unfold uq at h
    split at h
    · exact List.mem_cons_of_mem _ (uq_mem h)
    · rcases List.mem_cons.mp h with e | e
      · rw [e]; exact List.mem_cons_self
      · exact List.mem_cons_of_mem _ (uq_mem e)
theorem mem_uq : ∀ {l : List (List Int)} {p : Option (List Int)} {z : List Int}, z ∈ l → z ∈ uq p l ∨ p = some z
  | [], _, _, h => by cases h
  | x :: r, p, z, h => by
    unfold uq
    split
    · rename_i e
      rcases List.mem_cons.mp h with q | q
      · right; rw [q]; exact e
      · exact mem_uq q
    · rcases List.mem_cons.mp h with q | q
      · left; rw [q]; exact List.mem_cons_self
      · rcases mem_uq (p := some x) q with t | t
        · left; exact List.mem_cons_of_mem _ t
        · cases t; left; exact List.mem_cons_self
theorem uq_len : ∀ (l : List (List Int)) (p : Option (List Int)), (uq p l).length ≤ l.length
  | [], _ => by simp [uq]
  | x :: r, p => by
    unfold uq
    split
    · have := uq_len r p; rw [List.length_cons]; omega
    · have := uq_len r (some x); rw [List.length_cons, List.length_cons]; omega
def ltR (a b : List Int) : Prop := leR a b = true ∧ a ≠ b
theorem uq_lt : ∀ {l : List (List Int)} {p : List Int}, l.Pairwise (fun a b => leR a b = true) → (∀ z ∈ l, leR p z = true) → (∀ z ∈ uq (some p) l, ltR p z) ∧ (uq (some p) l).Pairwise ltR
  | [], p, _, _ => ⟨fun z (h : z ∈ ([] : List (List Int))) => absurd h (by simp), List.Pairwise.nil⟩
  | x :: r, p, h, hp => by
    obtain ⟨h1, h2⟩ := List.pairwise_cons.mp h
    unfold uq
    split
    · exact uq_lt h2 fun z hz => hp z (List.mem_cons_of_mem _ hz)
    · rename_i ne
      obtain ⟨a, b⟩ := uq_lt h2 h1
      have px := hp x List.mem_cons_self
      have npx : p ≠ x := fun e => ne (by rw [e])
      refine ⟨fun z hz => ?_, List.pairwise_cons.mpr ⟨a, b⟩⟩
      rcases List.mem_cons.mp hz with e | e
      · subst e; exact And.intro px npx
      · obtain ⟨q1, q2⟩ := a z e
        refine ⟨leR_total.trans _ _ _ px q1, fun e' => ?_⟩
        subst e'
        exact npx (leR_anti px q1)
theorem uq_lt0 {l : List (List Int)} (h : l.Pairwise fun a b => leR a b = true) : (uq none l).Pairwise ltR := by
  cases l with
  | nil => exact List.Pairwise.nil
  | cons x r =>
    obtain ⟨h1, h2⟩ := List.pairwise_cons.mp h
    obtain ⟨a, b⟩ := uq_lt h2 h1
    unfold uq
    rw [if_neg (by intro e; cases e)]
    exact List.pairwise_cons.mpr ⟨a, b⟩
def rowsI (l : List (List Int)) : List (List Int) := uq none (isort leR l)
theorem rowsI_mem {l : List (List Int)} {z : List Int} : z ∈ rowsI l ↔ z ∈ l := by
  unfold rowsI
  constructor
  · intro h; exact isort_mem.mp (uq_mem h)
  · intro h
    rcases mem_uq (p := none) (isort_mem.mpr h : z ∈ isort leR l) with t | t
    · exact t
    · cases t
theorem rowsI_lt (l : List (List Int)) : (rowsI l).Pairwise ltR := uq_lt0 (isort_sorted leR_total l)
theorem rowsI_sort (l : List (List Int)) : isort leR (rowsI l) = rowsI l := isort_id ((rowsI_lt l).imp fun h => h.1)
theorem rowsI_nodup (l : List (List Int)) : (rowsI l).Nodup := (rowsI_lt l).imp fun h => h.2
theorem rowsI_len (l : List (List Int)) : (rowsI l).length ≤ l.length := by
  unfold rowsI
  have := uq_len (isort leR l) none
  rwa [isort_len] at this
theorem unlikeN_nodup : ∀ {l : List (List Int)}, l.Nodup → unlikeN l = l.length
  | [], _ => rfl
  | a :: r, h => by
    obtain ⟨h1, h2⟩ := List.nodup_cons.mp h
    unfold unlikeN
    rw [if_neg h1, unlikeN_nodup h2, List.length_cons]
/-! answers -/
def ansI (told : List Int) : List (List Int) := if told = [] then [[0]] else rowsI (goneI 8 (lastI told) [0, lastI told] told.dropLast)
def Told (told : List Int) : Prop := told.length ≤ 21 ∧ told.Pairwise (· ≤ ·) ∧ ∀ x ∈ told, 1 ≤ x ∧ x ≤ 1000
/-- a row that has these distances -/
structure Row (told row : List Int) : Prop where
  z : row.head? = some 0
  s : row.Pairwise (· < ·)
  e : (dset row).Perm told
theorem told_split {told : List Int} (h : told ≠ []) : told = told.dropLast ++ [lastI told] := by
  have e : lastI told = told.getLast h := by unfold lastI; rw [List.getLastD_eq_getLast?, List.getLast?_eq_getLast h]; rfl
  rw [e, List.dropLast_concat_getLast h]
theorem in0 {told : List Int} (h : Told told) (hne : told ≠ []) : In told (lastI told) [0, lastI told] told.dropLast := by
  obtain ⟨h1, h2, h3⟩ := h
  have hl := h3 _ (lastI_mem hne)
  refine ⟨by simp, by simp, fun c hc => ?_, ?_, ?_, h2.sublist (List.dropLast_sublist _), fun x hx => ?_⟩
  · simp at hc; omega
  · simp; omega
  · have e : dset [0, lastI told] = [lastI told] := by
      simp [dset, ds, dst]; omega
    rw [e]
    conv => lhs; rw [told_split hne]
    exact List.perm_append_comm
  · have hx' := List.dropLast_subset _ hx
    exact ⟨(h3 x hx').1, lastI_max h2 hx'⟩
theorem lt_of_nodup {l : List Int} (h : l.Nodup) : (sortI l).Pairwise (· < ·) := by
  have h1 := sortI_le l
  have h2 : (sortI l).Nodup := (sortI_perm l).nodup_iff.mpr h
  exact (h1.and h2).imp fun {a b} h => by omega
theorem ans_sound {told row : List Int} (h : Told told) (hr : row ∈ ansI told) : Row told row := by
  unfold ansI at hr
  split at hr
  · rename_i e
    subst e
    rw [List.mem_singleton.mp hr]
    exact ⟨rfl, by simp, .refl _⟩
  · rename_i hne
    obtain ⟨cs, rfl, I⟩ := gone_sound 8 (in0 h hne) (rowsI_mem.mp hr)
    have hs := lt_of_nodup I.nd
    refine ⟨?_, hs, ?_⟩
    · have h0 : (0 : Int) ∈ sortI cs := (sortI_perm cs).mem_iff.mpr I.z
      cases hc : sortI cs with
      | nil => rw [hc] at h0; cases h0
      | cons a r =>
        rw [hc] at h0 hs
        have ha : a ∈ cs := (sortI_perm cs).mem_iff.mp (by rw [hc]; exact List.mem_cons_self)
        have := I.b a ha
        rcases List.mem_cons.mp h0 with e | e
        · rw [List.head?_cons, e]
        · have := (List.pairwise_cons.mp hs).1 0 e; omega
    · have := I.p
      rw [List.append_nil] at this
      exact (dset_perm (sortI_perm cs)).trans this.symm
theorem ans_full {told row : List Int} (h : Told told) (hr : Row told row) : row ∈ ansI told := by
  obtain ⟨h1, h2, h3⟩ := h
  have hid : sortI row = row := sortI_id (hr.s.imp fun h => Int.le_of_lt h)
  cases row with
  | nil => have := hr.z; cases this
  | cons a r =>
    have ha : a = 0 := by have := hr.z; simpa using this
    subst ha
    obtain ⟨s1, s2⟩ := List.pairwise_cons.mp hr.s
    unfold ansI
    split
    · rename_i e
      subst e
      have := hr.e.eq_nil
      cases r with
      | nil => simp
      | cons b r => simp [dset, ds] at this
    · rename_i hne
      have hne2 : r ≠ [] := fun e => by
        subst e
        have := hr.e.length_eq
        have : told = [] := List.eq_nil_of_length_eq_zero (by rw [← this]; rfl)
        exact hne this
      have hmem : ∀ x ∈ r, x ∈ told := fun x hx => hr.e.mem_iff.mp (List.mem_append_left _ (List.mem_map.mpr ⟨x, hx, by have := s1 x hx; unfold dst; omega⟩))
      have hle : ∀ x ∈ (0 : Int) :: r, 0 ≤ x ∧ x ≤ lastI told := fun x hx => by
        have hl := h3 _ (lastI_mem hne)
        rcases List.mem_cons.mp hx with e | e
        · subst e; omega
        · have := s1 x e; have := lastI_max h2 (hmem x e); omega
      have hT : lastI told ∈ (0 : Int) :: r := by
        have hm := hr.e.mem_iff.mpr (lastI_mem hne)
        obtain ⟨x, hx, y, hy, e⟩ := dset_mem hm
        have bx := hle x hx; have b_y := hle y hy
        have hl := h3 _ (lastI_mem hne)
        have : x = lastI told ∨ y = lastI told := by unfold dst at e; omega
        rcases this with q | q
        · rw [← q]; exact hx
        · rw [← q]; exact hy
      refine rowsI_mem.mpr ?_
      rw [← hid]
      refine gone_all (k := 5) (by omega) ?_ (in0 ⟨h1, h2, h3⟩ hne) (hr.s.imp fun h => by omega) ?_ hle hr.e
      · rw [List.length_dropLast]
        show _ ≤ tri 2 5
        have : tri 2 5 = 20 := rfl
        omega
      · intro c hc
        simp at hc
        rcases hc with e | e
        · subst e; exact List.mem_cons_self
        · rw [e]; exact hT
theorem ans_few {told : List Int} (h : Told told) : (ansI told).length ≤ 32 := by
  unfold ansI
  split
  · simp
  · refine Nat.le_trans (rowsI_len _) (gone_few 5 8 ?_)
    rw [List.length_dropLast]
    have := h.1
    show _ ≤ tri 2 5
    have : tri 2 5 = 20 := rfl
    omega
/-! mirrored; corners -/
def mirI (cs : List Int) : List Int := cs.reverse.map fun x => lastI cs - x
theorem dset_map_sub (c : Int) : ∀ l : List Int, dset (l.map fun x => c - x) = dset l
  | [] => rfl
  | a :: r => by
    rw [List.map_cons]
    unfold dset
    rw [dset_map_sub c r]
    refine congrArg (· ++ dset r) ?_
    unfold ds
    rw [List.map_map]
    refine List.map_congr_left fun x _ => ?_
    show dst (c - a) (c - x) = dst a x
    unfold dst; omega
theorem lastI_head (cs : List Int) : cs.reverse.headD 0 = lastI cs := by
  unfold lastI
  rw [List.getLastD_eq_getLast?, ← List.head?_reverse]
  cases cs.reverse <;> rfl
theorem mir_row {told row : List Int} (h : Row told row) : Row told (mirI row) := by
  have hne : row ≠ [] := fun e => by have := h.z; rw [e] at this; cases this
  refine ⟨?_, ?_, ?_⟩
  · unfold mirI
    rw [← lastI_head]
    cases hr : row.reverse with
    | nil => exact absurd (List.reverse_eq_nil_iff.mp hr) hne
    | cons a r => simp
  · unfold mirI
    rw [List.pairwise_map, List.pairwise_reverse]
    exact h.s.imp fun h => by omega
  · unfold mirI
    rw [dset_map_sub]
    exact (dset_perm (List.reverse_perm row)).trans h.e
theorem mirI_len (cs : List Int) : (mirI cs).length = cs.length := by simp [mirI]
theorem dset_len : ∀ l : List Int, 2 * (dset l).length + l.length = l.length * l.length
  | [] => rfl
  | c :: r => by
    have := dset_len r
    unfold dset
    have e : (r.length + 1) * (r.length + 1) = r.length * r.length + 2 * r.length + 1 := by rw [Nat.add_mul, Nat.mul_add]; omega
    rw [List.length_append, ds_len, List.length_cons, e]
    omega
structure Corn (cs : List Int) : Prop where
  z : cs.head? = some 0
  s : cs.Pairwise (· < ·)
  l : cs.length ≤ 7
  b : ∀ x ∈ cs, 0 ≤ x ∧ x ≤ 1000
theorem Corn.ne {cs : List Int} (h : Corn cs) : cs ≠ [] := fun e => by have := h.z; rw [e] at this; cases this
theorem Corn.le {cs : List Int} (h : Corn cs) : cs.Pairwise (· ≤ ·) := h.s.imp fun h => Int.le_of_lt h
theorem Corn.row {cs : List Int} (h : Corn cs) : Row (echI cs) cs := ⟨h.z, h.s, (dif_perm h.le).symm.trans (sortI_perm _).symm⟩
theorem dset_pos : ∀ {l : List Int}, l.Nodup → ∀ x ∈ dset l, 1 ≤ x
  | [], _, x, h => by cases h
  | c :: r, hn, x, h => by
    obtain ⟨h1, h2⟩ := List.nodup_cons.mp hn
    rcases List.mem_append.mp h with h | h
    · obtain ⟨y, hy, rfl⟩ := List.mem_map.mp h
      have : c ≠ y := fun e => h1 (e ▸ hy)
      unfold dst; omega
    · exact dset_pos h2 x h
theorem lt_nodup {l : List Int} (h : l.Pairwise (· < ·)) : l.Nodup := h.imp fun h e => by omega
theorem Corn.told {cs : List Int} (h : Corn cs) : Told (echI cs) := by
  have hp := h.row.e
  refine ⟨?_, sortI_le _, fun x hx => ?_⟩
  · rw [← hp.length_eq]
    have h1 := dset_len cs
    have h2 := h.l
    have h3 : cs.length * cs.length ≤ 7 * cs.length := Nat.mul_le_mul_right _ h2
    omega
  · have hx' := hp.mem_iff.mpr hx
    refine ⟨dset_pos (lt_nodup h.s) x hx', ?_⟩
    obtain ⟨a, ha, b, hb, rfl⟩ := dset_mem hx'
    have := h.b a ha; have := h.b b hb
    unfold dst; omega
theorem lastI_bd {cs : List Int} (h : Corn cs) : ∀ x ∈ cs, x ≤ lastI cs := fun x hx => lastI_max h.le hx
theorem Corn.mir {cs : List Int} (h : Corn cs) : Corn (mirI cs) := by
  have hr := mir_row h.row
  refine ⟨hr.z, hr.s, by rw [mirI_len]; exact h.l, fun x hx => ?_⟩
  unfold mirI at hx
  obtain ⟨y, hy, rfl⟩ := List.mem_map.mp hx
  have hy := List.mem_reverse.mp hy
  have := h.b y hy; have := lastI_bd h y hy; have := h.b _ (lastI_mem h.ne)
  omega
theorem row_ech {told row : List Int} (ht : Told told) (h : Row told row) : echI row = told := by
  unfold echI
  rw [sortI_eq ((dif_perm (h.s.imp fun h => Int.le_of_lt h)).trans h.e)]
  exact sortI_id ht.2.1
theorem mir_ech {cs : List Int} (h : Corn cs) : echI (mirI cs) = echI cs := row_ech h.told (mir_row h.row)
theorem mir_last {cs : List Int} (h : Corn cs) : lastI (mirI cs) = lastI cs := by
  have h0 : lastI (mirI cs) = (mirI cs).reverse.headD 0 := (lastI_head _).symm
  rw [h0]
  have hz := h.z
  unfold mirI
  rw [← List.map_reverse, List.reverse_reverse]
  cases cs with
  | nil => cases hz
  | cons a r =>
    have : a = 0 := by simpa using hz
    subst this
    simp
theorem mir_mir {cs : List Int} (h : Corn cs) : mirI (mirI cs) = cs := by
  have e := mir_last h
  show (mirI cs).reverse.map (fun x => lastI (mirI cs) - x) = cs
  rw [e]
  unfold mirI
  rw [← List.map_reverse, List.reverse_reverse, List.map_map]
  conv => rhs; rw [← List.map_id cs]
  refine List.map_congr_left fun x _ => ?_
  show lastI cs - (lastI cs - x) = x
  omega
theorem row_len {told row : List Int} (ht : told.length ≤ 21) (h : Row told row) : row.length ≤ 7 := by
  have h1 := dset_len row
  rw [h.e.length_eq] at h1
  rcases Nat.lt_or_ge row.length 8 with q | q
  · omega
  · have : 8 * row.length ≤ row.length * row.length := Nat.mul_le_mul_right _ q
    omega
theorem row_bd {told row : List Int} (ht : Told told) (h : Row told row) : ∀ x ∈ row, 0 ≤ x ∧ x ≤ 1000 := by
  intro x hx
  cases row with
  | nil => cases hx
  | cons a r =>
    have ha : a = 0 := by have := h.z; simpa using this
    subst ha
    rcases List.mem_cons.mp hx with e | e
    · subst e; omega
    · have h1 := (List.pairwise_cons.mp h.s).1 x e
      have : x ∈ told := h.e.mem_iff.mp (List.mem_append_left _ (List.mem_map.mpr ⟨x, e, by unfold dst; omega⟩))
      have := ht.2.2 x this
      omega
theorem row_corn {told row : List Int} (ht : Told told) (h : Row told row) : Corn row := ⟨h.z, h.s, row_len ht.1 h, row_bd ht h⟩
/-- the ear of the first corner -/
theorem ear0 {r : List Int} (h : Corn (0 :: r)) : setI (r.map (dst · 0)) = r := by
  obtain ⟨h1, h2⟩ := List.pairwise_cons.mp h.s
  have e : r.map (dst · 0) = r := by
    conv => rhs; rw [← List.map_id r]
    refine List.map_congr_left fun x hx => ?_
    have := h1 x hx
    show dst x 0 = x
    unfold dst; omega
  rw [e]
  exact lt_unique (setI_lt r) h2 fun z => setI_mem
/-! the functions read at lists of whole numbers -/
def iD (l : List Int) : D := .list (intL l)
theorem enumD_get : ∀ {ds : List D} {k i : Nat} {d : D}, (enumD k ds)[i]? = some d → ∃ e, ds[i]? = some e ∧ d = .tuple [.int ((k + i : Nat) : Int), e]
  | [], _, _, _, h => by simp [enumD] at h
  | e :: ds, k, 0, d, h => by
    refine ⟨e, rfl, ?_⟩
    have : PyData.tuple [.int (k : Nat), e] = d := by simpa [enumD] using h
    rw [← this]; simp
  | e :: ds, k, i + 1, d, h => by
    obtain ⟨e', h1, h2⟩ := enumD_get (ds := ds) (k := k + 1) (i := i) (d := d) (by simpa [enumD] using h)
    refine ⟨e', by simpa using h1, ?_⟩
    rw [h2]
    have : k + 1 + i = k + (i + 1) := by omega
    rw [this]
theorem intL_get {l : List Int} {i : Nat} {d : D} (h : (intL l)[i]? = some d) : ∃ c, l[i]? = some c ∧ d = .int c := by
  unfold intL at h
  rw [List.getElem?_map] at h
  cases hl : l[i]? with
  | none => rw [hl] at h; cases h
  | some c => rw [hl] at h; exact ⟨c, rfl, by simpa using h.symm⟩
theorem d_len {l : List Int} (h : l.length ≤ 1000) : dLen [iD l] = some (.int (l.length : Nat)) := by
  show some (PyData.int ((intL l).length : Nat)) = _
  rw [intL_len]
theorem ix_at {l : List Int} {i : Nat} {c : Int} (h : l[i]? = some c) : dIx (iD l) (.int (i : Int)) = some (.int c) := by
  refine atI_nat ?_
  unfold intL
  rw [List.getElem?_map, h]; rfl
def cC : FB := (fOr (fAnd (fB (f2 dEq (fVar 1) (fC (.int 0)))) (fB (f2 dNe (fVar 2) (fC (.int 0))))) (fOr (fAnd (fB (f2 dGt (fVar 1) (fC (.int 0)))) (fB (f2 dLe (fVar 2) (f2 dIx (fVar 0) (f2 dSub (fVar 1) (fC (.int 1))))))) (fB (f2 dGt (fVar 2) (fC gd_MOST_PLACE)))))
theorem cC_ok {cs : List Int} (h : Corn cs) {i : Nat} {c : Int} (hi : cs[i]? = some c) : cC [.sh (iD cs), .sh (.int (i : Int)), .sh (.int c)] = .ok false := by
  obtain ⟨hl, hc⟩ := List.getElem?_eq_some_iff.mp hi
  have hm : c ∈ cs := by rw [← hc]; exact List.getElem_mem hl
  have hb := h.b c hm
  have a1 := e_B (e_f2 (k := dEq) (e_var (i := 1) (e := [.sh (iD cs), .sh (.int (i : Int)), .sh (.int c)]) rfl) (e_c (d := .int 0)) (dEq_int _ _))
  have a2 := e_B (e_f2 (k := dNe) (e_var (i := 2) (e := [.sh (iD cs), .sh (.int (i : Int)), .sh (.int c)]) rfl) (e_c (d := .int 0)) (dNe_int _ _))
  have a3 := e_B (e_f2 (k := dGt) (e_var (i := 1) (e := [.sh (iD cs), .sh (.int (i : Int)), .sh (.int c)]) rfl) (e_c (d := .int 0)) (dGt_int _ _))
  have a4 := e_B (e_f2 (k := dGt) (e_var (i := 2) (e := [.sh (iD cs), .sh (.int (i : Int)), .sh (.int c)]) rfl) (e_c (d := gd_MOST_PLACE)) (dGt_int _ _))
  have b4 : decide ((1000 : Int) < c) = false := decide_eq_false (by omega)
  rw [b4] at a4
  by_cases h0 : i = 0
  · subst h0
    have hc0 : c = 0 := by
      have := h.z
      rw [List.head?_eq_getElem?, hi] at this
      simpa using this
    subst hc0
    exact e_or (b := false) (e_and a1 fun _ => a2) fun _ => e_or (b := false) (e_and (b := false) a3 fun z => by simp at z) fun _ => a4
  · obtain ⟨p, hp⟩ : ∃ p, cs[i - 1]? = some p := ⟨_, List.getElem?_eq_getElem (by omega)⟩
    obtain ⟨hpl, hpc⟩ := List.getElem?_eq_some_iff.mp hp
    have hlt : p < c := by rw [← hpc, ← hc]; exact List.pairwise_iff_getElem.mp h.s (i - 1) i hpl hl (by omega)
    have e : ((i : Nat) : Int) - 1 = ((i - 1 : Nat) : Int) := by omega
    have a5 := e_B (e_f2 (k := dLe) (e_var (i := 2) (e := [.sh (iD cs), .sh (.int (i : Int)), .sh (.int c)]) rfl) (e_f2 (k := dIx) (e_var (i := 0) (e := [.sh (iD cs), .sh (.int (i : Int)), .sh (.int c)]) rfl) (e_f2 (k := dSub) (e_var (i := 1) rfl) (e_c (d := .int 1)) (d_sub _ _)) (by rw [e]; exact ix_at hp)) (dLe_int _ _))
    have b5 : decide (c ≤ p) = false := decide_eq_false (by omega)
    rw [b5] at a5
    have b1 : decide ((i : Int) = 0) = false := decide_eq_false (by omega)
    rw [b1] at a1
    exact e_or (a := false) (b := false) (e_and (a := false) (b := false) a1 fun z => by cases z) fun _ => e_or (a := false) (b := false) (by
      have := e_and (b := false) a3 fun _ => a5
      rwa [Bool.and_false] at this) fun _ => a4
theorem check_corners_eq {cs : List Int} (h : Corn cs) : fn_check_corners [iD cs] = .ok .none := by
  have hl := h.l
  have hl1 : 1 ≤ cs.length := List.length_pos_iff.mpr h.ne
  obtain ⟨e', h1, s1, s2, rfl⟩ := loopF_inv (t := Tgt.tp [1, 2]) (body := sIf cC sNo sNext) (ds := enumD 0 (intL cs)) (I := fun i env => ∃ s1 s2, env = [.sh (iD cs), s1, s2]) (fun i env d hd hI => by
    obtain ⟨s1, s2, rfl⟩ := hI
    obtain ⟨e, h1, rfl⟩ := enumD_get hd
    obtain ⟨c, h2, rfl⟩ := intL_get h1
    rw [Nat.zero_add]
    exact ⟨[.sh (iD cs), .sh (.int (i : Int)), .sh (.int c)], _, rfl, e_if (cC_ok h h2) rfl, _, _, rfl⟩) [.sh (iD cs), .un, .un] ⟨_, _, rfl⟩
  refine d_fnX (e := [.sh (iD cs), .un, .un]) (e' := [.sh (iD cs), s1, s2]) rfl rfl ?_
  refine e_seq (e' := [.sh (iD cs), .un, .un]) ?_ (e_for (by show ((fVar 0 _).bind _) = _; rfl) h1)
  have hb1 : decide ((1 : Int) ≤ (cs.length : Nat)) = true := decide_eq_true (by omega)
  have hb2 : decide (((cs.length : Nat) : Int) ≤ 7) = true := decide_eq_true (by omega)
  refine e_if (b := !true) (e_not (e_B (e_f3 (t := true) e_c (e_cb1 (e_var rfl) (d_len (by omega))) ((dLe_int _ _).trans (by rw [hb1])) rfl e_c ((dLe_int _ _).trans (by rw [hb2]))))) rfl
/-! echoes told -/
def cE : FB := (fOr (fNot (fB (f3 dLe dLe (fC (.int 1)) (fVar 2) (fC gd_MOST_PLACE)))) (fAnd (fB (f2 dGt (fVar 1) (fC (.int 0)))) (fB (f2 dGt (f2 dIx (fVar 0) (f2 dSub (fVar 1) (fC (.int 1)))) (fVar 2)))))
theorem cE_ok {ts : List Int} (h : Told ts) {i : Nat} {c : Int} (hi : ts[i]? = some c) : cE [.sh (iD ts), .sh (.int (i : Int)), .sh (.int c)] = .ok false := by
  obtain ⟨hl, hc⟩ := List.getElem?_eq_some_iff.mp hi
  have hm : c ∈ ts := by rw [← hc]; exact List.getElem_mem hl
  obtain ⟨h1, h2⟩ := h.2.2 c hm
  have b1 : decide ((1 : Int) ≤ c) = true := decide_eq_true h1
  have b2 : decide (c ≤ (1000 : Int)) = true := decide_eq_true h2
  have a1 := e_not (e_B (e_f3 (k := dLe) (k' := dLe) (t := true) (e_c (d := .int 1) (e := [.sh (iD ts), .sh (.int (i : Int)), .sh (.int c)])) (e_var (i := 2) rfl) ((dLe_int _ _).trans (by rw [b1])) rfl (e_c (d := gd_MOST_PLACE)) ((dLe_int _ _).trans (by rw [b2]))))
  have a3 := e_B (e_f2 (k := dGt) (e_var (i := 1) (e := [.sh (iD ts), .sh (.int (i : Int)), .sh (.int c)]) rfl) (e_c (d := .int 0)) (dGt_int _ _))
  refine e_or (a := false) (b := false) a1 fun _ => ?_
  by_cases h0 : i = 0
  · subst h0
    exact e_and (b := false) a3 fun z => by simp at z
  · obtain ⟨p, hp⟩ : ∃ p, ts[i - 1]? = some p := ⟨_, List.getElem?_eq_getElem (by omega)⟩
    obtain ⟨hpl, hpc⟩ := List.getElem?_eq_some_iff.mp hp
    have hlt : p ≤ c := by rw [← hpc, ← hc]; exact List.pairwise_iff_getElem.mp h.2.1 (i - 1) i hpl hl (by omega)
    have e : ((i : Nat) : Int) - 1 = ((i - 1 : Nat) : Int) := by omega
    have a5 := e_B (e_f2 (k := dGt) (e_f2 (k := dIx) (e_var (i := 0) (e := [.sh (iD ts), .sh (.int (i : Int)), .sh (.int c)]) rfl) (e_f2 (k := dSub) (e_var (i := 1) rfl) (e_c (d := .int 1)) (d_sub _ _)) (by rw [e]; exact ix_at hp)) (e_var (i := 2) rfl) (dGt_int _ _))
    have b5 : decide (c < p) = false := decide_eq_false (by omega)
    rw [b5] at a5
    have := e_and (b := false) a3 fun _ => a5
    rwa [Bool.and_false] at this
theorem size_ev : ([0, 1, 3, 6, 10, 15, 21] : List Nat).all (fun n => okO (dNotIn (.int (n : Nat)) gd_SIZES) (.bool false)) = true := by decide +kernel
theorem check_echoes_eq {ts : List Int} (h : Told ts) (hs : ts.length ∈ ([0, 1, 3, 6, 10, 15, 21] : List Nat)) : fn_check_echoes [iD ts] = .ok .none := by
  have hl := h.1
  obtain ⟨e', h1, s1, s2, rfl⟩ := loopF_inv (t := Tgt.tp [1, 2]) (body := sIf cE sNo sNext) (ds := enumD 0 (intL ts)) (I := fun i env => ∃ s1 s2, env = [.sh (iD ts), s1, s2]) (fun i env d hd hI => by
    obtain ⟨s1, s2, rfl⟩ := hI
    obtain ⟨e, h1, rfl⟩ := enumD_get hd
    obtain ⟨c, h2, rfl⟩ := intL_get h1
    rw [Nat.zero_add]
    exact ⟨[.sh (iD ts), .sh (.int (i : Int)), .sh (.int c)], _, rfl, e_if (cE_ok h h2) rfl, _, _, rfl⟩) [.sh (iD ts), .un, .un] ⟨_, _, rfl⟩
  refine d_fnX (e := [.sh (iD ts), .un, .un]) (e' := [.sh (iD ts), s1, s2]) rfl rfl ?_
  refine e_seq (e' := [.sh (iD ts), .un, .un]) ?_ (e_for (by show ((fVar 0 _).bind _) = _; rfl) h1)
  exact e_if (b := false) (e_B (e_f2 (e_cb1 (e_var rfl) (d_len (by omega))) e_c (okO_eq (List.all_eq_true.mp size_ev _ hs)))) rfl
/-! the distances -/
theorem alike_ints (l : List Int) : ((intL l).all fun x => (intL l).all fun y => PySem.W.alike x y) = true := by
  refine List.all_eq_true.mpr fun x hx => List.all_eq_true.mpr fun y hy => ?_
  obtain ⟨a, _, rfl⟩ := List.mem_map.mp hx
  obtain ⟨b, _, rfl⟩ := List.mem_map.mp hy
  simp [PySem.W.alike]
theorem leD_int (a b : Int) : leI a b = leD (.int a) (.int b) := by
  unfold leD leI
  rw [PySem.W.dataLt_int]
  by_cases h : a ≤ b
  · simp [h, Int.not_lt.mpr h]
  · simp [h, Int.not_le.mp h]
theorem d_sorted {l : List Int} (h : l.length ≤ 1000) : dSorted [iD l] = some (iD (sortI l)) := by
  have ok : sortOk (intL l) = true := by
    unfold sortOk
    rw [alike_ints, intL_len, decide_eq_true (le_line (by omega))]
    have h1 : (intL l).all notTN = true := List.all_eq_true.mpr fun x hx => by obtain ⟨a, _, rfl⟩ := List.mem_map.mp hx; rfl
    have h2 : (intL l).all shal = true := List.all_eq_true.mpr fun x hx => by obtain ⟨a, _, rfl⟩ := List.mem_map.mp hx; exact shal_int a
    rw [h1, h2]; simp
  show (if sortOk (intL l) = true then some (PyData.list (sortD (intL l))) else none) = _
  rw [if_pos ok]
  unfold sortD sortI iD intL
  rw [isort_map PyData.int leD_int]
theorem lc_sub (c : Int) (s0 s1 s2 s4 : Sl) : ∀ (l : List Int), lcGo (Tgt.nm 4) bYes (one (f2 dSub (fVar 3) (fVar 4))) [s0, s1, s2, .sh (.int c), s4] (intL l) = .ok (intL (l.map (c - ·)))
  | [] => rfl
  | x :: l => e_lcC (ys := [.int (c - x)]) (r := intL (l.map (c - ·))) (e := [s0, s1, s2, .sh (.int c), .sh (.int x)]) rfl rfl (e_one (e_f2 (e_var rfl) (e_var rfl) (d_sub _ _))) (lc_sub c s0 s1 s2 s4 l)
theorem dif_len : ∀ (pre cs : List Int), (dif pre cs).length ≤ (pre.length + cs.length) * cs.length
  | _, [] => by simp [dif]
  | pre, c :: r => by
    have := dif_len (pre ++ [c]) r
    rw [List.length_append, List.length_singleton] at this
    unfold dif
    rw [List.length_append, List.length_map, List.length_cons, Nat.mul_succ]
    have e : pre.length + (r.length + 1) = pre.length + 1 + r.length := by omega
    rw [e]
    omega
theorem e_sl {f : FE} {g g' : FO} {e : List Sl} {d c : D} {lo hi : Option Int} (h : f e = .ok d) (hg : g e = .ok lo) (hg' : g' e = .ok hi) (hk : dSl d lo hi = some c) : fSl f g g' e = .ok c := by
  unfold fSl; rw [h]; show (g e).bind _ = _; rw [hg]; show (g' e).bind _ = _; rw [hg']; show Rs.ofO _ = _; rw [hk]; rfl
theorem e_oS {f : FE} {e : List Sl} {i : Int} (h : f e = .ok (.int i)) : oSome f e = .ok (some i) := by unfold oSome; rw [h]; rfl
theorem e_oN {e : List Sl} : oNone e = .ok none := rfl
theorem cut_pre {α : Type} (pre r : List α) : PD.cutD (pre ++ r) none (some (pre.length : Int)) = pre := by
  unfold PD.cutD
  rw [HT.sIx_none, HT.sIx_nat, List.length_append, List.drop_zero]
  have : min pre.length (pre.length + r.length) - 0 = pre.length := by omega
  rw [this]
  simp
theorem e_ext {i : Nat} {f : FE} {e e' : List Sl} {l m : List D} (h0 : e[i]? = some (.own l)) (h : f e = .ok (.list m)) (hl : l.length + m.length ≤ LINE) (h' : e.set i (.own (l ++ m)) = e') : sExt i f e = .nx e' := by
  unfold sExt; rw [h0]; show bindO (f e) _ = _; rw [h]; show (if l.length + m.length ≤ LINE then Out.nx _ else .no) = _; rw [if_pos hl, h']
theorem intL_app (a b : List Int) : intL a ++ intL b = intL (a ++ b) := by simp [intL]
def bX : FS := sExt 1 (fLc (iSeq (fSl (fVar 0) oNone (oSome (fVar 2)))) (Tgt.nm 4) bYes (f2 dSub (fVar 3) (fVar 4)) [4])
theorem ext_step (pre r : List Int) (c : Int) (acc : List Int) (s4 : Sl) (hl : acc.length + pre.length ≤ 100000) :
    bX [.sh (iD (pre ++ c :: r)), .own (intL acc), .sh (.int (pre.length : Nat)), .sh (.int c), s4] = .nx [.sh (iD (pre ++ c :: r)), .own (intL (acc ++ pre.map (c - ·))), .sh (.int (pre.length : Nat)), .sh (.int c), s4] := by
  have hs : fSl (fVar 0) oNone (oSome (fVar 2)) [.sh (iD (pre ++ c :: r)), .own (intL acc), .sh (.int (pre.length : Nat)), .sh (.int c), s4] = .ok (iD pre) := by
    refine e_sl (e_var rfl) e_oN (e_oS (e_var rfl)) ?_
    show some (PyData.list (PD.cutD (intL (pre ++ c :: r)) none (some ((pre.length : Nat) : Int)))) = _
    have : intL (pre ++ c :: r) = intL pre ++ intL (c :: r) := (intL_app _ _).symm
    rw [this]
    have h2 := cut_pre (intL pre) (intL (c :: r))
    rw [intL_len] at h2
    rw [h2]; rfl
  refine e_ext (l := intL acc) (m := intL (pre.map (c - ·))) rfl (e_lc (e_iSeq hs rfl) (lc_sub c _ _ _ _ pre) (le_line (by rw [intL_len, List.length_map]; omega))) (le_line (by rw [intL_len, intL_len, List.length_map]; omega)) ?_
  rw [intL_app]; rfl
theorem ext_loop : ∀ (r pre acc : List Int) (s2 s3 s4 : Sl), acc.length + (pre.length + r.length) * r.length ≤ 100000 → pre.length + r.length ≤ 300 → ∃ t2 t3 t4, loopF (Tgt.tp [2, 3]) bX (enumD pre.length (intL r)) [.sh (iD (pre ++ r)), .own (intL acc), s2, s3, s4] = .nx [.sh (iD (pre ++ r)), .own (intL (acc ++ dif pre r)), t2, t3, t4]
  | [], pre, acc, s2, s3, s4, _, _ => ⟨s2, s3, s4, by simp [dif]; rfl⟩
  | c :: r, pre, acc, s2, s3, s4, hl, hn => by
    rw [List.length_cons, Nat.mul_succ] at hl
    rw [List.length_cons] at hn
    obtain ⟨t2, t3, t4, ih⟩ := ext_loop r (pre ++ [c]) (acc ++ pre.map (c - ·)) (.sh (.int (pre.length : Nat))) (.sh (.int c)) s4 (by
      rw [List.length_append, List.length_append, List.length_map, List.length_singleton]
      have e : pre.length + (r.length + 1) = pre.length + 1 + r.length := by omega
      rw [e] at hl
      omega) (by rw [List.length_append, List.length_singleton]; omega)
    rw [List.length_append, List.length_singleton, List.append_assoc] at ih
    refine ⟨t2, t3, t4, ?_⟩
    have e1 : acc ++ dif pre (c :: r) = acc ++ pre.map (c - ·) ++ dif (pre ++ [c]) r := by simp [dif]
    rw [e1]
    exact e_loopC rfl (ext_step pre r c acc s4 (by omega)) ih
theorem echoes_of_eq {cs : List Int} (h : cs.length ≤ 20) : fn_echoes_of [iD cs] = .ok (iD (echI cs)) := by
  have hm : cs.length * cs.length ≤ 20 * 20 := Nat.mul_le_mul h h
  obtain ⟨t2, t3, t4, h1⟩ := ext_loop cs [] [] .un .un .un (by simp; omega) (by simp; omega)
  have hd := dif_len [] cs
  simp at hd
  refine d_fnN (e := [.sh (iD cs), .un, .un, .un, .un]) rfl rfl ?_
  refine e_seq (e' := [.sh (iD cs), .own (intL []), .un, .un, .un]) (e_setN e_lst0 rfl) ?_
  refine e_seq (e' := [.sh (iD cs), .own (intL (dif [] cs)), t2, t3, t4]) (e_for (by show ((fVar 0 _).bind _) = _; rfl) h1) ?_
  show sRetN _ (frz1 1 _) = _
  exact e_retN (e_cb1 (a := iD (dif [] cs)) (e_var rfl) (d_sorted (by omega)))
theorem echoes_eq {cs : List Int} (h : Corn cs) : fn_echoes [iD cs] = .ok (iD (echI cs)) := by
  have := h.l
  refine d_fnN (e := [.sh (iD cs)]) rfl rfl ?_
  exact e_seq (e_drop (e_call (e_cons (e_var rfl) e_nil) (check_corners_eq h))) (e_retN (e_call (e_cons (e_var rfl) e_nil) (echoes_of_eq (by omega))))
/-! the law's own echoes -/
theorem lc_ix (cs : List Int) (k : Nat) (c : Int) (hk : cs[k]? = some c) (s1 s3 : Sl) : ∀ (n lo : Nat), lo + n ≤ k → lcGo (Tgt.nm 3) bYes (one (f2 dSub (f2 dIx (fVar 0) (fVar 2)) (f2 dIx (fVar 0) (fVar 3)))) [.sh (iD cs), s1, .sh (.int (k : Nat)), s3] (rng lo n) = .ok (intL (((cs.drop lo).take n).map (c - ·)))
  | 0, lo, _ => by simp [rng, intL, lcGo]
  | n + 1, lo, h => by
    have hkl : k < cs.length := (List.getElem?_eq_some_iff.mp hk).1
    have hlo : cs[lo]? = some cs[lo] := List.getElem?_eq_getElem (by omega)
    have e1 : rng (lo : Nat) (n + 1) = .int ((lo : Nat) : Int) :: rng ((lo + 1 : Nat) : Int) n := by
      unfold rng
      rw [List.range_succ_eq_map, List.map_cons, List.map_map]
      refine congr (congrArg List.cons (by simp)) (List.map_congr_left fun j _ => ?_)
      show PyData.int ((lo : Int) + ((j + 1 : Nat) : Int)) = PyData.int (((lo + 1 : Nat) : Int) + (j : Nat))
      congr 1; omega
    have e2 : ((cs.drop lo).take (n + 1)).map (c - ·) = (c - cs[lo]) :: ((cs.drop (lo + 1)).take n).map (c - ·) := by
      rw [List.drop_eq_getElem_cons (by omega), List.take_succ_cons, List.map_cons]
    rw [e1, e2]
    exact e_lcC (ys := [.int (c - cs[lo])]) (r := intL (((cs.drop (lo + 1)).take n).map (c - ·))) (e := [.sh (iD cs), s1, .sh (.int (k : Nat)), .sh (.int ((lo : Nat) : Int))]) rfl rfl (e_one (e_f2 (e_f2 (e_var rfl) (e_var rfl) (ix_at hk)) (e_f2 (e_var rfl) (e_var rfl) (ix_at hlo)) (d_sub _ _))) (lc_ix cs k c hk s1 s3 n (lo + 1) (by omega))
theorem rng_succ (lo n : Nat) : rng (lo : Nat) (n + 1) = .int ((lo : Nat) : Int) :: rng ((lo + 1 : Nat) : Int) n := by
  unfold rng
  rw [List.range_succ_eq_map, List.map_cons, List.map_map]
  refine congr (congrArg List.cons (by simp)) (List.map_congr_left fun j _ => ?_)
  show PyData.int ((lo : Int) + ((j + 1 : Nat) : Int)) = PyData.int (((lo + 1 : Nat) : Int) + (j : Nat))
  congr 1; omega
theorem d_addL {a b : List Int} (h : a.length + b.length ≤ 1000000) : dAdd (iD a) (iD b) = some (iD (a ++ b)) := by
  show (if (intL a).length + (intL b).length ≤ LINE then some (PyData.list (intL a ++ intL b)) else none) = _
  rw [intL_len, intL_len, if_pos (le_line h), intL_app]; rfl
def bL : FS := (sSet 1 (f2 dAdd (fVar 1) (fLc (iRng1F (aCons (fVar 2) aNil)) (Tgt.nm 3) bYes (f2 dSub (f2 dIx (fVar 0) (fVar 2)) (f2 dIx (fVar 0) (fVar 3))) [3])))
theorem le_step (pre r : List Int) (c : Int) (acc : List Int) (s3 : Sl) (hl : acc.length + pre.length ≤ 100000) :
    bL [.sh (iD (pre ++ c :: r)), .sh (iD acc), .sh (.int (pre.length : Nat)), s3] = .nx [.sh (iD (pre ++ c :: r)), .sh (iD (acc ++ pre.map (c - ·))), .sh (.int (pre.length : Nat)), s3] := by
  have hk : (pre ++ c :: r)[pre.length]? = some c := by simp
  have h := lc_ix (pre ++ c :: r) pre.length c hk (.sh (iD acc)) .un pre.length 0 (by omega)
  rw [List.drop_zero, List.take_left' rfl] at h
  refine e_set (e_f2 (e_var rfl) (e_lc (e_rng1 (n := pre.length) (e_var rfl) (by omega)) h (le_line (by rw [intL_len, List.length_map]; omega))) (d_addL (by rw [List.length_map]; omega))) rfl
theorem le_loop : ∀ (r pre acc : List Int) (s2 s3 : Sl), acc.length + (pre.length + r.length) * r.length ≤ 100000 → pre.length + r.length ≤ 300 → ∃ t2 t3, loopF (Tgt.nm 2) bL (rng (pre.length : Nat) r.length) [.sh (iD (pre ++ r)), .sh (iD acc), s2, s3] = .nx [.sh (iD (pre ++ r)), .sh (iD (acc ++ dif pre r)), t2, t3]
  | [], pre, acc, s2, s3, _, _ => ⟨s2, s3, by simp [dif]; rfl⟩
  | c :: r, pre, acc, s2, s3, hl, hn => by
    rw [List.length_cons, Nat.mul_succ] at hl
    rw [List.length_cons] at hn
    obtain ⟨t2, t3, ih⟩ := le_loop r (pre ++ [c]) (acc ++ pre.map (c - ·)) (.sh (.int (pre.length : Nat))) s3 (by
      rw [List.length_append, List.length_append, List.length_map, List.length_singleton]
      have e : pre.length + (r.length + 1) = pre.length + 1 + r.length := by omega
      rw [e] at hl
      omega) (by rw [List.length_append, List.length_singleton]; omega)
    rw [List.length_append, List.length_singleton, List.append_assoc] at ih
    refine ⟨t2, t3, ?_⟩
    have e1 : acc ++ dif pre (c :: r) = acc ++ pre.map (c - ·) ++ dif (pre ++ [c]) r := by simp [dif]
    rw [e1, List.length_cons, rng_succ]
    exact e_loopC rfl (le_step pre r c acc s3 (by omega)) ih
/-! mirrored -/
theorem ix_last {cs : List Int} (h : cs ≠ []) : dIx (iD cs) (.int (-1)) = some (.int (lastI cs)) := by
  have e : lastI cs = cs.getLast h := by unfold lastI; rw [List.getLastD_eq_getLast?, List.getLast?_eq_getLast h]; rfl
  have e2 : intL cs = intL cs.dropLast ++ [.int (lastI cs)] := by
    rw [e, intL_snoc, List.dropLast_concat_getLast h]
  show atI (intL cs) (-1) = _
  rw [e2]
  exact atI_last _ _
theorem lc_mir (cs : List Int) (hne : cs ≠ []) (s1 : Sl) : ∀ l : List Int, lcGo (Tgt.nm 1) bYes (one (f2 dSub (f2 dIx (fVar 0) (f1 dNeg (fC (.int 1)))) (fVar 1))) [.sh (iD cs), s1] (intL l) = .ok (intL (l.map (lastI cs - ·)))
  | [] => rfl
  | x :: l => e_lcC (ys := [.int (lastI cs - x)]) (r := intL (l.map (lastI cs - ·))) (e := [.sh (iD cs), .sh (.int x)]) rfl rfl (e_one (e_f2 (e_f2 (e_var rfl) (e_f1 e_c (d_neg 1)) (ix_last hne)) (e_var rfl) (d_sub _ _))) (lc_mir cs hne s1 l)
theorem d_rev (l : List Int) : dRev (iD l) = some (iD l.reverse) := by
  show some (PyData.list (intL l).reverse) = _
  unfold iD intL; rw [List.map_reverse]
theorem mirrored_of_eq {cs : List Int} (h : Corn cs) : fn_mirrored_of [iD cs] = .ok (iD (mirI cs)) := by
  have hl := h.l
  refine d_fnN (e := [.sh (iD cs), .un]) rfl rfl (e_retN ?_)
  exact e_lc (e_iSeq (e_f1 (e_var rfl) (d_rev cs)) rfl) (lc_mir cs h.ne _ cs.reverse) (le_line (by rw [intL_len, mirI_len]; omega))
theorem mirrored_eq {cs : List Int} (h : Corn cs) : fn_mirrored [iD cs] = .ok (iD (mirI cs)) := by
  refine d_fnN (e := [.sh (iD cs)]) rfl rfl ?_
  exact e_seq (e_drop (e_call (e_cons (e_var rfl) e_nil) (check_corners_eq h))) (e_retN (e_call (e_cons (e_var rfl) e_nil) (mirrored_of_eq h)))
/-! data of whole numbers that are the same or not -/
theorem eqv_int (a b : Int) : PyData.eqv (.int a) (.int b) = decide (a = b) := by simp only [PyData.eqv]; rfl
theorem eqvAll_ints : ∀ a b : List Int, PyData.eqvAll (intL a) (intL b) = decide (a = b)
  | [], [] => by simp [intL, PyData.eqvAll]
  | [], b :: bs => by simp [intL, PyData.eqvAll]
  | a :: as, [] => by simp [intL, PyData.eqvAll]
  | a :: as, b :: bs => by
    have ih := eqvAll_ints as bs
    show (PyData.eqv (.int a) (.int b) && PyData.eqvAll (intL as) (intL bs)) = _
    rw [eqv_int, ih]
    by_cases h1 : a = b <;> by_cases h2 : as = bs <;> simp [h1, h2]
theorem eqv_iD (a b : List Int) : PyData.eqv (iD a) (iD b) = decide (a = b) := by
  have := eqvAll_ints a b
  simpa [iD, PyData.eqv] using this
theorem small_iD {l : List Int} {n : Nat} (h : ∀ x ∈ l, x.natAbs < 1000000) (hn : l.length ≤ n) : Small 1 (21 * n) (iD l) := Small.list (fun d hd => by
  obtain ⟨x, hx, rfl⟩ := List.mem_map.mp hd
  exact Small.int (h x hx)) (by rw [intL_len]; exact hn)
theorem depth_ints : ∀ l : List Int, PyData.depthAll (intL l) = 0
  | [] => rfl
  | a :: l => by
    show max (PyData.depth (.int a)) (PyData.depthAll (intL l)) = 0
    rw [depth_ints l]; rfl
theorem shal_iD (l : List Int) : shal (iD l) = true := by
  unfold shal iD
  have : PyData.depth (.list (intL l)) = PyData.depthAll (intL l) + 1 := rfl
  rw [this, depth_ints]; rfl
theorem d_eqL (a b : List Int) : dEq (iD a) (iD b) = some (.bool (decide (a = b))) := by
  unfold dEq; rw [shal_iD, Bool.true_or, if_pos rfl, eqv_iD]
theorem d_neL (a b : List Int) : dNe (iD a) (iD b) = some (.bool (!decide (a = b))) := by
  unfold dNe; rw [shal_iD, Bool.true_or, if_pos rfl, eqv_iD]
/-! does_meet -/
theorem does_meet_eq {cs ts : List Int} (h : Corn cs) (ht : Told ts) (hs : ts.length ∈ ([0, 1, 3, 6, 10, 15, 21] : List Nat)) : fn_does_meet [iD cs, iD ts] = .ok (.bool (decide (echI cs = ts))) := by
  have hl := h.l
  refine d_fn (e := [.sh (iD cs), .sh (iD ts)]) rfl rfl ?_
  refine e_seq (e_drop (e_call (e_cons (e_var rfl) e_nil) (check_corners_eq h))) ?_
  refine e_seq (e_drop (e_call (e_cons (e_var rfl) e_nil) (check_echoes_eq ht hs))) ?_
  exact e_ret (e_f2 (e_call (e_cons (e_var rfl) e_nil) (echoes_of_eq (by omega))) (e_var rfl) (d_eqL _ _))
/-! ear -/
theorem d_abs (i : Int) : dAbs [.int i] = some (.int (i.natAbs : Nat)) := by
  show some (PyData.int (if i < 0 then -i else i)) = _
  congr 2; split <;> omega
theorem d_sortset {l : List Int} (h : l.length < 64) : dSortSet (iD l) = some (iD (setI l)) := by
  show (match intsD (intL l) with | some ns => if ns.length < 64 then some (PyData.list ((setI ns).map .int)) else none | none => none) = _
  unfold intL
  rw [intsD_map]
  show (if l.length < 64 then _ else _) = _
  rw [if_pos h]; rfl
theorem lc_ear (cs : List Int) (k : Nat) (c : Int) (hk : cs[k]? = some c) (s2 : Sl) : ∀ l : List Int, lcGo (Tgt.nm 2) (fB (f2 dNe (fVar 2) (f2 dIx (fVar 0) (fVar 1)))) (one (fCB dAbs (aCons (f2 dSub (fVar 2) (f2 dIx (fVar 0) (fVar 1))) aNil))) [.sh (iD cs), .sh (.int (k : Nat)), s2] (intL l) = .ok (intL ((l.filter fun x => !decide (x = c)).map (dst · c)))
  | [] => rfl
  | x :: l => by
    have ih := lc_ear cs k c hk s2 l
    have ht : fB (f2 dNe (fVar 2) (f2 dIx (fVar 0) (fVar 1))) [.sh (iD cs), .sh (.int (k : Nat)), .sh (.int x)] = .ok (!decide (x = c)) := e_B (e_f2 (e_var rfl) (e_f2 (e_var rfl) (e_var rfl) (ix_at hk)) (dNe_int _ _))
    by_cases hx : x = c
    · rw [decide_eq_true hx] at ht
      have e : (x :: l).filter (fun x => !decide (x = c)) = l.filter (fun x => !decide (x = c)) := by rw [List.filter_cons_of_neg]; simp [hx]
      rw [e]
      exact e_lcS rfl ht ih
    · rw [decide_eq_false hx] at ht
      have e : (x :: l).filter (fun x => !decide (x = c)) = x :: l.filter (fun x => !decide (x = c)) := by rw [List.filter_cons_of_pos]; simp [hx]
      rw [e]
      exact e_lcC (ys := [.int (dst x c)]) (r := intL ((l.filter fun x => !decide (x = c)).map (dst · c))) rfl ht (e_one (e_cb1 (e_f2 (e_var rfl) (e_f2 (e_var rfl) (e_var rfl) (ix_at hk)) (d_sub _ _)) (d_abs _))) ih
def earI (cs : List Int) (c : Int) : List Int := setI ((cs.filter fun x => !decide (x = c)).map (dst · c))
theorem ear_eq {cs : List Int} (h : Corn cs) {k : Nat} {c : Int} (hk : cs[k]? = some c) : fn_ear [iD cs, .int (k : Nat)] = .ok (iD (earI cs c)) := by
  have hl := h.l
  have hkl : k < cs.length := (List.getElem?_eq_some_iff.mp hk).1
  have hf : (cs.filter fun x => !decide (x = c)).length ≤ cs.length := List.length_filter_le _ _
  refine d_fn (e := [.sh (iD cs), .sh (.int (k : Nat)), .un]) rfl rfl ?_
  refine e_seq (e_drop (e_call (e_cons (e_var rfl) e_nil) (check_corners_eq h))) ?_
  have hb1 : decide ((0 : Int) ≤ (k : Nat)) = true := decide_eq_true (by omega)
  have hb2 : decide (((k : Nat) : Int) < (cs.length : Nat)) = true := decide_eq_true (by omega)
  refine e_seq (e' := [.sh (iD cs), .sh (.int (k : Nat)), .un]) (e_if (b := !true) (e_not (e_B (e_f3 (t := true) e_c (e_var rfl) ((dLe_int _ _).trans (by rw [hb1])) rfl (e_cb1 (e_var rfl) (d_len (by omega))) ((dLt_int _ _).trans (by rw [hb2]))))) rfl) ?_
  exact e_ret (e_f1 (a := iD ((cs.filter fun x => !decide (x = c)).map (dst · c))) (e_lc (e_iSeq (e_var rfl) rfl) (lc_ear cs k c hk .un cs) (le_line (by rw [intL_len, List.length_map]; omega))) (d_sortset (by rw [List.length_map]; omega)))
/-! without -/
def woD (r : Option (List Int)) : D := match r with
  | some l => iD l
  | none => .none
theorem d_inL (x : Int) (l : List Int) : dIn (.int x) (iD l) = some (.bool (decide (x ∈ l))) := by
  show (if shal (.int x) = true then some (PyData.bool (dInL (.int x) (intL l))) else none) = _
  rw [shal_int, if_pos rfl]
  congr 2
  induction l with
  | nil => simp [dInL, intL]
  | cons a r ih =>
    have : dInL (.int x) (intL (a :: r)) = (PyData.eqv (.int a) (.int x) || dInL (.int x) (intL r)) := rfl
    rw [this, ih, eqv_int]
    by_cases h : a = x
    · simp [h]
    · have : ¬ x = a := fun e => h e.symm
      simp [h, this]
theorem d_notInL (x : Int) (l : List Int) : dNotIn (.int x) (iD l) = some (.bool (!decide (x ∈ l))) := by
  unfold dNotIn; rw [d_inL]; rfl
theorem e_rem {i : Nat} {f : FE} {e e' : List Sl} {l : List Int} {k : Int} (h0 : e[i]? = some (.own (intL l))) (h : f e = .ok (.int k)) (hk : k ∈ l) (h' : e.set i (.own (intL (l.erase k))) = e') : sRem i f e = .nx e' := by
  unfold sRem; rw [h0]; show bindO (f e) _ = _; rw [h]
  show (match intsD (intL l) with | some ns => if k ∈ ns then Out.nx (e.set i (.own ((ns.erase k).map PyData.int))) else .no | none => .no) = _
  unfold intL
  rw [intsD_map]
  show (if k ∈ l then _ else _) = _
  rw [if_pos hk, ← h']; rfl
def bR : FS := (sSeq (sIf (fThB (fB (f2 dNotIn (fVar 3) (fVar 2)))) (sRet (fC .none)) sNext) (sRem 2 (fVar 3)))
theorem wo_loop (s0 s1 : Sl) (hs0 : th1 s0 = s0) (hs1 : th1 s1 = s1) : ∀ (some' told : List Int) (s3 : Sl), (∃ l t3, woI told some' = some l ∧ loopF (Tgt.nm 3) bR (intL some') [s0, s1, .own (intL told), s3] = .nx [s0, s1, .own (intL l), t3]) ∨ (woI told some' = none ∧ loopF (Tgt.nm 3) bR (intL some') [s0, s1, .own (intL told), s3] = .rt .none)
  | [], told, s3 => .inl ⟨told, s3, rfl, rfl⟩
  | x :: r, told, s3 => by
    have ht : fThB (fB (f2 dNotIn (fVar 3) (fVar 2))) [s0, s1, .own (intL told), .sh (.int x)] = .ok (!decide (x ∈ told)) := by
      refine e_thM ?_
      show fB _ [th1 s0, th1 s1, .sh (iD told), .sh (.int x)] = _
      exact e_B (e_f2 (e_var rfl) (e_var rfl) (d_notInL _ _))
    unfold woI
    by_cases hx : x ∈ told
    · rw [if_pos hx]
      rw [decide_eq_true hx] at ht
      have hb : bR [s0, s1, .own (intL told), .sh (.int x)] = .nx [s0, s1, .own (intL (told.erase x)), .sh (.int x)] := e_seq (e_if ht rfl) (e_rem rfl (e_var rfl) hx rfl)
      rcases wo_loop s0 s1 hs0 hs1 r (told.erase x) (.sh (.int x)) with ⟨l, t3, h1, h2⟩ | ⟨h1, h2⟩
      · exact .inl ⟨l, t3, h1, e_loopC rfl hb h2⟩
      · exact .inr ⟨h1, e_loopC rfl hb h2⟩
    · rw [if_neg hx]
      rw [decide_eq_false hx] at ht
      exact .inr ⟨rfl, e_loopR rfl (e_seqR (e_if ht rfl))⟩
theorem without_eq (told some' : List Int) : fn_without [iD told, iD some'] = .ok (woD (woI told some')) := by
  rcases wo_loop (.sh (iD told)) (.sh (iD some')) rfl rfl some' told .un with ⟨l, t3, h1, h2⟩ | ⟨h1, h2⟩
  · rw [h1]
    refine d_fnR (e := [.sh (iD told), .sh (iD some'), .un, .un]) rfl rfl ?_
    exact e_seq (e' := [.sh (iD told), .sh (iD some'), .own (intL told), .un]) (e_setN (e_cb1 (e_var rfl) rfl) rfl) (e_seq (e_for (e_iSeq (e_var rfl) rfl) h2) (e_retO rfl))
  · rw [h1]
    refine d_fn (e := [.sh (iD told), .sh (iD some'), .un, .un]) rfl rfl ?_
    exact e_seq (e' := [.sh (iD told), .sh (iD some'), .own (intL told), .un]) (e_setN (e_cb1 (e_var rfl) rfl) rfl) (e_seqR (e_for (e_iSeq (e_var rfl) rfl) h2))
/-! the search -/
def rD (rows : List (List Int)) : List D := rows.map iD
theorem rD_app (a b : List (List Int)) : rD a ++ rD b = rD (a ++ b) := by simp [rD]
theorem rD_len (a : List (List Int)) : (rD a).length = a.length := by simp [rD]
theorem e_seqN {g g' : FS} {e : List Sl} {d : D} (h : g e = .rn d) : sSeq g g' e = .rn d := by unfold sSeq; rw [h]; rfl
theorem e_star {f : FE} {fa : FA} {e : List Sl} {l ds : List D} (h : f e = .ok (.list l)) (h' : fa e = .ok ds) : aStar f fa e = .ok (l ++ ds) := by unfold aStar; rw [h]; show (fa e).bind _ = _; rw [h']; rfl
theorem d_max {cs : List Int} {T : Int} (hT : T ∈ cs) (hb : ∀ c ∈ cs, c ≤ T) : dMaxL [iD cs] = some (.int T) := by
  cases cs with
  | nil => cases hT
  | cons n ns =>
    have h : intsD (intL (n :: ns)) = some (n :: ns) := by unfold intL; exact intsD_map _
    show (match intsD (intL (n :: ns)) with | some (n :: ns) => some (PyData.int (ns.foldl (fun a y => if a < y then y else a) n)) | _ => none) = _
    rw [h]
    obtain ⟨h1, h2⟩ := foldMax ns n
    show some (PyData.int (ns.foldl (fun a y => if a < y then y else a) n)) = _
    have := h2 T hT
    have := hb _ h1
    congr 2; omega
theorem lc_abs (p : Int) (s0 s1 s2 s3 s4 s6 s7 : Sl) : ∀ l : List Int, lcGo (Tgt.nm 6) bYes (one (fCB dAbs (aCons (f2 dSub (fVar 5) (fVar 6)) aNil))) [s0, s1, s2, s3, s4, .sh (.int p), s6, s7] (intL l) = .ok (intL (ds p l))
  | [] => rfl
  | x :: l => e_lcC (ys := [.int (dst p x)]) (r := intL (ds p l)) (e := [s0, s1, s2, s3, s4, .sh (.int p), .sh (.int x), s7]) rfl rfl (e_one (e_cb1 (e_f2 (e_var rfl) (e_var rfl) (d_sub _ _)) (d_abs _))) (lc_abs p s0 s1 s2 s3 s4 s6 s7 l)
def bG (self : List D → Rs D) : FS := (sIf (fB (f2 dNotIn (fVar 5) (fVar 0))) (sSeq (sSet 7 (fCall fn_without (aCons (fVar 1) (aCons (fLc (iSeq (fVar 0)) (Tgt.nm 6) bYes (fCB dAbs (aCons (f2 dSub (fVar 5) (fVar 6)) aNil)) [6]) aNil))))
  (sIf (fB (f2 isNotD (fVar 7) (fC .none))) (sExt 2 (fCall self (aCons (fLst (aStar (fVar 0) (aCons (fVar 5) aNil))) (aCons (fVar 7) aNil)))) sNext)) sNext)
def goF (n : Nat) (T : Int) (cs rest : List Int) (p : Int) : List (List Int) := if p ∈ cs then [] else match woI rest (ds p cs) with
    | none => []
    | some left => goneI n T (cs ++ [p]) left
theorem go_step {self : List D → Rs D} {n : Nat} {T : Int} {cs rest : List Int} (hs : ∀ p left, p ∉ cs → woI rest (ds p cs) = some left → p ∈ plI T (lastI rest) → self [iD (cs ++ [p]), iD left] = .ok (.list (rD (goneI n T (cs ++ [p]) left))))
    (hc : cs.length ≤ 100) {p : Int} (hp : p ∈ plI T (lastI rest)) (acc : List (List Int)) (hl : acc.length + (goF n T cs rest p).length ≤ 1000000) (s3 s4 s6 s7 : Sl) :
    ∃ t7, bG self [.sh (iD cs), .sh (iD rest), .own (rD acc), s3, s4, .sh (.int p), s6, s7] = .nx [.sh (iD cs), .sh (iD rest), .own (rD (acc ++ goF n T cs rest p)), s3, s4, .sh (.int p), s6, t7] := by
  have ht := e_B (e_f2 (k := dNotIn) (e_var (i := 5) (e := [.sh (iD cs), .sh (iD rest), .own (rD acc), s3, s4, .sh (.int p), s6, s7]) rfl) (e_var (i := 0) rfl) (d_notInL p cs))
  unfold goF at hl ⊢
  by_cases hx : p ∈ cs
  · rw [decide_eq_true hx] at ht
    refine ⟨s7, e_if ht ?_⟩
    rw [if_pos hx, List.append_nil]; rfl
  · rw [decide_eq_false hx] at ht
    rw [if_neg hx] at hl ⊢
    have hw : fCall fn_without (aCons (fVar 1) (aCons (fLc (iSeq (fVar 0)) (Tgt.nm 6) bYes (fCB dAbs (aCons (f2 dSub (fVar 5) (fVar 6)) aNil)) [6]) aNil)) [.sh (iD cs), .sh (iD rest), .own (rD acc), s3, s4, .sh (.int p), s6, s7] = .ok (woD (woI rest (ds p cs))) :=
      e_call (e_cons (e_var rfl) (e_cons (e_lc (e_iSeq (e_var rfl) rfl) (lc_abs p _ _ _ _ _ _ _ cs) (le_line (by rw [intL_len, ds_len]; omega))) e_nil)) (without_eq rest (ds p cs))
    cases hwo : woI rest (ds p cs) with
    | none =>
      rw [hwo] at hw
      refine ⟨.sh .none, e_if ht (e_seq (e_set hw rfl) (e_if (b := false) (e_B (e_f2 (e_var rfl) e_c rfl)) ?_))⟩
      rw [List.append_nil]; rfl
    | some left =>
      rw [hwo] at hw hl
      have hcall := hs p left hx hwo hp
      refine ⟨.sh (iD left), e_if ht (e_seq (e_set hw rfl) (e_if (b := true) (e_B (e_f2 (e_var rfl) e_c rfl)) ?_))⟩
      show sExt 2 (fCall self (aCons (fLst (aStar (fVar 0) (aCons (fVar 5) aNil))) (aCons (fVar 7) aNil))) [.sh (iD cs), .sh (iD rest), .own (rD acc), s3, s4, .sh (.int p), s6, .sh (iD left)] = _
      refine e_ext (e := [.sh (iD cs), .sh (iD rest), .own (rD acc), s3, s4, .sh (.int p), s6, .sh (iD left)]) (l := rD acc) (m := rD (goneI n T (cs ++ [p]) left)) rfl (e_call (e_cons (d := iD (cs ++ [p])) ?_ (e_cons (e_var rfl) e_nil)) hcall) (le_line (by rw [rD_len, rD_len]; exact hl)) (by rw [rD_app]; rfl)
      have h1 : fLst (aStar (fVar 0) (aCons (fVar 5) aNil)) [.sh (iD cs), .sh (iD rest), .own (rD acc), s3, s4, .sh (.int p), s6, .sh (iD left)] = .ok (.list (intL cs ++ [.int p])) := e_lst (e_star (e_var rfl) (e_cons (e_var rfl) e_nil)) (le_line (by rw [List.length_append, intL_len]; show cs.length + 1 ≤ 1000000; omega))
      rw [intL_snoc] at h1
      exact h1
theorem go_loop {self : List D → Rs D} {n : Nat} {T : Int} {cs rest : List Int} (hs : ∀ p left, p ∉ cs → woI rest (ds p cs) = some left → p ∈ plI T (lastI rest) → self [iD (cs ++ [p]), iD left] = .ok (.list (rD (goneI n T (cs ++ [p]) left))))
    (hc : cs.length ≤ 100) (s3 s4 : Sl) : ∀ (ps : List Int) (acc : List (List Int)) (s5 s6 s7 : Sl), (∀ p ∈ ps, p ∈ plI T (lastI rest)) → acc.length + (ps.flatMap (goF n T cs rest)).length ≤ 1000000 →
    ∃ t5 t6 t7, loopF (Tgt.nm 5) (bG self) (intL ps) [.sh (iD cs), .sh (iD rest), .own (rD acc), s3, s4, s5, s6, s7] = .nx [.sh (iD cs), .sh (iD rest), .own (rD (acc ++ ps.flatMap (goF n T cs rest))), s3, s4, t5, t6, t7]
  | [], acc, s5, s6, s7, _, _ => ⟨s5, s6, s7, by simp; rfl⟩
  | p :: ps, acc, s5, s6, s7, hp, hl => by
    rw [List.flatMap_cons, List.length_append] at hl
    obtain ⟨t7, h1⟩ := go_step hs hc (hp p List.mem_cons_self) acc (by omega) s3 s4 s6 s7
    obtain ⟨u5, u6, u7, h2⟩ := go_loop hs hc s3 s4 ps (acc ++ goF n T cs rest p) (.sh (.int p)) s6 t7 (fun q hq => hp q (List.mem_cons_of_mem _ hq)) (by rw [List.length_append]; omega)
    refine ⟨u5, u6, u7, ?_⟩
    rw [List.flatMap_cons, ← List.append_assoc]
    exact e_loopC rfl h1 h2
theorem gone_eq : ∀ (k n : Nat) {told : List Int} {T : Int} {cs rest : List Int}, k < n → k ≤ 9 → cs.length + k ≤ 20 → rest.length ≤ 100 → rest.length ≤ tri cs.length k → In told T cs rest → rec_gone_on n [iD cs, iD rest] = .ok (.list (rD (goneI n T cs rest)))
  | _, 0, _, _, _, _, h, _, _, _, _, _ => by omega
  | k, n + 1, told, T, cs, rest, hk, hk9, hck, hr100, hl, I => by
    have few := gone_few k (n + 1) (T := T) hl
    have h512 : 2 ^ k ≤ 2 ^ 9 := Nat.pow_le_pow_right (by omega) hk9
    have e512 : 2 ^ 9 = 512 := rfl
    have hlen : dLen [iD rest] = some (.int (rest.length : Nat)) := d_len (by omega)
    have ht := e_B (e_f2 (k := dEq) (e_cb1 (e_var (i := 1) (e := [.sh (iD cs), .sh (iD rest), .un, .un, .un, .un, .un, .un]) rfl) hlen) (e_c (d := .int 0)) (dEq_int _ _))
    show dfn0N 8 2 (g_gone_on (rec_gone_on n)) _ = _
    by_cases hr : rest = []
    · subst hr
      refine d_fnN (e := [.sh (iD cs), .sh (iD []), .un, .un, .un, .un, .un, .un]) rfl rfl ?_
      refine e_seqN (e_if (b := true) ht ?_)
      unfold goneI
      rw [if_pos rfl]
      exact e_retN (e_lst (e_cons (e_cb1 (e_var rfl) (d_sorted (by omega))) e_nil) (le_line (by show 1 ≤ 1000000; omega)))
    · have hr1 : 1 ≤ rest.length := List.length_pos_iff.mpr hr
      have b0 : decide (((rest.length : Nat) : Int) = 0) = false := decide_eq_false (by omega)
      rw [b0] at ht
      cases k with
      | zero => exact absurd (List.eq_nil_of_length_eq_zero (by simpa [tri] using hl)) hr
      | succ k =>
        have hs : ∀ p left, p ∉ cs → woI rest (ds p cs) = some left → p ∈ plI T (lastI rest) → rec_gone_on n [iD (cs ++ [p]), iD left] = .ok (.list (rD (goneI n T (cs ++ [p]) left))) := fun p left hpc hw hp => by
          have := left_len hw
          refine gone_eq k n (by omega) (by omega) (by rw [List.length_append, List.length_singleton]; omega) (by omega) ?_ (I.next hr hp hpc hw)
          rw [List.length_append, List.length_singleton]
          simp only [tri] at hl
          omega
        have e1 : goneI (n + 1) T cs rest = (plI T (lastI rest)).flatMap (goF n T cs rest) := by
          conv => lhs; unfold goneI
          rw [if_neg hr]; rfl
        rw [e1] at few ⊢
        obtain ⟨t5, t6, t7, h1⟩ := go_loop hs (by omega) (.sh (.int T)) (.sh (.int (lastI rest))) (plI T (lastI rest)) [] .un .un .un (fun p hp => hp) (by simp only [List.length_nil]; omega)
        refine d_fnN (e := [.sh (iD cs), .sh (iD rest), .un, .un, .un, .un, .un, .un]) rfl rfl ?_
        refine e_seq (e' := [.sh (iD cs), .sh (iD rest), .un, .un, .un, .un, .un, .un]) (e_if ht rfl) ?_
        refine e_seq (e' := [.sh (iD cs), .sh (iD rest), .own (rD []), .un, .un, .un, .un, .un]) (e_setN e_lst0 rfl) ?_
        refine e_seq (e_set (e_cb1 (e_var rfl) (d_max I.t fun c hc => (I.b c hc).2)) rfl) ?_
        refine e_seq (e_set (e_f2 (e_var rfl) (e_f1 e_c (d_neg 1)) (ix_last hr)) rfl) ?_
        refine e_seq (e_for (e_iSeq (e_f1 (a := iD [lastI rest, T - lastI rest]) (e_lst (e_cons (e_var rfl) (e_cons (e_f2 (e_var rfl) (e_var rfl) (d_sub _ _)) e_nil)) (le_line (by show 2 ≤ 1000000; omega))) (d_sortset (by show 2 < 64; omega))) rfl) h1) ?_
        exact e_retO rfl
/-! unlike -/
def bU : FS := (sIf (fOr (fThB (fB (f2 dEq (fCB dLen (aCons (fVar 1) aNil)) (fC (.int 0))))) (fB (f2 dNe (fIxO 1 (f1 dNeg (fC (.int 1)))) (fVar 2)))) (sApp 1 (fVar 2)) sNext)
theorem uq_loop (s0 : Sl) : ∀ (l acc : List (List Int)) (s2 : Sl), acc.length + l.length ≤ 1000 → ∃ t2, loopF (Tgt.nm 2) bU (rD l) [s0, .own (rD acc), s2] = .nx [s0, .own (rD (acc ++ uq acc.getLast? l)), t2]
  | [], acc, s2, _ => ⟨s2, by simp [uq]; rfl⟩
  | x :: l, acc, s2, hl => by
    rw [List.length_cons] at hl
    have happ : sApp 1 (fVar 2) [s0, .own (rD acc), .sh (iD x)] = .nx [s0, .own (rD (acc ++ [x])), .sh (iD x)] := e_appI rfl (e_var rfl) (lt_line (by rw [rD_len]; omega)) (by show [s0, Sl.own (rD acc ++ rD [x]), _] = _; rw [rD_app])
    have hlen : fThB (fB (f2 dEq (fCB dLen (aCons (fVar 1) aNil)) (fC (.int 0)))) [s0, .own (rD acc), .sh (iD x)] = .ok (decide (((acc.length : Nat) : Int) = 0)) := by
      refine e_thM (e_B (e_f2 (e_cb1 (a := .list (rD acc)) (e_var rfl) ?_) e_c (dEq_int _ _)))
      show some (PyData.int ((rD acc).length : Nat)) = _
      rw [rD_len]
    have go : ∀ acc' : List (List Int), acc'.getLast? = some x → bU [s0, .own (rD acc), .sh (iD x)] = .nx [s0, .own (rD acc'), .sh (iD x)] → acc' ++ uq (some x) l = acc ++ uq acc.getLast? (x :: l) → acc'.length ≤ acc.length + 1 → ∃ t2, loopF (Tgt.nm 2) bU (rD (x :: l)) [s0, .own (rD acc), s2] = .nx [s0, .own (rD (acc ++ uq acc.getLast? (x :: l))), t2] := fun acc' h1 h2 h3 h4 => by
      obtain ⟨t2, ih⟩ := uq_loop s0 l acc' (.sh (iD x)) (by omega)
      rw [h1, h3] at ih
      exact ⟨t2, e_loopC rfl h2 ih⟩
    rcases List.eq_nil_or_concat acc with rfl | ⟨a', y, rfl⟩
    · refine go [x] rfl (e_if (b := true || false) (e_or hlen fun z => by cases z) happ) (by simp [uq]) (by simp)
    · rw [List.concat_eq_append] at *
      have hg : (a' ++ [y]).getLast? = some y := by simp
      have b0 : decide ((((a' ++ [y]).length : Nat) : Int) = 0) = false := decide_eq_false (by rw [List.length_append, List.length_singleton]; omega)
      rw [b0] at hlen
      have hne : fB (f2 dNe (fIxO 1 (f1 dNeg (fC (.int 1)))) (fVar 2)) [s0, .own (rD (a' ++ [y])), .sh (iD x)] = .ok (!decide (y = x)) := by
        refine e_B (e_f2 (e_ixO (l := rD (a' ++ [y])) rfl (e_f1 e_c (d_neg 1)) (d_ix ?_)) (e_var rfl) (d_neL y x))
        rw [← rD_app]; exact atI_last _ _
      by_cases hyx : y = x
      · subst hyx
        rw [decide_eq_true rfl] at hne
        refine go (a' ++ [y]) hg (e_if (e_or hlen fun _ => hne) rfl) ?_ (by omega)
        rw [hg]
        conv => rhs; unfold uq
        rw [if_pos rfl]
      · rw [decide_eq_false hyx] at hne
        refine go (a' ++ [y] ++ [x]) (by simp) (e_if (e_or hlen fun _ => hne) happ) ?_ (by rw [List.length_append, List.length_singleton]; omega)
        rw [hg]
        conv => rhs; unfold uq
        rw [if_neg (by intro e; exact hyx (Option.some.inj e)), List.append_assoc]; rfl
theorem alikeAll_ints : ∀ a b : List Int, PySem.W.alikeAll (intL a) (intL b) = true
  | [], b => by simp [intL, PySem.W.alikeAll]
  | a :: as, [] => by simp [intL, PySem.W.alikeAll]
  | a :: as, b :: bs => by
    have ih := alikeAll_ints as bs
    show (PySem.W.alike (.int a) (.int b) && PySem.W.alikeAll (intL as) (intL bs)) = true
    rw [ih]; simp [PySem.W.alike]
theorem d_sortedR {rows : List (List Int)} (h : rows.length ≤ 1000) : dSorted [.list (rD rows)] = some (.list (rD (isort leR rows))) := by
  have ok : sortOk (rD rows) = true := by
    unfold sortOk
    have h0 : ((rD rows).all fun x => (rD rows).all fun y => PySem.W.alike x y) = true := by
      refine List.all_eq_true.mpr fun x hx => List.all_eq_true.mpr fun y hy => ?_
      obtain ⟨a, _, rfl⟩ := List.mem_map.mp hx
      obtain ⟨b, _, rfl⟩ := List.mem_map.mp hy
      show PySem.W.alike (.list (intL a)) (.list (intL b)) = true
      rw [PySem.W.alike]; exact alikeAll_ints a b
    have h1 : (rD rows).all notTN = true := List.all_eq_true.mpr fun x hx => by obtain ⟨a, _, rfl⟩ := List.mem_map.mp hx; rfl
    have h2 : (rD rows).all shal = true := List.all_eq_true.mpr fun x hx => by obtain ⟨a, _, rfl⟩ := List.mem_map.mp hx; exact shal_iD a
    rw [h0, h1, h2, rD_len, decide_eq_true (le_line (by omega))]; simp
  show (if sortOk (rD rows) = true then some (PyData.list (sortD (rD rows))) else none) = _
  rw [if_pos ok]
  unfold sortD rD
  rw [isort_map (le' := leD) iD (fun a b => (leR_D a b).symm)]
theorem unlike_eq {rows : List (List Int)} (h : rows.length ≤ 1000) : fn_unlike [.list (rD rows)] = .ok (.list (rD (rowsI rows))) := by
  obtain ⟨t2, h1⟩ := uq_loop (.sh (.list (rD rows))) (isort leR rows) [] .un (by rw [isort_len]; simp; omega)
  refine d_fnN (e := [.sh (.list (rD rows)), .un, .un]) rfl rfl ?_
  refine e_seq (e' := [.sh (.list (rD rows)), .own (rD []), .un]) (e_setN e_lst0 rfl) ?_
  refine e_seq (e_for (e_iSeq (e_cb1 (e_var rfl) (d_sortedR h)) rfl) h1) ?_
  exact e_retO rfl
theorem cut_last {α : Type} (l : List α) : PD.cutD l none (some (-1)) = l.dropLast := by
  unfold PD.cutD
  rw [HT.sIx_none, List.drop_zero, List.dropLast_eq_take]
  have : HT.sIx l.length l.length (some (-1)) = l.length - 1 := by
    show (if (-1 : Int) < 0 then ((-1 : Int) + (l.length : Int)).toNat else min (-1 : Int).toNat l.length) = _
    rw [if_pos (by omega)]; omega
  rw [this, Nat.sub_zero]
theorem answers_of_eq {ts : List Int} (h : Told ts) : fn_answers_of [iD ts] = .ok (.list (rD (ansI ts))) := by
  have hl := h.1
  have ht := e_B (e_f2 (k := dEq) (e_cb1 (e_var (i := 0) (e := [.sh (iD ts)]) rfl) (d_len (l := ts) (by omega))) (e_c (d := .int 0)) (dEq_int _ _))
  refine d_fnN (e := [.sh (iD ts)]) rfl rfl ?_
  by_cases hr : ts = []
  · subst hr
    refine e_seqN (e_if (b := true) ht ?_)
    exact e_retN (e_lst (e_cons (e_lst (e_cons e_c e_nil) (le_line (by show 1 ≤ 1000000; omega))) e_nil) (le_line (by show 1 ≤ 1000000; omega)))
  · have hr1 : 1 ≤ ts.length := List.length_pos_iff.mpr hr
    have b0 : decide (((ts.length : Nat) : Int) = 0) = false := decide_eq_false (by omega)
    rw [b0] at ht
    have I := in0 h hr
    have htri : ts.dropLast.length ≤ tri 2 5 := by
      rw [List.length_dropLast]
      have : tri 2 5 = 20 := rfl
      omega
    have hg := gone_eq 5 8 (by omega) (by omega) (by show 2 + 5 ≤ 20; omega) (by rw [List.length_dropLast]; omega) htri I
    have few : (goneI 8 (lastI ts) [0, lastI ts] ts.dropLast).length ≤ 32 := gone_few 5 8 htri
    refine e_seq (e' := [.sh (iD ts)]) (e_if ht rfl) (e_retN ?_)
    unfold ansI
    rw [if_neg hr]
    refine e_call (e_cons (e_call (e_cons (d := iD [0, lastI ts]) (e_lst (e_cons e_c (e_cons (e_f2 (e_var rfl) (e_f1 e_c (d_neg 1)) (ix_last hr)) e_nil)) (le_line (by show 2 ≤ 1000000; omega))) (e_cons (d := iD ts.dropLast) (e_sl (lo := none) (hi := some (-1)) (e_var rfl) e_oN (e_oS (e_f1 e_c (d_neg 1))) ?_) e_nil)) hg) e_nil) (unlike_eq (by omega))
    show some (PyData.list (PD.cutD (intL ts) none (some (-1)))) = _
    rw [cut_last]
    unfold iD intL
    rw [List.map_dropLast]
theorem answers_eq {ts : List Int} (h : Told ts) (hs : ts.length ∈ ([0, 1, 3, 6, 10, 15, 21] : List Nat)) : fn_answers [iD ts] = .ok (.list (rD (ansI ts))) := by
  refine d_fnN (e := [.sh (iD ts)]) rfl rfl ?_
  exact e_seq (e_drop (e_call (e_cons (e_var rfl) e_nil) (check_echoes_eq h hs))) (e_retN (e_call (e_cons (e_var rfl) e_nil) (answers_of_eq h)))
/-! is_clear -/
theorem d_inR (r : List Int) (rows : List (List Int)) : dIn (iD r) (.list (rD rows)) = some (.bool (decide (r ∈ rows))) := by
  show (if shal (iD r) = true then some (PyData.bool (dInL (iD r) (rD rows))) else none) = _
  rw [shal_iD, if_pos rfl]
  congr 2
  induction rows with
  | nil => simp [dInL, rD]
  | cons a t ih =>
    have : dInL (iD r) (rD (a :: t)) = (PyData.eqv (iD a) (iD r) || dInL (iD r) (rD t)) := rfl
    rw [this, ih, eqv_iD]
    by_cases h : a = r
    · simp [h]
    · have : ¬ r = a := fun e => h e.symm
      simp [h, this]
theorem d_inRT (r : List Int) (rows : List (List Int)) : dIn (iD r) (.tuple (rD rows)) = some (.bool (decide (r ∈ rows))) := d_inR r rows
theorem lc_in (both : List (List Int)) (s0 s2 : Sl) : ∀ l : List (List Int), lcGo (Tgt.nm 2) bYes (one (f2 dIn (fVar 2) (fVar 1))) [s0, .sh (.tuple (rD both)), s2] (rD l) = .ok ((l.map fun r => decide (r ∈ both)).map PyData.bool)
  | [] => rfl
  | x :: l => e_lcC (ys := [.bool (decide (x ∈ both))]) (r := (l.map fun r => decide (r ∈ both)).map PyData.bool) (e := [s0, .sh (.tuple (rD both)), .sh (iD x)]) rfl rfl (e_one (e_f2 (e_var rfl) (e_var rfl) (d_inRT x both))) (lc_in both s0 s2 l)
def clrI (cs : List Int) : Bool := (ansI (echI cs)).all fun r => decide (r ∈ [cs, mirI cs])
/-! the numbers drawn: whole numbers of 0 to 65535 -/
def DrOk (l : List Int) : Prop := ∀ x ∈ l, 0 ≤ x ∧ x < 65536
theorem DrOk.snoc {l : List Int} {x : Int} (h : DrOk l) (h0 : 0 ≤ x) (h1 : x < 65536) : DrOk (l ++ [x]) := fun y hy => by
  rcases List.mem_append.mp hy with q | q
  · exact h y q
  · rw [List.mem_singleton.mp q]; exact ⟨h0, h1⟩
def bI : FS := (sIf (fB (f2 dGt (fVar 3) (fC (.int 0)))) (sSeq (sApp 1 (f2 dMod (fCB dInt (aCons (fVar 3) aNil)) (fC (.int 65536))))
  (sSet 3 (f2 dDiv (fVar 3) (fC (.int 65536))))) sNext)
def bS : FS := (sSeq (sSet 5 (f2 dMod (fCB dInt (aCons (f2 dAdd (f2 dMul (fVar 3) (fC (.int 48271))) (f2 dMul (f2 dAdd (fVar 2) (fC (.int 1))) (fC (.int 69621)))) aNil)) (fC (.int 2147483647))))
  (sSeq (sSet 5 (f2 dMod (fCB dInt (aCons (f2 dAdd (f2 dAdd (f2 dMul (fVar 5) (fC (.int 16807))) (f2 dMul (fC (.int 11)) (fVar 2))) (fC (.int 5))) aNil)) (fC (.int 2147483629))))
  (sSeq (sApp 1 (f2 dMod (fCB dInt (aCons (fVar 5) aNil)) (fC (.int 65536))))
  (sApp 1 (f2 dMod (fCB dInt (aCons (f2 dDiv (fVar 5) (fC (.int 65536))) aNil)) (fC (.int 32768)))))))
section
variable {s0 s2 s3 s4 s5 : Sl} {l : List D}
theorem e_var2 {d : D} : fVar 2 [s0, .own l, .sh d, s3, s4, s5] = .ok d := rfl
theorem e_var3 {d : D} : fVar 3 [s0, .own l, s2, .sh d, s4, s5] = .ok d := rfl
theorem e_var5 {d : D} : fVar 5 [s0, .own l, s2, s3, s4, .sh d] = .ok d := rfl
theorem e_set3 {f : FE} {d : D} (h : f [s0, .own l, s2, s3, s4, s5] = .ok d) : sSet 3 f [s0, .own l, s2, s3, s4, s5] = .nx [s0, .own l, s2, .sh d, s4, s5] := by unfold sSet; rw [h]; rfl
theorem e_set5 {f : FE} {d : D} (h : f [s0, .own l, s2, s3, s4, s5] = .ok d) : sSet 5 f [s0, .own l, s2, s3, s4, s5] = .nx [s0, .own l, s2, s3, s4, .sh d] := by unfold sSet; rw [h]; rfl
theorem e_app {f : FE} {d : D} (h : f [s0, .own l, s2, s3, s4, s5] = .ok d) (hl : l.length < LINE) : sApp 1 f [s0, .own l, s2, s3, s4, s5] = .nx [s0, .own (l ++ [d]), s2, s3, s4, s5] := by
  unfold sApp
  show bindO (f _) _ = _
  rw [h]
  show (if l.length < LINE then _ else _) = _
  rw [if_pos hl]; rfl
end
theorem inner_ok (s0 s2 s5 : Sl) (l0 : Nat) (hl0 : l0 ≤ 4000) : ∀ (l : List Int) (R : Int) (s4 : Sl), l.length = l0 → DrOk l → 0 ≤ R → ∃ (m : List Int) (q : Int) (t4 : Sl), loopF (Tgt.nm 4) bI (rng 0 60) [s0, .own (intL l), s2, .sh (.int R), s4, s5] = .nx [s0, .own (intL m), s2, .sh (.int q), t4, s5] ∧ DrOk m ∧ m.length ≤ l0 + 60 := by
  intro l R s4 hl hd hR
  have h := loopF_inv (t := Tgt.nm 4) (body := bI) (ds := rng 0 60) (I := fun j env => ∃ (m : List Int) (q : Int) (t4 : Sl), env = [s0, .own (intL m), s2, .sh (.int q), t4, s5] ∧ DrOk m ∧ m.length ≤ l0 + j ∧ 0 ≤ q) (fun j env d hd hI => by
    obtain ⟨m, q, t4, rfl, hm, hml, hq⟩ := hI
    obtain ⟨hj, rfl⟩ := rng_get hd
    have hL : (LINE : Nat) = 16777216 := rfl
    have hc : fB (f2 dGt (fVar 3) (fC (.int 0))) [s0, .own (intL m), s2, .sh (.int q), .sh (.int (0 + (j : Int))), s5] = .ok (decide (0 < q)) := e_B (e_f2 e_var3 rfl (dGt_int _ _))
    by_cases hq0 : 0 < q
    · have h1 := Int.emod_nonneg q (show (65536 : Int) ≠ 0 by omega)
      have h2 := Int.emod_lt_of_pos q (show (0 : Int) < 65536 by omega)
      refine ⟨_, [s0, .own (intL (m ++ [q % 65536])), s2, .sh (.int (q / 65536)), .sh (.int (0 + (j : Int))), s5], rfl, ?_, m ++ [q % 65536], q / 65536, _, rfl, hm.snoc h1 h2, by rw [List.length_append, List.length_singleton]; omega, Int.ediv_nonneg hq (by omega)⟩
      refine e_if hc ?_
      rw [decide_eq_true hq0, if_pos rfl, ← intL_snoc]
      exact e_seq (e_app (e_f2 (e_cb1 e_var3 (d_int _)) rfl (d_mod (by omega))) (by rw [intL_len, hL]; omega)) (e_set3 (e_f2 e_var3 rfl (d_div ⟨by omega, by omega⟩)))
    · refine ⟨_, [s0, .own (intL m), s2, .sh (.int q), .sh (.int (0 + (j : Int))), s5], rfl, ?_, m, q, _, rfl, hm, by omega, hq⟩
      refine e_if hc ?_
      rw [decide_eq_false hq0, if_neg (by decide)]
      rfl)
  obtain ⟨e', h1, m, q, t4, rfl, hm, hml, _⟩ := h [s0, .own (intL l), s2, .sh (.int R), s4, s5] ⟨l, R, s4, rfl, hd, by omega, hR⟩
  rw [rng_len] at hml
  exact ⟨m, q, t4, h1, hm, hml⟩
theorem small_ok (s0 s4 s5 : Sl) (l : List Int) (R : Int) (i : Nat) (hl : l.length ≤ 4000) (hd : DrOk l) : ∃ (m : List Int) (t5 : Sl), bS [s0, .own (intL l), .sh (.int (0 + (i : Int))), .sh (.int R), s4, s5] = .nx [s0, .own (intL m), .sh (.int (0 + (i : Int))), .sh (.int R), s4, t5] ∧ DrOk m ∧ m.length ≤ l.length + 60 := by
  have hL : (LINE : Nat) = 16777216 := rfl
  have B : ∀ {z : Int}, 0 ≤ z → z < 1000000 → z.natAbs < BIT64 := fun h1 h2 => by unfold BIT64; omega
  obtain ⟨a, ha⟩ : ∃ a : Int, (R * 48271 + (0 + (i : Int) + 1) * 69621) % 2147483647 = a := ⟨_, rfl⟩
  obtain ⟨b, hb⟩ : ∃ b : Int, (a * 16807 + 11 * (0 + (i : Int)) + 5) % 2147483629 = b := ⟨_, rfl⟩
  have hb0 := Int.emod_nonneg (a * 16807 + 11 * (0 + (i : Int)) + 5) (show (2147483629 : Int) ≠ 0 by omega)
  have hb1 := Int.emod_lt_of_pos (a * 16807 + 11 * (0 + (i : Int)) + 5) (show (0 : Int) < 2147483629 by omega)
  rw [hb] at hb0 hb1
  have c0 := Int.emod_nonneg b (show (65536 : Int) ≠ 0 by omega)
  have c1 := Int.emod_lt_of_pos b (show (0 : Int) < 65536 by omega)
  have d0 := Int.emod_nonneg (b / 65536) (show (32768 : Int) ≠ 0 by omega)
  have d1 := Int.emod_lt_of_pos (b / 65536) (show (0 : Int) < 32768 by omega)
  refine ⟨l ++ [b % 65536] ++ [b / 65536 % 32768], .sh (.int b), ?_, (hd.snoc c0 c1).snoc d0 (by omega), by rw [List.length_append, List.length_append, List.length_singleton, List.length_singleton]; omega⟩
  refine e_seq (e_set5 (d := .int a) (e_f2 (e_cb1 (e_f2 (e_f2 e_var3 rfl (d_mulR (B (by omega) (by omega)))) (e_f2 (e_f2 e_var2 rfl (d_add _ _)) rfl (d_mulR (B (by omega) (by omega)))) (d_add _ _)) (d_int _)) rfl ((d_mod (by omega)).trans (by rw [ha])))) ?_
  refine e_seq (e_set5 (d := .int b) (e_f2 (e_cb1 (e_f2 (e_f2 (e_f2 e_var5 rfl (d_mulR (B (by omega) (by omega)))) (e_f2 rfl e_var2 (d_mulL (B (by omega) (by omega)))) (d_add _ _)) rfl (d_add _ _)) (d_int _)) rfl ((d_mod (by omega)).trans (by rw [hb])))) ?_
  rw [← intL_snoc, ← intL_snoc]
  refine e_seq (e_app (e_f2 (e_cb1 e_var5 (d_int _)) rfl (d_mod (by omega))) (by rw [intL_len, hL]; omega)) ?_
  exact e_app (e_f2 (e_cb1 (e_f2 e_var5 rfl (d_div ⟨by omega, by omega⟩)) (d_int _)) rfl (d_mod (by omega))) (by rw [intL_snoc, intL_len, hL, List.length_append, List.length_singleton]; omega)
theorem pow18 : dPow (.int 10) (.int 18) = some (.int 1000000000000000000) := by
  have h : (0 : Int) ≤ 18 ∧ (18 : Int).natAbs ≤ 1000 ∧ (10 : Int).natAbs < 18446744073709551616 := ⟨by omega, by omega, by omega⟩
  show (if (0 : Int) ≤ 18 ∧ (18 : Int).natAbs ≤ 1000 ∧ (10 : Int).natAbs < 18446744073709551616 then some (PyData.int (10 ^ (18 : Int).toNat)) else none) = _
  rw [if_pos h]
  rfl
def bO : FS := (sSeq (sSet 3 (fCB dAbs (aCons (fScrIx 0 (fVar 2)) aNil)))
  (sIf (fB (f2 dGe (fVar 3) (f2 dPow (fC (.int 10)) (fC (.int 18))))) (sFor (Tgt.nm 4) (iRng1F (aCons (fC (.int 60)) aNil)) bI) bS))
theorem draws_eq : g__law_draws = sSeq (sSetN 1 (fLst aNil)) (sSeq (sFor (Tgt.nm 2) (iRng1F (aCons (fCB dMin2 (aCons (fC (.int 63)) (aCons (fScrLen 0) aNil))) aNil)) bO) (sRetO 1)) := rfl
theorem turn_ok (ns : List Int) (i : Nat) (hi : i < ns.length) (l : List Int) (s3 s4 s5 : Sl) (hl : l.length ≤ 3800) (hd : DrOk l) : ∃ (m : List Int) (t3 t4 t5 : Sl), bO [.scr ns, .own (intL l), .sh (.int (0 + (i : Int))), s3, s4, s5] = .nx [.scr ns, .own (intL m), .sh (.int (0 + (i : Int))), t3, t4, t5] ∧ DrOk m ∧ m.length ≤ l.length + 60 := by
  have hat : atI ns (0 + (i : Int)) = some ns[i] := by rw [Int.zero_add]; exact atI_nat (List.getElem?_eq_getElem hi)
  obtain ⟨R, hR, hR0⟩ : ∃ R : Int, (if ns[i] < 0 then -ns[i] else ns[i]) = R ∧ 0 ≤ R := ⟨_, rfl, by split <;> omega⟩
  have h3 : fCB dAbs (aCons (fScrIx 0 (fVar 2)) aNil) [.scr ns, .own (intL l), .sh (.int (0 + (i : Int))), s3, s4, s5] = .ok (.int R) := e_cb1 (a := .int ns[i]) (e_scrIx rfl e_var2 hat) (by show some (PyData.int (if ns[i] < 0 then -ns[i] else ns[i])) = _; rw [hR])
  have hc : fB (f2 dGe (fVar 3) (f2 dPow (fC (.int 10)) (fC (.int 18)))) [.scr ns, .own (intL l), .sh (.int (0 + (i : Int))), .sh (.int R), s4, s5] = .ok (decide ((1000000000000000000 : Int) ≤ R)) := e_B (e_f2 e_var3 (e_f2 rfl rfl pow18) (dGe_int _ _))
  by_cases hbig : (1000000000000000000 : Int) ≤ R
  · obtain ⟨m, q, t4, h1, h2, h3'⟩ := inner_ok (.scr ns) (.sh (.int (0 + (i : Int)))) s5 l.length (by omega) l R s4 rfl hd hR0
    refine ⟨m, .sh (.int q), t4, s5, e_seq (e_set3 h3) (e_if hc ?_), h2, h3'⟩
    rw [decide_eq_true hbig, if_pos rfl]
    exact e_for (e_rng1 (n := 60) rfl (by omega)) h1
  · obtain ⟨m, t5, h1, h2, h3'⟩ := small_ok (.scr ns) s4 s5 l R i (by omega) hd
    refine ⟨m, .sh (.int R), s4, t5, e_seq (e_set3 h3) (e_if hc ?_), h2, h3'⟩
    rw [decide_eq_false hbig, if_neg (by decide)]
    exact h1
theorem draws_ok (ns : List Int) (hn : ns.length ≤ 63) : ∃ l, fn__law_draws ns = .ok (.list (intL l)) ∧ DrOk l ∧ l.length ≤ 3780 := by
  obtain ⟨n, e1, e2, e3⟩ : ∃ n : Nat, (if (ns.length : Int) < 63 then (ns.length : Int) else 63) = (n : Int) ∧ n ≤ 63 ∧ n ≤ ns.length := by
    by_cases h : (ns.length : Int) < 63
    · exact ⟨ns.length, by rw [if_pos h], hn, Nat.le_refl _⟩
    · exact ⟨63, by rw [if_neg h]; rfl, Nat.le_refl _, by omega⟩
  obtain ⟨e', h1, l, s2, s3, s4, s5, rfl, hl, hlen⟩ := loopF_inv (t := Tgt.nm 2) (body := bO) (ds := rng 0 n) (I := fun i env => ∃ (l : List Int) (s2 s3 s4 s5 : Sl), env = [.scr ns, .own (intL l), s2, s3, s4, s5] ∧ DrOk l ∧ l.length ≤ 60 * i) (fun i env d hd hI => by
    obtain ⟨l, s2, s3, s4, s5, rfl, hl, hlen⟩ := hI
    obtain ⟨hi, rfl⟩ := rng_get hd
    obtain ⟨m, t3, t4, t5, g1, g2, g3⟩ := turn_ok ns i (by omega) l s3 s4 s5 (by omega) hl
    exact ⟨_, _, rfl, g1, m, _, t3, t4, t5, rfl, g2, by omega⟩) [.scr ns, .own (intL []), .un, .un, .un, .un] ⟨[], .un, .un, .un, .un, rfl, fun x hx => (nomatch hx), Nat.le_refl _⟩
  rw [rng_len] at hlen
  refine ⟨l, ?_, hl, by omega⟩
  unfold fn__law_draws dfnS
  rw [draws_eq]
  have z : sSeq (sSetN 1 (fLst aNil)) (sSeq (sFor (Tgt.nm 2) (iRng1F (aCons (fCB dMin2 (aCons (fC (.int 63)) (aCons (fScrLen 0) aNil))) aNil)) bO) (sRetO 1)) (envS 6 ns) = .rn (.list (intL l)) := by
    refine e_seq (e' := [.scr ns, .own (intL []), .un, .un, .un, .un]) ?_ (e_seq (e' := [.scr ns, .own (intL l), s2, s3, s4, s5]) ?_ rfl)
    · exact e_setN e_lst0 rfl
    · exact e_for (e_rng1 (e_cb2 rfl rfl (by show some (PyData.int (if (ns.length : Int) < 63 then (ns.length : Int) else 63)) = _; rw [e1])) (by omega)) h1
  rw [z]
  rfl
theorem mix_ok (l : List Int) (hl : DrOk l) (hll : l.length ≤ 3780) (k many : Int) (hk : 0 ≤ k) (hk2 : k ≤ 100000) (hm : 0 < many) : ∃ v : Int, fn__law_mix [.list (intL l), .int k, .int many] = .ok (.int v) ∧ 0 ≤ v ∧ v < many := by
  have key : ∃ v : Int, g__law_mix [.sh (.list (intL l)), .sh (.int k), .sh (.int many), .un] = .rt (.int v) ∧ 0 ≤ v ∧ v < many := by
    have hlen : ∀ s3 : Sl, fCB dLen (aCons (fVar 0) aNil) [.sh (.list (intL l)), .sh (.int k), .sh (.int many), s3] = .ok (.int (l.length : Nat)) := fun s3 => e_cb1 (e_var rfl) (by show some (PyData.int ((intL l).length : Nat)) = _; rw [intL_len])
    have hK : ∀ s3 : Sl, fVar 1 [.sh (.list (intL l)), .sh (.int k), .sh (.int many), s3] = .ok (.int k) := fun s3 => e_var rfl
    have hM : ∀ s3 : Sl, fVar 2 [.sh (.list (intL l)), .sh (.int k), .sh (.int many), s3] = .ok (.int many) := fun s3 => e_var rfl
    have h1 : ∃ c : Int, 0 ≤ c ∧ c < 65536 ∧ (sIf (fB (f2 dGt (fCB dLen (aCons (fVar 0) aNil)) (fC (.int 0)))) (sSet 3 (f2 dIx (fVar 0) (f2 dMod (fCB dInt (aCons (fVar 1) aNil)) (fCB dLen (aCons (fVar 0) aNil))))) sNext) [.sh (.list (intL l)), .sh (.int k), .sh (.int many), .sh (.int 0)] = .nx [.sh (.list (intL l)), .sh (.int k), .sh (.int many), .sh (.int c)] := by
      by_cases h0 : (0 : Int) < (l.length : Nat)
      · have r0 := Int.emod_nonneg k (show ((l.length : Nat) : Int) ≠ 0 by omega)
        have r1 := Int.emod_lt_of_pos k h0
        obtain ⟨n, hn⟩ := Int.eq_ofNat_of_zero_le r0
        have hj : n < l.length := by omega
        have hat : dIx (.list (intL l)) (.int (k % ((l.length : Nat) : Int))) = some (.int l[n]) := by
          rw [hn]
          refine atI_nat ?_
          unfold intL
          rw [List.getElem?_map, List.getElem?_eq_getElem hj]
          rfl
        obtain ⟨c0, c1⟩ := hl _ (List.getElem_mem hj)
        refine ⟨_, c0, c1, e_if (e_B (e_f2 (hlen _) rfl (dGt_int _ _))) ?_⟩
        rw [decide_eq_true h0, if_pos rfl]
        exact e_set (e_f2 (e_var rfl) (e_f2 (e_cb1 (hK _) (d_int _)) (hlen _) (d_mod h0)) hat) rfl
      · refine ⟨0, by omega, by omega, e_if (e_B (e_f2 (hlen _) rfl (dGt_int _ _))) ?_⟩
        rw [decide_eq_false h0, if_neg (by decide)]
        rfl
    obtain ⟨c, c0, c1, h1⟩ := h1
    have hC : fVar 3 [.sh (.list (intL l)), .sh (.int k), .sh (.int many), .sh (.int c)] = .ok (.int c) := e_var rfl
    have hlt := e_B (e_f2 (hK (.sh (.int c))) (hlen (.sh (.int c))) (dLt_int _ _))
    by_cases hb : k < (l.length : Nat)
    · refine ⟨c % many, e_seq (e_set rfl rfl) (e_seq h1 ?_), Int.emod_nonneg _ (by omega), Int.emod_lt_of_pos _ hm⟩
      have z : sIf (fB (f2 dLt (fVar 1) (fCB dLen (aCons (fVar 0) aNil)))) (sRet (f2 dMod (fCB dInt (aCons (fVar 3) aNil)) (fVar 2))) sNext [.sh (.list (intL l)), .sh (.int k), .sh (.int many), .sh (.int c)] = .rt (.int (c % many)) := by
        refine e_if hlt ?_
        rw [decide_eq_true hb, if_pos rfl]
        exact e_ret (e_f2 (e_cb1 hC (d_int _)) (hM _) (d_mod hm))
      unfold sSeq
      rw [z]; rfl
    · refine ⟨(c * 7919 + k * 104729) / 3 % many, e_seq (e_set rfl rfl) (e_seq h1 (e_seq (e' := [.sh (.list (intL l)), .sh (.int k), .sh (.int many), .sh (.int c)]) ?_ ?_)), Int.emod_nonneg _ (by omega), Int.emod_lt_of_pos _ hm⟩
      · refine e_if hlt ?_
        rw [decide_eq_false hb, if_neg (by decide)]
        rfl
      · have B : ∀ {z : Int}, 0 ≤ z → z < 1000000 → z.natAbs < BIT64 := fun h1 h2 => by unfold BIT64; omega
        exact e_ret (e_f2 (e_cb1 (e_f2 (e_cb1 (e_f2 (e_f2 hC rfl (d_mulR (B (by omega) (by omega)))) (e_f2 (hK _) rfl (d_mulR (B (by omega) (by omega)))) (d_add _ _)) (d_int _)) rfl (d_div ⟨by omega, by omega⟩)) (d_int _)) (hM _) (d_mod hm))
  obtain ⟨v, h, r⟩ := key
  exact ⟨v, d_fn rfl rfl h, r⟩
/-! the corners drawn -/
theorem corners_eq (l : List Int) (hl : DrOk l) (hll : l.length ≤ 3780) (k wide : Int) (hk : 0 ≤ k) (hk2 : k ≤ 100) (hw : 0 < wide) (hw2 : wide ≤ 60) : ∃ cs, fn__law_corners [iD l, .int k, .int 6, .int wide] = .ok (iD cs) ∧ Corn cs ∧ cs.length ≤ 6 ∧ ∀ x ∈ cs, x ≤ 400 := by
  obtain ⟨v, hv, v0, v1⟩ := mix_ok l hl hll k 6 hk (by omega) (by omega)
  obtain ⟨n, rfl⟩ := Int.eq_ofNat_of_zero_le v0
  have hn : n ≤ 5 := by omega
  obtain ⟨e', h1, cs, s5, rfl, c1, c2, c3, c4⟩ := loopF_inv (t := Tgt.nm 5) (body := sApp 4 (f2 dAdd (f2 dAdd (fIxO 4 (f1 dNeg (fC (.int 1)))) (fC (.int 1))) (fCall fn__law_mix (aCons (fVar 0) (aCons (f2 dAdd (f2 dAdd (fVar 1) (fC (.int 1))) (fVar 5)) (aCons (fVar 3) aNil)))))) (ds := rng 0 n)
    (I := fun i env => ∃ cs s5, env = [.sh (iD l), .sh (.int k), .sh (.int 6), .sh (.int wide), .own (intL cs), s5] ∧ cs.head? = some 0 ∧ cs.Pairwise (· < ·) ∧ cs.length = i + 1 ∧ ∀ x ∈ cs, 0 ≤ x ∧ x ≤ 60 * (i : Int)) (fun i env d hd hI => by
      obtain ⟨cs, s5, rfl, c1, c2, c3, c4⟩ := hI
      obtain ⟨hi, rfl⟩ := rng_get hd
      have hne : cs ≠ [] := fun e => by rw [e] at c1; cases c1
      obtain ⟨m, hm, m0, m1⟩ := mix_ok l hl hll (k + 1 + (0 + (i : Int))) wide (by omega) (by omega) hw
      have hlast := c4 _ (lastI_mem hne)
      refine ⟨[.sh (iD l), .sh (.int k), .sh (.int 6), .sh (.int wide), .own (intL cs), .sh (.int (0 + (i : Int)))], [.sh (iD l), .sh (.int k), .sh (.int 6), .sh (.int wide), .own (intL (cs ++ [lastI cs + 1 + m])), .sh (.int (0 + (i : Int)))], rfl, ?_, cs ++ [lastI cs + 1 + m], _, rfl, ?_, ?_, ?_, ?_⟩
      · refine e_appI (l := intL cs) (d := .int (lastI cs + 1 + m)) rfl ?_ (lt_line (by rw [intL_len]; omega)) (by rw [intL_snoc]; rfl)
        exact e_f2 (e_f2 (e_ixO (l := intL cs) rfl (e_f1 e_c (d_neg 1)) (ix_last hne)) e_c (d_add _ _)) (e_call (e_cons (e_var rfl) (e_cons (e_f2 (e_f2 (e_var rfl) e_c (d_add _ _)) (e_var rfl) (d_add _ _)) (e_cons (e_var rfl) e_nil))) hm) (d_add _ _)
      · cases cs with
        | nil => cases c1
        | cons a r => simpa using c1
      · refine List.pairwise_append.mpr ⟨c2, by simp, fun a ha b hb => ?_⟩
        rw [List.mem_singleton.mp hb]
        have := lastI_max (c2.imp fun h => Int.le_of_lt h) ha
        omega
      · rw [List.length_append, List.length_singleton, c3]
      · intro x hx
        rcases List.mem_append.mp hx with q | q
        · have := c4 x q; omega
        · rw [List.mem_singleton.mp q]; omega) [.sh (iD l), .sh (.int k), .sh (.int 6), .sh (.int wide), .own (intL [0]), .un] ⟨[0], .un, rfl, rfl, by simp, rfl, fun x hx => by simp at hx; omega⟩
  rw [rng_len] at c3 c4
  refine ⟨cs, ?_, ⟨c1, c2, by omega, fun x hx => by have := c4 x hx; omega⟩, by omega, fun x hx => by have := c4 x hx; omega⟩
  refine d_fnN (e := [.sh (iD l), .sh (.int k), .sh (.int 6), .sh (.int wide), .un, .un]) rfl rfl ?_
  refine e_seq (e' := [.sh (iD l), .sh (.int k), .sh (.int 6), .sh (.int wide), .own (intL [0]), .un]) (e_setN (e_lst (e_cons e_c e_nil) (le_line (by show 1 ≤ 1000000; omega))) rfl) ?_
  exact e_seq (e_for (e_rng1 (n := n) (e_call (e_cons (e_var rfl) (e_cons (e_var rfl) (e_cons (e_var rfl) e_nil))) hv) (by omega)) h1) (e_retO rfl)
/-! lengths of echoes -/
theorem tri_ev : ([1, 2, 3, 4, 5, 6, 7] : List Nat).all (fun n => decide ((n * n - n) / 2 ∈ ([0, 1, 3, 6, 10, 15, 21] : List Nat))) = true := by decide
theorem ech_len {cs : List Int} (h : Corn cs) : (echI cs).length ∈ ([0, 1, 3, 6, 10, 15, 21] : List Nat) := by
  have h1 := dset_len cs
  rw [h.row.e.length_eq] at h1
  have hl := h.l
  have hl1 : 1 ≤ cs.length := List.length_pos_iff.mpr h.ne
  have hm : cs.length ∈ ([1, 2, 3, 4, 5, 6, 7] : List Nat) := by
    have : cs.length = 1 ∨ cs.length = 2 ∨ cs.length = 3 ∨ cs.length = 4 ∨ cs.length = 5 ∨ cs.length = 6 ∨ cs.length = 7 := by omega
    simpa using this
  have := of_decide_eq_true (List.all_eq_true.mp tri_ev _ hm)
  have e : (cs.length * cs.length - cs.length) / 2 = (echI cs).length := by omega
  rwa [e] at this
/-! one number changed -/
theorem bent_told {ts : List Int} (h : Told ts) {n : Nat} {b : Int} (hn : n < ts.length) (hlo : ts[n] ≤ b) (h1000 : b ≤ 1000) (hup : ∀ c, ts[n + 1]? = some c → b ≤ c) : Told (ts.set n b) := by
  obtain ⟨h1, h2, h3⟩ := h
  have hp := List.pairwise_iff_getElem.mp h2
  refine ⟨by rw [List.length_set]; exact h1, List.pairwise_iff_getElem.mpr fun i j hi hj hij => ?_, fun x hx => ?_⟩
  · rw [List.length_set] at hi hj
    rw [List.getElem_set, List.getElem_set]
    by_cases e1 : n = i
    · subst e1
      rw [if_pos rfl, if_neg (by omega)]
      have q := hup ts[n + 1] (List.getElem?_eq_getElem (by omega))
      rcases Nat.lt_or_ge (n + 1) j with z | z
      · have := hp (n + 1) j (by omega) hj z; omega
      · have : j = n + 1 := by omega
        subst this; exact q
    · rw [if_neg e1]
      by_cases e2 : n = j
      · subst e2
        rw [if_pos rfl]
        have := hp i n hi hn hij; omega
      · rw [if_neg e2]; exact hp i j hi hj hij
  · obtain ⟨i, hi, e⟩ := List.getElem_of_mem hx
    rw [List.length_set] at hi
    rw [List.getElem_set] at e
    have a := h3 _ (List.getElem_mem hn)
    split at e
    · omega
    · have := h3 _ (List.getElem_mem hi); omega
def bFin : FS := (sSeq (sSetF 10 (fLc (iRng1F (aCons (fVar 7) aNil)) (Tgt.nm 9) bYes (fTup (aCons (fVar 9) (aCons (fVar 8) aNil))) [9])) (sSeq (sFor (Tgt.nm 9) (iRng1F (aCons (fVar 7) aNil)) (sFor (Tgt.nm 11) (iRng2F (aCons (fC (.int 1)) (aCons (f2 dAdd (fVar 8) (fC (.int 1))) aNil))) (sIf (fB (f2 dNe (fCall fn_time (aCons (fVar 7) (aCons (fVar 8) (aCons (fVar 10) (aCons (fTup (aCons (fVar 9) (aCons (fVar 11) aNil))) aNil))))) (f2 dAdd (f2 dMul (f2 dMul (fC (.int 2)) (fVar 9)) (fVar 8)) (fVar 11)))) (sRet (fC (.bool false))) sNext))) (sSeq (sAsg (Tgt.tp [12, 13]) (fCall fn_worst (aCons (fVar 7) (aCons (fVar 8) (aCons (fVar 10) aNil))))) (sIf (fOr (fB (f2 isNotD (fCall fn_is_whole (aCons (fVar 7) (aCons (fVar 8) (aCons (fVar 10) aNil)))) (fC (.bool true)))) (fOr (fB (f2 dNe (fVar 12) (fTup (aCons (f2 dAdd (f2 dMul (f2 dMul (fC (.int 2)) (f2 dSub (fVar 7) (fC (.int 1)))) (fVar 8)) (fC (.int 1))) (aCons (fC (.int 1)) aNil))))) (fOr (fB (f2 dNe (fVar 13) (fTup (aCons (f2 dSub (fVar 7) (fC (.int 1))) (aCons (fC (.int 1)) aNil))))) (fB (f2 dNe (fCall fn_length (aCons (fVar 7) (aCons (fVar 8) (aCons (fVar 10) aNil)))) (f2 dMul (f2 dMul (fC (.int 2)) (fVar 7)) (fVar 8))))))) (sRet (fC (.bool false))) sNext))))
theorem ms_bFin : Ms bFin := (ms_seq (ms_setF 10 (mn_lc (mn_rng1 (mn_cons (mn_var 7) mn_nil)) mn_yes (mn_tup (mn_cons (mn_var 9) (mn_cons (mn_var 8) mn_nil))))) (ms_seq (ms_for (mn_rng1 (mn_cons (mn_var 7) mn_nil)) (ms_for (mn_rng2 (mn_cons (mn_c _) (mn_cons (mn_f2 (mn_var 8) (mn_c _)) mn_nil))) (ms_if (mn_B (mn_f2 (mn_call (mn_cons (mn_var 7) (mn_cons (mn_var 8) (mn_cons (mn_var 10) (mn_cons (mn_tup (mn_cons (mn_var 9) (mn_cons (mn_var 11) mn_nil))) mn_nil))))) (mn_f2 (mn_f2 (mn_f2 (mn_c _) (mn_var 9)) (mn_var 8)) (mn_var 11)))) (ms_ret (mn_c _)) ms_next))) (ms_seq (ms_asg (mn_call (mn_cons (mn_var 7) (mn_cons (mn_var 8) (mn_cons (mn_var 10) mn_nil))))) (ms_if (mn_or (mn_B (mn_f2 (mn_call (mn_cons (mn_var 7) (mn_cons (mn_var 8) (mn_cons (mn_var 10) mn_nil)))) (mn_c _))) (mn_or (mn_B (mn_f2 (mn_var 12) (mn_tup (mn_cons (mn_f2 (mn_f2 (mn_f2 (mn_c _) (mn_f2 (mn_var 7) (mn_c _))) (mn_var 8)) (mn_c _)) (mn_cons (mn_c _) mn_nil))))) (mn_or (mn_B (mn_f2 (mn_var 13) (mn_tup (mn_cons (mn_f2 (mn_var 7) (mn_c _)) (mn_cons (mn_c _) mn_nil))))) (mn_B (mn_f2 (mn_call (mn_cons (mn_var 7) (mn_cons (mn_var 8) (mn_cons (mn_var 10) mn_nil)))) (mn_f2 (mn_f2 (mn_c _) (mn_var 7)) (mn_var 8))))))) (ms_ret (mn_c _)) ms_next))))
def bTurn : FS := (sSeq (sSet 3 (fCall fn__law_corners (aCons (fVar 1) (aCons (f2 dAdd (fC (.int 10)) (f2 dMul (fC (.int 10)) (fVar 2))) (aCons (fC (.int 6)) (aCons (f2 dIx (fLst (aCons (fC (.int 4)) (aCons (fC (.int 60)) aNil))) (fCall fn__law_mix (aCons (fVar 1) (aCons (fVar 2) (aCons (fC (.int 2)) aNil))))) aNil)))))) (sSeq (sSet 4 (f2 dAdd (fVar 3) (fLst (aCons (f2 dAdd (f2 dAdd (f2 dIx (fVar 3) (f1 dNeg (fC (.int 1)))) (fC (.int 1))) (fCall fn__law_mix (aCons (fVar 1) (aCons (f2 dAdd (fC (.int 3)) (fVar 2)) (aCons (fC (.int 9)) aNil))))) aNil)))) (sSeq (sSetF 6 (fLc (iSeq (fVar 3)) (Tgt.nm 5) bYes (f2 dSub (f2 dIx (fVar 4) (f1 dNeg (fC (.int 1)))) (fVar 5)) [5])) (sSeq (sIf (fOr (fB (f2 dNe (fCall fn_echoes (aCons (fVar 4) aNil)) (fCB dSorted (aCons (f2 dAdd (fCall fn_echoes (aCons (fVar 3) aNil)) (fVar 6)) aNil)))) (fOr (fB (f2 isNotD (fCall fn_does_meet (aCons (fVar 4) (aCons (fCall fn_echoes (aCons (fVar 4) aNil)) aNil))) (fC (.bool true)))) (fB (f2 dNe (fCall fn_ear (aCons (fVar 4) (aCons (fCB dLen (aCons (fVar 3) aNil)) aNil))) (f1 dSortSet (fVar 6)))))) (sRet (fC (.bool false))) sNext) (sSeq (sIf (fOr (fB (f2 dNe (f2 dAdd (fLst (aCons (fC (.int 0)) aNil)) (fCall fn_ear (aCons (fVar 3) (aCons (fC (.int 0)) aNil)))) (fVar 3))) (fB (f2 dNotIn (fCall fn_mirrored (aCons (fVar 4) aNil)) (fCall fn_answers (aCons (fCall fn_echoes (aCons (fVar 4) aNil)) aNil))))) (sRet (fC (.bool false))) sNext) (sSeq (sPar 7 8 (mS (f2 dAdd (fC (.int 2)) (fCall fn__law_mix (aCons (fVar 1) (aCons (f2 dAdd (fC (.int 6)) (fVar 2)) (aCons (fC (.int 3)) aNil)))))) (mS (f2 dAdd (fC (.int 1)) (fCall fn__law_mix (aCons (fVar 1) (aCons (f2 dAdd (fC (.int 9)) (fVar 2)) (aCons (fC (.int 6)) aNil))))))) bFin))))))
theorem ms_bTurn : Ms bTurn := (ms_seq (ms_set 3 (mn_call (mn_cons (mn_var 1) (mn_cons (mn_f2 (mn_c _) (mn_f2 (mn_c _) (mn_var 2))) (mn_cons (mn_c _) (mn_cons (mn_f2 (mn_lst (mn_cons (mn_c _) (mn_cons (mn_c _) mn_nil))) (mn_call (mn_cons (mn_var 1) (mn_cons (mn_var 2) (mn_cons (mn_c _) mn_nil))))) mn_nil)))))) (ms_seq (ms_set 4 (mn_f2 (mn_var 3) (mn_lst (mn_cons (mn_f2 (mn_f2 (mn_f2 (mn_var 3) (mn_f1 (mn_c _))) (mn_c _)) (mn_call (mn_cons (mn_var 1) (mn_cons (mn_f2 (mn_c _) (mn_var 2)) (mn_cons (mn_c _) mn_nil))))) mn_nil)))) (ms_seq (ms_setF 6 (mn_lc (mn_seq (mn_var 3)) mn_yes (mn_f2 (mn_f2 (mn_var 4) (mn_f1 (mn_c _))) (mn_var 5)))) (ms_seq (ms_if (mn_or (mn_B (mn_f2 (mn_call (mn_cons (mn_var 4) mn_nil)) (mn_cb (mn_cons (mn_f2 (mn_call (mn_cons (mn_var 3) mn_nil)) (mn_var 6)) mn_nil)))) (mn_or (mn_B (mn_f2 (mn_call (mn_cons (mn_var 4) (mn_cons (mn_call (mn_cons (mn_var 4) mn_nil)) mn_nil))) (mn_c _))) (mn_B (mn_f2 (mn_call (mn_cons (mn_var 4) (mn_cons (mn_cb (mn_cons (mn_var 3) mn_nil)) mn_nil))) (mn_f1 (mn_var 6)))))) (ms_ret (mn_c _)) ms_next) (ms_seq (ms_if (mn_or (mn_B (mn_f2 (mn_f2 (mn_lst (mn_cons (mn_c _) mn_nil)) (mn_call (mn_cons (mn_var 3) (mn_cons (mn_c _) mn_nil)))) (mn_var 3))) (mn_B (mn_f2 (mn_call (mn_cons (mn_var 4) mn_nil)) (mn_call (mn_cons (mn_call (mn_cons (mn_var 4) mn_nil)) mn_nil))))) (ms_ret (mn_c _)) ms_next) (ms_seq (ms_par 7 8 (mn_mS (mn_f2 (mn_c _) (mn_call (mn_cons (mn_var 1) (mn_cons (mn_f2 (mn_c _) (mn_var 2)) (mn_cons (mn_c _) mn_nil)))))) (mn_mS (mn_f2 (mn_c _) (mn_call (mn_cons (mn_var 1) (mn_cons (mn_f2 (mn_c _) (mn_var 2)) (mn_cons (mn_c _) mn_nil))))))) ms_bFin))))))
def eFin (w b : Nat) : List Sl := [.un, .un, .un, .un, .un, .un, .un, .sh (.int (w : Nat)), .sh (.int (b : Nat)), .un, .un, .un, .un, .un]
theorem fin_ev : (([2, 3, 4] : List Nat).all fun w => ([1, 2, 3, 4, 5, 6] : List Nat).all fun b => nxOk [0, 1, 2] (bFin (eFin w b))) = true := by decide +kernel
theorem lc_more {w : List Int} {w0 : Int} (hw : dIx (iD w) (.int (-1)) = some (.int w0)) {s0 s1 s2 s3 s6 s7 s8 s9 s10 s11 s12 s13 : Sl} (s5 : Sl) : ∀ l : List Int, lcGo (Tgt.nm 5) bYes (one (f2 dSub (f2 dIx (fVar 4) (f1 dNeg (fC (.int 1)))) (fVar 5))) [s0, s1, s2, s3, .sh (iD w), s5, s6, s7, s8, s9, s10, s11, s12, s13] (intL l) = .ok (intL (l.map (w0 - ·)))
  | [] => rfl
  | x :: l => e_lcC (ys := [.int (w0 - x)]) (r := intL (l.map (w0 - ·))) (e := [s0, s1, s2, s3, .sh (iD w), .sh (.int x), s6, s7, s8, s9, s10, s11, s12, s13]) rfl rfl (e_one (e_f2 (e_f2 (e_var rfl) (e_f1 e_c (d_neg 1)) hw) (e_var rfl) (d_sub _ _))) (lc_more hw s5 l)
theorem dif_snoc (w : Int) : ∀ (r pre : List Int), dif pre (r ++ [w]) = dif pre r ++ (pre ++ r).map (w - ·)
  | [], pre => by simp [dif]
  | c :: r, pre => by
    show pre.map (c - ·) ++ dif (pre ++ [c]) (r ++ [w]) = pre.map (c - ·) ++ dif (pre ++ [c]) r ++ _
    rw [dif_snoc w r (pre ++ [c]), ← List.append_assoc]
    congr 2
    simp
theorem ech_snoc (cs : List Int) (w : Int) : echI (cs ++ [w]) = sortI (echI cs ++ cs.map (w - ·)) := by
  unfold echI
  rw [dif_snoc, List.nil_append]
  exact sortI_eq ((sortI_perm _).symm.append_right _)
theorem snoc_corn {cs : List Int} (h : Corn cs) (h6 : cs.length ≤ 6) (h3 : ∀ x ∈ cs, x ≤ 400) {m : Int} (m0 : 0 ≤ m) (m1 : m < 9) : Corn (cs ++ [lastI cs + 1 + m]) := by
  have hb := h.b _ (lastI_mem h.ne)
  have hl := h3 _ (lastI_mem h.ne)
  refine ⟨?_, List.pairwise_append.mpr ⟨h.s, by simp, fun a ha b hb => ?_⟩, by simp; omega, fun x hx => ?_⟩
  · have := h.z
    cases cs with
    | nil => cases this
    | cons a r => simpa using this
  · rw [List.mem_singleton.mp hb]
    have := lastI_bd h a ha; omega
  · rcases List.mem_append.mp hx with q | q
    · exact h.b x q
    · rw [List.mem_singleton.mp q]; omega
theorem ear_last {cs : List Int} {w : Int} (h : Corn (cs ++ [w])) : earI (cs ++ [w]) w = setI (cs.map (w - ·)) := by
  have hs := (List.pairwise_append.mp h.s).2.2
  have e : ((cs ++ [w]).filter fun x => !decide (x = w)) = cs := by
    rw [List.filter_append, List.filter_cons_of_neg (by simp), List.filter_nil, List.append_nil]
    exact List.filter_eq_self.mpr fun x hx => by have := hs x hx w (by simp); simp; omega
  unfold earI
  rw [e]
  congr 1
  refine List.map_congr_left fun x hx => ?_
  have := hs x hx w (by simp)
  unfold dst; omega
theorem ear_first {cs : List Int} (h : Corn cs) : [0] ++ earI cs 0 = cs := by
  match cs, h with
  | [], h => exact absurd rfl h.ne
  | a :: r, h =>
    have hz := h.z
    simp at hz
    subst hz
    have e0 := ear0 h
    have hs := (List.pairwise_cons.mp h.s).1
    have hfl : ((0 :: r).filter fun x => !decide (x = (0 : Int))) = r := by
      rw [List.filter_cons_of_neg (by simp)]
      exact List.filter_eq_self.mpr fun x hx => by have := hs x hx; simp; omega
    show 0 :: setI (((0 :: r).filter fun x => !decide (x = (0 : Int))).map (dst · 0)) = 0 :: r
    rw [hfl, e0]
theorem pick {l : List Int} (hl : DrOk l) (hll : l.length ≤ 3780) {t : Nat} (ht : t < 3) : ∃ v : Int, (v = 0 ∨ v = 1) ∧ fn__law_mix [iD l, .int (t : Int), .int 2] = .ok (.int v) := by
  obtain ⟨v, hv, v0, v1⟩ := mix_ok l hl hll (t : Int) 2 (by omega) (by omega) (by omega)
  exact ⟨v, by omega, hv⟩
theorem turn_ok97 {l : List Int} (hl : DrOk l) (hll : l.length ≤ 3780) {t : Nat} (ht : t < 3) : TurnOk bTurn (iD l) 11 t := by
  obtain ⟨v, hv01, hv⟩ := pick hl hll ht
  have hw : ∃ w : Int, 0 < w ∧ w ≤ 60 ∧ dIx (.list [.int 4, .int 60]) (.int v) = some (.int w) := by
    rcases hv01 with e | e <;> subst e
    · exact ⟨4, by omega, by omega, rfl⟩
    · exact ⟨60, by omega, by omega, rfl⟩
  obtain ⟨w, w0, w1, hw⟩ := hw
  obtain ⟨cs, hcs, h, h6, h3⟩ := corners_eq l hl hll (10 + 10 * (t : Int)) w (by omega) (by omega) w0 w1
  obtain ⟨m, hm, m0, m1⟩ := mix_ok l hl hll (3 + (t : Int)) 9 (by omega) (by omega) (by omega)
  obtain ⟨p, hp, p0, p1⟩ := mix_ok l hl hll (6 + (t : Int)) 3 (by omega) (by omega) (by omega)
  obtain ⟨q, hq, q0, q1⟩ := mix_ok l hl hll (9 + (t : Int)) 6 (by omega) (by omega) (by omega)
  obtain ⟨p, rfl⟩ := Int.eq_ofNat_of_zero_le p0
  obtain ⟨q, rfl⟩ := Int.eq_ofNat_of_zero_le q0
  have hl7 := h.l
  have hW := snoc_corn h h6 (fun x hx => by have := h3 x hx; omega) m0 m1
  obtain ⟨W, hWe⟩ : ∃ W, lastI cs + 1 + m = W := ⟨_, rfl⟩
  rw [hWe] at hW
  have hWl := hW.l
  have ht21 := h.told.1
  have htW := hW.told
  have hlast : dIx (iD (cs ++ [W])) (.int (-1)) = some (.int W) := by
    rw [ix_last hW.ne]; unfold lastI; simp
  have B : (10 : Int).natAbs < BIT64 := by unfold BIT64; omega
  have hix : (cs ++ [W])[cs.length]? = some W := by simp
  obtain ⟨f', hf, hfl, hk⟩ := run_nx (keep := [0, 1, 2]) (e := eFin (2 + p) (1 + q)) (e' := [.un, .sh (iD l), .sh (.int (t : Int)), .sh (iD cs), .sh (iD (cs ++ [W])), .un, .sh (iD (cs.map (W - ·))), .sh (.int (2 + (p : Int))), .sh (.int (1 + (q : Int))), .un, .un, .un, .un, .un]) ms_bFin (by
    have := List.all_eq_true.mp (List.all_eq_true.mp fin_ev (2 + p) (by have : p = 0 ∨ p = 1 ∨ p = 2 := by omega
                                                                        rcases this with e | e | e <;> subst e <;> decide)) (1 + q) (by have : q = 0 ∨ q = 1 ∨ q = 2 ∨ q = 3 ∨ q = 4 ∨ q = 5 := by omega
                                                                                                                                        rcases this with e | e | e | e | e | e <;> subst e <;> decide)
    exact this) (by
    have e1 : ((2 + p : Nat) : Int) = 2 + (p : Int) := by omega
    have e2 : ((1 + q : Nat) : Int) = 1 + (q : Int) := by omega
    unfold eFin
    rw [e1, e2]
    exact .un (.un (.un (.un (.un (.un (.un (.cons (.cons (Le.refl _))))))))))
  refine ⟨f', ?_, by rw [hk 0 (by decide)]; rfl, by rw [hk 1 (by decide)]; rfl⟩
  show bTurn [.un, .sh (iD l), .sh (.int (t : Int)), .un, .un, .un, .un, .un, .un, .un, .un, .un, .un, .un] = _
  refine e_seq (e_set (d := iD cs) (e_call (e_cons (e_var rfl) (e_cons (e_f2 e_c (e_f2 e_c (e_var rfl) (d_mulL B)) (d_add _ _)) (e_cons e_c (e_cons (e_f2 (e_lst (e_cons e_c (e_cons e_c e_nil)) (le_line (by show 2 ≤ 1000000; omega))) (e_call (e_cons (e_var rfl) (e_cons (e_var rfl) (e_cons e_c e_nil))) hv) hw) e_nil)))) hcs) rfl) ?_
  refine e_seq (e_set (d := iD (cs ++ [W])) (e_f2 (b := iD [W]) (e_var rfl) (e_lst (e_cons (e_f2 (e_f2 (e_f2 (e_var rfl) (e_f1 e_c (d_neg 1)) (ix_last h.ne)) e_c (d_add _ _)) (e_call (e_cons (e_var rfl) (e_cons (e_f2 e_c (e_var rfl) (d_add _ _)) (e_cons e_c e_nil))) hm) ((d_add _ _).trans (by rw [hWe]))) e_nil) (le_line (by show 1 ≤ 1000000; omega))) (d_addL (by show cs.length + 1 ≤ 1000000; omega))) rfl) ?_
  refine e_seq (e_setF (l := intL (cs.map (W - ·))) (e_lc (e_iSeq (e_var rfl) rfl) (lc_more hlast .un cs) (le_line (by rw [intL_len, List.length_map]; omega))) rfl) ?_
  have hml : (cs.map (W - ·)).length ≤ 7 := by rw [List.length_map]; exact hl7
  refine e_seq (e_if (b := false || (false || false)) (e_or (e_B (e_f2 (e_call (e_cons (e_var rfl) e_nil) (echoes_eq hW)) (e_cb1 (e_f2 (e_call (e_cons (e_var rfl) e_nil) (echoes_eq h)) (e_var rfl) (d_addL (by omega))) (d_sorted (by rw [List.length_append]; omega))) ((d_neL _ _).trans (by rw [← ech_snoc]; simp)))) fun _ => e_or (e_B (e_f2 (e_call (e_cons (e_var rfl) (e_cons (e_call (e_cons (e_var rfl) e_nil) (echoes_eq hW)) e_nil)) (does_meet_eq hW htW (ech_len hW))) e_c (by rw [decide_eq_true rfl]; rfl))) fun _ => e_B (e_f2 (e_call (e_cons (e_var rfl) (e_cons (e_cb1 (e_var rfl) (d_len (by omega))) e_nil)) (ear_eq hW hix)) (e_f1 (e_var rfl) (d_sortset (by omega))) ((d_neL _ _).trans (by rw [ear_last hW]; simp)))) rfl) ?_
  have h0 : cs[0]? = some 0 := by rw [← List.head?_eq_getElem?]; exact h.z
  have hel : (earI cs 0).length ≤ 7 := by
    have := congrArg List.length (ear_first h)
    simp at this; omega
  refine e_seq (e_if (b := false || false) (e_or (e_B (e_f2 (e_f2 (a := iD [0]) (e_lst (e_cons e_c e_nil) (le_line (by show 1 ≤ 1000000; omega))) (e_call (e_cons (e_var rfl) (e_cons e_c e_nil)) (ear_eq (k := 0) h h0)) (d_addL (by show 1 + _ ≤ 1000000; omega))) (e_var rfl) ((d_neL _ _).trans (by rw [ear_first h]; simp)))) fun _ => e_B (e_f2 (e_call (e_cons (e_var rfl) e_nil) (mirrored_eq hW)) (e_call (e_cons (e_call (e_cons (e_var rfl) e_nil) (echoes_eq hW)) e_nil) (answers_eq htW (ech_len hW))) (by unfold dNotIn; rw [d_inR, decide_eq_true (ans_full htW (mir_row hW.row))]; rfl))) rfl) ?_
  exact e_seq (e_par (e_mS (e_f2 e_c (e_call (e_cons (e_var rfl) (e_cons (e_f2 e_c (e_var rfl) (d_add _ _)) (e_cons e_c e_nil))) hp) (d_add _ _))) (e_mS (e_f2 e_c (e_call (e_cons (e_var rfl) (e_cons (e_f2 e_c (e_var rfl) (d_add _ _)) (e_cons e_c e_nil))) hq) (d_add _ _))) rfl) hf
theorem plain (ns : List Int) (hn : ns.length ≤ 63) : isTrueOut (g_law (envS 14 ns)) = true := by
  obtain ⟨l, hd, hl, hll⟩ := draws_ok ns hn
  exact law_turns (g := bTurn) (n := 11) (k := 3) hd ms_bTurn (by omega) (fun t ht => turn_ok97 hl hll ht) fun _ => rfl
end k97

namespace k97
open PySem PySem.Spec PyProof.Rows L2 PD
abbrev pw : Program := PySem.Challenge.pw_hiddenandsought_k97_whole_echoes_of_walk
def top (i : Nat) : Stmt := pw.main.body.getD i (.Pass ⟨0, 0, 0, 0⟩)
structure Tx (K : PySem.W.Frag) (mg : Str → Option Value) : Prop where
  m_abs : mg "abs" = none
  m_all : mg "all" = none
  m_enumerate : mg "enumerate" = none
  m_int : mg "int" = none
  m_len : mg "len" = none
  m_list : mg "list" = none
  m_max : mg "max" = none
  m_min : mg "min" = none
  m_range : mg "range" = none
  m_set : mg "set" = none
  m_sorted : mg "sorted" = none
  m_sum : mg "sum" = none
  b_gcd : mg "gcd" = some (.builtin "math.gcd")
  r_LEAST_WAYS : GlobV K mg "LEAST_WAYS" gd_LEAST_WAYS
  r_MOST_BOUND : GlobV K mg "MOST_BOUND" gd_MOST_BOUND
  r_MOST_CORNERS : GlobV K mg "MOST_CORNERS" gd_MOST_CORNERS
  r_MOST_PLACE : GlobV K mg "MOST_PLACE" gd_MOST_PLACE
  r_MOST_WAYS : GlobV K mg "MOST_WAYS" gd_MOST_WAYS
  r_SIZES : GlobV K mg "SIZES" gd_SIZES
section
variable {P : Program} {w : World} {K : PySem.W.Frag} {mg : Str → Option Value} {base : Heap}
theorem ok_fraction (T : Tx K mg ) (d : Def K mg "fraction" (top 10) ["number", "by"]) : Cal P w K mg base 1 "fraction" ["number", "by"] (spD K mg fn_fraction) :=
  d.d0 (N := ["number", "by", "common"]) (fs rfl rfl rfl (by decide +kernel) rfl (by decide +kernel) (by decide +kernel)) (by decide) (g := g_fraction) (k := 0) (fun f cdv A outer s H G am hr =>
  (vss_cons (vs_if (vb_cmp (o_lt am) v_lt (ve_var 1) ve_int) (vss_one (vs_par 0 1 am (vm_s (ve_un un_neg v_neg (ve_var 0))) (vm_s (ve_un un_neg v_neg (ve_var 1))))) vss_nil)
  (vss_cons (vs_set 2 (ve_callF cr_gcd l_gcd rfl T.b_gcd (va_cons (ve_var 0) (va_cons (ve_var 1) va_nil))) am.n)
  (vss_one (vs_ret (ve_tup (va_cons (ve_op op_fdiv v_div (ve_var 0) (ve_var 2)) (va_cons (ve_op op_fdiv v_div (ve_var 1) (ve_var 2)) va_nil))))))))
theorem ok_is_less (T : Tx K mg ) (d : Def K mg "is_less" (top 11) ["one", "two"]) : Cal P w K mg base 1 "is_less" ["one", "two"] (spD K mg fn_is_less) :=
  d.d0 (N := ["one", "two"]) (fs rfl rfl rfl (by decide +kernel) rfl (by decide +kernel) (by decide +kernel)) (by decide) (g := g_is_less) (k := 0) (fun f cdv A outer s H G am hr =>
  (vss_one (vs_ret (ve_cmp (o_lt am) v_lt (ve_op o_mul v_mul (ve_ix (ve_var 0) ve_int) (ve_ix (ve_var 1) ve_int)) (ve_op o_mul v_mul (ve_ix (ve_var 1) ve_int) (ve_ix (ve_var 0) ve_int))))))
theorem ok_check_size (T : Tx K mg ) (d : Def K mg "check_size" (top 16) ["ways", "bound"]) : Cal P w K mg base 1 "check_size" ["ways", "bound"] (spD K mg fn_check_size) :=
  d.d0 (N := ["ways", "bound"]) (fs rfl rfl rfl (by decide +kernel) rfl (by decide +kernel) (by decide +kernel)) (by decide) (g := g_check_size) (k := 0) (fun f cdv A outer s H G am hr =>
  (vss_cons (vs_if (vb_not (vb_chain (o_le am) v_le (o_le am) v_le (ve_globC T.r_LEAST_WAYS) (ve_var 0) (ve_globC T.r_MOST_WAYS))) (vss_one vs_never) vss_nil)
  (vss_one (vs_if (vb_not (vb_chain (o_le am) v_le (o_le am) v_le ve_int (ve_var 1) (ve_globC T.r_MOST_BOUND))) (vss_one vs_never) vss_nil))))
theorem ok_is_stop (T : Tx K mg ) (d : Def K mg "is_stop" (top 17) ["ways", "bound", "stop"]) : Cal P w K mg base 1 "is_stop" ["ways", "bound", "stop"] (spD K mg fn_is_stop) :=
  d.d0 (N := ["ways", "bound", "stop"]) (fs rfl rfl rfl (by decide +kernel) rfl (by decide +kernel) (by decide +kernel)) (by decide) (g := g_is_stop) (k := 0) (fun f cdv A outer s H G am hr =>
  (vss_one (vs_ret (ve_andV (ve_chain (o_le am) v_le (o_lt am) v_lt ve_int (ve_ix (ve_var 2) ve_int) (ve_var 0)) (ve_one (ve_chain (o_le am) v_le (o_le am) v_le ve_int (ve_ix (ve_var 2) ve_int) (ve_var 1)))))))
theorem ok_check_walk (T : Tx K mg ) (d : Def K mg "check_walk" (top 18) ["ways", "bound", "walk"]) (c_check_size : Cal P w K mg base 1 "check_size" ["ways", "bound"] (spD K mg fn_check_size)) (c_is_stop : Cal P w K mg base 1 "is_stop" ["ways", "bound", "stop"] (spD K mg fn_is_stop)) : Cal P w K mg base 2 "check_walk" ["ways", "bound", "walk"] (spD K mg fn_check_walk) :=
  d.d0 (N := ["ways", "bound", "walk", "k", "trip"]) (fs rfl rfl rfl (by decide +kernel) rfl (by decide +kernel) (by decide +kernel)) (by decide) (g := g_check_walk) (k := 1) (fun f cdv A outer s H G am hr =>
  (vss_cons (vs_expr (ve_calC c_check_size am hr (va_cons (ve_var 0) (va_cons (ve_var 1) va_nil))))
  (vss_one (vs_for PassesOwn.never am.c (vi_enum (ve_var 2) rfl T.m_enumerate) (pg_tp am.c (pns_cons 3 (pns_cons 4 pns_nil am.n) am.n)) (vss_one (vs_if (vb_not (vb_tru (ve_calC c_is_stop am hr (va_cons (ve_var 0) (va_cons (ve_var 1) (va_cons (ve_var 4) va_nil)))))) (vss_one vs_never) vss_nil))))))
theorem ok_check_stop (T : Tx K mg ) (d : Def K mg "check_stop" (top 19) ["ways", "bound", "walk", "stop"]) (c_check_walk : Cal P w K mg base 2 "check_walk" ["ways", "bound", "walk"] (spD K mg fn_check_walk)) (c_is_stop : Cal P w K mg base 1 "is_stop" ["ways", "bound", "stop"] (spD K mg fn_is_stop)) : Cal P w K mg base 3 "check_stop" ["ways", "bound", "walk", "stop"] (spD K mg fn_check_stop) :=
  d.d0 (N := ["ways", "bound", "walk", "stop"]) (fs rfl rfl rfl (by decide +kernel) rfl (by decide +kernel) (by decide +kernel)) (by decide) (g := g_check_stop) (k := 2) (fun f cdv A outer s H G am hr =>
  (vss_cons (vs_expr (ve_calC c_check_walk am hr (va_cons (ve_var 0) (va_cons (ve_var 1) (va_cons (ve_var 2) va_nil)))))
  (vss_one (vs_if (vb_not (vb_tru (ve_calC c_is_stop am hr (va_cons (ve_var 0) (va_cons (ve_var 1) (va_cons (ve_var 3) va_nil)))))) (vss_one vs_never) vss_nil))))
theorem ok_time_of (T : Tx K mg ) (d : Def K mg "time_of" (top 20) ["walk", "stop"]) : Cal P w K mg base 1 "time_of" ["walk", "stop"] (spD K mg fn_time_of) :=
  d.d0 (N := ["walk", "stop", "gone", "way", "far"]) (fs rfl rfl rfl (by decide +kernel) rfl (by decide +kernel) (by decide +kernel)) (by decide) (g := g_time_of) (k := 0) (fun f cdv A outer s H G am hr =>
  (vss_cons (vs_set 2 ve_int am.n)
  (vss_cons (vs_for PassesOwn.never am.c (vi_seq (ve_var 0)) (pg_tp am.c (pns_cons 3 (pns_cons 4 pns_nil am.n) am.n)) (vss_cons (vs_if (vb_w (vw_and (vb_cmp (o_eq am) v_eq (ve_var 3) (ve_ix (ve_var 1) ve_int)) (vw_and1 (vb_cmp (o_ge am) v_ge (ve_var 4) (ve_ix (ve_var 1) ve_int))))) (vss_one (vs_ret (ve_op o_add v_add (ve_var 2) (ve_ix (ve_var 1) ve_int)))) vss_nil)
  (vss_one (vs_set 2 (ve_op o_add v_add (ve_var 2) (ve_op o_mul v_mul ve_int (ve_var 4))) am.n))))
  (vss_one (vs_ret ve_non)))))
theorem ok_time (T : Tx K mg ) (d : Def K mg "time" (top 21) ["ways", "bound", "walk", "stop"]) (c_check_stop : Cal P w K mg base 3 "check_stop" ["ways", "bound", "walk", "stop"] (spD K mg fn_check_stop)) (c_time_of : Cal P w K mg base 1 "time_of" ["walk", "stop"] (spD K mg fn_time_of)) : Cal P w K mg base 4 "time" ["ways", "bound", "walk", "stop"] (spD K mg fn_time) :=
  d.d0 (N := ["ways", "bound", "walk", "stop"]) (fs rfl rfl rfl (by decide +kernel) rfl (by decide +kernel) (by decide +kernel)) (by decide) (g := g_time) (k := 3) (fun f cdv A outer s H G am hr =>
  (vss_cons (vs_expr (ve_calC c_check_stop am hr (va_cons (ve_var 0) (va_cons (ve_var 1) (va_cons (ve_var 2) (va_cons (ve_var 3) va_nil))))))
  (vss_one (vs_ret (ve_calC c_time_of am hr (va_cons (ve_var 2) (va_cons (ve_var 3) va_nil)))))))
theorem ok_stops_of (T : Tx K mg ) (d : Def K mg "stops_of" (top 22) ["ways", "bound"]) : Cal P w K mg base 1 "stops_of" ["ways", "bound"] (spN K mg fn_stops_of) :=
  d.d0N (N := ["ways", "bound", "way", "far"]) (fs rfl rfl rfl (by decide +kernel) rfl (by decide +kernel) (by decide +kernel)) (by decide) (g := g_stops_of) (k := 0) (fun f cdv A outer s H G am hr =>
  (vss_one (vs_retN (vn_lc2 (own := [("way", 2), ("far", 3)]) am (vi_range1 rfl T.m_range (va_cons (ve_var 0) va_nil)) (blkOk_by rfl) (fun _ _ _ _ _ => (pg_nm 2 am.blk.n)) (fun _ _ _ _ _ => vt_nil) (fun _ _ _ _ _ => (vi_range2 rfl T.m_range (va_cons ve_int (va_cons (ve_op o_add v_add (ve_var 1) ve_int) va_nil)))) (fun _ _ _ _ _ => (pg_nm 3 am.blk.n)) (fun _ _ _ _ _ => vt_nil) (fun _ _ _ _ _ => (ve_tup (va_cons (ve_var 2) (va_cons (ve_var 3) va_nil)))) (by decide) (by decide)))))
theorem ok_is_whole_of (T : Tx K mg ) (d : Def K mg "is_whole_of" (top 23) ["ways", "bound", "walk"]) : Cal P w K mg base 1 "is_whole_of" ["ways", "bound", "walk"] (spD K mg fn_is_whole_of) :=
  d.d0 (N := ["ways", "bound", "walk", "way"]) (fs rfl rfl rfl (by decide +kernel) rfl (by decide +kernel) (by decide +kernel)) (by decide) (g := g_is_whole_of) (k := 0) (fun f cdv A outer s H G am hr =>
  (vss_one (vs_ret (ve_callB (cr_all am.c) l_all rfl T.m_all rfl (va_cons (VN.ve (vn_lc (own := [("way", 3)]) am (vi_range1 rfl T.m_range (va_cons (ve_var 0) va_nil)) (blkOk_by rfl) (fun _ _ _ _ _ => (pg_nm 3 am.blk.n)) (fun _ _ _ _ _ => vt_nil) (fun _ _ _ _ _ => (ve_cmp (o_in am.blk) v_in (ve_tup (va_cons (ve_var 3) (va_cons (ve_var 1) va_nil))) (ve_var 2))) (by decide))) va_nil)))))
theorem ok_is_whole (T : Tx K mg ) (d : Def K mg "is_whole" (top 24) ["ways", "bound", "walk"]) (c_check_walk : Cal P w K mg base 2 "check_walk" ["ways", "bound", "walk"] (spD K mg fn_check_walk)) (c_is_whole_of : Cal P w K mg base 1 "is_whole_of" ["ways", "bound", "walk"] (spD K mg fn_is_whole_of)) : Cal P w K mg base 3 "is_whole" ["ways", "bound", "walk"] (spD K mg fn_is_whole) :=
  d.d0 (N := ["ways", "bound", "walk"]) (fs rfl rfl rfl (by decide +kernel) rfl (by decide +kernel) (by decide +kernel)) (by decide) (g := g_is_whole) (k := 2) (fun f cdv A outer s H G am hr =>
  (vss_cons (vs_expr (ve_calC c_check_walk am hr (va_cons (ve_var 0) (va_cons (ve_var 1) (va_cons (ve_var 2) va_nil)))))
  (vss_one (vs_ret (ve_calC c_is_whole_of am hr (va_cons (ve_var 0) (va_cons (ve_var 1) (va_cons (ve_var 2) va_nil))))))))
theorem ok_worst_of (T : Tx K mg ) (d : Def K mg "worst_of" (top 25) ["ways", "bound", "walk"]) (c_is_whole_of : Cal P w K mg base 1 "is_whole_of" ["ways", "bound", "walk"] (spD K mg fn_is_whole_of)) (c_stops_of : Cal P w K mg base 1 "stops_of" ["ways", "bound"] (spN K mg fn_stops_of)) (c_fraction : Cal P w K mg base 1 "fraction" ["number", "by"] (spD K mg fn_fraction)) (c_time_of : Cal P w K mg base 1 "time_of" ["walk", "stop"] (spD K mg fn_time_of)) (c_is_less : Cal P w K mg base 1 "is_less" ["one", "two"] (spD K mg fn_is_less)) : Cal P w K mg base 2 "worst_of" ["ways", "bound", "walk"] (spD K mg fn_worst_of) :=
  d.d0 (N := ["ways", "bound", "walk", "found", "stop", "here"]) (fs rfl rfl rfl (by decide +kernel) rfl (by decide +kernel) (by decide +kernel)) (by decide) (g := g_worst_of) (k := 1) (fun f cdv A outer s H G am hr =>
  (vss_cons (vs_if (vb_not (vb_tru (ve_calC c_is_whole_of am hr (va_cons (ve_var 0) (va_cons (ve_var 1) (va_cons (ve_var 2) va_nil)))))) (vss_one (vs_ret ve_non)) vss_nil)
  (vss_cons (vs_set 3 ve_non am.n)
  (vss_cons (vs_for PassesOwn.never am.c (vi_seq (VN.ve (vn_calC c_stops_of am hr (va_cons (ve_var 0) (va_cons (ve_var 1) va_nil))))) (pg_nm 4 am.n) (vss_cons (vs_set 5 (ve_calC c_fraction am hr (va_cons (ve_calC c_time_of am hr (va_cons (ve_var 2) (va_cons (ve_var 4) va_nil))) (va_cons (ve_ix (ve_var 4) ve_int) va_nil))) am.n)
  (vss_one (vs_if (vb_w (vw_or (vb_cmp o_is v_is (ve_var 3) ve_non) (vw_or1 (vb_tru (ve_calC c_is_less am hr (va_cons (ve_ix (ve_var 3) ve_int) (va_cons (ve_var 5) va_nil))))))) (vss_one (vs_set 3 (ve_tup (va_cons (ve_var 5) (va_cons (ve_var 4) va_nil))) am.n)) vss_nil))))
  (vss_one (vs_ret (ve_var 3)))))))
theorem ok_worst (T : Tx K mg ) (d : Def K mg "worst" (top 26) ["ways", "bound", "walk"]) (c_check_walk : Cal P w K mg base 2 "check_walk" ["ways", "bound", "walk"] (spD K mg fn_check_walk)) (c_worst_of : Cal P w K mg base 2 "worst_of" ["ways", "bound", "walk"] (spD K mg fn_worst_of)) : Cal P w K mg base 3 "worst" ["ways", "bound", "walk"] (spD K mg fn_worst) :=
  d.d0 (N := ["ways", "bound", "walk"]) (fs rfl rfl rfl (by decide +kernel) rfl (by decide +kernel) (by decide +kernel)) (by decide) (g := g_worst) (k := 2) (fun f cdv A outer s H G am hr =>
  (vss_cons (vs_expr (ve_calC c_check_walk am hr (va_cons (ve_var 0) (va_cons (ve_var 1) (va_cons (ve_var 2) va_nil)))))
  (vss_one (vs_ret (ve_calC c_worst_of am hr (va_cons (ve_var 0) (va_cons (ve_var 1) (va_cons (ve_var 2) va_nil))))))))
theorem ok_length (T : Tx K mg ) (d : Def K mg "length" (top 27) ["ways", "bound", "walk"]) (c_check_walk : Cal P w K mg base 2 "check_walk" ["ways", "bound", "walk"] (spD K mg fn_check_walk)) : Cal P w K mg base 3 "length" ["ways", "bound", "walk"] (spD K mg fn_length) :=
  d.d0 (N := ["ways", "bound", "walk", "_", "far"]) (fs rfl rfl rfl (by decide +kernel) rfl (by decide +kernel) (by decide +kernel)) (by decide) (g := g_length) (k := 2) (fun f cdv A outer s H G am hr =>
  (vss_cons (vs_expr (ve_calC c_check_walk am hr (va_cons (ve_var 0) (va_cons (ve_var 1) (va_cons (ve_var 2) va_nil)))))
  (vss_one (vs_ret (ve_callB (cr_sum am.c) l_sum rfl T.m_sum rfl (va_cons (VN.ve (vn_lc (own := [("_", 3), ("far", 4)]) am (vi_seq (ve_var 2)) (blkOk_by rfl) (fun _ _ _ _ _ => (pg_tp am.blk.c (pns_cons 3 (pns_cons 4 pns_nil am.blk.n) am.blk.n))) (fun _ _ _ _ _ => vt_nil) (fun _ _ _ _ _ => (ve_op o_mul v_mul ve_int (ve_var 4))) (by decide))) va_nil))))))
theorem ok_check_corners (T : Tx K mg ) (d : Def K mg "check_corners" (top 32) ["corners"]) : Cal P w K mg base 1 "check_corners" ["corners"] (spD K mg fn_check_corners) :=
  d.d0 (N := ["corners", "k", "place"]) (fs rfl rfl rfl (by decide +kernel) rfl (by decide +kernel) (by decide +kernel)) (by decide) (g := g_check_corners) (k := 0) (fun f cdv A outer s H G am hr =>
  (vss_cons (vs_if (vb_not (vb_chain (o_le am) v_le (o_le am) v_le ve_int (ve_callB call_len l_len rfl T.m_len rfl (va_cons (ve_var 0) va_nil)) (ve_globC T.r_MOST_CORNERS))) (vss_one vs_never) vss_nil)
  (vss_one (vs_for PassesOwn.never am.c (vi_enum (ve_var 0) rfl T.m_enumerate) (pg_tp am.c (pns_cons 1 (pns_cons 2 pns_nil am.n) am.n)) (vss_one (vs_if (vb_w (vw_or (vb_w (vw_and (vb_cmp (o_eq am) v_eq (ve_var 1) ve_int) (vw_and1 (vb_cmp (o_ne am) v_ne (ve_var 2) ve_int)))) (vw_or (vb_w (vw_and (vb_cmp (o_gt am) v_gt (ve_var 1) ve_int) (vw_and1 (vb_cmp (o_le am) v_le (ve_var 2) (ve_ix (ve_var 0) (ve_op op_sub v_sub (ve_var 1) ve_int)))))) (vw_or1 (vb_cmp (o_gt am) v_gt (ve_var 2) (ve_globC T.r_MOST_PLACE)))))) (vss_one vs_never) vss_nil))))))
theorem ok_check_echoes (T : Tx K mg ) (d : Def K mg "check_echoes" (top 33) ["told"]) : Cal P w K mg base 1 "check_echoes" ["told"] (spD K mg fn_check_echoes) :=
  d.d0 (N := ["told", "k", "far"]) (fs rfl rfl rfl (by decide +kernel) rfl (by decide +kernel) (by decide +kernel)) (by decide) (g := g_check_echoes) (k := 0) (fun f cdv A outer s H G am hr =>
  (vss_cons (vs_if (vb_cmp (o_notIn am) v_notIn (ve_callB call_len l_len rfl T.m_len rfl (va_cons (ve_var 0) va_nil)) (ve_globC T.r_SIZES)) (vss_one vs_never) vss_nil)
  (vss_one (vs_for PassesOwn.never am.c (vi_enum (ve_var 0) rfl T.m_enumerate) (pg_tp am.c (pns_cons 1 (pns_cons 2 pns_nil am.n) am.n)) (vss_one (vs_if (vb_w (vw_or (vb_not (vb_chain (o_le am) v_le (o_le am) v_le ve_int (ve_var 2) (ve_globC T.r_MOST_PLACE))) (vw_or1 (vb_w (vw_and (vb_cmp (o_gt am) v_gt (ve_var 1) ve_int) (vw_and1 (vb_cmp (o_gt am) v_gt (ve_ix (ve_var 0) (ve_op op_sub v_sub (ve_var 1) ve_int)) (ve_var 2)))))))) (vss_one vs_never) vss_nil))))))
theorem ok_echoes_of (T : Tx K mg ) (d : Def K mg "echoes_of" (top 34) ["corners"]) : Cal P w K mg base 1 "echoes_of" ["corners"] (spN K mg fn_echoes_of) :=
  d.d0N (N := ["corners", "found", "k", "place", "other"]) (fs rfl rfl rfl (by decide +kernel) rfl (by decide +kernel) (by decide +kernel)) (by decide) (g := g_echoes_of) (k := 0) (fun f cdv A outer s H G am hr =>
  (vss_cons (vs_setN 1 (vn_lst va_nil) am.n)
  (vss_cons (vs_for PassesOwn.never am.c (vi_enum (ve_var 0) rfl T.m_enumerate) (pg_tp am.c (pns_cons 2 (pns_cons 3 pns_nil am.n) am.n)) (vss_one (vs_extend 1 (VN.ve (vn_lc (own := [("other", 4)]) am (vi_seq (ve_sl (ve_var 0) vo_none (vo_some (ve_var 2)))) (blkOk_by rfl) (fun _ _ _ _ _ => (pg_nm 4 am.blk.n)) (fun _ _ _ _ _ => vt_nil) (fun _ _ _ _ _ => (ve_op op_sub v_sub (ve_var 3) (ve_var 4))) (by decide))))))
  (vss_one (vs_frz 1 (vs_retN (vn_callB (call_sortedD am) l_sortedN rfl T.m_sorted rfl (va_cons (ve_var 1) va_nil))))))))
theorem ok_echoes (T : Tx K mg ) (d : Def K mg "echoes" (top 35) ["corners"]) (c_check_corners : Cal P w K mg base 1 "check_corners" ["corners"] (spD K mg fn_check_corners)) (c_echoes_of : Cal P w K mg base 1 "echoes_of" ["corners"] (spN K mg fn_echoes_of)) : Cal P w K mg base 2 "echoes" ["corners"] (spN K mg fn_echoes) :=
  d.d0N (N := ["corners"]) (fs rfl rfl rfl (by decide +kernel) rfl (by decide +kernel) (by decide +kernel)) (by decide) (g := g_echoes) (k := 1) (fun f cdv A outer s H G am hr =>
  (vss_cons (vs_expr (ve_calC c_check_corners am hr (va_cons (ve_var 0) va_nil)))
  (vss_one (vs_retN (vn_calC c_echoes_of am hr (va_cons (ve_var 0) va_nil))))))
theorem ok_mirrored_of (T : Tx K mg ) (d : Def K mg "mirrored_of" (top 36) ["corners"]) : Cal P w K mg base 1 "mirrored_of" ["corners"] (spN K mg fn_mirrored_of) :=
  d.d0N (N := ["corners", "place"]) (fs rfl rfl rfl (by decide +kernel) rfl (by decide +kernel) (by decide +kernel)) (by decide) (g := g_mirrored_of) (k := 0) (fun f cdv A outer s H G am hr =>
  (vss_one (vs_retN (vn_lc (own := [("place", 1)]) am (vi_seq (ve_revL (ve_var 0))) (blkOk_by rfl) (fun _ _ _ _ _ => (pg_nm 1 am.blk.n)) (fun _ _ _ _ _ => vt_nil) (fun _ _ _ _ _ => (ve_op op_sub v_sub (ve_ix (ve_var 0) (ve_un un_neg v_neg ve_int)) (ve_var 1))) (by decide)))))
theorem ok_mirrored (T : Tx K mg ) (d : Def K mg "mirrored" (top 37) ["corners"]) (c_check_corners : Cal P w K mg base 1 "check_corners" ["corners"] (spD K mg fn_check_corners)) (c_mirrored_of : Cal P w K mg base 1 "mirrored_of" ["corners"] (spN K mg fn_mirrored_of)) : Cal P w K mg base 2 "mirrored" ["corners"] (spN K mg fn_mirrored) :=
  d.d0N (N := ["corners"]) (fs rfl rfl rfl (by decide +kernel) rfl (by decide +kernel) (by decide +kernel)) (by decide) (g := g_mirrored) (k := 1) (fun f cdv A outer s H G am hr =>
  (vss_cons (vs_expr (ve_calC c_check_corners am hr (va_cons (ve_var 0) va_nil)))
  (vss_one (vs_retN (vn_calC c_mirrored_of am hr (va_cons (ve_var 0) va_nil))))))
theorem ok_ear (T : Tx K mg ) (d : Def K mg "ear" (top 38) ["corners", "k"]) (c_check_corners : Cal P w K mg base 1 "check_corners" ["corners"] (spD K mg fn_check_corners)) : Cal P w K mg base 2 "ear" ["corners", "k"] (spD K mg fn_ear) :=
  d.d0 (N := ["corners", "k", "place"]) (fs rfl rfl rfl (by decide +kernel) rfl (by decide +kernel) (by decide +kernel)) (by decide) (g := g_ear) (k := 1) (fun f cdv A outer s H G am hr =>
  (vss_cons (vs_expr (ve_calC c_check_corners am hr (va_cons (ve_var 0) va_nil)))
  (vss_cons (vs_if (vb_not (vb_chain (o_le am) v_le (o_lt am) v_lt ve_int (ve_var 1) (ve_callB call_len l_len rfl T.m_len rfl (va_cons (ve_var 0) va_nil)))) (vss_one vs_never) vss_nil)
  (vss_one (vs_ret (ve_sortSet am rfl T.m_sorted rfl T.m_set (VN.ve (vn_lc (own := [("place", 2)]) am (vi_seq (ve_var 0)) (blkOk_by rfl) (fun _ _ _ _ _ => (pg_nm 2 am.blk.n)) (fun _ _ _ _ _ => (vt_one (vb_cmp (o_ne am.blk) v_ne (ve_var 2) (ve_ix (ve_var 0) (ve_var 1))))) (fun _ _ _ _ _ => (ve_callB call_abs l_abs rfl T.m_abs rfl (va_cons (ve_op op_sub v_sub (ve_var 2) (ve_ix (ve_var 0) (ve_var 1))) va_nil))) (by decide)))))))))
theorem ok_does_meet (T : Tx K mg ) (d : Def K mg "does_meet" (top 39) ["corners", "told"]) (c_check_corners : Cal P w K mg base 1 "check_corners" ["corners"] (spD K mg fn_check_corners)) (c_check_echoes : Cal P w K mg base 1 "check_echoes" ["told"] (spD K mg fn_check_echoes)) (c_echoes_of : Cal P w K mg base 1 "echoes_of" ["corners"] (spN K mg fn_echoes_of)) : Cal P w K mg base 2 "does_meet" ["corners", "told"] (spD K mg fn_does_meet) :=
  d.d0 (N := ["corners", "told"]) (fs rfl rfl rfl (by decide +kernel) rfl (by decide +kernel) (by decide +kernel)) (by decide) (g := g_does_meet) (k := 1) (fun f cdv A outer s H G am hr =>
  (vss_cons (vs_expr (ve_calC c_check_corners am hr (va_cons (ve_var 0) va_nil)))
  (vss_cons (vs_expr (ve_calC c_check_echoes am hr (va_cons (ve_var 1) va_nil)))
  (vss_one (vs_ret (ve_cmp (o_eq am) v_eq (VN.ve (vn_calC c_echoes_of am hr (va_cons (ve_var 0) va_nil))) (ve_var 1)))))))
theorem ok_without (T : Tx K mg ) (d : Def K mg "without" (top 41) ["told", "some"]) : Cal P w K mg base 1 "without" ["told", "some"] (spD K mg fn_without) :=
  d.d0 (N := ["told", "some", "found", "one"]) (fs rfl rfl rfl (by decide +kernel) rfl (by decide +kernel) (by decide +kernel)) (by decide) (g := g_without) (k := 0) (fun f cdv A outer s H G am hr =>
  (vss_cons (vs_setN 2 (vn_callT call_list_of l_listN rfl T.m_list rfl (va_cons (ve_var 0) va_nil)) am.n)
  (vss_cons (vs_for PassesOwn.never am.c (vi_seq (ve_var 1)) (pg_nm 3 am.n) (vss_cons (vs_if (vb_th (vb_cmp (o_notIn am) v_notIn (ve_var 3) (ve_var 2))) (vss_one (vs_ret ve_non)) vss_nil)
  (vss_one (vs_remove 2 (ve_var 3)))))
  (vss_one (vs_retO 2)))))
theorem rok_gone_on (T : Tx K mg) (d : Def K mg "gone_on" (top 42) ["corners", "rest"]) (c_without : Cal P w K mg base 1 "without" ["told", "some"] (spD K mg fn_without)) : ∀ n : Nat, Cal P w K mg base (1 + n) "gone_on" ["corners", "rest"] (spN K mg (rec_gone_on n))
  | 0 => Cal.botN d
  | n + 1 => have c_gone_on := rok_gone_on T d c_without n
  d.d0N (N := ["corners", "rest", "found", "last", "far", "place", "one", "left"]) (fs rfl rfl rfl (by decide +kernel) rfl (by decide +kernel) (by decide +kernel)) (by decide) (g := g_gone_on (rec_gone_on n)) (k := 1 + n) (fun f cdv A outer s H G am hr =>
  (vss_cons (vs_if (vb_cmp (o_eq am) v_eq (ve_callB call_len l_len rfl T.m_len rfl (va_cons (ve_var 1) va_nil)) ve_int) (vss_one (vs_retN (vn_lst (va_cons (VN.ve (vn_callB (call_sortedD am) l_sortedN rfl T.m_sorted rfl (va_cons (ve_var 0) va_nil))) va_nil)))) vss_nil)
  (vss_cons (vs_setN 2 (vn_lst va_nil) am.n)
  (vss_cons (vs_set 3 (ve_callB (cr_max am.c) l_maxL rfl T.m_max rfl (va_cons (ve_var 0) va_nil)) am.n)
  (vss_cons (vs_set 4 (ve_ix (ve_var 1) (ve_un un_neg v_neg ve_int)) am.n)
  (vss_cons (vs_for PassesOwn.never am.c (vi_seq (ve_sortSet am rfl T.m_sorted rfl T.m_set (ve_lst (va_cons (ve_var 4) (va_cons (ve_op op_sub v_sub (ve_var 3) (ve_var 4)) va_nil))))) (pg_nm 5 am.n) (vss_one (vs_if (vb_cmp (o_notIn am) v_notIn (ve_var 5) (ve_var 0)) (vss_cons (vs_set 7 (ve_calC c_without am hr (va_cons (ve_var 1) (va_cons (VN.ve (vn_lc (own := [("one", 6)]) am (vi_seq (ve_var 0)) (blkOk_by rfl) (fun _ _ _ _ _ => (pg_nm 6 am.blk.n)) (fun _ _ _ _ _ => vt_nil) (fun _ _ _ _ _ => (ve_callB call_abs l_abs rfl T.m_abs rfl (va_cons (ve_op op_sub v_sub (ve_var 5) (ve_var 6)) va_nil))) (by decide))) va_nil))) am.n)
  (vss_one (vs_if (vb_cmp o_isNot v_isNot (ve_var 7) ve_non) (vss_one (vs_extend 2 (VN.ve (vn_calC c_gone_on am hr (va_cons (ve_lst (va_star (ve_var 0) (va_cons (ve_var 5) va_nil))) (va_cons (ve_var 7) va_nil)))))) vss_nil))) vss_nil)))
  (vss_one (vs_retO 2))))))))
theorem ok_gone_on (T : Tx K mg) (d : Def K mg "gone_on" (top 42) ["corners", "rest"]) (c_without : Cal P w K mg base 1 "without" ["told", "some"] (spD K mg fn_without)) : Cal P w K mg base 9 "gone_on" ["corners", "rest"] (spN K mg fn_gone_on) := rok_gone_on T d c_without 8
theorem ok_unlike (T : Tx K mg ) (d : Def K mg "unlike" (top 43) ["rows"]) : Cal P w K mg base 1 "unlike" ["rows"] (spN K mg fn_unlike) :=
  d.d0N (N := ["rows", "found", "row"]) (fs rfl rfl rfl (by decide +kernel) rfl (by decide +kernel) (by decide +kernel)) (by decide) (g := g_unlike) (k := 0) (fun f cdv A outer s H G am hr =>
  (vss_cons (vs_setN 1 (vn_lst va_nil) am.n)
  (vss_cons (vs_for PassesOwn.never am.c (vi_seq (VN.ve (vn_callB (call_sortedD am) l_sortedN rfl T.m_sorted rfl (va_cons (ve_var 0) va_nil)))) (pg_nm 2 am.n) (vss_one (vs_if (vb_w (vw_or (vb_th (vb_cmp (o_eq am) v_eq (ve_callB call_len l_len rfl T.m_len rfl (va_cons (ve_var 1) va_nil)) ve_int)) (vw_or1 (vb_cmp (o_ne am) v_ne (ve_ixO 1 (ve_un un_neg v_neg ve_int)) (ve_var 2))))) (vss_one (vs_append 1 (ve_var 2))) vss_nil)))
  (vss_one (vs_retO 1)))))
theorem ok_answers_of (T : Tx K mg ) (d : Def K mg "answers_of" (top 44) ["told"]) (c_gone_on : Cal P w K mg base 9 "gone_on" ["corners", "rest"] (spN K mg fn_gone_on)) (c_unlike : Cal P w K mg base 1 "unlike" ["rows"] (spN K mg fn_unlike)) : Cal P w K mg base 10 "answers_of" ["told"] (spN K mg fn_answers_of) :=
  d.d0N (N := ["told"]) (fs rfl rfl rfl (by decide +kernel) rfl (by decide +kernel) (by decide +kernel)) (by decide) (g := g_answers_of) (k := 9) (fun f cdv A outer s H G am hr =>
  (vss_cons (vs_if (vb_cmp (o_eq am) v_eq (ve_callB call_len l_len rfl T.m_len rfl (va_cons (ve_var 0) va_nil)) ve_int) (vss_one (vs_retN (vn_lst (va_cons (ve_lst (va_cons ve_int va_nil)) va_nil)))) vss_nil)
  (vss_one (vs_retN (vn_calC c_unlike am hr (va_cons (VN.ve (vn_calC c_gone_on am hr (va_cons (ve_lst (va_cons ve_int (va_cons (ve_ix (ve_var 0) (ve_un un_neg v_neg ve_int)) va_nil))) (va_cons (ve_sl (ve_var 0) vo_none (vo_some (ve_un un_neg v_neg ve_int))) va_nil)))) va_nil))))))
theorem ok_answers (T : Tx K mg ) (d : Def K mg "answers" (top 45) ["told"]) (c_check_echoes : Cal P w K mg base 1 "check_echoes" ["told"] (spD K mg fn_check_echoes)) (c_answers_of : Cal P w K mg base 10 "answers_of" ["told"] (spN K mg fn_answers_of)) : Cal P w K mg base 11 "answers" ["told"] (spN K mg fn_answers) :=
  d.d0N (N := ["told"]) (fs rfl rfl rfl (by decide +kernel) rfl (by decide +kernel) (by decide +kernel)) (by decide) (g := g_answers) (k := 10) (fun f cdv A outer s H G am hr =>
  (vss_cons (vs_expr (ve_calC c_check_echoes am hr (va_cons (ve_var 0) va_nil)))
  (vss_one (vs_retN (vn_calC c_answers_of am hr (va_cons (ve_var 0) va_nil))))))
theorem ok__law_draws (T : Tx K mg ) (d : Def K mg "_law_draws" (top 47) ["script"]) : Cal P w K mg base 1 "_law_draws" ["script"] (spScr K mg fn__law_draws) :=
  d.scr (N := ["script", "draws", "k", "rest", "turn", "mixed"]) (fs rfl rfl rfl (by decide +kernel) rfl (by decide +kernel) (by decide +kernel)) (by decide) (g := g__law_draws) (k := 0) (fun f cdv A outer s H G am hr =>
  (vss_cons (vs_setN 1 (vn_lst va_nil) am.n)
  (vss_cons (vs_for PassesOwn.never am.c (vi_range1 rfl T.m_range (va_cons (ve_callB (call_min2 am.c) l_min2 rfl T.m_min rfl (va_cons ve_int (va_cons (ve_scrLen 0 rfl T.m_len) va_nil))) va_nil)) (pg_nm 2 am.n) (vss_cons (vs_set 3 (ve_callB call_abs l_abs rfl T.m_abs rfl (va_cons (ve_scrIx 0 (ve_var 2)) va_nil)) am.n)
  (vss_one (vs_if (vb_cmp (o_ge am) v_ge (ve_var 3) (ve_op op_pow v_pow ve_int ve_int)) (vss_one (vs_for PassesOwn.never am.c (vi_range1 rfl T.m_range (va_cons ve_int va_nil)) (pg_nm 4 am.n) (vss_one (vs_if (vb_cmp (o_gt am) v_gt (ve_var 3) ve_int) (vss_cons (vs_append 1 (ve_op op_mod v_mod (ve_callT call_int1 l_int rfl T.m_int rfl (va_cons (ve_var 3) va_nil)) ve_int))
  (vss_one (vs_set 3 (ve_op op_fdiv v_div (ve_var 3) ve_int) am.n))) vss_nil)))) (vss_cons (vs_set 5 (ve_op op_mod v_mod (ve_callT call_int1 l_int rfl T.m_int rfl (va_cons (ve_op o_add v_add (ve_op o_mul v_mul (ve_var 3) ve_int) (ve_op o_mul v_mul (ve_op o_add v_add (ve_var 2) ve_int) ve_int)) va_nil)) ve_int) am.n)
  (vss_cons (vs_set 5 (ve_op op_mod v_mod (ve_callT call_int1 l_int rfl T.m_int rfl (va_cons (ve_op o_add v_add (ve_op o_add v_add (ve_op o_mul v_mul (ve_var 5) ve_int) (ve_op o_mul v_mul ve_int (ve_var 2))) ve_int) va_nil)) ve_int) am.n)
  (vss_cons (vs_append 1 (ve_op op_mod v_mod (ve_callT call_int1 l_int rfl T.m_int rfl (va_cons (ve_var 5) va_nil)) ve_int))
  (vss_one (vs_append 1 (ve_op op_mod v_mod (ve_callT call_int1 l_int rfl T.m_int rfl (va_cons (ve_op op_fdiv v_div (ve_var 5) ve_int) va_nil)) ve_int))))))))))
  (vss_one (vs_retO 1)))))
theorem ok__law_mix (T : Tx K mg ) (d : Def K mg "_law_mix" (top 48) ["draws", "k", "many"]) : Cal P w K mg base 1 "_law_mix" ["draws", "k", "many"] (spD K mg fn__law_mix) :=
  d.d0 (N := ["draws", "k", "many", "cell"]) (fs rfl rfl rfl (by decide +kernel) rfl (by decide +kernel) (by decide +kernel)) (by decide) (g := g__law_mix) (k := 0) (fun f cdv A outer s H G am hr =>
  (vss_cons (vs_set 3 ve_int am.n)
  (vss_cons (vs_if (vb_cmp (o_gt am) v_gt (ve_callB call_len l_len rfl T.m_len rfl (va_cons (ve_var 0) va_nil)) ve_int) (vss_one (vs_set 3 (ve_ix (ve_var 0) (ve_op op_mod v_mod (ve_callT call_int1 l_int rfl T.m_int rfl (va_cons (ve_var 1) va_nil)) (ve_callB call_len l_len rfl T.m_len rfl (va_cons (ve_var 0) va_nil)))) am.n)) vss_nil)
  (vss_cons (vs_if (vb_cmp (o_lt am) v_lt (ve_var 1) (ve_callB call_len l_len rfl T.m_len rfl (va_cons (ve_var 0) va_nil))) (vss_one (vs_ret (ve_op op_mod v_mod (ve_callT call_int1 l_int rfl T.m_int rfl (va_cons (ve_var 3) va_nil)) (ve_var 2)))) vss_nil)
  (vss_one (vs_ret (ve_op op_mod v_mod (ve_callT call_int1 l_int rfl T.m_int rfl (va_cons (ve_op op_fdiv v_div (ve_callT call_int1 l_int rfl T.m_int rfl (va_cons (ve_op o_add v_add (ve_op o_mul v_mul (ve_var 3) ve_int) (ve_op o_mul v_mul (ve_var 1) ve_int)) va_nil)) ve_int) va_nil)) (ve_var 2))))))))
theorem ok__law_corners (T : Tx K mg ) (d : Def K mg "_law_corners" (top 49) ["draws", "k", "many", "wide"]) (c__law_mix : Cal P w K mg base 1 "_law_mix" ["draws", "k", "many"] (spD K mg fn__law_mix)) : Cal P w K mg base 2 "_law_corners" ["draws", "k", "many", "wide"] (spN K mg fn__law_corners) :=
  d.d0N (N := ["draws", "k", "many", "wide", "found", "t"]) (fs rfl rfl rfl (by decide +kernel) rfl (by decide +kernel) (by decide +kernel)) (by decide) (g := g__law_corners) (k := 1) (fun f cdv A outer s H G am hr =>
  (vss_cons (vs_setN 4 (vn_lst (va_cons ve_int va_nil)) am.n)
  (vss_cons (vs_for PassesOwn.never am.c (vi_range1 rfl T.m_range (va_cons (ve_calC c__law_mix am hr (va_cons (ve_var 0) (va_cons (ve_var 1) (va_cons (ve_var 2) va_nil)))) va_nil)) (pg_nm 5 am.n) (vss_one (vs_append 4 (ve_op o_add v_add (ve_op o_add v_add (ve_ixO 4 (ve_un un_neg v_neg ve_int)) ve_int) (ve_calC c__law_mix am hr (va_cons (ve_var 0) (va_cons (ve_op o_add v_add (ve_op o_add v_add (ve_var 1) ve_int) (ve_var 5)) (va_cons (ve_var 3) va_nil))))))))
  (vss_one (vs_retO 4)))))
theorem ok_law (T : Tx K mg) {f : Addr} {fd : FuncData} (F : Fun K "law" "law" (top 50) f fd) (c__law_draws : Cal P w K mg base 1 "_law_draws" ["script"] (spScr K mg fn__law_draws)) (c__law_mix : Cal P w K mg base 1 "_law_mix" ["draws", "k", "many"] (spD K mg fn__law_mix)) (c__law_corners : Cal P w K mg base 2 "_law_corners" ["draws", "k", "many", "wide"] (spN K mg fn__law_corners)) (c_echoes : Cal P w K mg base 2 "echoes" ["corners"] (spN K mg fn_echoes)) (c_does_meet : Cal P w K mg base 2 "does_meet" ["corners", "told"] (spD K mg fn_does_meet)) (c_ear : Cal P w K mg base 2 "ear" ["corners", "k"] (spD K mg fn_ear)) (c_mirrored : Cal P w K mg base 2 "mirrored" ["corners"] (spN K mg fn_mirrored)) (c_answers : Cal P w K mg base 11 "answers" ["told"] (spN K mg fn_answers)) (c_time : Cal P w K mg base 4 "time" ["ways", "bound", "walk", "stop"] (spD K mg fn_time)) (c_worst : Cal P w K mg base 3 "worst" ["ways", "bound", "walk"] (spD K mg fn_worst)) (c_is_whole : Cal P w K mg base 3 "is_whole" ["ways", "bound", "walk"] (spD K mg fn_is_whole)) (c_length : Cal P w K mg base 3 "length" ["ways", "bound", "walk"] (spD K mg fn_length)) (plain : ∀ ns : List Int, ns.length ≤ 63 → isTrueOut (g_law (envS 14 ns)) = true) : FnG P w K mg base CX0 12 f fd ["script"] (spLaw K) :=
  defLaw (N := ["script", "draws", "turn", "corners", "wide", "place", "more", "ways", "bound", "way", "walk", "far", "number", "stop"]) F (fs rfl rfl rfl (by decide +kernel) rfl (by decide +kernel) (by decide +kernel)) (by decide) (g := g_law) (k := 11) (fun cdv A outer s H G am hr =>
  (vss_cons (vs_set 1 (VN.ve (vn_calS 0 c__law_draws am hr)) am.n)
  (vss_cons (vs_for PassesOwn.never am.c (vi_range1 rfl T.m_range (va_cons ve_int va_nil)) (pg_nm 2 am.n) (vss_cons (vs_set 3 (VN.ve (vn_calC c__law_corners am hr (va_cons (ve_var 1) (va_cons (ve_op o_add v_add ve_int (ve_op o_mul v_mul ve_int (ve_var 2))) (va_cons ve_int (va_cons (ve_ix (ve_lst (va_cons ve_int (va_cons ve_int va_nil))) (ve_calC c__law_mix am hr (va_cons (ve_var 1) (va_cons (ve_var 2) (va_cons ve_int va_nil))))) va_nil)))))) am.n)
  (vss_cons (vs_set 4 (ve_op o_add v_add (ve_var 3) (ve_lst (va_cons (ve_op o_add v_add (ve_op o_add v_add (ve_ix (ve_var 3) (ve_un un_neg v_neg ve_int)) ve_int) (ve_calC c__law_mix am hr (va_cons (ve_var 1) (va_cons (ve_op o_add v_add ve_int (ve_var 2)) (va_cons ve_int va_nil))))) va_nil))) am.n)
  (vss_cons (vs_lcF (own := [("place", 5)]) 6 am (vi_seq (ve_var 3)) (blkOk_by rfl) (fun _ _ _ _ _ => (pg_nm 5 am.blk.n)) (fun _ _ _ _ _ => vt_nil) (fun _ _ _ _ _ => (ve_op op_sub v_sub (ve_ix (ve_var 4) (ve_un un_neg v_neg ve_int)) (ve_var 5))) (by decide))
  (vss_cons (vs_if (vb_w (vw_or (vb_cmp (o_ne am) v_ne (VN.ve (vn_calC c_echoes am hr (va_cons (ve_var 4) va_nil))) (VN.ve (vn_callB (call_sortedD am) l_sortedN rfl T.m_sorted rfl (va_cons (ve_op o_add v_add (VN.ve (vn_calC c_echoes am hr (va_cons (ve_var 3) va_nil))) (ve_var 6)) va_nil)))) (vw_or (vb_cmp o_isNot v_isNot (ve_calC c_does_meet am hr (va_cons (ve_var 4) (va_cons (VN.ve (vn_calC c_echoes am hr (va_cons (ve_var 4) va_nil))) va_nil))) ve_bl) (vw_or1 (vb_cmp (o_ne am) v_ne (ve_calC c_ear am hr (va_cons (ve_var 4) (va_cons (ve_callB call_len l_len rfl T.m_len rfl (va_cons (ve_var 3) va_nil)) va_nil))) (ve_sortSet am rfl T.m_sorted rfl T.m_set (ve_var 6))))))) (vss_one (vs_ret ve_bl)) vss_nil)
  (vss_cons (vs_if (vb_w (vw_or (vb_cmp (o_ne am) v_ne (ve_op o_add v_add (ve_lst (va_cons ve_int va_nil)) (ve_calC c_ear am hr (va_cons (ve_var 3) (va_cons ve_int va_nil)))) (ve_var 3)) (vw_or1 (vb_cmp (o_notIn am) v_notIn (VN.ve (vn_calC c_mirrored am hr (va_cons (ve_var 4) va_nil))) (VN.ve (vn_calC c_answers am hr (va_cons (VN.ve (vn_calC c_echoes am hr (va_cons (ve_var 4) va_nil))) va_nil))))))) (vss_one (vs_ret ve_bl)) vss_nil)
  (vss_cons (vs_parC 7 8 am (vm_s (ve_op o_add v_add ve_int (ve_calC c__law_mix am hr (va_cons (ve_var 1) (va_cons (ve_op o_add v_add ve_int (ve_var 2)) (va_cons ve_int va_nil)))))) (vm_s (ve_op o_add v_add ve_int (ve_calC c__law_mix am hr (va_cons (ve_var 1) (va_cons (ve_op o_add v_add ve_int (ve_var 2)) (va_cons ve_int va_nil)))))))
  (vss_cons (vs_lcF (own := [("way", 9)]) 10 am (vi_range1 rfl T.m_range (va_cons (ve_var 7) va_nil)) (blkOk_by rfl) (fun _ _ _ _ _ => (pg_nm 9 am.blk.n)) (fun _ _ _ _ _ => vt_nil) (fun _ _ _ _ _ => (ve_tup (va_cons (ve_var 9) (va_cons (ve_var 8) va_nil)))) (by decide))
  (vss_cons (vs_for PassesOwn.never am.c (vi_range1 rfl T.m_range (va_cons (ve_var 7) va_nil)) (pg_nm 9 am.n) (vss_one (vs_for PassesOwn.never am.c (vi_range2 rfl T.m_range (va_cons ve_int (va_cons (ve_op o_add v_add (ve_var 8) ve_int) va_nil))) (pg_nm 11 am.n) (vss_one (vs_if (vb_cmp (o_ne am) v_ne (ve_calC c_time am hr (va_cons (ve_var 7) (va_cons (ve_var 8) (va_cons (ve_var 10) (va_cons (ve_tup (va_cons (ve_var 9) (va_cons (ve_var 11) va_nil))) va_nil))))) (ve_op o_add v_add (ve_op o_mul v_mul (ve_op o_mul v_mul ve_int (ve_var 9)) (ve_var 8)) (ve_var 11))) (vss_one (vs_ret ve_bl)) vss_nil)))))
  (vss_cons (vs_asg (ve_calC c_worst am hr (va_cons (ve_var 7) (va_cons (ve_var 8) (va_cons (ve_var 10) va_nil)))) (pg_tp am.c (pns_cons 12 (pns_cons 13 pns_nil am.n) am.n)))
  (vss_one (vs_if (vb_w (vw_or (vb_cmp o_isNot v_isNot (ve_calC c_is_whole am hr (va_cons (ve_var 7) (va_cons (ve_var 8) (va_cons (ve_var 10) va_nil)))) ve_bl) (vw_or (vb_cmp (o_ne am) v_ne (ve_var 12) (ve_tup (va_cons (ve_op o_add v_add (ve_op o_mul v_mul (ve_op o_mul v_mul ve_int (ve_op op_sub v_sub (ve_var 7) ve_int)) (ve_var 8)) ve_int) (va_cons ve_int va_nil)))) (vw_or (vb_cmp (o_ne am) v_ne (ve_var 13) (ve_tup (va_cons (ve_op op_sub v_sub (ve_var 7) ve_int) (va_cons ve_int va_nil)))) (vw_or1 (vb_cmp (o_ne am) v_ne (ve_calC c_length am hr (va_cons (ve_var 7) (va_cons (ve_var 8) (va_cons (ve_var 10) va_nil)))) (ve_op o_mul v_mul (ve_op o_mul v_mul ve_int (ve_var 7)) (ve_var 8)))))))) (vss_one (vs_ret ve_bl)) vss_nil))))))))))))
  (vss_one (vs_ret ve_bl))))) plain
theorem all_ok (T : Tx K mg) (d_fraction : Def K mg "fraction" (top 10) ["number", "by"]) (d_is_less : Def K mg "is_less" (top 11) ["one", "two"]) (d_check_size : Def K mg "check_size" (top 16) ["ways", "bound"]) (d_is_stop : Def K mg "is_stop" (top 17) ["ways", "bound", "stop"]) (d_check_walk : Def K mg "check_walk" (top 18) ["ways", "bound", "walk"]) (d_check_stop : Def K mg "check_stop" (top 19) ["ways", "bound", "walk", "stop"]) (d_time_of : Def K mg "time_of" (top 20) ["walk", "stop"]) (d_time : Def K mg "time" (top 21) ["ways", "bound", "walk", "stop"]) (d_stops_of : Def K mg "stops_of" (top 22) ["ways", "bound"]) (d_is_whole_of : Def K mg "is_whole_of" (top 23) ["ways", "bound", "walk"]) (d_is_whole : Def K mg "is_whole" (top 24) ["ways", "bound", "walk"]) (d_worst_of : Def K mg "worst_of" (top 25) ["ways", "bound", "walk"]) (d_worst : Def K mg "worst" (top 26) ["ways", "bound", "walk"]) (d_length : Def K mg "length" (top 27) ["ways", "bound", "walk"]) (d_check_corners : Def K mg "check_corners" (top 32) ["corners"]) (d_check_echoes : Def K mg "check_echoes" (top 33) ["told"]) (d_echoes_of : Def K mg "echoes_of" (top 34) ["corners"]) (d_echoes : Def K mg "echoes" (top 35) ["corners"]) (d_mirrored_of : Def K mg "mirrored_of" (top 36) ["corners"]) (d_mirrored : Def K mg "mirrored" (top 37) ["corners"]) (d_ear : Def K mg "ear" (top 38) ["corners", "k"]) (d_does_meet : Def K mg "does_meet" (top 39) ["corners", "told"]) (d_without : Def K mg "without" (top 41) ["told", "some"]) (d_gone_on : Def K mg "gone_on" (top 42) ["corners", "rest"]) (d_unlike : Def K mg "unlike" (top 43) ["rows"]) (d_answers_of : Def K mg "answers_of" (top 44) ["told"]) (d_answers : Def K mg "answers" (top 45) ["told"]) (d__law_draws : Def K mg "_law_draws" (top 47) ["script"]) (d__law_mix : Def K mg "_law_mix" (top 48) ["draws", "k", "many"]) (d__law_corners : Def K mg "_law_corners" (top 49) ["draws", "k", "many", "wide"]) (d_law : Def K mg "law" (top 50) ["script"]) (plain : ∀ ns : List Int, ns.length ≤ 63 → isTrueOut (g_law (envS 14 ns)) = true) {f : Addr} {fd : FuncData} (F : Fun K "law" "law" (top 50) f fd) : FnG P w K mg base CX0 12 f fd ["script"] (spLaw K) := by
  have c_fraction : Cal P w K mg base 1 "fraction" ["number", "by"] (spD K mg fn_fraction) := ok_fraction T d_fraction 
  have c_is_less : Cal P w K mg base 1 "is_less" ["one", "two"] (spD K mg fn_is_less) := ok_is_less T d_is_less 
  have c_check_size : Cal P w K mg base 1 "check_size" ["ways", "bound"] (spD K mg fn_check_size) := ok_check_size T d_check_size 
  have c_is_stop : Cal P w K mg base 1 "is_stop" ["ways", "bound", "stop"] (spD K mg fn_is_stop) := ok_is_stop T d_is_stop 
  have c_check_walk : Cal P w K mg base 2 "check_walk" ["ways", "bound", "walk"] (spD K mg fn_check_walk) := ok_check_walk T d_check_walk c_check_size c_is_stop
  have c_check_stop : Cal P w K mg base 3 "check_stop" ["ways", "bound", "walk", "stop"] (spD K mg fn_check_stop) := ok_check_stop T d_check_stop c_check_walk c_is_stop
  have c_time_of : Cal P w K mg base 1 "time_of" ["walk", "stop"] (spD K mg fn_time_of) := ok_time_of T d_time_of 
  have c_time : Cal P w K mg base 4 "time" ["ways", "bound", "walk", "stop"] (spD K mg fn_time) := ok_time T d_time c_check_stop c_time_of
  have c_stops_of : Cal P w K mg base 1 "stops_of" ["ways", "bound"] (spN K mg fn_stops_of) := ok_stops_of T d_stops_of 
  have c_is_whole_of : Cal P w K mg base 1 "is_whole_of" ["ways", "bound", "walk"] (spD K mg fn_is_whole_of) := ok_is_whole_of T d_is_whole_of 
  have c_is_whole : Cal P w K mg base 3 "is_whole" ["ways", "bound", "walk"] (spD K mg fn_is_whole) := ok_is_whole T d_is_whole c_check_walk c_is_whole_of
  have c_worst_of : Cal P w K mg base 2 "worst_of" ["ways", "bound", "walk"] (spD K mg fn_worst_of) := ok_worst_of T d_worst_of c_is_whole_of c_stops_of c_fraction c_time_of c_is_less
  have c_worst : Cal P w K mg base 3 "worst" ["ways", "bound", "walk"] (spD K mg fn_worst) := ok_worst T d_worst c_check_walk c_worst_of
  have c_length : Cal P w K mg base 3 "length" ["ways", "bound", "walk"] (spD K mg fn_length) := ok_length T d_length c_check_walk
  have c_check_corners : Cal P w K mg base 1 "check_corners" ["corners"] (spD K mg fn_check_corners) := ok_check_corners T d_check_corners 
  have c_check_echoes : Cal P w K mg base 1 "check_echoes" ["told"] (spD K mg fn_check_echoes) := ok_check_echoes T d_check_echoes 
  have c_echoes_of : Cal P w K mg base 1 "echoes_of" ["corners"] (spN K mg fn_echoes_of) := ok_echoes_of T d_echoes_of 
  have c_echoes : Cal P w K mg base 2 "echoes" ["corners"] (spN K mg fn_echoes) := ok_echoes T d_echoes c_check_corners c_echoes_of
  have c_mirrored_of : Cal P w K mg base 1 "mirrored_of" ["corners"] (spN K mg fn_mirrored_of) := ok_mirrored_of T d_mirrored_of 
  have c_mirrored : Cal P w K mg base 2 "mirrored" ["corners"] (spN K mg fn_mirrored) := ok_mirrored T d_mirrored c_check_corners c_mirrored_of
  have c_ear : Cal P w K mg base 2 "ear" ["corners", "k"] (spD K mg fn_ear) := ok_ear T d_ear c_check_corners
  have c_does_meet : Cal P w K mg base 2 "does_meet" ["corners", "told"] (spD K mg fn_does_meet) := ok_does_meet T d_does_meet c_check_corners c_check_echoes c_echoes_of
  have c_without : Cal P w K mg base 1 "without" ["told", "some"] (spD K mg fn_without) := ok_without T d_without 
  have c_gone_on : Cal P w K mg base 9 "gone_on" ["corners", "rest"] (spN K mg fn_gone_on) := ok_gone_on T d_gone_on c_without
  have c_unlike : Cal P w K mg base 1 "unlike" ["rows"] (spN K mg fn_unlike) := ok_unlike T d_unlike 
  have c_answers_of : Cal P w K mg base 10 "answers_of" ["told"] (spN K mg fn_answers_of) := ok_answers_of T d_answers_of c_gone_on c_unlike
  have c_answers : Cal P w K mg base 11 "answers" ["told"] (spN K mg fn_answers) := ok_answers T d_answers c_check_echoes c_answers_of
  have c__law_draws : Cal P w K mg base 1 "_law_draws" ["script"] (spScr K mg fn__law_draws) := ok__law_draws T d__law_draws 
  have c__law_mix : Cal P w K mg base 1 "_law_mix" ["draws", "k", "many"] (spD K mg fn__law_mix) := ok__law_mix T d__law_mix 
  have c__law_corners : Cal P w K mg base 2 "_law_corners" ["draws", "k", "many", "wide"] (spN K mg fn__law_corners) := ok__law_corners T d__law_corners c__law_mix
  exact ok_law T F c__law_draws c__law_mix c__law_corners c_echoes c_does_meet c_ear c_mirrored c_answers c_time c_worst c_is_whole c_length plain
end
theorem top_mk {P : Program} {w : World} {K : PySem.W.Frag} {mg : Str → Option Value} {fa : Addr} (hfa : mg "law" = some (.ref fa))
    (d_fraction : Def K mg "fraction" (top 10) ["number", "by"]) (d_is_less : Def K mg "is_less" (top 11) ["one", "two"]) (d_check_size : Def K mg "check_size" (top 16) ["ways", "bound"]) (d_is_stop : Def K mg "is_stop" (top 17) ["ways", "bound", "stop"]) (d_check_walk : Def K mg "check_walk" (top 18) ["ways", "bound", "walk"]) (d_check_stop : Def K mg "check_stop" (top 19) ["ways", "bound", "walk", "stop"]) (d_time_of : Def K mg "time_of" (top 20) ["walk", "stop"]) (d_time : Def K mg "time" (top 21) ["ways", "bound", "walk", "stop"]) (d_stops_of : Def K mg "stops_of" (top 22) ["ways", "bound"]) (d_is_whole_of : Def K mg "is_whole_of" (top 23) ["ways", "bound", "walk"]) (d_is_whole : Def K mg "is_whole" (top 24) ["ways", "bound", "walk"]) (d_worst_of : Def K mg "worst_of" (top 25) ["ways", "bound", "walk"]) (d_worst : Def K mg "worst" (top 26) ["ways", "bound", "walk"]) (d_length : Def K mg "length" (top 27) ["ways", "bound", "walk"]) (d_check_corners : Def K mg "check_corners" (top 32) ["corners"]) (d_check_echoes : Def K mg "check_echoes" (top 33) ["told"]) (d_echoes_of : Def K mg "echoes_of" (top 34) ["corners"]) (d_echoes : Def K mg "echoes" (top 35) ["corners"]) (d_mirrored_of : Def K mg "mirrored_of" (top 36) ["corners"]) (d_mirrored : Def K mg "mirrored" (top 37) ["corners"]) (d_ear : Def K mg "ear" (top 38) ["corners", "k"]) (d_does_meet : Def K mg "does_meet" (top 39) ["corners", "told"]) (d_without : Def K mg "without" (top 41) ["told", "some"]) (d_gone_on : Def K mg "gone_on" (top 42) ["corners", "rest"]) (d_unlike : Def K mg "unlike" (top 43) ["rows"]) (d_answers_of : Def K mg "answers_of" (top 44) ["told"]) (d_answers : Def K mg "answers" (top 45) ["told"]) (d__law_draws : Def K mg "_law_draws" (top 47) ["script"]) (d__law_mix : Def K mg "_law_mix" (top 48) ["draws", "k", "many"]) (d__law_corners : Def K mg "_law_corners" (top 49) ["draws", "k", "many", "wide"]) (d_law : Def K mg "law" (top 50) ["script"])
    (m_abs : mg "abs" = none) (m_all : mg "all" = none) (m_enumerate : mg "enumerate" = none) (m_int : mg "int" = none) (m_len : mg "len" = none) (m_list : mg "list" = none) (m_max : mg "max" = none) (m_min : mg "min" = none) (m_range : mg "range" = none) (m_set : mg "set" = none) (m_sorted : mg "sorted" = none) (m_sum : mg "sum" = none) (b_gcd : mg "gcd" = some (.builtin "math.gcd")) (r_LEAST_WAYS : GlobV K mg "LEAST_WAYS" gd_LEAST_WAYS) (r_MOST_BOUND : GlobV K mg "MOST_BOUND" gd_MOST_BOUND) (r_MOST_CORNERS : GlobV K mg "MOST_CORNERS" gd_MOST_CORNERS) (r_MOST_PLACE : GlobV K mg "MOST_PLACE" gd_MOST_PLACE) (r_MOST_WAYS : GlobV K mg "MOST_WAYS" gd_MOST_WAYS) (r_SIZES : GlobV K mg "SIZES" gd_SIZES)
    (plain : ∀ ns : List Int, ns.length ≤ 63 → isTrueOut (g_law (envS 14 ns)) = true) :
    ∃ fd : FuncData, (∀ (s : Shared) (v : Value), BindsTo s fd ⟨[v], []⟩ [("script", v)]) ∧ ∀ base : Heap, K.In base → base.Ns mainGlobals mg → FnG P w K mg base CX0 12 fa fd ["script"] (spLaw K) :=
  lawHead d_law hfa fun f fd base F => all_ok ⟨m_abs, m_all, m_enumerate, m_int, m_len, m_list, m_max, m_min, m_range, m_set, m_sorted, m_sum, b_gcd, r_LEAST_WAYS, r_MOST_BOUND, r_MOST_CORNERS, r_MOST_PLACE, r_MOST_WAYS, r_SIZES⟩ d_fraction d_is_less d_check_size d_is_stop d_check_walk d_check_stop d_time_of d_time d_stops_of d_is_whole_of d_is_whole d_worst_of d_worst d_length d_check_corners d_check_echoes d_echoes_of d_echoes d_mirrored_of d_mirrored d_ear d_does_meet d_without d_gone_on d_unlike d_answers_of d_answers d__law_draws d__law_mix d__law_corners d_law plain F
end k97
open PySem PySem.W PyProof.Rows
set_option maxRecDepth 100000 in
set_option maxHeartbeats 0 in
theorem PySem.Challenge.cw_hiddenandsought_k97_whole_echoes_of_walk_holds : PySem.Challenge.rw_hiddenandsought_k97_whole_echoes_of_walk.Holds := by
  w_on; o_law; k_head; (case hw => w_witness2)
  k_fill
  refine PD.walkG (l := PySem.Challenge.rw_hiddenandsought_k97_whole_echoes_of_walk) (k := 12) rfl rfl ⟨rfl, by decide, by decide⟩ (fun w h Y => PySem.W.kIn_of Y) ?F
  case F =>
    intro w mg fa h KX G hmg
    refine' k97.top_mk hmg ?d_fraction ?d_is_less ?d_check_size ?d_is_stop ?d_check_walk ?d_check_stop ?d_time_of ?d_time ?d_stops_of ?d_is_whole_of ?d_is_whole ?d_worst_of ?d_worst ?d_length ?d_check_corners ?d_check_echoes ?d_echoes_of ?d_echoes ?d_mirrored_of ?d_mirrored ?d_ear ?d_does_meet ?d_without ?d_gone_on ?d_unlike ?d_answers_of ?d_answers ?d__law_draws ?d__law_mix ?d__law_corners ?d_law ?m_abs ?m_all ?m_enumerate ?m_int ?m_len ?m_list ?m_max ?m_min ?m_range ?m_set ?m_sorted ?m_sum ?b_gcd ?r_LEAST_WAYS ?r_MOST_BOUND ?r_MOST_CORNERS ?r_MOST_PLACE ?r_MOST_WAYS ?r_SIZES k97.plain
    case d_fraction => (refine' PD.Def.mk' KX G ?a ?l ?c ?k (fun us hl => match us, hl with | [_, _], _ => rfl)); (case a => k_is); (case l => k_is); (case c => k_is); (case k => k_is)
    case d_is_less => (refine' PD.Def.mk' KX G ?a ?l ?c ?k (fun us hl => match us, hl with | [_, _], _ => rfl)); (case a => k_is); (case l => k_is); (case c => k_is); (case k => k_is)
    case d_check_size => (refine' PD.Def.mk' KX G ?a ?l ?c ?k (fun us hl => match us, hl with | [_, _], _ => rfl)); (case a => k_is); (case l => k_is); (case c => k_is); (case k => k_is)
    case d_is_stop => (refine' PD.Def.mk' KX G ?a ?l ?c ?k (fun us hl => match us, hl with | [_, _, _], _ => rfl)); (case a => k_is); (case l => k_is); (case c => k_is); (case k => k_is)
    case d_check_walk => (refine' PD.Def.mk' KX G ?a ?l ?c ?k (fun us hl => match us, hl with | [_, _, _], _ => rfl)); (case a => k_is); (case l => k_is); (case c => k_is); (case k => k_is)
    case d_check_stop => (refine' PD.Def.mk' KX G ?a ?l ?c ?k (fun us hl => match us, hl with | [_, _, _, _], _ => rfl)); (case a => k_is); (case l => k_is); (case c => k_is); (case k => k_is)
    case d_time_of => (refine' PD.Def.mk' KX G ?a ?l ?c ?k (fun us hl => match us, hl with | [_, _], _ => rfl)); (case a => k_is); (case l => k_is); (case c => k_is); (case k => k_is)
    case d_time => (refine' PD.Def.mk' KX G ?a ?l ?c ?k (fun us hl => match us, hl with | [_, _, _, _], _ => rfl)); (case a => k_is); (case l => k_is); (case c => k_is); (case k => k_is)
    case d_stops_of => (refine' PD.Def.mk' KX G ?a ?l ?c ?k (fun us hl => match us, hl with | [_, _], _ => rfl)); (case a => k_is); (case l => k_is); (case c => k_is); (case k => k_is)
    case d_is_whole_of => (refine' PD.Def.mk' KX G ?a ?l ?c ?k (fun us hl => match us, hl with | [_, _, _], _ => rfl)); (case a => k_is); (case l => k_is); (case c => k_is); (case k => k_is)
    case d_is_whole => (refine' PD.Def.mk' KX G ?a ?l ?c ?k (fun us hl => match us, hl with | [_, _, _], _ => rfl)); (case a => k_is); (case l => k_is); (case c => k_is); (case k => k_is)
    case d_worst_of => (refine' PD.Def.mk' KX G ?a ?l ?c ?k (fun us hl => match us, hl with | [_, _, _], _ => rfl)); (case a => k_is); (case l => k_is); (case c => k_is); (case k => k_is)
    case d_worst => (refine' PD.Def.mk' KX G ?a ?l ?c ?k (fun us hl => match us, hl with | [_, _, _], _ => rfl)); (case a => k_is); (case l => k_is); (case c => k_is); (case k => k_is)
    case d_length => (refine' PD.Def.mk' KX G ?a ?l ?c ?k (fun us hl => match us, hl with | [_, _, _], _ => rfl)); (case a => k_is); (case l => k_is); (case c => k_is); (case k => k_is)
    case d_check_corners => (refine' PD.Def.mk' KX G ?a ?l ?c ?k (fun us hl => match us, hl with | [_], _ => rfl)); (case a => k_is); (case l => k_is); (case c => k_is); (case k => k_is)
    case d_check_echoes => (refine' PD.Def.mk' KX G ?a ?l ?c ?k (fun us hl => match us, hl with | [_], _ => rfl)); (case a => k_is); (case l => k_is); (case c => k_is); (case k => k_is)
    case d_echoes_of => (refine' PD.Def.mk' KX G ?a ?l ?c ?k (fun us hl => match us, hl with | [_], _ => rfl)); (case a => k_is); (case l => k_is); (case c => k_is); (case k => k_is)
    case d_echoes => (refine' PD.Def.mk' KX G ?a ?l ?c ?k (fun us hl => match us, hl with | [_], _ => rfl)); (case a => k_is); (case l => k_is); (case c => k_is); (case k => k_is)
    case d_mirrored_of => (refine' PD.Def.mk' KX G ?a ?l ?c ?k (fun us hl => match us, hl with | [_], _ => rfl)); (case a => k_is); (case l => k_is); (case c => k_is); (case k => k_is)
    case d_mirrored => (refine' PD.Def.mk' KX G ?a ?l ?c ?k (fun us hl => match us, hl with | [_], _ => rfl)); (case a => k_is); (case l => k_is); (case c => k_is); (case k => k_is)
    case d_ear => (refine' PD.Def.mk' KX G ?a ?l ?c ?k (fun us hl => match us, hl with | [_, _], _ => rfl)); (case a => k_is); (case l => k_is); (case c => k_is); (case k => k_is)
    case d_does_meet => (refine' PD.Def.mk' KX G ?a ?l ?c ?k (fun us hl => match us, hl with | [_, _], _ => rfl)); (case a => k_is); (case l => k_is); (case c => k_is); (case k => k_is)
    case d_without => (refine' PD.Def.mk' KX G ?a ?l ?c ?k (fun us hl => match us, hl with | [_, _], _ => rfl)); (case a => k_is); (case l => k_is); (case c => k_is); (case k => k_is)
    case d_gone_on => (refine' PD.Def.mk' KX G ?a ?l ?c ?k (fun us hl => match us, hl with | [_, _], _ => rfl)); (case a => k_is); (case l => k_is); (case c => k_is); (case k => k_is)
    case d_unlike => (refine' PD.Def.mk' KX G ?a ?l ?c ?k (fun us hl => match us, hl with | [_], _ => rfl)); (case a => k_is); (case l => k_is); (case c => k_is); (case k => k_is)
    case d_answers_of => (refine' PD.Def.mk' KX G ?a ?l ?c ?k (fun us hl => match us, hl with | [_], _ => rfl)); (case a => k_is); (case l => k_is); (case c => k_is); (case k => k_is)
    case d_answers => (refine' PD.Def.mk' KX G ?a ?l ?c ?k (fun us hl => match us, hl with | [_], _ => rfl)); (case a => k_is); (case l => k_is); (case c => k_is); (case k => k_is)
    case d__law_draws => (refine' PD.Def.mk' KX G ?a ?l ?c ?k (fun us hl => match us, hl with | [_], _ => rfl)); (case a => k_is); (case l => k_is); (case c => k_is); (case k => k_is)
    case d__law_mix => (refine' PD.Def.mk' KX G ?a ?l ?c ?k (fun us hl => match us, hl with | [_, _, _], _ => rfl)); (case a => k_is); (case l => k_is); (case c => k_is); (case k => k_is)
    case d__law_corners => (refine' PD.Def.mk' KX G ?a ?l ?c ?k (fun us hl => match us, hl with | [_, _, _, _], _ => rfl)); (case a => k_is); (case l => k_is); (case c => k_is); (case k => k_is)
    case d_law => (refine' PD.Def.mk' KX G ?a ?l ?c ?k (fun us hl => match us, hl with | [_], _ => rfl)); (case a => k_is); (case l => k_is); (case c => k_is); (case k => k_is)
    case m_abs => (refine' PySem.W.mg_none_of KX G ?a); (case a => k_is)
    case m_all => (refine' PySem.W.mg_none_of KX G ?a); (case a => k_is)
    case m_enumerate => (refine' PySem.W.mg_none_of KX G ?a); (case a => k_is)
    case m_int => (refine' PySem.W.mg_none_of KX G ?a); (case a => k_is)
    case m_len => (refine' PySem.W.mg_none_of KX G ?a); (case a => k_is)
    case m_list => (refine' PySem.W.mg_none_of KX G ?a); (case a => k_is)
    case m_max => (refine' PySem.W.mg_none_of KX G ?a); (case a => k_is)
    case m_min => (refine' PySem.W.mg_none_of KX G ?a); (case a => k_is)
    case m_range => (refine' PySem.W.mg_none_of KX G ?a); (case a => k_is)
    case m_set => (refine' PySem.W.mg_none_of KX G ?a); (case a => k_is)
    case m_sorted => (refine' PySem.W.mg_none_of KX G ?a); (case a => k_is)
    case m_sum => (refine' PySem.W.mg_none_of KX G ?a); (case a => k_is)
    case b_gcd => (refine' PySem.W.mg_of KX G ?a); (case a => k_is)
    case r_LEAST_WAYS => (refine' PD.GlobV.int KX G ?a); (case a => k_is)
    case r_MOST_BOUND => (refine' PD.GlobV.int KX G ?a); (case a => k_is)
    case r_MOST_CORNERS => (refine' PD.GlobV.int KX G ?a); (case a => k_is)
    case r_MOST_PLACE => (refine' PD.GlobV.int KX G ?a); (case a => k_is)
    case r_MOST_WAYS => (refine' PD.GlobV.int KX G ?a); (case a => k_is)
    case r_SIZES => (refine' PD.GlobV.tup (vs := [.int 0, .int 1, .int 3, .int 6, .int 10, .int 15, .int 21]) KX G ?a ?l ?v (by decide) (fun _ => (.cons (.int _) (.cons (.int _) (.cons (.int _) (.cons (.int _) (.cons (.int _) (.cons (.int _) (.cons (.int _) .nil))))))))); (case a => k_is); (case l => k_is); (case v => exact (.cons ⟨_, rfl⟩ (.cons ⟨_, rfl⟩ (.cons ⟨_, rfl⟩ (.cons ⟨_, rfl⟩ (.cons ⟨_, rfl⟩ (.cons ⟨_, rfl⟩ (.cons ⟨_, rfl⟩ .nil))))))))

