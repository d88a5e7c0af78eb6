import PyProof.Rows.All
import Wide.All
import OpenK.AllK
import Wide.FinOn
import HandS.ForMost
import HandS.TupAny
import HandS.TupMul
import HandS.Wide
import HandS.Style
import HandS.IsInst
import HandS.StrMore
import HandS.Conv
import HandS.Walk
import HandS.NoneIn
import HandS.Deep
import KE.KRevSl
import PyProof.ListStr
import HandS.Codes
import HandS.Defaults
import PySem.Challenge.RW_wholefree_k70_basic_commutators_in_their
set_option Elab.async false
set_option linter.all false
set_option maxRecDepth 100000
/-! Rf: values without addresses, a heap of lists and dicts, and what a text computes over them. -/
namespace Rf
open PySem PySem.Spec PyProof.Rows L2

/-- a value: texts by their signs, tuples as trees; lists and dicts at places of the small heap -/
inductive Va where
  | non | bl (b : Bool) | int (i : Int) | str (s : List Nat) | tup (xs : List Va) | ref (i : Nat) | fl (xs : List Va)

/-- a key of a dict -/
inductive Ke where
  | i (n : Int) | s (x : List Nat)
  deriving DecidableEq

def Ke.va : Ke → Va
  | .i n => .int n
  | .s x => .str x
def Ke.key : Ke → Key
  | .i n => .inl n
  | .s x => .inr ⟨x.toArray⟩
theorem Ke.key_inj : ∀ {a b : Ke}, a.key = b.key → a = b
  | .i _, .i _, h => by
    have := Sum.inl.inj h
    rw [this]
  | .s x, .s y, h => by
    have h1 := congrArg (fun z : Str => z.cps.toList) (Sum.inr.inj h)
    simp at h1
    rw [h1]
  | .i _, .s _, h => by cases h
  | .s _, .i _, h => by cases h

inductive Ob where
  | lst (xs : List Va)
  | dic (kvs : List (Ke × Va))
  | dlk (kvs : List (Ke × Va))
  | dit (kvs : List (List Ke × Va))
  | dtk (kvs : List (List Ke × Va))

structure Hea where
  n : Nat
  l : List Ob

def Hea.get (h : Hea) (i : Nat) : Option Ob := if i < h.n then h.l[h.n - 1 - i]? else none
def Hea.set (h : Hea) (i : Nat) (o : Ob) : Hea := ⟨h.n, h.l.set (h.n - 1 - i) o⟩
def Hea.push (h : Hea) (o : Ob) : Hea := ⟨h.n + 1, o :: h.l⟩

theorem Hea.get_lt {h : Hea} {i : Nat} {o : Ob} (e : h.get i = some o) : i < h.n := by
  unfold Hea.get at e
  split at e
  · assumption
  · cases e
theorem Hea.get_push_self (h : Hea) (o : Ob) : (h.push o).get h.n = some o := by
  unfold Hea.get Hea.push
  simp
theorem Hea.get_push_lt {h : Hea} {i : Nat} (o : Ob) (hi : i < h.n) : (h.push o).get i = h.get i := by
  unfold Hea.get Hea.push
  have e : h.n + 1 - 1 - i = (h.n - 1 - i) + 1 := by omega
  simp only [e, if_pos hi, if_pos (show i < h.n + 1 by omega), List.getElem?_cons_succ]
theorem Hea.get_push_of {h : Hea} {i : Nat} {o o' : Ob} (e : h.get i = some o') : (h.push o).get i = some o' := by
  rw [Hea.get_push_lt o (Hea.get_lt e)]; exact e
theorem Hea.get_push_inv {h : Hea} {i : Nat} {o o' : Ob} (e : (h.push o).get i = some o') : (i = h.n ∧ o' = o) ∨ h.get i = some o' := by
  by_cases hi : i < h.n
  · rw [Hea.get_push_lt o hi] at e; exact .inr e
  · have h1 : i < h.n + 1 := Hea.get_lt e
    have h2 : i = h.n := by omega
    subst h2
    rw [Hea.get_push_self] at e
    exact .inl ⟨rfl, (Option.some.inj e).symm⟩
theorem Hea.get_set_self {h : Hea} {i : Nat} {o o' : Ob} (e : h.get i = some o) : (h.set i o').get i = some o' := by
  have hi := Hea.get_lt e
  unfold Hea.get at e
  rw [if_pos hi] at e
  unfold Hea.get Hea.set
  simp only [if_pos hi]
  rw [List.getElem?_set_self (List.getElem?_eq_some_iff.mp e).1]
theorem Hea.get_set_ne {h : Hea} {i j : Nat} {o' : Ob} (hi : i < h.n) (hij : i ≠ j) : (h.set i o').get j = h.get j := by
  unfold Hea.get Hea.set
  simp only
  split
  · rw [List.getElem?_set_ne (by omega)]
  · rfl
theorem Hea.n_push (h : Hea) (o : Ob) : (h.push o).n = h.n + 1 := rfl
theorem Hea.n_set (h : Hea) (i : Nat) (o : Ob) : (h.set i o).n = h.n := rfl

/-- what a computation comes to: a value, an error (class, value), nothing that is told -/
inductive Rs (α : Type) where
  | ok (a : α) (h : Hea)
  | err (c : Nat) (v : Va) (h : Hea)
  | no
def Rs.bind {α β : Type} (r : Rs α) (f : α → Hea → Rs β) : Rs β := match r with
  | .ok a h => f a h
  | .err c v h => .err c v h
  | .no => .no

abbrev Lo := List (Option Va)
abbrev M (α : Type) := Hea → Rs α
abbrev Ex := Lo → M Va
abbrev Tx := Lo → M Bool
abbrev Ax := Lo → M (List Va)
inductive Ou where
  | nx (l : Lo) | rt (v : Va) | bk (l : Lo) | ct (l : Lo)
abbrev Sx := Lo → M Ou

/-! ### the ties -/
/-- a list that stands still: the script, a list of the module -/
def FzL (K : PySem.W.Frag) (H : Hp) (a : Addr) (us : List V) : Prop := (∃ o, H a = some (.frz o (.lst us))) ∨
  ∃ (o : Obj) (its : Array Value) (n : Nat), K.lookup a = some o ∧ o.cls = .type "list" ∧ o.dict = none ∧ o.data = .seq its n ∧ its.size ≤ sizeLine ∧ Vals us its.toList
theorem FzL.sq {K : PySem.W.Frag} {H : Hp} {a : Addr} {us : List V} (h : FzL K H a us) : SqL K H a us := by
  rcases h with ⟨o, h⟩ | h
  · exact .inl (.inr ⟨o, h⟩)
  · exact .inr h
section
variable (K : PySem.W.Frag) (ρ : List Addr) (H : Hp)
mutual
def RV : Va → V → Prop
  | .non, x => x = .non
  | .bl b, x => x = .bl b
  | .int i, x => x = .int i
  | .str s, x => x = .str ⟨s.toArray⟩
  | .tup xs, x => ∃ a us, x = .ref a ∧ SqT K H a us ∧ RVs xs us
  | .ref i, x => ∃ a, x = .ref a ∧ ρ[i]? = some a
  | .fl xs, x => ∃ a us, x = .ref a ∧ FzL K H a us ∧ RVs xs us
def RVs : List Va → List V → Prop
  | [], us => us = []
  | x :: xs, us => ∃ u r, us = u :: r ∧ RV x u ∧ RVs xs r
end
end

/-- tuples and the script stand as they stood; places are kept -/
structure Ext (K : PySem.W.Frag) (ρ : List Addr) (H : Hp) (ρ' : List Addr) (H' : Hp) : Prop where
  pre : ∃ more, ρ' = ρ ++ more
  tup : ∀ a us, SqT K H a us → SqT K H' a us
  fz : ∀ a o us, H a = some (.frz o (.lst us)) → H' a = some (.frz o (.lst us))
section
variable {K : PySem.W.Frag} {ρ ρ1 ρ2 ρ' : List Addr} {H H1 H2 H' : Hp}
theorem Ext.refl : Ext K ρ H ρ H := ⟨⟨[], by simp⟩, fun _ _ h => h, fun _ _ _ h => h⟩
theorem Ext.trans (a : Ext K ρ H ρ1 H1) (b : Ext K ρ1 H1 ρ2 H2) : Ext K ρ H ρ2 H2 := by
  obtain ⟨m1, e1⟩ := a.pre
  obtain ⟨m2, e2⟩ := b.pre
  refine ⟨⟨m1 ++ m2, by rw [e2, e1, List.append_assoc]⟩, fun x us h => b.tup _ _ (a.tup _ _ h), fun x o us h => b.fz _ _ _ (a.fz _ _ _ h)⟩
theorem Ext.at (a : Ext K ρ H ρ1 H1) {i : Nat} {p : Addr} (h : ρ[i]? = some p) : ρ1[i]? = some p := by
  obtain ⟨m, e⟩ := a.pre
  rw [e, List.getElem?_append_left (List.getElem?_eq_some_iff.mp h).1]
  exact h
theorem SqT.upd_none {a p : Addr} {us : List V} {o : HO} (h : SqT K H a us) (n : H p = none) : SqT K (upd H p o) a us := by
  rcases h with (h | ⟨ob, h⟩) | h
  · exact .inl (.inl (by rw [upd_ne (ne_of_none h n)]; exact h))
  · exact .inl (.inr ⟨ob, by rw [upd_ne (ne_of_none h n)]; exact h⟩)
  · exact .inr h
theorem SqT.upd_mut {a p : Addr} {us : List V} {o : HO} (h : SqT K H a us) (n : Mut (H p)) : SqT K (upd H p o) a us := by
  rcases h with (h | ⟨ob, h⟩) | h
  · exact .inl (.inl (by rw [upd_ne (fun e => by rw [← e, h] at n; exact n)]; exact h))
  · exact .inl (.inr ⟨ob, by rw [upd_ne (fun e => by rw [← e, h] at n; exact n)]; exact h⟩)
  · exact .inr h
theorem Ext.new {p : Addr} {o : HO} (n : H p = none) : Ext K ρ H ρ (upd H p o) :=
  ⟨⟨[], by simp⟩, fun _ _ h => SqT.upd_none h n, fun _ _ _ h => by rw [upd_ne (ne_of_none h n)]; exact h⟩
theorem Ext.newAt {p : Addr} {o : HO} (n : H p = none) : Ext K ρ H (ρ ++ [p]) (upd H p o) :=
  ⟨⟨[p], rfl⟩, fun _ _ h => SqT.upd_none h n, fun _ _ _ h => by rw [upd_ne (ne_of_none h n)]; exact h⟩
theorem Ext.write {p : Addr} {o : HO} (n : Mut (H p)) : Ext K ρ H ρ (upd H p o) :=
  ⟨⟨[], by simp⟩, fun _ _ h => SqT.upd_mut h n, fun _ _ _ h => by rw [upd_ne (fun e => by rw [← e, h] at n; exact n)]; exact h⟩

mutual
theorem RV.ext (e : Ext K ρ H ρ1 H1) : ∀ (a : Va) {u : V}, RV K ρ H a u → RV K ρ1 H1 a u
  | .non, _, h => h
  | .bl _, _, h => h
  | .int _, _, h => h
  | .str _, _, h => h
  | .tup xs, _, ⟨a, us, e1, q, r⟩ => ⟨a, us, e1, e.tup _ _ q, RVs.ext e xs r⟩
  | .ref _, _, ⟨a, e1, q⟩ => ⟨a, e1, e.at q⟩
  | .fl xs, _, ⟨a, us, e1, q, r⟩ => ⟨a, us, e1, q.elim (fun ⟨o, z⟩ => .inl ⟨o, e.fz _ _ _ z⟩) .inr, RVs.ext e xs r⟩
theorem RVs.ext (e : Ext K ρ H ρ1 H1) : ∀ (xs : List Va) {us : List V}, RVs K ρ H xs us → RVs K ρ1 H1 xs us
  | [], _, h => h
  | x :: xs, _, ⟨u, r, e1, q, s⟩ => ⟨u, r, e1, RV.ext e x q, RVs.ext e xs s⟩
end
theorem RVs.length : ∀ {xs : List Va} {us : List V}, RVs K ρ H xs us → xs.length = us.length
  | [], _, h => by cases h; rfl
  | _ :: _, _, ⟨_, _, e, _, s⟩ => by subst e; simp [RVs.length s]
theorem RVs.get : ∀ {xs : List Va} {us : List V} {i : Nat} {x : Va}, RVs K ρ H xs us → xs[i]? = some x → ∃ u, us[i]? = some u ∧ RV K ρ H x u
  | [], _, _, _, _, h => by simp at h
  | _ :: _, _, 0, _, ⟨u, r, e, q, s⟩, h => by
    subst e
    simp at h
    subst h
    exact ⟨u, rfl, q⟩
  | _ :: xs, _, i + 1, x, ⟨u, r, e, q, s⟩, h => by
    subst e
    obtain ⟨w, h1, h2⟩ := RVs.get (i := i) s (by simpa using h)
    exact ⟨w, by simpa using h1, h2⟩
theorem RVs.append : ∀ {xs ys : List Va} {us ws : List V}, RVs K ρ H xs us → RVs K ρ H ys ws → RVs K ρ H (xs ++ ys) (us ++ ws)
  | [], _, _, _, h, h2 => by cases h; exact h2
  | _ :: _, _, _, _, ⟨u, r, e, q, s⟩, h2 => by
    subst e
    exact ⟨u, _, rfl, q, RVs.append s h2⟩
theorem RVs.one {x : Va} {u : V} (h : RV K ρ H x u) : RVs K ρ H [x] [u] := ⟨u, [], rfl, h, rfl⟩
theorem RVs.set {x : Va} {u : V} (r : RV K ρ H x u) : ∀ {xs : List Va} {us : List V} (i : Nat), RVs K ρ H xs us → RVs K ρ H (xs.set i x) (us.set i u)
  | [], _, _, h => by cases h; rfl
  | _ :: _, _, 0, ⟨w, t, e, q, s⟩ => by subst e; exact ⟨u, t, rfl, r, s⟩
  | _ :: _, _, i + 1, ⟨w, t, e, q, s⟩ => by subst e; exact ⟨w, _, rfl, q, RVs.set r i s⟩
theorem RVs.take : ∀ {xs : List Va} {us : List V} (i : Nat), RVs K ρ H xs us → RVs K ρ H (xs.take i) (us.take i)
  | [], _, i, h => by cases h; simp [RVs]
  | _ :: _, _, 0, ⟨w, t, e, q, s⟩ => by subst e; simp [RVs]
  | _ :: _, _, i + 1, ⟨w, t, e, q, s⟩ => by subst e; exact ⟨w, _, rfl, q, RVs.take i s⟩
theorem RVs.drop : ∀ {xs : List Va} {us : List V} (i : Nat), RVs K ρ H xs us → RVs K ρ H (xs.drop i) (us.drop i)
  | [], _, i, h => by cases h; simp [RVs]
  | _ :: _, _, 0, ⟨w, t, e, q, s⟩ => ⟨w, t, e, q, s⟩
  | _ :: _, _, i + 1, ⟨w, t, e, q, s⟩ => by subst e; exact RVs.drop i s
theorem RVs.reverse : ∀ {xs : List Va} {us : List V}, RVs K ρ H xs us → RVs K ρ H xs.reverse us.reverse
  | [], _, h => by cases h; rfl
  | _ :: _, _, ⟨w, t, e, q, s⟩ => by
    subst e
    rw [List.reverse_cons, List.reverse_cons]
    exact RVs.append (RVs.reverse s) (RVs.one q)
theorem RVs.rep {xs : List Va} {us : List V} (h : RVs K ρ H xs us) : ∀ k : Nat, RVs K ρ H (List.replicate k xs).flatten (List.replicate k us).flatten
  | 0 => rfl
  | k + 1 => by
    rw [List.replicate_succ, List.replicate_succ, List.flatten_cons, List.flatten_cons]
    exact RVs.append h (RVs.rep h k)
theorem RVs.dropLast : ∀ {xs : List Va} {us : List V}, RVs K ρ H xs us → RVs K ρ H xs.dropLast us.dropLast := by
  intro xs us h
  rw [List.dropLast_eq_take, List.dropLast_eq_take, ← h.length]
  exact h.take _
theorem RVs.none_of {xs : List Va} {us : List V} {i : Nat} (r : RVs K ρ H xs us) (h : xs[i]? = none) : us[i]? = none := by
  have h1 := r.length
  have h2 : xs.length ≤ i := List.getElem?_eq_none_iff.mp h
  exact List.getElem?_eq_none_iff.mpr (by omega)

def RKV (K : PySem.W.Frag) (ρ : List Addr) (H : Hp) (kvs : List (Ke × Va)) (ws : List (Key × V)) : Prop := Paired (fun (p : Ke × Va) (q : Key × V) => q.1 = p.1.key ∧ RV K ρ H p.2 q.2) kvs ws
def RKT (K : PySem.W.Frag) (ρ : List Addr) (H : Hp) (kvs : List (List Ke × Va)) (ws : List (List Key × V)) : Prop := Paired (fun (p : List Ke × Va) (q : List Key × V) => q.1 = p.1.map Ke.key ∧ RV K ρ H p.2 q.2) kvs ws
def RO (K : PySem.W.Frag) (ρ : List Addr) (H : Hp) (a : Addr) : Ob → Prop
  | .lst xs => ∃ us, H a = some (.lst us) ∧ RVs K ρ H xs us
  | .dic kvs => ∃ ws, H a = some (.dK ws) ∧ RKV K ρ H kvs ws
  | .dlk kvs => ∃ o ws, H a = some (.frz o (.dK ws)) ∧ RKV K ρ H kvs ws
  | .dit kvs => ∃ ws, H a = some (.dT ws) ∧ RKT K ρ H kvs ws
  | .dtk kvs => ∃ o ws, H a = some (.frz o (.dT ws)) ∧ RKT K ρ H kvs ws
theorem Paired.mapQ {α β : Type} {F G : α → β → Prop} : ∀ {l₁ : List α} {l₂ : List β}, Paired F l₁ l₂ → (∀ a b, F a b → G a b) → Paired G l₁ l₂
  | _, _, .nil, _ => .nil
  | _, _, .cons r t, f => .cons (f _ _ r) (Paired.mapQ t f)
theorem RO.ext {a : Addr} {o : Ob} (e : Ext K ρ H ρ1 H1) (h : RO K ρ H a o) (k : H1 a = H a) : RO K ρ1 H1 a o := by
  cases o with
  | lst xs => obtain ⟨us, q, r⟩ := h; exact ⟨us, k.trans q, RVs.ext e _ r⟩
  | dic kvs => obtain ⟨us, q, r⟩ := h; exact ⟨us, k.trans q, Paired.mapQ r fun _ _ z => ⟨z.1, RV.ext e _ z.2⟩⟩
  | dlk kvs => obtain ⟨o, us, q, r⟩ := h; exact ⟨o, us, k.trans q, Paired.mapQ r fun _ _ z => ⟨z.1, RV.ext e _ z.2⟩⟩
  | dit kvs => obtain ⟨us, q, r⟩ := h; exact ⟨us, k.trans q, Paired.mapQ r fun _ _ z => ⟨z.1, RV.ext e _ z.2⟩⟩
  | dtk kvs => obtain ⟨o, us, q, r⟩ := h; exact ⟨o, us, k.trans q, Paired.mapQ r fun _ _ z => ⟨z.1, RV.ext e _ z.2⟩⟩

structure HR (K : PySem.W.Frag) (ρ : List Addr) (h : Hea) (H : Hp) : Prop where
  len : ρ.length = h.n
  nd : ρ.Nodup
  tr : ∀ (i : Nat) (a : Addr), ρ[i]? = some a → H a ≠ none
  ob : ∀ (i : Nat) (o : Ob), h.get i = some o → ∃ a : Addr, ρ[i]? = some a ∧ RO K ρ H a o
variable {h h1 : Hea}
/-- a new object that is none of ours -/
theorem HR.new {p : Addr} {o : HO} (r : HR K ρ h H) (n : H p = none) : HR K ρ h (upd H p o) := by
  refine ⟨r.len, r.nd, fun i a q => ?_, fun i o q => ?_⟩
  · by_cases e : a = p
    · subst e; rw [upd_same]; simp
    · rw [upd_ne e]; exact r.tr i a q
  · obtain ⟨a, h1, h2⟩ := r.ob i o q
    have e : a ≠ p := fun e => r.tr i a h1 (e ▸ n)
    exact ⟨a, h1, h2.ext (Ext.new n) (upd_ne e)⟩
/-- a new object of ours -/
theorem HR.push {p : Addr} {o : HO} {ob : Ob} (r : HR K ρ h H) (n : H p = none) (q : RO K (ρ ++ [p]) (upd H p o) p ob) : HR K (ρ ++ [p]) (h.push ob) (upd H p o) := by
  refine ⟨?_, ?_, fun i a e => ?_, fun i ob' e => ?_⟩
  · rw [List.length_append, r.len]; rfl
  · rw [List.nodup_append]
    refine ⟨r.nd, by simp, fun a ha b hb e => ?_⟩
    simp at hb
    obtain ⟨i, hi⟩ := List.getElem?_of_mem ha
    exact r.tr i a hi (by rw [e, hb]; exact n)
  · by_cases z : a = p
    · subst z; rw [upd_same]; simp
    · rw [upd_ne z]
      by_cases hi : i < ρ.length
      · rw [List.getElem?_append_left hi] at e
        exact r.tr i a e
      · rw [List.getElem?_append_right (by omega)] at e
        have := List.mem_of_getElem? e
        simp at this
        exact absurd this z
  · rcases Hea.get_push_inv e with ⟨e1, e2⟩ | e
    · subst e1 e2
      exact ⟨p, by rw [← r.len, List.getElem?_append_right (Nat.le_refl _)]; simp, q⟩
    · obtain ⟨a, h1, h2⟩ := r.ob i ob' e
      have z : a ≠ p := fun e => r.tr i a h1 (e ▸ n)
      exact ⟨a, (Ext.newAt (K := K) (o := o) n).at h1, h2.ext (Ext.newAt n) (upd_ne z)⟩
/-- an object of ours is changed -/
theorem HR.write {i : Nat} {p : Addr} {o : HO} {ob ob' : Ob} (r : HR K ρ h H) (hp : ρ[i]? = some p) (hi : h.get i = some ob) (mu : Mut (H p)) (q : RO K ρ (upd H p o) p ob') : HR K ρ (h.set i ob') (upd H p o) := by
  refine ⟨r.len, r.nd, fun j a e => ?_, fun j oj e => ?_⟩
  · by_cases z : a = p
    · subst z; rw [upd_same]; simp
    · rw [upd_ne z]; exact r.tr j a e
  · by_cases hj : j = i
    · subst hj
      rw [Hea.get_set_self hi] at e
      cases e
      exact ⟨p, hp, q⟩
    · rw [Hea.get_set_ne (Hea.get_lt hi) (Ne.symm hj)] at e
      obtain ⟨a, h1, h2⟩ := r.ob j oj e
      have z : a ≠ p := fun z => by
        subst z
        have h3 := List.getElem?_eq_some_iff.mp h1
        have h4 := List.getElem?_eq_some_iff.mp hp
        obtain ⟨l1, e1⟩ := h3
        obtain ⟨l2, e2⟩ := h4
        exact hj ((List.getElem_inj r.nd).mp (e1.trans e2.symm))
      exact ⟨a, h1, h2.ext (Ext.write mu) (upd_ne z)⟩

def LR (K : PySem.W.Frag) (ρ : List Addr) (H : Hp) (l : Lo) (σ : L2.St) : Prop := l.length = σ.length ∧ ∀ (i : Nat) (a : Va), l[i]? = some (some a) → ∃ u, σ[i]? = some (some u) ∧ RV K ρ H a u
theorem LR.ext {l : Lo} {σ : L2.St} (e : Ext K ρ H ρ1 H1) (h : LR K ρ H l σ) : LR K ρ1 H1 l σ :=
  ⟨h.1, fun i a q => let ⟨u, h1, h2⟩ := h.2 i a q; ⟨u, h1, RV.ext e a h2⟩⟩
theorem LR.set {l : Lo} {σ : L2.St} {i : Nat} {a : Va} {u : V} (h : LR K ρ H l σ) (r : RV K ρ H a u) : LR K ρ H (l.set i (some a)) (σ.set i (some u)) := by
  refine ⟨by simp [h.1], fun j b q => ?_⟩
  by_cases e : i = j
  · subst e
    have hl : i < l.length := by
      have := (List.getElem?_eq_some_iff.mp q).1
      simpa using this
    rw [List.getElem?_set_self hl] at q
    cases q
    exact ⟨u, by rw [List.getElem?_set_self (by rw [← h.1]; exact hl)], r⟩
  · rw [List.getElem?_set_ne e] at q
    obtain ⟨w, h1, h2⟩ := h.2 j b q
    exact ⟨w, by rw [List.getElem?_set_ne e]; exact h1, h2⟩
end

/-! ### what is wanted of a computation -/
/-- of an error: its class, its value, our heap, the places, the abstract heap -/
abbrev XW := Nat → Va → Hea → List Addr → Hp → Prop
abbrev XF : XW := fun _ _ _ _ _ => False
def sat (K : PySem.W.Frag) (W : XW) (ρ : List Addr) (H : Hp) {α : Type} (r : Rs α) (Q : α → Hea → List Addr → Hp → Prop) : Prop := match r with
  | .ok a h' => ∀ ρ' H', Ext K ρ H ρ' H' → HR K ρ' h' H' → Q a h' ρ' H'
  | .err c v h' => ∀ ρ' H', Ext K ρ H ρ' H' → HR K ρ' h' H' → W c v h' ρ' H'
  | .no => False
section
variable {K : PySem.W.Frag} {W : XW} {ρ ρ1 : List Addr} {H H1 : Hp} {α β : Type} {r : Rs α} {Q Q' : α → Hea → List Addr → Hp → Prop}
theorem sat.mono (h : sat K W ρ H r Q) (f : ∀ a h' ρ' H', Ext K ρ H ρ' H' → HR K ρ' h' H' → Q a h' ρ' H' → Q' a h' ρ' H') : sat K W ρ H r Q' := by
  cases r with
  | ok a h' => exact fun ρ' H' e q => f a h' ρ' H' e q (h ρ' H' e q)
  | err c v h' => exact h
  | no => exact h
theorem sat.shift (e : Ext K ρ H ρ1 H1) (h : sat K W ρ H r Q) : sat K W ρ1 H1 r Q := by
  cases r with
  | ok a h' => exact fun ρ' H' e' q => h ρ' H' (e.trans e') q
  | err c v h' => exact fun ρ' H' e' q => h ρ' H' (e.trans e') q
  | no => exact h
theorem sat.bind {f : α → Hea → Rs β} {Q : β → Hea → List Addr → Hp → Prop} (h : sat K W ρ H (r.bind f) Q) : sat K W ρ H r (fun a h1 ρ1 H1 => sat K W ρ1 H1 (f a h1) Q) := by
  cases r with
  | ok a h' => exact fun ρ' H' e q => sat.shift e h
  | err c v h' => exact h
  | no => exact h
theorem sat.ok {a : α} {h : Hea} (x : sat K W ρ H (.ok a h) Q) (q : HR K ρ h H) : Q a h ρ H := x ρ H Ext.refl q
end
/-- a value's wish -/
abbrev rv (K : PySem.W.Frag) (Q : VK) : Va → Hea → List Addr → Hp → Prop := fun a _ ρ' H' => ∀ u, RV K ρ' H' a u → Q u H'
abbrev rvs (K : PySem.W.Frag) (Q : List V → Hp → Prop) : List Va → Hea → List Addr → Hp → Prop := fun a _ ρ' H' => ∀ u, RVs K ρ' H' a u → Q u H'
def tE (K : PySem.W.Frag) (W : XW) (A : Ex) : TE := fun σ H Q => ∃ ρ l h, LR K ρ H l σ ∧ HR K ρ h H ∧ sat K W ρ H (A l h) (rv K Q)
def tT (K : PySem.W.Frag) (W : XW) (A : Tx) : TT := fun σ H Q => ∃ ρ l h, LR K ρ H l σ ∧ HR K ρ h H ∧ sat K W ρ H (A l h) (fun b _ _ H' => Q b H')
def tA (K : PySem.W.Frag) (W : XW) (A : Ax) : TA := fun σ H Q => ∃ ρ l h, LR K ρ H l σ ∧ HR K ρ h H ∧ sat K W ρ H (A l h) (rvs K Q)
def ouQ (K : PySem.W.Frag) (D : Ends) : Ou → Hea → List Addr → Hp → Prop := fun o _ ρ' H' => match o with
  | .nx l' => ∀ σ', LR K ρ' H' l' σ' → D.nx σ' H'
  | .rt v => ∀ u, RV K ρ' H' v u → D.rt u H'
  | .bk l' => ∀ σ', LR K ρ' H' l' σ' → D.bk σ' H'
  | .ct l' => ∀ σ', LR K ρ' H' l' σ' → D.ct σ' H'
def tS (K : PySem.W.Frag) (W : XW) (A : Sx) : TS := fun D σ H => ∃ ρ l h, LR K ρ H l σ ∧ HR K ρ h H ∧ sat K W ρ H (A l h) (ouQ K D)

structure EX (W : XW) (X : Cx) (e : Expr) (A : Ex) : Prop where
  pe : PE X e (tE X.K W A)
structure TX (W : XW) (X : Cx) (e : Expr) (A : Tx) : Prop where
  pt : PT X e (tT X.K W A)
structure WX (W : XW) (X : Cx) (e : Expr) (A : Tx) : Prop where
  pw : PW X e (tT X.K W A)
structure AX (W : XW) (X : Cx) (es : List Expr) (A : Ax) : Prop where
  pa : PA X es (tA X.K W A)
structure SX (W : XW) (X : Cx) (s : Stmt) (A : Sx) : Prop where
  ps : PS X s (tS X.K W A)
structure SXs (W : XW) (X : Cx) (s : List Stmt) (A : Sx) : Prop where
  ps : PSs X s (tS X.K W A)
theorem PE.weak {X : Cx} {e : Expr} {t t' : TE} (h : PE X e t) (f : ∀ σ H Q, t' σ H Q → t σ H Q) : PE X e t' := ⟨fun pins s σ H Q I q => h.run pins s σ H Q I (f σ H Q q)⟩
theorem PT.weak {X : Cx} {e : Expr} {t t' : TT} (h : PT X e t) (f : ∀ σ H Q, t' σ H Q → t σ H Q) : PT X e t' := ⟨fun pins s σ H Q I q => h.run pins s σ H Q I (f σ H Q q)⟩
theorem PW.weak {X : Cx} {e : Expr} {t t' : TT} (h : PW X e t) (f : ∀ σ H Q, t' σ H Q → t σ H Q) : PW X e t' := ⟨fun wh pins s σ H Q I q => h.run wh pins s σ H Q I (f σ H Q q)⟩
theorem PA.weak {X : Cx} {e : List Expr} {t t' : TA} (h : PA X e t) (f : ∀ σ H Q, t' σ H Q → t σ H Q) : PA X e t' := ⟨fun p pins s σ H Q I q => h.run p pins s σ H Q I (f σ H Q q)⟩
theorem PS.weak {X : Cx} {e : Stmt} {t t' : TS} (h : PS X e t) (f : ∀ D σ H, t' D σ H → t D σ H) : PS X e t' := ⟨fun pins s σ H D I q => h.run pins s σ H D I (f D σ H q)⟩
theorem PSs.weak {X : Cx} {e : List Stmt} {t t' : TS} (h : PSs X e t) (f : ∀ D σ H, t' D σ H → t D σ H) : PSs X e t' := ⟨fun pins s σ H D I q => h.run pins s σ H D I (f D σ H q)⟩

/-- from a part's reading to the next -/
theorem tE.go {K : PySem.W.Frag} {W : XW} {A : Ex} {ρ : List Addr} {l : Lo} {h : Hea} {σ : L2.St} {H : Hp} {β : Type} {f : Va → Hea → Rs β} {Q : β → Hea → List Addr → Hp → Prop} {R : VK}
    (L : LR K ρ H l σ) (r : HR K ρ h H) (s : sat K W ρ H ((A l h).bind f) Q)
    (k : ∀ a h1 ρ1 H1 u, Ext K ρ H ρ1 H1 → LR K ρ1 H1 l σ → HR K ρ1 h1 H1 → RV K ρ1 H1 a u → sat K W ρ1 H1 (f a h1) Q → R u H1) : tE K W A σ H R :=
  ⟨ρ, l, h, L, r, s.bind.mono fun a h1 ρ1 H1 e r1 s1 u ru => k a h1 ρ1 H1 u e (L.ext e) r1 ru s1⟩
theorem tE.at {K : PySem.W.Frag} {W : XW} {A : Ex} {ρ : List Addr} {l : Lo} {h h1 : Hea} {σ : L2.St} {H : Hp} {a : Va} {R : VK}
    (L : LR K ρ H l σ) (r : HR K ρ h H) (e : A l h = .ok a h1) (k : ∀ ρ1 H1 u, Ext K ρ H ρ1 H1 → LR K ρ1 H1 l σ → HR K ρ1 h1 H1 → RV K ρ1 H1 a u → R u H1) : tE K W A σ H R :=
  ⟨ρ, l, h, L, r, by rw [e]; exact fun ρ1 H1 x r1 u ru => k ρ1 H1 u x (L.ext x) r1 ru⟩
theorem tT.go {K : PySem.W.Frag} {W : XW} {A : Tx} {ρ : List Addr} {l : Lo} {h : Hea} {σ : L2.St} {H : Hp} {β : Type} {f : Bool → Hea → Rs β} {Q : β → Hea → List Addr → Hp → Prop} {R : Bool → Hp → Prop}
    (L : LR K ρ H l σ) (r : HR K ρ h H) (s : sat K W ρ H ((A l h).bind f) Q)
    (k : ∀ a h1 ρ1 H1, Ext K ρ H ρ1 H1 → LR K ρ1 H1 l σ → HR K ρ1 h1 H1 → sat K W ρ1 H1 (f a h1) Q → R a H1) : tT K W A σ H R :=
  ⟨ρ, l, h, L, r, s.bind.mono fun a h1 ρ1 H1 e r1 s1 => k a h1 ρ1 H1 e (L.ext e) r1 s1⟩
theorem tA.go {K : PySem.W.Frag} {W : XW} {A : Ax} {ρ : List Addr} {l : Lo} {h : Hea} {σ : L2.St} {H : Hp} {β : Type} {f : List Va → Hea → Rs β} {Q : β → Hea → List Addr → Hp → Prop} {R : List V → Hp → Prop}
    (L : LR K ρ H l σ) (r : HR K ρ h H) (s : sat K W ρ H ((A l h).bind f) Q)
    (k : ∀ a h1 ρ1 H1 u, Ext K ρ H ρ1 H1 → LR K ρ1 H1 l σ → HR K ρ1 h1 H1 → RVs K ρ1 H1 a u → sat K W ρ1 H1 (f a h1) Q → R u H1) : tA K W A σ H R :=
  ⟨ρ, l, h, L, r, s.bind.mono fun a h1 ρ1 H1 e r1 s1 u ru => k a h1 ρ1 H1 u e (L.ext e) r1 ru s1⟩
end Rf

/-! Rf: expressions. -/
namespace Rf
open PySem PySem.Spec PyProof.Rows L2

/-! ### the ties of single places -/
section
variable {K : PySem.W.Frag} {W : XW} {ρ : List Addr} {H : Hp} {h : Hea}
theorem HR.at_ref {i : Nat} {x : V} {o : Ob} (r : HR K ρ h H) (rx : RV K ρ H (.ref i) x) (g : h.get i = some o) : ∃ p, x = .ref p ∧ ρ[i]? = some p ∧ RO K ρ H p o := by
  obtain ⟨p, e, hp⟩ := rx
  obtain ⟨q, hq, ro⟩ := r.ob i o g
  rw [hp] at hq
  cases hq
  exact ⟨p, e, hp, ro⟩
theorem HR.lst {i : Nat} {x : V} {xs : List Va} (r : HR K ρ h H) (rx : RV K ρ H (.ref i) x) (g : h.get i = some (.lst xs)) : ∃ p us, x = .ref p ∧ ρ[i]? = some p ∧ H p = some (.lst us) ∧ RVs K ρ H xs us := by
  obtain ⟨p, e, hp, us, q, s⟩ := r.at_ref rx g
  exact ⟨p, us, e, hp, q, s⟩
theorem HR.atN {p : Addr} (r : HR K ρ h H) : (ρ ++ [p])[h.n]? = some p := by
  rw [← r.len, List.getElem?_append_right (Nat.le_refl _)]
  simp
theorem sat.val {a : Va} {Q : VK} {u : V} (s : sat K W ρ H (.ok a h) (rv K Q)) (r : HR K ρ h H) (ru : RV K ρ H a u) : Q u H := s ρ H Ext.refl r u ru
theorem sat.newLst {xs : List Va} {us : List V} {Q : VK} (s : sat K W ρ H (.ok (.ref h.n) (h.push (.lst xs))) (rv K Q)) (r : HR K ρ h H) (rs : RVs K ρ H xs us) : ∀ p, H p = none → Q (.ref p) (upd H p (.lst us)) := fun p n =>
  s (ρ ++ [p]) _ (Ext.newAt n) (r.push n ⟨us, upd_same, RVs.ext (Ext.newAt n) _ rs⟩) (.ref p) ⟨p, rfl, r.atN⟩
theorem sat.newTup {xs : List Va} {us : List V} {Q : VK} (s : sat K W ρ H (.ok (.tup xs) h) (rv K Q)) (r : HR K ρ h H) (rs : RVs K ρ H xs us) : ∀ p, H p = none → Q (.ref p) (upd H p (.tup us)) := fun p n =>
  s ρ _ (Ext.new n) (r.new n) (.ref p) ⟨p, us, rfl, .inl (.inl upd_same), RVs.ext (Ext.new n) _ rs⟩
theorem sat.setLst {i : Nat} {p : Addr} {xs ys : List Va} {us ws : List V} {a : Va} {Q : VK} {u : V} (s : sat K W ρ H (.ok a (h.set i (.lst ys))) (rv K Q)) (r : HR K ρ h H) (hp : ρ[i]? = some p) (g : h.get i = some (.lst xs)) (q : H p = some (.lst us))
    (rs : RVs K ρ H ys ws) (ra : RV K ρ H a u) : Q u (upd H p (.lst ws)) := by
  have mu : Mut (H p) := by rw [q]; trivial
  exact s ρ _ (Ext.write mu) (r.write hp g mu ⟨ws, upd_same, RVs.ext (Ext.write mu) _ rs⟩) u (RV.ext (Ext.write mu) _ ra)
end

/-! ### names and constants -/
def cV (v : Va) : Ex := fun _ h => .ok v h
def vr (i : Nat) : Ex := fun l h => match l[i]? with
  | some (some v) => .ok v h
  | _ => .no
section
variable {W : XW} {X : Cx} {pos : Pos}
theorem ex_int {i j} : EX W X (.Constant (.int i) j pos) (cV (.int i)) := ⟨PE.weak pe_int fun σ H Q ⟨ρ, l, h, L, r, s⟩ => s.val r rfl⟩
theorem ex_bl {i j} : EX W X (.Constant (.bool i) j pos) (cV (.bl i)) := ⟨PE.weak pe_bl fun σ H Q ⟨ρ, l, h, L, r, s⟩ => s.val r rfl⟩
theorem ex_non {j} : EX W X (.Constant .none j pos) (cV .non) := ⟨PE.weak pe_non fun σ H Q ⟨ρ, l, h, L, r, s⟩ => s.val r rfl⟩
theorem ex_str {x : Str} {j} {s : List Nat} (e : x = ⟨s.toArray⟩) : EX W X (.Constant (.str x) j pos) (cV (.str s)) := ⟨PE.weak pe_str fun σ H Q ⟨ρ, l, h, L, r, q⟩ => q.val r (by rw [e]; rfl)⟩
theorem ex_var (i : Nat) {x : Str} (p : PE X (.Name x pos) (tVar i)) : EX W X (.Name x pos) (vr i) := ⟨PE.weak p fun σ H Q ⟨ρ, l, h, L, r, s⟩ => by
  unfold vr at s
  split at s
  · rename_i v e
    obtain ⟨u, h1, h2⟩ := L.2 i v e
    exact ⟨u, h1, s.val r h2⟩
  · exact False.elim s⟩
theorem ex_gstr {x : Str} {v : Str} {s : List Nat} {t : Tok} (hg : Gl X x) (hm : X.mg x = some (.str v t)) (e : v = ⟨s.toArray⟩) (hd : (x == ("__debug__" : Str)) = false := by decide) : EX W X (.Name x pos) (cV (.str s)) :=
  ⟨PE.weak (pe_glob (v := .str v) hg hm ⟨t, rfl⟩ hd) fun σ H Q ⟨ρ, l, h, L, r, q⟩ => q.val r (by rw [e]; rfl)⟩
end

/-! ### operators of two values -/
def op2 (F : Va → Va → M Va) (A B : Ex) : Ex := fun l h => (A l h).bind fun a h1 => (B l h1).bind fun b h2 => F a b h2
def op1 (F : Va → M Va) (A : Ex) : Ex := fun l h => (A l h).bind fun a h1 => F a h1
def S2 (K : PySem.W.Frag) (W : XW) (F : Va → Va → M Va) (r : R2) : Prop := ∀ ρ h H a b x y Q, HR K ρ h H → RV K ρ H a x → RV K ρ H b y → sat K W ρ H (F a b h) (rv K Q) → r x y H Q
def S1 (K : PySem.W.Frag) (W : XW) (F : Va → M Va) (r : V → Hp → VK → Prop) : Prop := ∀ ρ h H a x Q, HR K ρ h H → RV K ρ H a x → sat K W ρ H (F a h) (rv K Q) → r x H Q
section
variable {W : XW} {X : Cx} {a b : Expr} {A B : Ex} {pos : Pos} {F : Va → Va → M Va} {r : R2}
theorem tE.two {K : PySem.W.Frag} (hs : S2 K W F r) : ∀ σ H Q, tE K W (op2 F A B) σ H Q → tOp r (tE K W A) (tE K W B) σ H Q := fun σ H Q ⟨ρ, l, h, L, q, s⟩ =>
  tE.go L q s fun a h1 ρ1 H1 x e1 L1 q1 rx s1 => tE.go L1 q1 s1 fun b h2 ρ2 H2 y e2 L2 q2 ry s2 => hs ρ2 h2 H2 a b x y Q q2 (RV.ext e2 a rx) ry s2
theorem ex_op {op : Operator} (ho : OpR X (binaryOp op) r) (hs : S2 X.K W F r) (ha : EX W X a A) (hb : EX W X b B) : EX W X (.BinOp a op b pos) (op2 F A B) :=
  ⟨PE.weak (pe_op ho ha.pe hb.pe) (tE.two hs)⟩
theorem ex_un {op : UnaryOp} {F : Va → M Va} {r : V → Hp → VK → Prop} (ho : UnR X (unaryOp op) r) (hs : S1 X.K W F r) (ha : EX W X a A) : EX W X (.UnaryOp op a pos) (op1 F A) :=
  ⟨PE.weak (pe_un ho ha.pe) fun σ H Q ⟨ρ, l, h, L, q, s⟩ => tE.go L q s fun a h1 ρ1 H1 x e1 L1 q1 rx s1 => hs ρ1 h1 H1 a x Q q1 rx s1⟩
theorem ex_cmp {op : CmpOp} (ho : OpR X (compareOp op) r) (hs : S2 X.K W F r) (ha : EX W X a A) (hb : EX W X b B) (hm : behindInMarks op b = false) : EX W X (.Compare a [op] [b] pos) (op2 F A B) :=
  ⟨PE.weak (pe_cmpR ho ha.pe hb.pe hm) (tE.two hs)⟩
theorem ex_ix (ho : IxR X r) (hs : S2 X.K W F r) (ha : EX W X a A) (hb : EX W X b B) (hp : PlainIx b) : EX W X (.Subscript a b pos) (op2 F A B) :=
  ⟨PE.weak (pe_ix ho ha.pe hb.pe hp) (tE.two hs)⟩
end

/-! ### tests -/
/-- a value that is a bool, as a test -/
def isB (A : Ex) : Tx := fun l h => (A l h).bind fun a h1 => match a with
  | .bl b => .ok b h1
  | _ => .no
def ofT (A : Tx) : Ex := fun l h => (A l h).bind fun b h1 => .ok (.bl b) h1
/-- the truth of a value -/
def truv (h : Hea) : Va → Option Bool
  | .non => some false
  | .bl b => some b
  | .int i => some (i != 0)
  | .str s => if s.length ≤ 16777216 then some (!s.isEmpty) else none
  | .tup xs => some (!xs.isEmpty)
  | .fl xs => some (!xs.isEmpty)
  | .ref i => match h.get i with
    | some (.lst xs) => some (!xs.isEmpty)
    | some (.dic kvs) => some (!kvs.isEmpty)
    | _ => none
def trB (A : Ex) : Tx := fun l h => (A l h).bind fun a h1 => match truv h1 a with
  | some b => .ok b h1
  | none => .no
def tAnd (A B : Tx) : Tx := fun l h => (A l h).bind fun b h1 => if b = true then B l h1 else .ok false h1
def tOr (A B : Tx) : Tx := fun l h => (A l h).bind fun b h1 => if b = true then .ok true h1 else B l h1
def tNot (A : Tx) : Tx := fun l h => (A l h).bind fun b h1 => .ok (!b) h1
def ifE (C : Tx) (A B : Ex) : Ex := fun l h => (C l h).bind fun b h1 => if b = true then A l h1 else B l h1
section
variable {W : XW} {X : Cx} {a b c : Expr} {A B : Ex} {C D : Tx} {pos : Pos} {F : Va → Va → M Va} {r : R2} {rest : List Expr}
theorem isB_tt {K : PySem.W.Frag} : ∀ σ H Q, tT K W (isB A) σ H Q → tTest (tE K W A) σ H Q := fun σ H Q ⟨ρ, l, h, L, q, s⟩ =>
  tE.go L q s fun a h1 ρ1 H1 x e1 L1 q1 rx s1 => by
    cases a with
    | bl b => cases rx; exact ⟨b, rfl, s1.ok q1⟩
    | _ => exact False.elim s1
theorem tT.tTest {K : PySem.W.Frag} {t : TE} (f : ∀ σ H Q, tE K W A σ H Q → t σ H Q) (hm : ∀ σ H Q, tT K W (isB A) σ H Q → L2.tTest (tE K W A) σ H Q := isB_tt) : ∀ σ H Q, tT K W (isB A) σ H Q → L2.tTest t σ H Q := fun σ H Q s => f σ H _ (hm σ H Q s)
theorem tx_cmp {op : CmpOp} (ho : OpR X (compareOp op) r) (hs : S2 X.K W F r) (ha : EX W X a A) (hb : EX W X b B) (hm : behindInMarks op b = false) : TX W X (.Compare a [op] [b] pos) (isB (op2 F A B)) :=
  ⟨PT.weak (pt_cmpR ho ha.pe hb.pe hm) (tT.tTest (tE.two hs))⟩
theorem tx_val (ha : EX W X a A) (he : ∀ whole, isTrue a X.env whole = (do let v ← whole; standAt a.pos; holding [v] (truthy v)) := by intro _; rfl) : TX W X a (isB A) :=
  ⟨PT.weak (pt_val ha.pe he) isB_tt⟩
theorem truv_ok {K : PySem.W.Frag} {ρ : List Addr} {H : Hp} {h : Hea} {a : Va} {x : V} {b : Bool} (q : HR K ρ h H) (rx : RV K ρ H a x) (e : truv h a = some b) : TruV K x H b := by
  cases a with
  | non => cases rx; cases e; rfl
  | bl b => cases rx; cases e; rfl
  | int i => cases rx; cases e; rfl
  | str s =>
    cases rx
    have e' : (if s.length ≤ 16777216 then some (!s.isEmpty) else none) = some b := e
    by_cases hz : s.length ≤ 16777216
    · rw [if_pos hz] at e'
      cases e'
      refine ⟨by show s.toArray.size ≤ _; rw [sizeLine_eq]; simpa using hz, ?_⟩
      show (!s.isEmpty) = ((s.toArray.size : Int) != 0)
      cases s with
      | nil => rfl
      | cons c r =>
        rw [List.size_toArray, List.length_cons]
        have : (((r.length + 1 : Nat) : Int) != 0) = true := by simp; omega
        rw [this]
        rfl
    · rw [if_neg hz] at e'
      cases e'
  | tup xs =>
    obtain ⟨p, us, rfl, h1, h2⟩ := rx
    cases e
    refine .inr (.inl ⟨us, h1, ?_⟩)
    have := h2.length
    cases xs <;> cases us <;> simp at this ⊢
  | fl xs =>
    obtain ⟨p, us, rfl, h1, h2⟩ := rx
    cases e
    refine .inl ⟨us, h1.sq, ?_⟩
    have := h2.length
    cases xs <;> cases us <;> simp at this ⊢
  | ref i =>
    have e : (match h.get i with
      | some (.lst xs) => some (!xs.isEmpty)
      | some (.dic kvs) => some (!kvs.isEmpty)
      | _ => none) = some b := e
    split at e
    · rename_i xs g
      obtain ⟨p, us, rfl, _, h1, h2⟩ := q.lst rx g
      cases e
      refine .inl ⟨us, SqL.of h1, ?_⟩
      have := h2.length
      cases xs <;> cases us <;> simp at this ⊢
    · rename_i xs g
      obtain ⟨p, rfl, _, us, h1, h2⟩ := q.at_ref rx g
      cases e
      refine .inr (.inr ⟨us, h1, ?_⟩)
      cases h2 <;> rfl
    · cases e
theorem tx_truth (ha : EX W X a A) (he : ∀ whole, isTrue a X.env whole = (do let v ← whole; standAt a.pos; holding [v] (truthy v)) := by intro _; rfl) : TX W X a (trB A) :=
  ⟨PT.weak (pt_truth ha.pe he) fun σ H Q ⟨ρ, l, h, L, q, s⟩ => tE.go L q s fun a h1 ρ1 H1 x e1 L1 q1 rx s1 => by
    cases e : truv h1 a with
    | none => simp only [e] at s1; exact False.elim s1
    | some b =>
      simp only [e] at s1
      exact ⟨b, truv_ok q1 rx e, s1.ok q1⟩⟩
theorem tT.seq {K : PySem.W.Frag} {f : Bool → Hea → Rs Bool} {t : TT} (ρ : List Addr) (l : Lo) (h : Hea) {σ : L2.St} {H : Hp} {Q : Bool → Hp → Prop} : True := trivial
theorem tx_not (ha : TX W X a C) : TX W X (.UnaryOp .Not a pos) (tNot C) :=
  ⟨PT.weak (pt_not ha.pt) fun σ H Q ⟨ρ, l, h, L, q, s⟩ => tT.go L q s fun b h1 ρ1 H1 e1 L1 q1 s1 => s1.ok q1⟩
theorem wx_and1 (ha : TX W X a C) : WX W X (.BoolOp .And [a] pos) C := ⟨pw_and1 ha.pt⟩
theorem wx_or1 (ha : TX W X a C) : WX W X (.BoolOp .Or [a] pos) C := ⟨pw_or1 ha.pt⟩
theorem wx_and (ha : TX W X a C) (hb : WX W X (.BoolOp .And (b :: rest) pos) D) : WX W X (.BoolOp .And (a :: b :: rest) pos) (tAnd C D) :=
  ⟨PW.weak (pw_and ha.pt hb.pw) fun σ H Q ⟨ρ, l, h, L, q, s⟩ => tT.go L q s fun b h1 ρ1 H1 e1 L1 q1 s1 => by
    cases b with
    | true => exact ⟨ρ1, l, h1, L1, q1, s1⟩
    | false => exact s1.ok q1⟩
theorem wx_or (ha : TX W X a C) (hb : WX W X (.BoolOp .Or (b :: rest) pos) D) : WX W X (.BoolOp .Or (a :: b :: rest) pos) (tOr C D) :=
  ⟨PW.weak (pw_or ha.pt hb.pw) fun σ H Q ⟨ρ, l, h, L, q, s⟩ => tT.go L q s fun b h1 ρ1 H1 e1 L1 q1 s1 => by
    cases b with
    | true => exact s1.ok q1
    | false => exact ⟨ρ1, l, h1, L1, q1, s1⟩⟩
theorem tx_w (ha : WX W X a C) : TX W X a C := ⟨ha.pw.pt⟩
theorem ex_if (hc : TX W X c C) (ha : EX W X a A) (hb : EX W X b B) : EX W X (.IfExp c a b pos) (ifE C A B) :=
  ⟨PE.weak (pe_ifExp hc.pt ha.pe hb.pe) fun σ H Q ⟨ρ, l, h, L, q, s⟩ => tT.go L q s fun b h1 ρ1 H1 e1 L1 q1 s1 => by
    cases b with
    | true => exact ⟨ρ1, l, h1, L1, q1, s1⟩
    | false => exact ⟨ρ1, l, h1, L1, q1, s1⟩⟩
/-! and, or, not as values (bools) -/
def vAnd (A B : Ex) : Ex := fun l h => (A l h).bind fun a h1 => match a with
  | .bl true => B l h1
  | .bl false => .ok (.bl false) h1
  | _ => .no
def vOr (A B : Ex) : Ex := fun l h => (A l h).bind fun a h1 => match a with
  | .bl true => .ok (.bl true) h1
  | .bl false => B l h1
  | _ => .no
def vNot (A : Ex) : Ex := fun l h => (A l h).bind fun a h1 => match a with
  | .bl b => .ok (.bl (!b)) h1
  | _ => .no
theorem ex_one {op} (ha : EX W X a A) : EX W X (.BoolOp op [a] pos) A := ⟨pe_one ha.pe⟩
theorem ex_and (ha : EX W X a A) (hb : EX W X (.BoolOp .And (b :: rest) pos) B) : EX W X (.BoolOp .And (a :: b :: rest) pos) (vAnd A B) :=
  ⟨PE.weak (pe_and ha.pe hb.pe) fun σ H Q ⟨ρ, l, h, L, q, s⟩ => tE.go L q s fun a h1 ρ1 H1 x e1 L1 q1 rx s1 => by
    cases a with
    | bl b =>
      cases rx
      cases b with
      | true => exact ⟨true, rfl, ρ1, l, h1, L1, q1, s1⟩
      | false => exact ⟨false, rfl, s1.val q1 rfl⟩
    | _ => exact False.elim s1⟩
theorem ex_or (ha : EX W X a A) (hb : EX W X (.BoolOp .Or (b :: rest) pos) B) : EX W X (.BoolOp .Or (a :: b :: rest) pos) (vOr A B) :=
  ⟨PE.weak (pe_or ha.pe hb.pe) fun σ H Q ⟨ρ, l, h, L, q, s⟩ => tE.go L q s fun a h1 ρ1 H1 x e1 L1 q1 rx s1 => by
    cases a with
    | bl b =>
      cases rx
      cases b with
      | true => exact ⟨true, rfl, s1.val q1 rfl⟩
      | false => exact ⟨false, rfl, ρ1, l, h1, L1, q1, s1⟩
    | _ => exact False.elim s1⟩
theorem ex_not (ha : EX W X a A) : EX W X (.UnaryOp .Not a pos) (vNot A) :=
  ⟨PE.weak (pe_not ha.pe) fun σ H Q ⟨ρ, l, h, L, q, s⟩ => tE.go L q s fun a h1 ρ1 H1 x e1 L1 q1 rx s1 => by
    cases a with
    | bl b => cases rx; exact ⟨b, rfl, s1.val q1 rfl⟩
    | _ => exact False.elim s1⟩
end
end Rf

/-! Rf: operators by values. -/
namespace Rf
open PySem PySem.Spec PyProof.Rows L2

/-! ### data, and when it is equal -/
inductive Sh where
  | sc (d : PyData) | st (s : List Nat) | tu (xs : List Va) | li (xs : List Va) | bad
def view (h : Hea) : Va → Sh
  | .non => .sc .none
  | .bl b => .sc (.bool b)
  | .int i => .sc (.int i)
  | .str s => .st s
  | .tup xs => .tu xs
  | .fl xs => .li xs
  | .ref i => match h.get i with
    | some (.lst xs) => .li xs
    | _ => .bad
def dOk (h : Hea) : Nat → Va → Bool
  | 0, _ => false
  | n + 1, a => match view h a with
    | .sc _ => true
    | .st s => s.all fun c => decide (c < 1114112)
    | .tu xs => xs.all (dOk h n)
    | .li xs => xs.all (dOk h n)
    | .bad => false
def toD (h : Hea) : Nat → Va → PyData
  | 0, _ => .none
  | n + 1, a => match view h a with
    | .sc d => d
    | .st s => .str ⟨s.toArray⟩
    | .tu xs => .tuple (xs.map (toD h n))
    | .li xs => .list (xs.map (toD h n))
    | .bad => .none
def all2 {α : Type} (f : α → α → Bool) : List α → List α → Bool
  | [], [] => true
  | x :: xs, y :: ys => f x y && all2 f xs ys
  | _, _ => false
def vq (h : Hea) : Nat → Va → Va → Bool
  | 0, _, _ => false
  | n + 1, a, b => match view h a, view h b with
    | .sc d, .sc e => PyData.eqv d e
    | .st s, .st t => s == t
    | .tu xs, .tu ys => all2 (vq h n) xs ys
    | .li xs, .li ys => all2 (vq h n) xs ys
    | _, _ => false
def PyData.isSc : PyData → Bool
  | .none => true
  | .bool _ => true
  | .int _ => true
  | _ => false
theorem view_sc {h : Hea} {a : Va} {d : PyData} (e : view h a = .sc d) : PyData.isSc d = true := by
  cases a with
  | ref i =>
    unfold view at e
    simp only at e
    split at e <;> cases e
  | _ => first | (cases e; rfl) | (cases e)
theorem str_beq (s t : List Nat) : ((⟨s.toArray⟩ : Str) == ⟨t.toArray⟩) = (s == t) := by
  rw [Bool.eq_iff_iff]
  simp
theorem sc_st {d : PyData} {s : Str} (h : PyData.isSc d = true) : PyData.eqv d (.str s) = false ∧ PyData.eqv (.str s) d = false := by
  cases d <;> first | (simp [PyData.eqv]; done) | (exact absurd h (by simp [PyData.isSc]))
theorem sc_tu {d : PyData} {s : List PyData} (h : PyData.isSc d = true) : PyData.eqv d (.tuple s) = false ∧ PyData.eqv (.tuple s) d = false := by
  cases d <;> first | (simp [PyData.eqv]; done) | (exact absurd h (by simp [PyData.isSc]))
theorem sc_li {d : PyData} {s : List PyData} (h : PyData.isSc d = true) : PyData.eqv d (.list s) = false ∧ PyData.eqv (.list s) d = false := by
  cases d <;> first | (simp [PyData.eqv]; done) | (exact absurd h (by simp [PyData.isSc]))
theorem eqvAll_map {f : Va → PyData} {g : Va → Va → Bool} {p : Va → Bool} (hfg : ∀ a b, p a = true → p b = true → g a b = PyData.eqv (f a) (f b)) : ∀ xs ys : List Va, xs.all p = true → ys.all p = true → all2 g xs ys = PyData.eqvAll (xs.map f) (ys.map f)
  | [], [], _, _ => by simp [all2, PyData.eqvAll]
  | [], _ :: _, _, _ => by simp [all2, PyData.eqvAll]
  | _ :: _, [], _, _ => by simp [all2, PyData.eqvAll]
  | x :: xs, y :: ys, h1, h2 => by
    rw [List.all_cons, Bool.and_eq_true] at h1 h2
    simp only [all2, PyData.eqvAll, List.map_cons]
    rw [hfg x y h1.1 h2.1, eqvAll_map hfg xs ys h1.2 h2.2]
theorem vq_eqv (h : Hea) : ∀ (n : Nat) (a b : Va), dOk h n a = true → dOk h n b = true → vq h n a b = PyData.eqv (toD h n a) (toD h n b)
  | 0, _, _, e, _ => by cases e
  | n + 1, a, b, e1, e2 => by
    unfold dOk at e1 e2
    unfold vq toD
    cases ea : view h a with
    | bad => simp [ea] at e1
    | sc d =>
      have sd := view_sc ea
      cases eb : view h b with
      | bad => simp [eb] at e2
      | sc e => rfl
      | st t => exact (sc_st sd).1.symm
      | tu ys => exact (sc_tu sd).1.symm
      | li ys => exact (sc_li sd).1.symm
    | st s =>
      cases eb : view h b with
      | bad => simp [eb] at e2
      | sc e => exact (sc_st (view_sc eb)).2.symm
      | st t => simp only [PyData.eqv, str_beq]
      | tu ys => simp [PyData.eqv]
      | li ys => simp [PyData.eqv]
    | tu xs =>
      cases eb : view h b with
      | bad => simp [eb] at e2
      | sc e => exact (sc_tu (view_sc eb)).2.symm
      | st t => simp [PyData.eqv]
      | tu ys =>
        simp only [ea, eb] at e1 e2
        simp only [PyData.eqv]
        exact eqvAll_map (fun a b => vq_eqv h n a b) xs ys e1 e2
      | li ys => simp [PyData.eqv]
    | li xs =>
      cases eb : view h b with
      | bad => simp [eb] at e2
      | sc e => exact (sc_li (view_sc eb)).2.symm
      | st t => simp [PyData.eqv]
      | tu ys => simp [PyData.eqv]
      | li ys =>
        simp only [ea, eb] at e1 e2
        simp only [PyData.eqv]
        exact eqvAll_map (fun a b => vq_eqv h n a b) xs ys e1 e2
section
variable {K : PySem.W.Frag} {ρ : List Addr} {H : Hp} {h : Hea}
theorem dp_of (q : HR K ρ h H) : ∀ (n : Nat) (a : Va) (x : V), dOk h n a = true → RV K ρ H a x → Dp K H x (toD h n a) ∧ (toD h n a).canLay0 = true ∧ (toD h n a).depth ≤ n
  | 0, _, _, e, _ => by cases e
  | n + 1, a, x, e, rx => by
    have all : ∀ (xs : List Va) (us : List V), xs.all (dOk h n) = true → RVs K ρ H xs us → DpAll K H us (xs.map (toD h n)) ∧ PyData.canLayAll0 (xs.map (toD h n)) = true ∧ PyData.depthAll (xs.map (toD h n)) ≤ n := by
      intro xs
      induction xs with
      | nil => intro us _ r; cases r; exact ⟨.nil, by simp [PyData.canLayAll0], by simp [PyData.depthAll]⟩
      | cons y ys ih =>
        intro us e r
        obtain ⟨u, t, rfl, r1, r2⟩ := r
        rw [List.all_cons, Bool.and_eq_true] at e
        obtain ⟨i1, i2, i3⟩ := ih t e.2 r2
        obtain ⟨j1, j2, j3⟩ := dp_of q n y u e.1 r1
        refine ⟨.cons j1 i1, by simp [PyData.canLayAll0, j2, i2], ?_⟩
        simp only [List.map_cons, PyData.depthAll]
        omega
    unfold dOk at e
    unfold toD
    cases a with
    | non => cases rx; exact ⟨.non, by simp [view, PyData.canLay0], by simp [view, PyData.depth]⟩
    | bl b => cases rx; exact ⟨.bl b, by simp [view, PyData.canLay0], by simp [view, PyData.depth]⟩
    | int b => cases rx; exact ⟨.int b, by simp [view, PyData.canLay0], by simp [view, PyData.depth]⟩
    | str s =>
      cases rx
      refine ⟨.str _, ?_, by simp [view, PyData.depth]⟩
      simp only [view, PyData.canLay0, PyData.strOk]
      have e' : (s.all fun c => decide (c < 1114112)) = true := e
      simpa using e'
    | tup xs =>
      obtain ⟨p, us, rfl, h1, h2⟩ := rx
      have e' : xs.all (dOk h n) = true := e
      obtain ⟨i1, i2, i3⟩ := all xs us e' h2
      exact ⟨.tup h1 i1, by simp only [view, PyData.canLay0]; exact i2, by simp only [view, PyData.depth]; omega⟩
    | fl xs =>
      obtain ⟨p, us, rfl, h1, h2⟩ := rx
      have e' : xs.all (dOk h n) = true := e
      obtain ⟨i1, i2, i3⟩ := all xs us e' h2
      exact ⟨.lst h1.sq i1, by simp only [view, PyData.canLay0]; exact i2, by simp only [view, PyData.depth]; omega⟩
    | ref i =>
      cases g : h.get i with
      | none => simp [view, g] at e
      | some o =>
        cases o with
        | lst xs =>
          obtain ⟨p, us, rfl, _, h1, h2⟩ := q.lst rx g
          have e' : xs.all (dOk h n) = true := by simpa [view, g] using e
          obtain ⟨i1, i2, i3⟩ := all xs us e' h2
          simp only [view, g]
          exact ⟨.lst (SqL.of h1) i1, by simp only [PyData.canLay0]; exact i2, by simp only [PyData.depth]; omega⟩
        | _ => simp [view, g] at e
theorem shaped_of {n : Nat} {d : PyData} (h1 : d.canLay0 = true) (h2 : d.depth ≤ n) (h3 : n ≤ 64) : SeqAt.shaped d = true := by
  unfold SeqAt.shaped
  rw [h1, Bool.true_and, decide_eq_true_eq]
  omega
end
/-- ==, != -/
def vEq (a b : Va) : M Va := fun h => if dOk h 20 a = true then (if dOk h 20 b = true then .ok (.bl (vq h 20 a b)) h else .no) else .no
def vNe (a b : Va) : M Va := fun h => if dOk h 20 a = true then (if dOk h 20 b = true then .ok (.bl (!vq h 20 a b)) h else .no) else .no
section
variable {K : PySem.W.Frag} {W : XW}
theorem s_eq : S2 K W vEq (rEqD K) := fun ρ h H a b x y Q q rx ry s => by
  unfold vEq at s
  by_cases e1 : dOk h 20 a = true
  · rw [if_pos e1] at s
    by_cases e2 : dOk h 20 b = true
    · rw [if_pos e2] at s
      obtain ⟨i1, i2, i3⟩ := dp_of q 20 a x e1 rx
      obtain ⟨j1, j2, j3⟩ := dp_of q 20 b y e2 ry
      exact ⟨_, _, i1, j1, shaped_of i2 i3 (by decide), shaped_of j2 j3 (by decide), by rw [← vq_eqv h 20 a b e1 e2]; exact s.val q rfl⟩
    · rw [if_neg e2] at s; exact False.elim s
  · rw [if_neg e1] at s; exact False.elim s
theorem s_ne : S2 K W vNe (rNeD K) := fun ρ h H a b x y Q q rx ry s => by
  unfold vNe at s
  by_cases e1 : dOk h 20 a = true
  · rw [if_pos e1] at s
    by_cases e2 : dOk h 20 b = true
    · rw [if_pos e2] at s
      obtain ⟨i1, i2, i3⟩ := dp_of q 20 a x e1 rx
      obtain ⟨j1, j2, j3⟩ := dp_of q 20 b y e2 ry
      exact ⟨_, _, i1, j1, shaped_of i2 i3 (by decide), shaped_of j2 j3 (by decide), by rw [← vq_eqv h 20 a b e1 e2]; exact s.val q rfl⟩
    · rw [if_neg e2] at s; exact False.elim s
  · rw [if_neg e1] at s; exact False.elim s
/-- is None, is not None -/
def vIs (a b : Va) : M Va := fun h => match b with
  | .non => match a with
    | .non => .ok (.bl true) h
    | _ => .ok (.bl false) h
  | _ => .no
def vIsNot (a b : Va) : M Va := fun h => match b with
  | .non => match a with
    | .non => .ok (.bl false) h
    | _ => .ok (.bl true) h
  | _ => .no
theorem RV.not_non {ρ : List Addr} {H : Hp} {a : Va} {x : V} (r : RV K ρ H a x) (n : a ≠ .non) : x ≠ .non := by
  cases a with
  | non => exact absurd rfl n
  | bl _ => cases r; simp
  | int _ => cases r; simp
  | str _ => cases r; simp
  | tup _ => obtain ⟨_, _, rfl, _⟩ := r; simp
  | fl _ => obtain ⟨_, _, rfl, _⟩ := r; simp
  | ref _ => obtain ⟨_, rfl, _⟩ := r; simp
theorem s_is : S2 K W vIs (fun x y H Q => y = .non ∧ Q (.bl (decide (x = .non))) H) := fun ρ h H a b x y Q q rx ry s => by
  cases b with
  | non =>
    cases ry
    refine ⟨rfl, ?_⟩
    by_cases n : a = .non
    · subst n
      cases rx
      exact s.val q rfl
    · rw [decide_eq_false (rx.not_non n)]
      cases a with
      | non => exact absurd rfl n
      | _ => exact s.val q rfl
  | _ => exact False.elim s
theorem s_isNot : S2 K W vIsNot (fun x y H Q => y = .non ∧ Q (.bl (!decide (x = .non))) H) := fun ρ h H a b x y Q q rx ry s => by
  cases b with
  | non =>
    cases ry
    refine ⟨rfl, ?_⟩
    by_cases n : a = .non
    · subst n
      cases rx
      exact s.val q rfl
    · rw [decide_eq_false (rx.not_non n)]
      cases a with
      | non => exact absurd rfl n
      | _ => exact s.val q rfl
  | _ => exact False.elim s
end
/-! ### numbers, texts, lists, tuples -/
def sLine : Nat := 16777216
theorem sLine_eq : sLine = sizeLine := by rw [sizeLine_eq]; rfl
def vAdd (a b : Va) : M Va := fun h => match a with
  | .int i => match b with
    | .int j => .ok (.int (i + j)) h
    | .bl k => .ok (.int (i + b2i k)) h
    | _ => .no
  | .str s => match b with
    | .str t => if s.length + t.length ≤ sLine then .ok (.str (s ++ t)) h else .no
    | _ => .no
  | .tup xs => match b with
    | .tup ys => if xs.length + ys.length ≤ sLine then .ok (.tup (xs ++ ys)) h else .no
    | _ => .no
  | .ref i => match b with
    | .ref j => match h.get i with
      | some (.lst xs) => match h.get j with
        | some (.lst ys) => if xs.length + ys.length ≤ sLine then .ok (.ref h.n) (h.push (.lst (xs ++ ys))) else .no
        | _ => .no
      | _ => .no
    | _ => .no
  | _ => .no
def rAdd (K : PySem.W.Frag) : R2 := fun x y H Q => (rI0 (fun i j => .int (i + j)) x y H Q ∨ (∃ i k, x = .int i ∧ y = .bl k ∧ Q (.int (i + b2i k)) H)) ∨
  ((∃ i j, x = .str i ∧ y = .str j ∧ i.length + j.length ≤ sizeLine ∧ Q (.str (i ++ j)) H) ∨ (rCatA K x y H Q ∨ rCat x y H Q))
theorem op_addA {X : Cx} : OpR X (binaryOp .Add) (rAdd X.K) := (op_add.or op_add_ib).or (op_add_str.or (op_catA.or op_cat))
section
variable {K : PySem.W.Frag} {W : XW}
theorem str_app (s t : List Nat) : (⟨s.toArray⟩ : Str) ++ ⟨t.toArray⟩ = ⟨(s ++ t).toArray⟩ := by
  show Str.append _ _ = _
  simp [Str.append]
theorem s_add : S2 K W vAdd (rAdd K) := fun ρ h H a b x y Q q rx ry s => by
  cases a with
  | int i =>
    cases rx
    cases b with
    | int j => cases ry; exact .inl (.inl ⟨i, j, rfl, rfl, s.val q rfl⟩)
    | bl k => cases ry; exact .inl (.inr ⟨i, k, rfl, rfl, s.val q rfl⟩)
    | _ => exact False.elim s
  | str z =>
    cases rx
    cases b with
    | str t =>
      cases ry
      have s' : sat K W ρ H (if z.length + t.length ≤ sLine then .ok (.str (z ++ t)) h else .no) (rv K Q) := s
      by_cases hz : z.length + t.length ≤ sLine
      · rw [if_pos hz] at s'
        refine .inr (.inl ⟨_, _, rfl, rfl, ?_, s'.val q ?_⟩)
        · rw [← sLine_eq]; show z.toArray.size + t.toArray.size ≤ _; simpa using hz
        · show V.str _ = V.str _
          rw [str_app]
      · rw [if_neg hz] at s'; exact False.elim s'
    | _ => exact False.elim s
  | tup xs =>
    obtain ⟨p, us, rfl, h1, h2⟩ := rx
    cases b with
    | tup ys =>
      obtain ⟨p', us', rfl, h1', h2'⟩ := ry
      have s' : sat K W ρ H (if xs.length + ys.length ≤ sLine then .ok (.tup (xs ++ ys)) h else .no) (rv K Q) := s
      by_cases hz : xs.length + ys.length ≤ sLine
      · rw [if_pos hz] at s'
        refine .inr (.inr (.inl ⟨p, p', us, us', rfl, rfl, h1, h1', by rw [← sLine_eq, ← h2.length, ← h2'.length]; exact hz, fun e => ?_, fun _ e => ?_, fun _ _ => s'.newTup q (h2.append h2')⟩))
        · subst e
          have : xs = [] := by have := h2.length; exact List.eq_nil_of_length_eq_zero this
          subst this
          exact s'.val q ⟨p', us', rfl, h1', h2'⟩
        · subst e
          have : ys = [] := by have := h2'.length; exact List.eq_nil_of_length_eq_zero this
          subst this
          exact s'.val q ⟨p, us, rfl, h1, by rw [List.append_nil]; exact h2⟩
      · rw [if_neg hz] at s'; exact False.elim s'
    | _ => exact False.elim s
  | ref i =>
    cases b with
    | ref j =>
      cases g : h.get i with
      | none => simp only [vAdd, g] at s; exact False.elim s
      | some o =>
        cases o with
        | lst xs =>
          cases g2 : h.get j with
          | none => simp only [vAdd, g, g2] at s; exact False.elim s
          | some o2 =>
            cases o2 with
            | lst ys =>
              simp only [vAdd, g, g2] at s
              obtain ⟨p, us, rfl, _, h1, h2⟩ := q.lst rx g
              obtain ⟨p', us', rfl, _, h1', h2'⟩ := q.lst ry g2
              by_cases hz : xs.length + ys.length ≤ sLine
              · rw [if_pos hz] at s
                exact .inr (.inr (.inr ⟨p, p', us, us', rfl, rfl, h1, h1', by rw [← sLine_eq, ← h2.length, ← h2'.length]; exact hz, s.newLst q (h2.append h2')⟩))
              · rw [if_neg hz] at s; exact False.elim s
            | _ => simp only [vAdd, g, g2] at s; exact False.elim s
        | _ => simp only [vAdd, g] at s; exact False.elim s
    | _ => exact False.elim s
  | _ => exact False.elim s
def iop (F : Int → Int → Va) (a b : Va) : M Va := fun h => match a with
  | .int i => match b with
    | .int j => .ok (F i j) h
    | _ => .no
  | _ => .no
def iopC (C : Int → Int → Bool) (F : Int → Int → Va) (a b : Va) : M Va := fun h => match a with
  | .int i => match b with
    | .int j => if C i j = true then .ok (F i j) h else .no
    | _ => .no
  | _ => .no
theorem s_iop {F : Int → Int → Va} {G : Int → Int → V} (e : ∀ i j ρ H, RV K ρ H (F i j) (G i j)) : S2 K W (iop F) (rI0 G) := fun ρ h H a b x y Q q rx ry s => by
  cases a with
  | int i =>
    cases rx
    cases b with
    | int j => cases ry; exact ⟨i, j, rfl, rfl, s.val q (e i j ρ H)⟩
    | _ => exact False.elim s
  | _ => exact False.elim s
theorem s_iopC {C : Int → Int → Bool} {C' : Int → Int → Prop} {F : Int → Int → Va} {G : Int → Int → V} (hc : ∀ i j, C i j = true → C' i j) (e : ∀ i j ρ H, RV K ρ H (F i j) (G i j)) : S2 K W (iopC C F) (rI C' G) := fun ρ h H a b x y Q q rx ry s => by
  cases a with
  | int i =>
    cases rx
    cases b with
    | int j =>
      cases ry
      have s' : sat K W ρ H (if C i j = true then .ok (F i j) h else .no) (rv K Q) := s
      by_cases hz : C i j = true
      · rw [if_pos hz] at s'
        exact ⟨i, j, rfl, rfl, hc i j hz, s'.val q (e i j ρ H)⟩
      · rw [if_neg hz] at s'; exact False.elim s'
    | _ => exact False.elim s
  | _ => exact False.elim s
end
def vSub : Va → Va → M Va := iop fun i j => .int (i - j)
/-- // by a positive number -/
def vDiv : Va → Va → M Va := iopC (fun _ j => decide (0 < j) && decide (j < 1073741824)) fun i j => .int (i / j)
def vMod : Va → Va → M Va := iopC (fun _ j => decide (0 < j)) fun i j => .int (i % j)
def vPow : Va → Va → M Va := iopC (fun i j => decide (0 ≤ j) && (decide (j ≤ 1000000) && decide (i.natAbs < 18446744073709551616))) fun i j => .int (i ^ j.toNat)
def vLt : Va → Va → M Va := iop fun i j => .bl (decide (i < j))
def vLe : Va → Va → M Va := iop fun i j => .bl (decide (i ≤ j))
def vGt : Va → Va → M Va := iop fun i j => .bl (decide (j < i))
def vGe : Va → Va → M Va := iop fun i j => .bl (decide (j ≤ i))
section
variable {W : XW} {X : Cx} {a b : Expr} {A B : Ex} {pos : Pos}
theorem ex_add (ha : EX W X a A) (hb : EX W X b B) : EX W X (.BinOp a .Add b pos) (op2 vAdd A B) := ex_op op_addA s_add ha hb
theorem ex_sub (ha : EX W X a A) (hb : EX W X b B) : EX W X (.BinOp a .Sub b pos) (op2 vSub A B) := ex_op op_sub (s_iop fun _ _ _ _ => rfl) ha hb
theorem ex_div (ha : EX W X a A) (hb : EX W X b B) : EX W X (.BinOp a .FloorDiv b pos) (op2 vDiv A B) := ex_op op_fdiv (s_iopC (fun i j h => by
  simp only [Bool.and_eq_true, decide_eq_true_eq] at h; exact h) fun _ _ _ _ => rfl) ha hb
theorem ex_mod (ha : EX W X a A) (hb : EX W X b B) : EX W X (.BinOp a .Mod b pos) (op2 vMod A B) := ex_op op_mod (s_iopC (fun i j h => by
  simp only [decide_eq_true_eq] at h; exact h) fun _ _ _ _ => rfl) ha hb
theorem ex_pow (ha : EX W X a A) (hb : EX W X b B) : EX W X (.BinOp a .Pow b pos) (op2 vPow A B) := ex_op op_pow (s_iopC (fun i j h => by
  simp only [Bool.and_eq_true, decide_eq_true_eq] at h; exact h) fun _ _ _ _ => rfl) ha hb
def vNeg (a : Va) : M Va := fun h => match a with
  | .int i => .ok (.int (-i)) h
  | _ => .no
theorem ex_neg (ha : EX W X a A) : EX W X (.UnaryOp .USub a pos) (op1 vNeg A) := ex_un un_neg (fun ρ h H a x Q q rx s => by
  cases a with
  | int i => cases rx; exact ⟨i, rfl, s.val q rfl⟩
  | _ => exact False.elim s) ha
variable (hu : X.A.units + 65 < cLine)
include hu
theorem ex_eq (ha : EX W X a A) (hb : EX W X b B) : EX W X (.Compare a [.Eq] [b] pos) (op2 vEq A B) := ex_cmp (op_eqD (by omega)) s_eq ha hb (nomark _)
theorem ex_ne (ha : EX W X a A) (hb : EX W X b B) : EX W X (.Compare a [.NotEq] [b] pos) (op2 vNe A B) := ex_cmp (op_neD (by omega)) s_ne ha hb (nomark _)
theorem tx_eq (ha : EX W X a A) (hb : EX W X b B) : TX W X (.Compare a [.Eq] [b] pos) (isB (op2 vEq A B)) := tx_cmp (op_eqD (by omega)) s_eq ha hb (nomark _)
theorem tx_ne (ha : EX W X a A) (hb : EX W X b B) : TX W X (.Compare a [.NotEq] [b] pos) (isB (op2 vNe A B)) := tx_cmp (op_neD (by omega)) s_ne ha hb (nomark _)
omit hu
theorem ex_is (ha : EX W X a A) (hb : EX W X b B) : EX W X (.Compare a [.Is] [b] pos) (op2 vIs A B) := ex_cmp op_isN s_is ha hb (nomark _)
theorem ex_isNot (ha : EX W X a A) (hb : EX W X b B) : EX W X (.Compare a [.IsNot] [b] pos) (op2 vIsNot A B) := ex_cmp op_notN s_isNot ha hb (nomark _)
theorem tx_is (ha : EX W X a A) (hb : EX W X b B) : TX W X (.Compare a [.Is] [b] pos) (isB (op2 vIs A B)) := tx_cmp op_isN s_is ha hb (nomark _)
theorem tx_isNot (ha : EX W X a A) (hb : EX W X b B) : TX W X (.Compare a [.IsNot] [b] pos) (isB (op2 vIsNot A B)) := tx_cmp op_notN s_isNot ha hb (nomark _)
end
end Rf

/-! Rf: subscripts, slices, displays, calls of built-ins, methods. -/
namespace Rf
open PySem PySem.Spec PyProof.Rows L2

/-! ### subscripts by a number -/
def atV (xs : List Va) (i : Int) (h : Hea) : Rs Va := match atI xs i with
  | some v => .ok v h
  | none => .no
def vIx (a b : Va) : M Va := fun h => match b with
  | .int i => match a with
    | .tup xs => atV xs i h
    | .fl xs => atV xs i h
    | .ref p => match h.get p with
      | some (.lst xs) => atV xs i h
      | _ => .no
    | .str s => if s.length ≤ sLine then (match atI s i with
      | some c => .ok (.str [c]) h
      | none => .no) else .no
    | _ => .no
  | _ => .no
section
variable {K : PySem.W.Frag} {W : XW} {ρ : List Addr} {H : Hp} {h : Hea}
theorem atI_rel {xs : List Va} {us : List V} {i : Int} {v : Va} (r : RVs K ρ H xs us) (e : atI xs i = some v) : ∃ u, atI us i = some u ∧ RV K ρ H v u := by
  unfold atI at e ⊢
  rw [← r.length]
  cases q : ixN xs.length i with
  | none => rw [q] at e; cases e
  | some j =>
    rw [q] at e
    exact r.get (show xs[j]? = some v from e)
theorem sat.atV {xs : List Va} {us : List V} {i : Int} {Q : VK} (s : sat K W ρ H (atV xs i h) (rv K Q)) (q : HR K ρ h H) (r : RVs K ρ H xs us) : ∃ u, atI us i = some u ∧ Q u H := by
  unfold Rf.atV at s
  cases e : atI xs i with
  | none => rw [e] at s; exact False.elim s
  | some v =>
    rw [e] at s
    obtain ⟨u, h1, h2⟩ := atI_rel r e
    exact ⟨u, h1, s.val q h2⟩
theorem s_ix : S2 K W vIx (rIx K) := fun ρ h H a b x y Q q rx ry s => by
  cases b with
  | int i =>
    cases ry
    cases a with
    | tup xs =>
      obtain ⟨p, us, rfl, h1, h2⟩ := rx
      obtain ⟨u, e, q1⟩ := sat.atV (show sat K W ρ H (atV xs i h) (rv K Q) from s) q h2
      exact .inr (.inl ⟨p, us, i, u, rfl, rfl, h1, e, q1⟩)
    | fl xs =>
      obtain ⟨p, us, rfl, h1, h2⟩ := rx
      obtain ⟨u, e, q1⟩ := sat.atV (show sat K W ρ H (atV xs i h) (rv K Q) from s) q h2
      exact .inl ⟨p, us, i, u, rfl, rfl, h1.sq, e, q1⟩
    | ref j =>
      cases g : h.get j with
      | none => simp only [vIx, g] at s; exact False.elim s
      | some o =>
        cases o with
        | lst xs =>
          simp only [vIx, g] at s
          obtain ⟨p, us, rfl, _, h1, h2⟩ := q.lst rx g
          obtain ⟨u, e, q1⟩ := sat.atV s q h2
          exact .inl ⟨p, us, i, u, rfl, rfl, SqL.of h1, e, q1⟩
        | _ => simp only [vIx, g] at s; exact False.elim s
    | str z =>
      cases rx
      have s' : sat K W ρ H (if z.length ≤ sLine then (match atI z i with
        | some c => .ok (.str [c]) h
        | none => .no) else .no) (rv K Q) := s
      by_cases hz : z.length ≤ sLine
      · rw [if_pos hz] at s'
        cases e : atI z i with
        | none => rw [e] at s'; exact False.elim s'
        | some c =>
          rw [e] at s'
          refine .inr (.inr ⟨_, i, c, rfl, rfl, ?_, ?_, s'.val q rfl⟩)
          · rw [← sLine_eq]; show z.toArray.size ≤ _; simpa using hz
          · simpa using e
      · rw [if_neg hz] at s'; exact False.elim s'
    | _ => exact False.elim s
  | _ => exact False.elim s
end
section
variable {W : XW} {X : Cx} {a b e : Expr} {A B : Ex} {pos p2 : Pos}
theorem ex_ixS (ha : EX W X a A) (hb : EX W X b B) (hp : PlainIx b := by exact fun _ _ => rfl) : EX W X (.Subscript a b pos) (op2 vIx A B) := ex_ix ix_seq s_ix ha hb hp
end

/-! ### slices -/
abbrev Px := Lo → M (Option Int)
def noPart : Px := fun _ h => .ok none h
def aPart (A : Ex) : Px := fun l h => (A l h).bind fun a h1 => match a with
  | .int i => .ok (some i) h1
  | _ => .no
def cutL {α : Type} (xs : List α) (lo hi : Option Int) : List α := (xs.drop (HT.sIx xs.length 0 lo)).take (HT.sIx xs.length xs.length hi - HT.sIx xs.length 0 lo)
def vSl (a : Va) (lo hi : Option Int) : M Va := fun h => match a with
  | .tup xs => .ok (.tup (cutL xs lo hi)) h
  | .ref p => match h.get p with
    | some (.lst xs) => .ok (.ref h.n) (h.push (.lst (cutL xs lo hi)))
    | _ => .no
  | .str s => if s.length ≤ sLine then .ok (.str (cutL s lo hi)) h else .no
  | _ => .no
def slE (A : Ex) (B C : Px) : Ex := fun l h => (A l h).bind fun a h1 => (B l h1).bind fun lo h2 => (C l h2).bind fun hi h3 => vSl a lo hi h3
def tP (K : PySem.W.Frag) (W : XW) (A : Px) : TO := fun σ H Q => ∃ ρ l h, LR K ρ H l σ ∧ HR K ρ h H ∧ sat K W ρ H (A l h) (fun o _ _ H' => Q o H')
structure PX (W : XW) (X : Cx) (e : Option Expr) (A : Px) : Prop where
  po : PO X e (tP X.K W A)
theorem tP.go {K : PySem.W.Frag} {W : XW} {A : Px} {ρ : List Addr} {l : Lo} {h : Hea} {σ : L2.St} {H : Hp} {β : Type} {f : Option Int → Hea → Rs β} {Q : β → Hea → List Addr → Hp → Prop} {R : Option Int → Hp → Prop}
    (L : LR K ρ H l σ) (r : HR K ρ h H) (s : sat K W ρ H ((A l h).bind f) Q)
    (k : ∀ a h1 ρ1 H1, Ext K ρ H ρ1 H1 → LR K ρ1 H1 l σ → HR K ρ1 h1 H1 → sat K W ρ1 H1 (f a h1) Q → R a H1) : tP K W A σ H R :=
  ⟨ρ, l, h, L, r, s.bind.mono fun a h1 ρ1 H1 e r1 s1 => k a h1 ρ1 H1 e (L.ext e) r1 s1⟩
section
variable {W : XW} {X : Cx} {a b e : Expr} {A : Ex} {B C : Px} {pos p2 : Pos} {lo hi : Option Expr}
theorem PO.weak {e : Option Expr} {t t' : TO} (h : PO X e t) (f : ∀ σ H Q, t' σ H Q → t σ H Q) : PO X e t' := ⟨fun pins s σ H Q I q => h.run pins s σ H Q I (f σ H Q q)⟩
theorem px_none : PX W X none noPart := ⟨PO.weak po_none fun σ H Q ⟨ρ, l, h, L, q, s⟩ => s.ok q⟩
theorem px_some (ha : EX W X a A) : PX W X (some a) (aPart A) := ⟨PO.weak (po_some ha.pe) fun σ H Q ⟨ρ, l, h, L, q, s⟩ => tE.go L q s fun a h1 ρ1 H1 x e1 L1 q1 rx s1 => by
  cases a with
  | int i => cases rx; exact ⟨i, rfl, s1.ok q1⟩
  | _ => exact False.elim s1⟩
theorem cutV_rel {K : PySem.W.Frag} {ρ : List Addr} {H : Hp} {xs : List Va} {us : List V} (lo hi : Option Int) (r : RVs K ρ H xs us) : RVs K ρ H (cutL xs lo hi) (cutV us lo hi) := by
  unfold cutL cutV
  rw [← r.length]
  exact (r.drop _).take _
theorem ex_slice (ha : EX W X a A) (hl : PX W X lo B) (hh : PX W X hi C) : EX W X (.Subscript a (.Slice lo hi none p2) pos) (slE A B C) := by
  refine ⟨PE.weak (pe_slice ((sl_list (X := X)).or (sl_tupA.or sl_str)) ha.pe hl.po hh.po) fun σ H Q ⟨ρ, l, h, L, q, s⟩ => ?_⟩
  refine tE.go L q s fun a h1 ρ1 H1 x e1 L1 q1 rx s1 => tP.go L1 q1 s1 fun lo h2 ρ2 H2 e2 L2' q2 s2 => tP.go L2' q2 s2 fun hi h3 ρ3 H3 e3 L3 q3 s3 => ?_
  have rx := RV.ext (e2.trans e3) a rx
  cases a with
  | tup xs =>
    obtain ⟨p, us, rfl, g1, g2⟩ := rx
    have s' : sat X.K W ρ3 H3 (.ok (.tup (cutL xs lo hi)) h3) (rv X.K Q) := s3
    refine .inr (.inl ⟨p, us, rfl, g1, fun hw => ?_, fun _ => s'.newTup q3 (cutV_rel lo hi g2)⟩)
    refine s'.val q3 ⟨p, us, rfl, g1, ?_⟩
    have e := cutV_rel lo hi g2
    unfold cutV at e
    rw [hw.1, hw.2, List.drop_zero, Nat.sub_zero, List.take_length] at e
    exact e
  | ref j =>
    cases g : h3.get j with
    | none => simp only [vSl, g] at s3; exact False.elim s3
    | some o =>
      cases o with
      | lst xs =>
        simp only [vSl, g] at s3
        obtain ⟨p, us, rfl, _, g1, g2⟩ := q3.lst rx g
        exact .inl ⟨p, us, rfl, SqL.of g1, s3.newLst q3 (cutV_rel lo hi g2)⟩
      | _ => simp only [vSl, g] at s3; exact False.elim s3
  | str z =>
    cases rx
    have s' : sat X.K W ρ3 H3 (if z.length ≤ sLine then .ok (.str (cutL z lo hi)) h3 else .no) (rv X.K Q) := s3
    by_cases hz : z.length ≤ sLine
    · rw [if_pos hz] at s'
      refine .inr (.inr ⟨_, rfl, ?_, s'.val q3 ?_⟩)
      · rw [← sLine_eq]; show z.toArray.size ≤ _; simpa using hz
      · show V.str (cutS _ lo hi) = V.str _
        unfold cutS cutL
        have : (⟨z.toArray⟩ : Str).length = z.length := by show z.toArray.size = _; simp
        rw [this]
    · rw [if_neg hz] at s'; exact False.elim s'
  | _ => exact False.elim s3

/-! ### [::-1] -/
def tRevS (te : TE) : TE := fun σ H Q => te σ H fun x H1 => ∃ z, x = .str z ∧ z.length ≤ sizeLine ∧ Q (.str ⟨z.cps.toList.reverse.toArray⟩) H1
theorem sidx_rev (n : Nat) : Builtin.Str.strSliceIndices none none (-1) n = (List.range n).reverse := by
  have : Builtin.Str.strSliceIndices none none (-1) n = sliceRange ((n : Int) - 1) (-1) (-1) := by
    simp [Builtin.Str.strSliceIndices]
  rw [this, PySem.W.krv_sliceRange, PySem.W.krv_range]
theorem pe_revS {e : Expr} {te : TE} {k : Nat} {p1 p2 p3 pos : Pos} (he : PE X e te) : PE X (.Subscript e (.Slice none none (some (.UnaryOp .USub (.Constant (.int 1) k p1) p2)) p3) pos) (tRevS te) := by
  refine ⟨fun pins s σ H Q I h => ?_⟩
  refine Subscript_ (thn (he.run pins s σ H _ I h) fun v s1 ⟨x, H1, I1, r1, q1⟩ => ?_)
  obtain ⟨z, ex, hz, q⟩ := q1
  subst ex
  obtain ⟨t, rfl⟩ := r1
  have hst : PO X (some (.UnaryOp .USub (.Constant (.int 1) k p1) p2)) (tPart (tUn (rU fun i => .int (-i)) (tC (.int 1)))) := po_some (pe_un un_neg pe_int)
  refine wpAny_Slice (thn (po_none.run pins s1 σ H1 (fun o H2 => o = none ∧ H2 = H1) I1 ⟨rfl, rfl⟩) fun vl s2 ⟨l, H2, I2, pl, el, e2⟩ => ?_)
  subst el e2
  refine thn (po_none.run pins s2 σ H2 (fun o H3 => o = none ∧ H3 = H2) I2 ⟨rfl, rfl⟩) fun vu s3 ⟨u, H3, I3, pu, eu, e3⟩ => ?_
  subst eu e3
  refine thn (hst.run pins s3 σ H3 (fun o H4 => o = some (-1) ∧ H4 = H3) I3 ⟨1, rfl, -1, rfl, rfl, rfl⟩) fun vs s4 ⟨o, H4, I4, ps, eo, e4⟩ => ?_
  subst eo e4
  have I5 : Inv X pins σ H4 { s4 with heap := s4.heap.push { cls := .type "slice", data := .fields #[vl, vu, vs] } } := I4.kept (t' := s4.toks) fun b ob q => Heap.get?_push_of_some _ q
  show wpAny (model X.prog X.w) X.A (subscriptTail e (.Slice none none (some (.UnaryOp .USub (.Constant (.int 1) k p1) p2)) p3) (.str z t) (.ref s4.heap.objs.size)) (EP X pins σ Q) X.xe { s4 with heap := s4.heap.push { cls := .type "slice", data := .fields #[vl, vu, vs] } }
  refine tail_any (ops := [.ref s4.heap.objs.size, .str z t]) (typeIs_str _ z t) F.slot_str_getitem.lookup ?_ (by with_unfolding_all rfl)
  obtain ⟨l', rfl, e1⟩ := IsPart.raw pl
  obtain ⟨u', rfl, e2⟩ := IsPart.raw pu
  obtain ⟨st', rfl, e3⟩ := IsPart.raw ps
  have l0 : l' = none := by cases l' with | none => rfl | some _ => cases e1
  have u0 : u' = none := by cases u' with | none => rfl | some _ => cases e2
  subst l0 u0
  obtain ⟨i, ti, rfl⟩ : ∃ i ti, st' = some (i, ti) := by
    cases st' with
    | none => cases e3
    | some pr => exact ⟨pr.1, pr.2, rfl⟩
  have ei : i = -1 := by simpa using e3
  subst ei
  refine wpAny_getItem_str_slice (l := none) (u := none) (st := some (-1, ti)) ⟨_, Heap.get?_push_size _ rfl, rfl, rfl⟩ rfl ?_
  have e4 : sliceMade z t none none (some (-1, ti)) = .str ⟨z.cps.toList.reverse.toArray⟩ := by
    unfold sliceMade slicePicked
    simp only [Option.map_none, Option.map_some, Option.getD_some]
    rw [sidx_rev, if_neg (by simp)]
    congr 2
    rw [List.filterMap_reverse]
    have := PySem.W.krv_all z.cps
    rw [show z.length = z.cps.size from rfl, this]
  rw [e4]
  refine ⟨?_, .str _, H4, I5.tok _, ⟨_, rfl⟩, q⟩
  show (z.cps.toList.reverse.toArray).size ≤ sizeLine
  have : z.cps.size ≤ sizeLine := hz
  simpa using this
def vRev (a : Va) : M Va := fun h => match a with
  | .ref p => match h.get p with
    | some (.lst xs) => .ok (.ref h.n) (h.push (.lst xs.reverse))
    | _ => .no
  | .str s => if s.length ≤ sLine then .ok (.str s.reverse) h else .no
  | _ => .no
theorem pe_either {e : Expr} {t t' : TE} (h1 : PE X e t) (h2 : PE X e t') : PE X e (fun σ H Q => t σ H Q ∨ t' σ H Q) := ⟨fun pins s σ H Q I q => q.elim (h1.run pins s σ H Q I) (h2.run pins s σ H Q I)⟩
theorem ex_rev {k : Nat} {p1 p3 : Pos} (ha : EX W X a A) : EX W X (.Subscript a (.Slice none none (some (.UnaryOp .USub (.Constant (.int 1) k p1) p2)) p3) pos) (op1 vRev A) := by
  refine ⟨PE.weak (pe_either (pe_revL ha.pe) (pe_revS ha.pe)) fun σ H Q ⟨ρ, l, h, L, q, s⟩ => ?_⟩
  cases e : A l h with
  | no => simp only [op1, e, Rs.bind] at s; exact False.elim s
  | err c v h' =>
    simp only [op1, e, Rs.bind] at s
    exact .inl ⟨ρ, l, h, L, q, by rw [e]; exact s⟩
  | ok a h' =>
    simp only [op1, e, Rs.bind] at s
    cases a with
    | ref j =>
      refine .inl (tE.at L q e fun ρ1 H1 u x L1 q1 ru => ?_)
      have s := s.shift x
      cases g : h'.get j with
      | none => simp only [vRev, g] at s; exact False.elim s
      | some o =>
        cases o with
        | lst xs =>
          simp only [vRev, g] at s
          obtain ⟨p, us, rfl, _, g1, g2⟩ := q1.lst ru g
          exact ⟨p, us, rfl, SqL.of g1, s.newLst q1 g2.reverse⟩
        | _ => simp only [vRev, g] at s; exact False.elim s
    | str z =>
      refine .inr (tE.at L q e fun ρ1 H1 u x L1 q1 ru => ?_)
      have s' : sat X.K W ρ H (if z.length ≤ sLine then .ok (.str z.reverse) h' else .no) (rv X.K Q) := s
      have s := s'.shift x
      cases ru
      by_cases hz : z.length ≤ sLine
      · rw [if_pos hz] at s
        refine ⟨_, rfl, ?_, s.val q1 rfl⟩
        rw [← sLine_eq]; show z.toArray.size ≤ _; simpa using hz
      · rw [if_neg hz] at s; exact False.elim s
    | _ => exact False.elim s
end
end Rf

/-! Rf: displays, calls of built-ins, methods. -/
namespace Rf
open PySem PySem.Spec PyProof.Rows L2

/-! ### argument lists, displays -/
def aNil : Ax := fun _ h => .ok [] h
def aCons (A : Ex) (B : Ax) : Ax := fun l h => (A l h).bind fun a h1 => (B l h1).bind fun xs h2 => .ok (a :: xs) h2
def tupE (A : Ax) : Ex := fun l h => (A l h).bind fun xs h1 => if xs.length ≤ sLine then .ok (.tup xs) h1 else .no
def lstE (A : Ax) : Ex := fun l h => (A l h).bind fun xs h1 => if xs.length ≤ sLine then .ok (.ref h1.n) (h1.push (.lst xs)) else .no
section
variable {W : XW} {X : Cx} {e : Expr} {es : List Expr} {A : Ex} {B : Ax} {pos : Pos}
theorem ax_nil : AX W X [] aNil := ⟨PA.weak pa_nil fun σ H Q ⟨ρ, l, h, L, q, s⟩ => s.ok q [] rfl⟩
theorem ax_cons (ha : EX W X e A) (hb : AX W X es B) (hs : starEach (e :: es) X.env = (false, eval e X.env) :: starEach es X.env := by rfl) : AX W X (e :: es) (aCons A B) :=
  ⟨PA.weak (pa_cons ha.pe hb.pa hs) fun σ H Q ⟨ρ, l, h, L, q, s⟩ => tE.go L q s fun a h1 ρ1 H1 x e1 L1 q1 rx s1 => tA.go L1 q1 s1 fun xs h2 ρ2 H2 us e2 L2 q2 rs s2 => s2.ok q2 (x :: us) ⟨x, us, rfl, RV.ext e2 a rx, rs⟩⟩
theorem ex_tup {x1} (ha : AX W X es B) : EX W X (.Tuple es x1 pos) (tupE B) :=
  ⟨PE.weak (pe_tup ha.pa) fun σ H Q ⟨ρ, l, h, L, q, s⟩ => tA.go L q s fun xs h2 ρ2 H2 us e2 L2 q2 rs s2 => by
    by_cases hz : xs.length ≤ sLine
    · rw [if_pos hz] at s2
      exact ⟨by rw [← rs.length, ← sLine_eq]; exact hz, s2.newTup q2 rs⟩
    · rw [if_neg hz] at s2; exact False.elim s2⟩
theorem ex_lst (ha : AX W X es B) : EX W X (.List es pos) (lstE B) :=
  ⟨PE.weak (pe_lst ha.pa) fun σ H Q ⟨ρ, l, h, L, q, s⟩ => tA.go L q s fun xs h2 ρ2 H2 us e2 L2 q2 rs s2 => by
    by_cases hz : xs.length ≤ sLine
    · rw [if_pos hz] at s2
      exact ⟨by rw [← rs.length, ← sLine_eq]; exact hz, s2.newLst q2 rs⟩
    · rw [if_neg hz] at s2; exact False.elim s2⟩
end

/-! ### calls of built-ins by name -/
abbrev Fn := List Va → M Va
def callE (F : Fn) (A : Ax) : Ex := fun l h => (A l h).bind fun xs h1 => F xs h1
def SC (K : PySem.W.Frag) (W : XW) (F : Fn) (r : List V → Hp → VK → Prop) : Prop := ∀ ρ h H xs us Q, HR K ρ h H → RVs K ρ H xs us → sat K W ρ H (F xs h) (rv K Q) → r us H Q
/-- of one value -/
def fn1 (F : Va → M Va) : Fn := fun xs h => match xs with
  | [a] => F a h
  | _ => .no
section
variable {W : XW} {X : Cx} {e : Expr} {es : List Expr} {A : Ax} {pos p : Pos} {x : Str} {id T : String} {F : Fn} {r : List V → Hp → VK → Prop}
theorem tA.call {K : PySem.W.Frag} (hs : SC K W F r) : ∀ σ H Q, tE K W (callE F A) σ H Q → tCB r (tA K W A) σ H Q := fun σ H Q ⟨ρ, l, h, L, q, s⟩ =>
  tA.go L q s fun xs h1 ρ1 H1 us e1 L1 q1 rs s1 => hs ρ1 h1 H1 xs us Q q1 rs s1
theorem ex_callB (hc : CallR X (.builtin id) r) (hs : SC X.K W F r) (hg : Gl X x) (hm : X.mg x = none) (hv : bootBuiltins x = some (.builtin id)) (ha : AX W X (e :: es) A) (hn : x ≠ "__name__" := by decide) (hdb : (x == ("__debug__" : Str)) = false := by decide)
    (he : starEach (e :: es) X.env = (false, eval e X.env) :: starEach es X.env := by rfl) (hpl : (backTo pos (starEach es X.env)).any (·.1) = false := by rfl) : EX W X (.Call (.Name x p) (e :: es) [] pos) (callE F A) :=
  ⟨PE.weak (pe_callB hc hg hm hv ha.pa hn hdb he hpl) (tA.call hs)⟩
theorem ex_callTy (hc : CallR X (.type T) r) (hs : SC X.K W F r) (hg : Gl X x) (hm : X.mg x = none) (hv : bootBuiltins x = some (.type T)) (ha : AX W X (e :: es) A) (hn : x ≠ "__name__" := by decide) (hdb : (x == ("__debug__" : Str)) = false := by decide)
    (he : starEach (e :: es) X.env = (false, eval e X.env) :: starEach es X.env := by rfl) (hpl : (backTo pos (starEach es X.env)).any (·.1) = false := by rfl) : EX W X (.Call (.Name x p) (e :: es) [] pos) (callE F A) :=
  ⟨PE.weak (pe_callTy hc hg hm hv ha.pa hn hdb he hpl) (tA.call hs)⟩
end
theorem RVs.nil_of {K : PySem.W.Frag} {ρ : List Addr} {H : Hp} {us : List V} (r : RVs K ρ H [] us) : us = [] := r
/-- a sequence of values: a list, a tuple -/
def seqV (h : Hea) : Va → Option (List Va)
  | .tup xs => some xs
  | .fl xs => some xs
  | .ref i => match h.get i with
    | some (.lst xs) => some xs
    | _ => none
  | _ => none
/-- a list alone -/
def lstV (h : Hea) : Va → Option (List Va)
  | .fl xs => some xs
  | .ref i => match h.get i with
    | some (.lst xs) => some xs
    | _ => none
  | _ => none
section
variable {K : PySem.W.Frag} {W : XW} {ρ : List Addr} {H : Hp} {h : Hea}
theorem seqV_ok {a : Va} {x : V} {xs : List Va} (q : HR K ρ h H) (rx : RV K ρ H a x) (e : seqV h a = some xs) : ∃ p us, x = .ref p ∧ (SqL K H p us ∨ SqT K H p us) ∧ RVs K ρ H xs us := by
  cases a with
  | tup ys => cases e; obtain ⟨p, us, rfl, h1, h2⟩ := rx; exact ⟨p, us, rfl, .inr h1, h2⟩
  | fl ys => cases e; obtain ⟨p, us, rfl, h1, h2⟩ := rx; exact ⟨p, us, rfl, .inl h1.sq, h2⟩
  | ref i =>
    have e' : (match h.get i with
      | some (.lst xs) => some xs
      | _ => none) = some xs := e
    split at e'
    · rename_i ys g
      cases e'
      obtain ⟨p, us, rfl, _, h1, h2⟩ := q.lst rx g
      exact ⟨p, us, rfl, .inl (SqL.of h1), h2⟩
    · cases e'
  | _ => cases e
theorem lstV_ok {a : Va} {x : V} {xs : List Va} (q : HR K ρ h H) (rx : RV K ρ H a x) (e : lstV h a = some xs) : ∃ p us, x = .ref p ∧ SqL K H p us ∧ RVs K ρ H xs us := by
  cases a with
  | fl ys => cases e; obtain ⟨p, us, rfl, h1, h2⟩ := rx; exact ⟨p, us, rfl, h1.sq, h2⟩
  | ref i =>
    have e' : (match h.get i with
      | some (.lst xs) => some xs
      | _ => none) = some xs := e
    split at e'
    · rename_i ys g
      cases e'
      obtain ⟨p, us, rfl, _, h1, h2⟩ := q.lst rx g
      exact ⟨p, us, rfl, SqL.of h1, h2⟩
    · cases e'
  | _ => cases e
theorem s_fn1 {F : Va → M Va} {r : V → Hp → VK → Prop} (hs : S1 K W F r) : SC K W (fn1 F) (fun us H Q => ∃ u, us = [u] ∧ r u H Q) := fun ρ h H xs us Q q rs s => by
  match xs, rs with
  | [a], ⟨u, t, e, r1, r2⟩ =>
    cases r2
    exact ⟨u, e, hs ρ h H a u Q q r1 s⟩
  | [], _ => exact False.elim s
  | _ :: _ :: _, _ => exact False.elim s
theorem callR_imp {X : Cx} {f : Value} {r r' : List V → Hp → VK → Prop} (h : CallR X f r) (i : ∀ us H Q, r' us H Q → r us H Q) : CallR X f r' := fun pins s σ H xs us Q I rv q => h pins s σ H xs us Q I rv (i xs H Q q)

/-! ### len -/
def vLen (a : Va) : M Va := fun h => match a with
  | .str s => if s.length ≤ sLine then .ok (.int s.length) h else .no
  | .ref i => match h.get i with
    | some (.lst xs) => .ok (.int xs.length) h
    | some (.dic kvs) => .ok (.int kvs.length) h
    | _ => .no
  | .tup xs => .ok (.int xs.length) h
  | .fl xs => .ok (.int xs.length) h
  | _ => .no
def rLen (K : PySem.W.Frag) : V → Hp → VK → Prop := fun x H Q => (∃ n, LenV K x H n ∧ Q (.int n) H) ∨ ∃ d kvs, x = .ref d ∧ H d = some (.dK kvs) ∧ Q (.int kvs.length) H
end
section
variable {K : PySem.W.Frag} {W : XW} {ρ : List Addr} {H : Hp} {h : Hea}
theorem s_len : S1 K W vLen (rLen K) := fun ρ h H a x Q q rx s => by
  cases a with
  | str z =>
    cases rx
    have s' : sat K W ρ H (if z.length ≤ sLine then .ok (.int z.length) h else .no) (rv K Q) := s
    by_cases hz : z.length ≤ sLine
    · rw [if_pos hz] at s'
      refine .inl ⟨z.length, ⟨?_, ?_⟩, s'.val q rfl⟩
      · rw [← sLine_eq]; show z.toArray.size ≤ _; simpa using hz
      · show z.length = z.toArray.size; simp
    · rw [if_neg hz] at s'; exact False.elim s'
  | tup xs =>
    obtain ⟨p, us, rfl, h1, h2⟩ := rx
    exact .inl ⟨xs.length, .inr ⟨us, h1, h2.length⟩, s.val q rfl⟩
  | fl xs =>
    obtain ⟨p, us, rfl, h1, h2⟩ := rx
    exact .inl ⟨xs.length, .inl ⟨us, h1.sq, h2.length⟩, s.val q rfl⟩
  | ref i =>
    have s' : sat K W ρ H (match h.get i with
      | some (.lst xs) => .ok (.int xs.length) h
      | some (.dic kvs) => .ok (.int kvs.length) h
      | _ => .no) (rv K Q) := s
    split at s'
    · rename_i xs g
      obtain ⟨p, us, rfl, _, h1, h2⟩ := q.lst rx g
      exact .inl ⟨xs.length, .inl ⟨us, SqL.of h1, h2.length⟩, s'.val q rfl⟩
    · rename_i xs g
      obtain ⟨p, rfl, _, us, h1, h2⟩ := q.at_ref rx g
      have := Paired.length h2
      exact .inr ⟨p, us, rfl, h1, s'.val q (by show V.int _ = V.int _; rw [this])⟩
    · exact False.elim s'
  | _ => exact False.elim s
theorem call_lenA {X : Cx} : CallR X (.builtin "len") (fun us H Q => ∃ u, us = [u] ∧ rLen X.K u H Q) := callR_imp (call_len.or call_lenD) fun us H Q q => by
  obtain ⟨u, rfl, q⟩ := q
  rcases q with ⟨n, e, q⟩ | ⟨d, kvs, rfl, e, q⟩
  · exact .inl ⟨u, n, rfl, e, q⟩
  · exact .inr ⟨d, kvs, rfl, e, q⟩

/-! ### int, list, tuple -/
def vInt (a : Va) : M Va := fun h => match a with
  | .int i => .ok (.int i) h
  | .bl b => .ok (.int (if b then 1 else 0)) h
  | _ => .no
theorem s_int : SC K W (fn1 vInt) (fun xs H Q => (∃ i, xs = [.int i] ∧ Q (.int i) H) ∨ ∃ k, xs = [.bl k] ∧ Q (.int (if k then 1 else 0)) H) := fun ρ h H xs us Q q rs s => by
  match xs, rs with
  | [a], ⟨u, t, e, r1, r2⟩ =>
    cases r2
    subst e
    cases a with
    | int i => cases r1; exact .inl ⟨i, rfl, s.val q rfl⟩
    | bl i => cases r1; exact .inr ⟨i, rfl, s.val q rfl⟩
    | _ => exact False.elim s
  | [], _ => exact False.elim s
  | _ :: _ :: _, _ => exact False.elim s
def vList (a : Va) : M Va := fun h => match a with
  | .str s => if s.length ≤ sLine then .ok (.ref h.n) (h.push (.lst (s.map fun c => .str [c]))) else .no
  | a => match seqV h a with
    | some xs => .ok (.ref h.n) (h.push (.lst xs))
    | none => .no
theorem call_list_strV {X : Cx} (hc : X.calm = true) : CallR X (.type "list") (fun xs H Q => ∃ z : List Nat, xs = [.str ⟨z.toArray⟩] ∧ z.length ≤ sLine ∧ ∀ p, H p = none → Q (.ref p) (upd H p (.lst (z.map fun c => V.str ⟨#[c]⟩)))) := by
  intro pins s σ H xs us Q I r h
  obtain ⟨z, rfl, hz, q⟩ := h
  obtain ⟨u, rfl, t, rfl⟩ := vals1 r
  have hz2 : (⟨z.toArray⟩ : Str).cps.size ≤ sizeLine := by rw [← sLine_eq]; simpa using hz
  refine call_list_str (I.ok.hd hc) _ t (hn := hz2) fun h' tk acc' c' hk hS hacc => ?_
  have hn : H s.heap.objs.size = none := I.hok.fresh (Nat.le_refl _)
  have rel : Vals (z.map fun c => V.str ⟨#[c]⟩) acc'.toList := by
    have key : ∀ (n : Nat) (zs : List Nat) (vs : List Value), zs.length = vs.length → (∀ (j : Nat) (v : Value), vs[j]? = some v → ∃ (c : Nat) (u : Tok), zs[j]? = some c ∧ v = Value.str ⟨#[c]⟩ u) → Vals (zs.map fun c => V.str ⟨#[c]⟩) vs := by
      intro n zs
      induction zs with
      | nil => intro vs hl _; cases vs with
        | nil => exact .nil
        | cons _ _ => simp at hl
      | cons c r ih =>
        intro vs hl hv
        cases vs with
        | nil => simp at hl
        | cons v vs =>
          obtain ⟨c', u, h1, h2⟩ := hv 0 v rfl
          simp at h1
          subst h1
          refine .cons ⟨u, h2⟩ (ih vs (by simpa using hl) fun j w hw => ?_)
          obtain ⟨c2, u2, h3, h4⟩ := hv (j + 1) w (by simpa using hw)
          exact ⟨c2, u2, by simpa using h3, h4⟩
    have hl : z.length = acc'.toList.length := by
      have := hacc.1
      simp at this ⊢
      omega
    refine key 0 z acc'.toList hl fun j v hv => ?_
    obtain ⟨c, u, h1, h2⟩ := hacc.2 j v (by simpa using hv)
    exact ⟨c, u, by simpa using h1, h2⟩
  have new : ObjOk X.prog X.w (upd H s.heap.objs.size (.lst (z.map fun c => V.str ⟨#[c]⟩))) h' s.heap.objs.size (.lst (z.map fun c => V.str ⟨#[c]⟩)) :=
    ⟨by simpa using hz2, acc'.toList, c', rel, by simpa using hS⟩
  exact ⟨.ref s.heap.objs.size, _, I.laid (t' := tk) hk (Nat.le_refl _) new, rfl, q _ hn⟩
theorem RVs.signs : ∀ z : List Nat, RVs K ρ H (z.map fun c => Va.str [c]) (z.map fun c => V.str ⟨#[c]⟩)
  | [] => rfl
  | c :: z => ⟨_, _, rfl, rfl, RVs.signs z⟩
theorem s_list : SC K W (fn1 vList) (fun xs H Q => (∃ p ys, xs = [.ref p] ∧ (SqL K H p ys ∨ SqT K H p ys) ∧ ∀ l, H l = none → Q (.ref l) (upd H l (.lst ys))) ∨
    ∃ z : List Nat, xs = [.str ⟨z.toArray⟩] ∧ z.length ≤ sLine ∧ ∀ p, H p = none → Q (.ref p) (upd H p (.lst (z.map fun c => V.str ⟨#[c]⟩)))) := fun ρ h H xs us Q q rs s => by
  match xs, rs with
  | [a], ⟨u, t, e, r1, r2⟩ =>
    cases r2
    subst e
    have go : ∀ zs, seqV h a = some zs → sat K W ρ H (.ok (.ref h.n) (h.push (.lst zs))) (rv K Q) → ∃ p ys, [u] = [V.ref p] ∧ (SqL K H p ys ∨ SqT K H p ys) ∧ ∀ l, H l = none → Q (.ref l) (upd H l (.lst ys)) := fun zs e s => by
      obtain ⟨p, ws, rfl, h1, h2⟩ := seqV_ok q r1 e
      exact ⟨p, ws, rfl, h1, s.newLst q h2⟩
    cases a with
    | str z =>
      cases r1
      have s' : sat K W ρ H (if z.length ≤ sLine then .ok (.ref h.n) (h.push (.lst (z.map fun c => .str [c]))) else .no) (rv K Q) := s
      by_cases hz : z.length ≤ sLine
      · rw [if_pos hz] at s'
        exact .inr ⟨z, rfl, hz, s'.newLst q (RVs.signs z)⟩
      · rw [if_neg hz] at s'; exact False.elim s'
    | non => exact False.elim s
    | bl b => exact False.elim s
    | int b => exact False.elim s
    | tup ys => exact .inl (go ys rfl s)
    | fl ys => exact .inl (go ys rfl s)
    | ref i =>
      have s' : sat K W ρ H (match seqV h (.ref i) with
        | some xs => .ok (.ref h.n) (h.push (.lst xs))
        | none => .no) (rv K Q) := s
      cases e : seqV h (.ref i) with
      | none => rw [e] at s'; exact False.elim s'
      | some zs => rw [e] at s'; exact .inl (go zs e s')
  | [], _ => exact False.elim s
  | _ :: _ :: _, _ => exact False.elim s
def vTuple (a : Va) : M Va := fun h => match seqV h a with
  | some xs => .ok (.tup xs) h
  | none => .no
theorem s_tuple : SC K W (fn1 vTuple) (fun xs H Q => ∃ p ys, xs = [.ref p] ∧ ((SqL K H p ys ∧ ∀ l, H l = none → Q (.ref l) (upd H l (.tup ys))) ∨ (SqT K H p ys ∧ Q (.ref p) H))) := fun ρ h H xs us Q q rs s => by
  match xs, rs with
  | [a], ⟨u, t, e, r1, r2⟩ =>
    cases r2
    subst e
    have s' : sat K W ρ H (match seqV h a with
      | some xs => .ok (.tup xs) h
      | none => .no) (rv K Q) := s
    cases e : seqV h a with
    | none => rw [e] at s'; exact False.elim s'
    | some zs =>
      rw [e] at s'
      obtain ⟨p, ws, rfl, h1, h2⟩ := seqV_ok q r1 e
      rcases h1 with h1 | h1
      · exact ⟨p, ws, rfl, .inl ⟨h1, s'.newTup q h2⟩⟩
      · exact ⟨p, ws, rfl, .inr ⟨h1, s'.val q ⟨p, ws, rfl, h1, h2⟩⟩⟩
  | [], _ => exact False.elim s
  | _ :: _ :: _, _ => exact False.elim s

/-! ### all, any, sum: of lists -/
def blsOf : List Va → Option (List Bool)
  | [] => some []
  | .bl b :: r => (blsOf r).map (b :: ·)
  | _ :: _ => none
def intsOf : List Va → Option (List Int)
  | [] => some []
  | .int b :: r => (intsOf r).map (b :: ·)
  | _ :: _ => none
theorem blsOf_ok : ∀ {xs : List Va} {us : List V} {bs : List Bool}, blsOf xs = some bs → RVs K ρ H xs us → us = bs.map V.bl
  | [], _, _, e, r => by cases e; cases r; rfl
  | .bl b :: xs, _, bs, e, ⟨u, t, e1, r1, r2⟩ => by
    unfold blsOf at e
    cases q : blsOf xs with
    | none => rw [q] at e; cases e
    | some cs =>
      rw [q] at e
      cases e
      cases r1
      rw [e1, blsOf_ok q r2]
      rfl
  | .non :: _, _, _, e, _ => by cases e
  | .int _ :: _, _, _, e, _ => by cases e
  | .str _ :: _, _, _, e, _ => by cases e
  | .tup _ :: _, _, _, e, _ => by cases e
  | .ref _ :: _, _, _, e, _ => by cases e
  | .fl _ :: _, _, _, e, _ => by cases e
theorem intsOf_ok : ∀ {xs : List Va} {us : List V} {bs : List Int}, intsOf xs = some bs → RVs K ρ H xs us → us = bs.map V.int
  | [], _, _, e, r => by cases e; cases r; rfl
  | .int b :: xs, _, bs, e, ⟨u, t, e1, r1, r2⟩ => by
    unfold intsOf at e
    cases q : intsOf xs with
    | none => rw [q] at e; cases e
    | some cs =>
      rw [q] at e
      cases e
      cases r1
      rw [e1, intsOf_ok q r2]
      rfl
  | .non :: _, _, _, e, _ => by cases e
  | .bl _ :: _, _, _, e, _ => by cases e
  | .str _ :: _, _, _, e, _ => by cases e
  | .tup _ :: _, _, _, e, _ => by cases e
  | .ref _ :: _, _, _, e, _ => by cases e
  | .fl _ :: _, _, _, e, _ => by cases e
def onBls (f : List Bool → Va) (a : Va) : M Va := fun h => match lstV h a with
  | some xs => match blsOf xs with
    | some bs => .ok (f bs) h
    | none => .no
  | none => .no
def onInts (f : List Int → Va) (a : Va) : M Va := fun h => match lstV h a with
  | some xs => match intsOf xs with
    | some bs => .ok (f bs) h
    | none => .no
  | none => .no
theorem s_bls {f : List Bool → Va} {g : List Bool → V} (e : ∀ bs ρ H, RV K ρ H (f bs) (g bs)) : S1 K W (onBls f) (fun x H Q => ∃ (a : Addr) (bs : List Bool), x = V.ref a ∧ SqL K H a (bs.map V.bl) ∧ Q (g bs) H) := fun ρ h H a x Q q rx s => by
  unfold onBls at s
  cases e1 : lstV h a with
  | none => rw [e1] at s; exact False.elim s
  | some xs =>
    rw [e1] at s
    cases e2 : blsOf xs with
    | none => simp only [e2] at s; exact False.elim s
    | some bs =>
      simp only [e2] at s
      obtain ⟨p, us, rfl, h1, h2⟩ := lstV_ok q rx e1
      rw [blsOf_ok e2 h2] at h1
      exact ⟨p, bs, rfl, h1, s.val q (e bs ρ H)⟩
theorem s_ints {f : List Int → Va} {g : List Int → V} (e : ∀ bs ρ H, RV K ρ H (f bs) (g bs)) : S1 K W (onInts f) (fun x H Q => ∃ (a : Addr) (bs : List Int), x = V.ref a ∧ SqL K H a (bs.map V.int) ∧ Q (g bs) H) := fun ρ h H a x Q q rx s => by
  unfold onInts at s
  cases e1 : lstV h a with
  | none => rw [e1] at s; exact False.elim s
  | some xs =>
    rw [e1] at s
    cases e2 : intsOf xs with
    | none => simp only [e2] at s; exact False.elim s
    | some bs =>
      simp only [e2] at s
      obtain ⟨p, us, rfl, h1, h2⟩ := lstV_ok q rx e1
      rw [intsOf_ok e2 h2] at h1
      exact ⟨p, bs, rfl, h1, s.val q (e bs ρ H)⟩
end
def vAll : Va → M Va := onBls fun bs => .bl (bs.all id)
def vAny : Va → M Va := onBls fun bs => .bl (bs.any id)
def vSum : Va → M Va := onInts fun bs => .int bs.sum
section
variable {W : XW} {X : Cx} {e : Expr} {A : Ex} {pos p : Pos}
theorem ex_len (hg : Gl X "len") (hm : X.mg "len" = none) (ha : EX W X e A) (hs : starEach [e] X.env = (false, eval e X.env) :: starEach [] X.env := by rfl) : EX W X (.Call (.Name "len" p) [e] [] pos) (callE (fn1 vLen) (aCons A aNil)) :=
  ex_callB call_lenA (s_fn1 s_len) hg hm PySem.boot_len (ax_cons ha ax_nil hs) (by decide) (by decide) hs
theorem ex_int1 (hg : Gl X "int") (hm : X.mg "int" = none) (ha : EX W X e A) (hs : starEach [e] X.env = (false, eval e X.env) :: starEach [] X.env := by rfl) : EX W X (.Call (.Name "int" p) [e] [] pos) (callE (fn1 vInt) (aCons A aNil)) :=
  ex_callTy call_int1 s_int hg hm (by decide +kernel) (ax_cons ha ax_nil hs) (by decide) (by decide) hs
theorem ex_list1 (hc : X.calm = true) (hg : Gl X "list") (hm : X.mg "list" = none) (ha : EX W X e A) (hs : starEach [e] X.env = (false, eval e X.env) :: starEach [] X.env := by rfl) : EX W X (.Call (.Name "list" p) [e] [] pos) (callE (fn1 vList) (aCons A aNil)) :=
  ex_callTy (call_list_of.or (call_list_strV hc)) s_list hg hm (by decide +kernel) (ax_cons ha ax_nil hs) (by decide) (by decide) hs
theorem ex_tuple1 (hg : Gl X "tuple") (hm : X.mg "tuple" = none) (ha : EX W X e A) (hs : starEach [e] X.env = (false, eval e X.env) :: starEach [] X.env := by rfl) : EX W X (.Call (.Name "tuple" p) [e] [] pos) (callE (fn1 vTuple) (aCons A aNil)) :=
  ex_callTy call_tuple_of s_tuple hg hm (by decide +kernel) (ax_cons ha ax_nil hs) (by decide) (by decide) hs
theorem ex_all (hc : X.calm = true) (hg : Gl X "all") (hm : X.mg "all" = none) (ha : EX W X e A) (hs : starEach [e] X.env = (false, eval e X.env) :: starEach [] X.env := by rfl) : EX W X (.Call (.Name "all" p) [e] [] pos) (callE (fn1 vAll) (aCons A aNil)) :=
  ex_callB (callR_imp (cr_all hc) (r' := fun us H Q => ∃ u, us = [u] ∧ ∃ (a : Addr) (bs : List Bool), u = V.ref a ∧ SqL X.K H a (bs.map V.bl) ∧ Q (.bl (bs.all id)) H) fun us H Q q => by obtain ⟨u, rfl, a, bs, rfl, q⟩ := q; exact ⟨a, bs, rfl, q⟩) (s_fn1 (s_bls fun _ _ _ => rfl)) hg hm (by decide +kernel) (ax_cons ha ax_nil hs) (by decide) (by decide) hs
theorem ex_any (hc : X.calm = true) (hg : Gl X "any") (hm : X.mg "any" = none) (ha : EX W X e A) (hs : starEach [e] X.env = (false, eval e X.env) :: starEach [] X.env := by rfl) : EX W X (.Call (.Name "any" p) [e] [] pos) (callE (fn1 vAny) (aCons A aNil)) :=
  ex_callB (callR_imp (cr_any hc) (r' := fun us H Q => ∃ u, us = [u] ∧ ∃ (a : Addr) (bs : List Bool), u = V.ref a ∧ SqL X.K H a (bs.map V.bl) ∧ Q (.bl (bs.any id)) H) fun us H Q q => by obtain ⟨u, rfl, a, bs, rfl, q⟩ := q; exact ⟨a, bs, rfl, q⟩) (s_fn1 (s_bls fun _ _ _ => rfl)) hg hm (by decide +kernel) (ax_cons ha ax_nil hs) (by decide) (by decide) hs
theorem ex_sum (hc : X.calm = true) (hg : Gl X "sum") (hm : X.mg "sum" = none) (ha : EX W X e A) (hs : starEach [e] X.env = (false, eval e X.env) :: starEach [] X.env := by rfl) : EX W X (.Call (.Name "sum" p) [e] [] pos) (callE (fn1 vSum) (aCons A aNil)) :=
  ex_callB (callR_imp (cr_sum hc) (r' := fun us H Q => ∃ u, us = [u] ∧ ∃ (a : Addr) (bs : List Int), u = V.ref a ∧ SqL X.K H a (bs.map V.int) ∧ Q (.int bs.sum) H) fun us H Q q => by obtain ⟨u, rfl, a, bs, rfl, q⟩ := q; exact ⟨a, bs, rfl, q⟩) (s_fn1 (s_ints fun _ _ _ => rfl)) hg hm (by decide +kernel) (ax_cons ha ax_nil hs) (by decide) (by decide) hs
end

/-! ### isinstance of built-in types -/
inductive Ty where
  | non | bool | int | str | tuple | list | dict
  deriving DecidableEq
def Ty.name : Ty → String
  | .non => "NoneType"
  | .bool => "bool"
  | .int => "int"
  | .str => "str"
  | .tuple => "tuple"
  | .list => "list"
  | .dict => "dict"
def vTy (h : Hea) : Va → Option Ty
  | .non => some .non
  | .bl _ => some .bool
  | .int _ => some .int
  | .str _ => some .str
  | .tup _ => some .tuple
  | .fl _ => some .list
  | .ref i => match h.get i with
    | some (.lst _) => some .list
    | some (.dic _) => some .dict
    | _ => none
def isInst : Ty → Ty → Bool
  | .int, .int => true
  | .int, .bool => true
  | .bool, .bool => true
  | .str, .str => true
  | .tuple, .tuple => true
  | .list, .list => true
  | .dict, .dict => true
  | .non, .non => true
  | _, _ => false
theorem kit_inst (c t : Ty) : kitB t.name c.name = some (isInst c t) := by
  cases c <;> cases t <;> decide +kernel
section
variable {K : PySem.W.Frag} {W : XW} {ρ : List Addr} {H : Hp} {h : Hea}
theorem vTy_ok {a : Va} {x : V} {t : Ty} (q : HR K ρ h H) (rx : RV K ρ H a x) (e : vTy h a = some t) : TyX K H x (.type t.name) := by
  cases a with
  | non => cases rx; cases e; exact .base .non
  | bl b => cases rx; cases e; exact .base (.bl b)
  | int b => cases rx; cases e; exact .base (.int b)
  | str b => cases rx; cases e; exact .base (.str _)
  | tup xs =>
    obtain ⟨p, us, rfl, h1, h2⟩ := rx
    cases e
    rcases h1 with (h1 | ⟨o, h1⟩) | ⟨o, its, n, h1, h2, _⟩
    · exact .base (.tup h1)
    · exact .fTuple h1
    · exact .kTuple h1 h2
  | fl xs =>
    obtain ⟨p, us, rfl, h1, h2⟩ := rx
    cases e
    rcases h1 with ⟨o, h1⟩ | ⟨o, its, n, h1, h3, _⟩
    · exact .base (.frz h1)
    · exact .kList h1 h3
  | ref i =>
    have e' : (match h.get i with
      | some (.lst _) => some Ty.list
      | some (.dic _) => some Ty.dict
      | _ => none) = some t := e
    split at e'
    · rename_i xs g
      cases e'
      obtain ⟨p, us, rfl, _, h1, h2⟩ := q.lst rx g
      exact .base (.lst h1)
    · rename_i xs g
      cases e'
      obtain ⟨p, rfl, _, us, h1, h2⟩ := q.at_ref rx g
      exact .base (.dK h1)
    · cases e'
end
def instE (cs : List Ty) (A : Ex) : Ex := fun l h => (A l h).bind fun a h1 => match vTy h1 a with
  | some t => .ok (.bl (cs.any fun c => isInst c t)) h1
  | none => .no
section
variable {W : XW} {X : Cx} {e : Expr} {A : Ex} {pos p p2 p3 p4 : Pos} {n m : Str}
theorem ex_inst (c : Ty) (hg : Gl X "isinstance") (hm : X.mg "isinstance" = none) (ha : EX W X e A) (hg2 : Gl X n) (hm2 : X.mg n = none) (hv2 : bootBuiltins n = some (.type c.name)) (hn : n ≠ "__name__" := by decide) (hdb : (n == ("__debug__" : Str)) = false := by decide)
    (hs : starEach [e, .Name n p2] X.env = (false, eval e X.env) :: starEach [.Name n p2] X.env := by rfl) : EX W X (.Call (.Name "isinstance" p) [e, .Name n p2] [] pos) (instE [c] A) := by
  refine ⟨PE.weak (pe_callB call_isi hg hm (by decide +kernel) (pa_cons ha.pe (pa_cons (pe_bltn (v := .ty c.name) hg2 hm2 hv2 rfl hn hdb) pa_nil) hs) (by decide) (by decide) hs) fun σ H Q ⟨ρ, l, h, L, q, s⟩ => ?_⟩
  refine tE.go L q s fun a h1 ρ1 H1 x e1 L1 q1 rx s1 => ?_
  cases e : vTy h1 a with
  | none => simp only [e] at s1; exact False.elim s1
  | some t =>
    simp only [e] at s1
    exact ⟨x, .ty c.name, .type t.name, .type c.name, isInst c t, rfl, .ty _, vTy_ok q1 rx e, kit_ty (kit_inst c t), by have := s1.val q1 (u := .bl ([c].any fun c => isInst c t)) rfl; simpa using this⟩
theorem ex_inst2 (c d : Ty) {k : Nat} (hg : Gl X "isinstance") (hm : X.mg "isinstance" = none) (ha : EX W X e A) (hg2 : Gl X n) (hm2 : X.mg n = none) (hv2 : bootBuiltins n = some (.type c.name)) (hg3 : Gl X m) (hm3 : X.mg m = none) (hv3 : bootBuiltins m = some (.type d.name))
    (hn : n ≠ "__name__" := by decide) (hdb : (n == ("__debug__" : Str)) = false := by decide) (hn3 : m ≠ "__name__" := by decide) (hdb3 : (m == ("__debug__" : Str)) = false := by decide)
    (hs : starEach [e, .Tuple [.Name n p2, .Name m p3] k p4] X.env = (false, eval e X.env) :: starEach [.Tuple [.Name n p2, .Name m p3] k p4] X.env := by rfl) : EX W X (.Call (.Name "isinstance" p) [e, .Tuple [.Name n p2, .Name m p3] k p4] [] pos) (instE [c, d] A) := by
  refine ⟨PE.weak (pe_callB call_isiT hg hm (by decide +kernel) (pa_cons ha.pe (pa_cons (pe_tup (pa_cons (pe_bltn (v := .ty c.name) hg2 hm2 hv2 rfl hn hdb) (pa_cons (pe_bltn (v := .ty d.name) hg3 hm3 hv3 rfl hn3 hdb3) pa_nil))) pa_nil) hs) (by decide) (by decide) hs) fun σ H Q ⟨ρ, l, h, L, q, s⟩ => ?_⟩
  refine tE.go L q s fun a h1 ρ1 H1 x e1 L1 q1 rx s1 => ?_
  refine ⟨by show 2 ≤ sizeLine; decide, fun tp hn => ?_⟩
  have rx' : RV X.K ρ1 (upd H1 tp (.tup [.ty c.name, .ty d.name])) a x := RV.ext (Ext.new hn) a rx
  have q2 := q1.new (o := .tup [.ty c.name, .ty d.name]) hn
  cases e : vTy h1 a with
  | none => simp only [e] at s1; exact False.elim s1
  | some t =>
    simp only [e] at s1
    refine ⟨x, tp, [.ty c.name, .ty d.name], .type t.name, [.type c.name, .type d.name], [c, d].any fun c => isInst c t, rfl, upd_same, .cons (.ty _) (.cons (.ty _) .nil), vTy_ok q2 rx' e, ?_, (s1.shift (Ext.new hn)).val q2 rfl⟩
    refine kitAny_cons (kit_ty (kit_inst c t)) (fun z => ?_) (fun z => by simp [z])
    refine kitAny_cons (kit_ty (kit_inst d t)) (fun z2 => ?_) (fun z2 => by simp [z2])
    rw [kitAny_nil]
    simp [z, z2]
end
end Rf

/-! Rf: methods, in, list * int. -/
namespace Rf
open PySem PySem.Spec PyProof.Rows L2

def methE (T : Ty) (F : Va → Fn) (A : Ex) (B : Ax) : Ex := fun l h => (A l h).bind fun a h1 => if vTy h1 a = some T then (B l h1).bind fun xs h2 => F a xs h2 else .no
def SM (K : PySem.W.Frag) (W : XW) (F : Va → Fn) (r : V → List V → Hp → VK → Prop) : Prop := ∀ ρ h H a x xs us Q, HR K ρ h H → RV K ρ H a x → RVs K ρ H xs us → sat K W ρ H (F a xs h) (rv K Q) → r x us H Q
section
variable {K : PySem.W.Frag} {W : XW} {ρ : List Addr} {H : Hp} {h : Hea}
theorem tyV_ok {a : Va} {x : V} {t : Ty} (q : HR K ρ h H) (rx : RV K ρ H a x) (e : vTy h a = some t) (ht : t = .str ∨ t = .list ∨ t = .dict) : tyV K t.name x H := by
  cases a with
  | str b => cases rx; cases e; exact rfl
  | fl xs =>
    obtain ⟨p, us, rfl, h1, h2⟩ := rx
    cases e
    exact .inl ⟨rfl, us, h1.sq⟩
  | ref i =>
    have e' : (match h.get i with
      | some (.lst _) => some Ty.list
      | some (.dic _) => some Ty.dict
      | _ => none) = some t := e
    split at e'
    · rename_i xs g
      cases e'
      obtain ⟨p, us, rfl, _, h1, h2⟩ := q.lst rx g
      exact .inl ⟨rfl, us, SqL.of h1⟩
    · rename_i xs g
      cases e'
      obtain ⟨p, rfl, _, us, h1, h2⟩ := q.at_ref rx g
      exact .inr (.inr (.inl ⟨rfl, .inl ⟨us, h1⟩⟩))
    · cases e'
  | _ => cases e; simp at ht
end
section
variable {W : XW} {X : Cx} {o e : Expr} {es : List Expr} {A : Ex} {B : Ax} {name : Str} {apos cpos : Pos} {id : String} {r : V → List V → Hp → VK → Prop} {F : Va → Fn}
theorem ex_bm0 (t : Ty) (ht : t = .str ∨ t = .list ∨ t = .dict) (pa : PlainAttrs t.name) (slot : Slot t.name name id) (hty : typeOf (.builtin id) = pure (.type "method_descriptor")) (hm : MtR X id r) (hs : SM X.K W F r) (ho : EX W X o A)
    (hbase : attributeBase o name X.env (eval o X.env) = eval o X.env := by rfl) (hline : (apos.endLine == cpos.line) = true := by rfl) : EX W X (.Call (.Attribute o name apos) [] [] cpos) (methE t F A aNil) :=
  ⟨PE.weak (pe_bm0 pa slot hty hm ho.pe hbase hline) fun σ H Q ⟨ρ, l, h, L, q, s⟩ => tE.go L q s fun a h1 ρ1 H1 x e1 L1 q1 rx s1 => by
    by_cases e : vTy h1 a = some t
    · rw [if_pos e] at s1
      exact ⟨tyV_ok q1 rx e ht, hs ρ1 h1 H1 a x [] [] Q q1 rx rfl s1⟩
    · rw [if_neg e] at s1; exact False.elim s1⟩
theorem ex_bm (t : Ty) (ht : t = .str ∨ t = .list ∨ t = .dict) (pa : PlainAttrs t.name) (slot : Slot t.name name id) (hty : typeOf (.builtin id) = pure (.type "method_descriptor")) (hm : MtR X id r) (hs : SM X.K W F r) (ho : EX W X o A) (ha : AX W X (e :: es) B)
    (hbase : attributeBase o name X.env (eval o X.env) = eval o X.env := by rfl)
    (hfew : ((backTo cpos (starEach (e :: es) X.env)).all (fun x => !x.1) && (backToKw cpos (keywordEach [] X.env)).all (fun x => x.1.isSome)
      && decide ((e :: es).length + ([] : List Keyword).length + (if ([] : List Keyword).isEmpty then 0 else 1) < 30)) = true := by rfl)
    (hline : (apos.endLine == cpos.line) = true := by rfl) (hs2 : starEach (e :: es) X.env = (false, eval e X.env) :: starEach es X.env := by rfl) (hplain : (backTo cpos (starEach es X.env)).any (·.1) = false := by rfl) :
    EX W X (.Call (.Attribute o name apos) (e :: es) [] cpos) (methE t F A B) :=
  ⟨PE.weak (pe_bm pa slot hty hm ho.pe ha.pa hbase hfew hline hs2 hplain) fun σ H Q ⟨ρ, l, h, L, q, s⟩ => tE.go L q s fun a h1 ρ1 H1 x e1 L1 q1 rx s1 => by
    by_cases e : vTy h1 a = some t
    · rw [if_pos e] at s1
      exact ⟨tyV_ok q1 rx e ht, tA.go L1 q1 s1 fun xs h2 ρ2 H2 us e2 L2 q2 rs s2 => hs ρ2 h2 H2 a x xs us Q q2 (RV.ext e2 a rx) rs s2⟩
    · rw [if_neg e] at s1; exact False.elim s1⟩
end

/-! ### texts: case -/
def sw1 (c : Nat) : Nat := if 97 ≤ c ∧ c ≤ 122 then c - 32 else if 65 ≤ c ∧ c ≤ 90 then c + 32 else c
def lowc (c : Nat) : Bool := decide (97 ≤ c) && decide (c ≤ 122)
def uppc (c : Nat) : Bool := decide (65 ≤ c) && decide (c ≤ 90)
theorem swap_ascii1 : ∀ c, c < 128 → (if Unicode.isUpper c then Unicode.lowerOf c else if Unicode.isLower c then Unicode.upperOf c else [c]) = [sw1 c] := by decide +kernel
theorem low_ascii1 : ∀ c, c < 128 → Unicode.isLower c = lowc c := by decide +kernel
theorem upp_ascii1 : ∀ c, c < 128 → Unicode.isUpper c = uppc c := by decide +kernel
theorem title_ascii1 : ∀ c, c < 128 → Unicode.isTitle c = false := by decide +kernel
def asc (s : List Nat) : Bool := s.all fun c => decide (c < 128)
theorem swap_S {a : List Nat} (h : asc a = true) : Txt.swapcase ⟨a.toArray⟩ = ⟨(a.map sw1).toArray⟩ := by
  unfold Txt.swapcase
  rw [placed_single _ _ sw1 fun i c hc => ?_]
  · simp
  · have hlt : c < 128 := of_decide_eq_true (List.all_eq_true.mp h c (by simpa using List.mem_of_getElem? hc))
    rw [← swap_ascii1 c hlt]
    by_cases hu : Unicode.isUpper c = true
    · rw [if_pos hu, if_pos hu]
      unfold Unicode.lowerAt
      have hc' : (a.toArray)[i]? = some c := by simpa using hc
      simp only [hc']
      have hne : (c == 0x3A3) = false := by rw [beq_eq_false_iff_ne]; omega
      simp only [hne, Bool.false_and, Bool.false_eq_true, if_false]
    · rw [if_neg hu, if_neg hu]
theorem any_congr {p q : Nat → Bool} : ∀ {a : List Nat}, (∀ c ∈ a, p c = q c) → a.any p = a.any q
  | [], _ => rfl
  | c :: r, h => by rw [List.any_cons, List.any_cons, h c List.mem_cons_self, any_congr fun d hd => h d (List.mem_cons_of_mem _ hd)]
theorem lowerS {a : List Nat} (h : asc a = true) : Txt.islower ⟨a.toArray⟩ = (a.any lowc && !a.any uppc) := by
  have al : ∀ c ∈ a, c < 128 := fun c hc => of_decide_eq_true (List.all_eq_true.mp h c hc)
  unfold Txt.islower
  simp only [List.any_toArray]
  rw [any_congr (p := Unicode.isLower) (q := lowc) fun c hc => low_ascii1 c (al c hc), any_congr (p := fun c => Unicode.isUpper c || Unicode.isTitle c) (q := uppc) fun c hc => by rw [upp_ascii1 c (al c hc), title_ascii1 c (al c hc), Bool.or_false]]
theorem upperS {a : List Nat} (h : asc a = true) : Txt.isupper ⟨a.toArray⟩ = (a.any uppc && !a.any lowc) := by
  have al : ∀ c ∈ a, c < 128 := fun c hc => of_decide_eq_true (List.all_eq_true.mp h c hc)
  unfold Txt.isupper
  simp only [List.any_toArray]
  rw [any_congr (p := Unicode.isUpper) (q := uppc) fun c hc => upp_ascii1 c (al c hc), any_congr (p := fun c => Unicode.isLower c || Unicode.isTitle c) (q := lowc) fun c hc => by rw [low_ascii1 c (al c hc), title_ascii1 c (al c hc), Bool.or_false]]
theorem mt_swapcase {X : Cx} : MtR X "str.swapcase" (fun x xs H Q => ∃ a, x = .str a ∧ xs = [] ∧ a.length ≤ 5592405 ∧ Q (.str (Txt.swapcase a)) H) :=
  mt0 (C := fun a => a.length ≤ 5592405) (g := fun a => .str (Txt.swapcase a)) fun a _ s _ hc h =>
    PySem.SC.swapcase (PyProof.Rows.short24 (by have h1 : a.length ≤ 5592405 := hc; have := PyProof.Rows.len_swapcase a; omega)) (h _ (s.toks + 1) ⟨_, rfl⟩)
/-- of a text of plain signs, without arguments -/
def ascF (f : List Nat → Va) (a : Va) : Fn := fun xs h => match a with
  | .str s => match xs with
    | [] => if asc s = true then (if s.length ≤ 5592405 then .ok (f s) h else .no) else .no
    | _ => .no
  | _ => .no
section
variable {K : PySem.W.Frag} {W : XW}
theorem s_ascF {f : List Nat → Va} {C : Str → Prop} {g : Str → V} (hc : ∀ s : List Nat, s.length ≤ 5592405 → C ⟨s.toArray⟩) (e : ∀ (s : List Nat) (ρ : List Addr) (H : Hp), asc s = true → RV K ρ H (f s) (g ⟨s.toArray⟩)) :
    SM K W (ascF f) (fun x xs H Q => ∃ a, x = .str a ∧ xs = [] ∧ C a ∧ Q (g a) H) := fun ρ h H a x xs us Q q rx rs s => by
  cases a with
  | str z =>
    cases rx
    cases xs with
    | nil =>
      cases rs
      have s' : sat K W ρ H (if asc z = true then (if z.length ≤ 5592405 then .ok (f z) h else .no) else .no) (rv K Q) := s
      by_cases h1 : asc z = true
      · rw [if_pos h1] at s'
        by_cases h2 : z.length ≤ 5592405
        · rw [if_pos h2] at s'
          exact ⟨_, rfl, rfl, hc z h2, s'.val q (e z ρ H h1)⟩
        · rw [if_neg h2] at s'; exact False.elim s'
      · rw [if_neg h1] at s'; exact False.elim s'
    | cons _ _ => exact False.elim s
  | _ => exact False.elim s
end
def vSwap : Va → Fn := ascF fun s => .str (s.map sw1)
def vUpper : Va → Fn := ascF fun s => .str (s.map up1)
def vLower : Va → Fn := ascF fun s => .str (s.map lo1)
def vIsLower : Va → Fn := ascF fun s => .bl (s.any lowc && !s.any uppc)
def vIsUpper : Va → Fn := ascF fun s => .bl (s.any uppc && !s.any lowc)
theorem len_S (s : List Nat) : (⟨s.toArray⟩ : Str).length = s.length := by show s.toArray.size = _; simp
section
variable {W : XW} {X : Cx} {o e : Expr} {A : Ex} {apos cpos : Pos}
theorem ex_swapcase (ho : EX W X o A) (hbase : attributeBase o "swapcase" X.env (eval o X.env) = eval o X.env := by rfl) (hline : (apos.endLine == cpos.line) = true := by rfl) : EX W X (.Call (.Attribute o "swapcase" apos) [] [] cpos) (methE .str vSwap A aNil) :=
  ex_bm0 .str (.inl rfl) F.plainAttrs_str F.slot_str_swapcase F.type_str_swapcase mt_swapcase (s_ascF (g := fun a => .str (Txt.swapcase a)) (fun s h => by rw [len_S]; exact h) fun s ρ H h => by show V.str _ = V.str _; rw [swap_S h]) ho hbase hline
theorem ex_lower (ho : EX W X o A) (hbase : attributeBase o "lower" X.env (eval o X.env) = eval o X.env := by rfl) (hline : (apos.endLine == cpos.line) = true := by rfl) : EX W X (.Call (.Attribute o "lower" apos) [] [] cpos) (methE .str vLower A aNil) :=
  ex_bm0 .str (.inl rfl) F.plainAttrs_str F.slot_str_lower F.type_str_lower mt_lower (s_ascF (g := fun a => .str (Txt.lower a)) (fun s h => by rw [len_S]; exact h) fun s ρ H h => by show V.str _ = V.str _; rw [show Txt.lower ⟨s.toArray⟩ = _ from SX.lower_S h]) ho hbase hline
theorem ex_upper (ho : EX W X o A) (hbase : attributeBase o "upper" X.env (eval o X.env) = eval o X.env := by rfl) (hline : (apos.endLine == cpos.line) = true := by rfl) : EX W X (.Call (.Attribute o "upper" apos) [] [] cpos) (methE .str vUpper A aNil) :=
  ex_bm0 .str (.inl rfl) F.plainAttrs_str F.slot_str_upper F.type_str_upper mt_upper (s_ascF (g := fun a => .str (Txt.upper a)) (fun s h => by rw [len_S]; exact h) fun s ρ H h => by show V.str _ = V.str _; rw [show Txt.upper ⟨s.toArray⟩ = _ from SX.upper_S h]) ho hbase hline
theorem ex_islower (ho : EX W X o A) (hbase : attributeBase o "islower" X.env (eval o X.env) = eval o X.env := by rfl) (hline : (apos.endLine == cpos.line) = true := by rfl) : EX W X (.Call (.Attribute o "islower" apos) [] [] cpos) (methE .str vIsLower A aNil) :=
  ex_bm0 .str (.inl rfl) F.plainAttrs_str F.slot_str_islower F.type_str_islower mt_islower (s_ascF (C := fun _ => True) (g := fun a => .bl (Txt.islower a)) (fun _ _ => trivial) fun s ρ H h => by show V.bl _ = V.bl _; rw [lowerS h]) ho hbase hline
theorem ex_isupper (ho : EX W X o A) (hbase : attributeBase o "isupper" X.env (eval o X.env) = eval o X.env := by rfl) (hline : (apos.endLine == cpos.line) = true := by rfl) : EX W X (.Call (.Attribute o "isupper" apos) [] [] cpos) (methE .str vIsUpper A aNil) :=
  ex_bm0 .str (.inl rfl) F.plainAttrs_str F.slot_str_isupper F.type_str_isupper mt_isupper (s_ascF (C := fun _ => True) (g := fun a => .bl (Txt.isupper a)) (fun _ _ => trivial) fun s ρ H h => by show V.bl _ = V.bl _; rw [upperS h]) ho hbase hline
end

/-! ### lists: append, pop, join -/
def vAppend (a : Va) : Fn := fun xs h => match a with
  | .ref i => match xs with
    | [y] => match h.get i with
      | some (.lst zs) => if zs.length < sLine then .ok .non (h.set i (.lst (zs ++ [y]))) else .no
      | _ => .no
    | _ => .no
  | _ => .no
def vPop (a : Va) : Fn := fun xs h => match a with
  | .ref i => match xs with
    | [] => match h.get i with
      | some (.lst zs) => match zs[zs.length - 1]? with
        | some y => .ok y (h.set i (.lst zs.dropLast))
        | none => .no
      | _ => .no
    | [.int k] => match h.get i with
      | some (.lst zs) => match ixN zs.length k with
        | some j => match zs[j]? with
          | some y => if zs.length ≤ sLine then .ok y (h.set i (.lst (zs.eraseIdx j))) else .no
          | none => .no
        | none => .no
      | _ => .no
    | _ => .no
  | _ => .no
def vExtend (a : Va) : Fn := fun xs h => match a with
  | .ref i => match xs with
    | [.ref j] => match h.get i with
      | some (.lst zs) => match h.get j with
        | some (.lst ws) => if zs.length + ws.length ≤ sLine then .ok .non (h.set i (.lst (zs ++ ws))) else .no
        | _ => .no
      | _ => .no
    | _ => .no
  | _ => .no
section
variable {K : PySem.W.Frag} {W : XW} {ρ : List Addr} {H : Hp}
theorem s_append : SM K W vAppend rAppend := fun ρ h H a x xs us Q q rx rs s => by
  cases a with
  | ref i =>
    match xs, rs with
    | [y], ⟨u, t, e, r1, r2⟩ =>
      cases r2
      subst e
      cases g : h.get i with
      | none => simp only [vAppend, g] at s; exact False.elim s
      | some o =>
        cases o with
        | lst zs =>
          simp only [vAppend, g] at s
          obtain ⟨p, us, rfl, hp, h1, h2⟩ := q.lst rx g
          by_cases hz : zs.length < sLine
          · rw [if_pos hz] at s
            exact ⟨p, us, u, rfl, rfl, h1, by rw [← h2.length, ← sLine_eq]; exact hz, s.setLst q hp g h1 (h2.append (RVs.one r1)) rfl⟩
          · rw [if_neg hz] at s; exact False.elim s
        | _ => simp only [vAppend, g] at s; exact False.elim s
    | [], _ => exact False.elim s
    | _ :: _ :: _, _ => exact False.elim s
  | _ => exact False.elim s
theorem s_extend : SM K W vExtend rExtend := fun ρ h H a x xs us Q q rx rs s => by
  cases a with
  | ref i =>
    match xs, rs with
    | [.ref j], ⟨u, t, e, r1, r2⟩ =>
      cases r2
      subst e
      cases g : h.get i with
      | none => simp only [vExtend, g] at s; exact False.elim s
      | some o =>
        cases o with
        | lst zs =>
          cases g2 : h.get j with
          | none => simp only [vExtend, g, g2] at s; exact False.elim s
          | some o2 =>
            cases o2 with
            | lst ws =>
              simp only [vExtend, g, g2] at s
              obtain ⟨p, us, rfl, hp, h1, h2⟩ := q.lst rx g
              obtain ⟨p', us', rfl, hp', h1', h2'⟩ := q.lst r1 g2
              by_cases hz : zs.length + ws.length ≤ sLine
              · rw [if_pos hz] at s
                exact ⟨p, p', us, us', rfl, rfl, h1, h1', by rw [← h2.length, ← h2'.length, ← sLine_eq]; exact hz, s.setLst q hp g h1 (h2.append h2') rfl⟩
              · rw [if_neg hz] at s; exact False.elim s
            | _ => simp only [vExtend, g, g2] at s; exact False.elim s
        | _ => simp only [vExtend, g] at s; exact False.elim s
    | [], _ => exact False.elim s
    | [.non], _ => exact False.elim s
    | [.bl _], _ => exact False.elim s
    | [.int _], _ => exact False.elim s
    | [.str _], _ => exact False.elim s
    | [.tup _], _ => exact False.elim s
    | [.fl _], _ => exact False.elim s
    | x1 :: _ :: _, _ => cases x1 <;> exact False.elim s
  | _ => exact False.elim s
theorem RVs.erase : ∀ {xs : List Va} {us : List V} (i : Nat), RVs K ρ H xs us → RVs K ρ H (xs.eraseIdx i) (us.eraseIdx i)
  | [], _, _, h => by cases h; rfl
  | _ :: _, _, 0, ⟨w, t, e, q, s⟩ => by subst e; exact s
  | _ :: _, _, i + 1, ⟨w, t, e, q, s⟩ => by subst e; exact ⟨w, _, rfl, q, RVs.erase i s⟩
theorem s_pop : SM K W vPop (fun x xs H Q => rPop x xs H Q ∨ rPopAt x xs H Q) := fun ρ h H a x xs us Q q rx rs s => by
  cases a with
  | ref i =>
    match xs, rs with
    | [], e =>
      cases e
      cases g : h.get i with
      | none => simp only [vPop, g] at s; exact False.elim s
      | some o =>
        cases o with
        | lst zs =>
          simp only [vPop, g] at s
          obtain ⟨p, us, rfl, hp, h1, h2⟩ := q.lst rx g
          cases e : zs[zs.length - 1]? with
          | none => simp only [e] at s; exact False.elim s
          | some y =>
            simp only [e] at s
            obtain ⟨u, hu, ru⟩ := h2.get e
            exact .inl ⟨p, us, u, rfl, rfl, h1, by rw [← h2.length]; exact hu, s.setLst q hp g h1 h2.dropLast ru⟩
        | _ => simp only [vPop, g] at s; exact False.elim s
    | [.int k], ⟨u, t, e, r1, r2⟩ =>
      cases r2
      cases r1
      subst e
      cases g : h.get i with
      | none => simp only [vPop, g] at s; exact False.elim s
      | some o =>
        cases o with
        | lst zs =>
          simp only [vPop, g] at s
          obtain ⟨p, us, rfl, hp, h1, h2⟩ := q.lst rx g
          cases e : ixN zs.length k with
          | none => simp only [e] at s; exact False.elim s
          | some j =>
            simp only [e] at s
            cases e2 : zs[j]? with
            | none => simp only [e2] at s; exact False.elim s
            | some y =>
              simp only [e2] at s
              obtain ⟨u, hu, ru⟩ := h2.get e2
              obtain ⟨f1, f2, f3, f4⟩ := ixN_seq e
              by_cases hz : zs.length ≤ sLine
              case neg => rw [if_neg hz] at s; exact False.elim s
              rw [if_pos hz] at s
              have hlt : zs.length ≤ 16777216 := hz
              exact .inr ⟨p, us, k, j, u, rfl, rfl, h1, by omega, by omega, by rw [← h2.length]; exact f1, hu, s.setLst q hp g h1 (h2.erase j) ru⟩
        | _ => simp only [vPop, g] at s; exact False.elim s
    | [.ref _], _ => exact False.elim s
    | [.non], _ => exact False.elim s
    | [.bl _], _ => exact False.elim s
    | [.str _], _ => exact False.elim s
    | [.tup _], _ => exact False.elim s
    | [.fl _], _ => exact False.elim s
    | x1 :: _ :: _, _ => cases x1 <;> exact False.elim s
  | _ => exact False.elim s
end
end Rf

/-! Rf: more methods, in, products. -/
namespace Rf
open PySem PySem.Spec PyProof.Rows L2

section
variable {W : XW} {X : Cx} {o e : Expr} {es : List Expr} {A : Ex} {B : Ax} {apos cpos : Pos}
theorem ex_append (ho : EX W X o A) (ha : AX W X (e :: es) B) (hbase : attributeBase o "append" X.env (eval o X.env) = eval o X.env := by rfl)
    (hfew : ((backTo cpos (starEach (e :: es) X.env)).all (fun x => !x.1) && (backToKw cpos (keywordEach [] X.env)).all (fun x => x.1.isSome)
      && decide ((e :: es).length + ([] : List Keyword).length + (if ([] : List Keyword).isEmpty then 0 else 1) < 30)) = true := by rfl)
    (hline : (apos.endLine == cpos.line) = true := by rfl) (hs2 : starEach (e :: es) X.env = (false, eval e X.env) :: starEach es X.env := by rfl) (hplain : (backTo cpos (starEach es X.env)).any (·.1) = false := by rfl) :
    EX W X (.Call (.Attribute o "append" apos) (e :: es) [] cpos) (methE .list vAppend A B) := ex_bm .list (.inr (.inl rfl)) F.plainAttrs_list F.slot_list_append F.type_list_append mt_append s_append ho ha hbase hfew hline hs2 hplain
theorem ex_extend (ho : EX W X o A) (ha : AX W X (e :: es) B) (hbase : attributeBase o "extend" X.env (eval o X.env) = eval o X.env := by rfl)
    (hfew : ((backTo cpos (starEach (e :: es) X.env)).all (fun x => !x.1) && (backToKw cpos (keywordEach [] X.env)).all (fun x => x.1.isSome)
      && decide ((e :: es).length + ([] : List Keyword).length + (if ([] : List Keyword).isEmpty then 0 else 1) < 30)) = true := by rfl)
    (hline : (apos.endLine == cpos.line) = true := by rfl) (hs2 : starEach (e :: es) X.env = (false, eval e X.env) :: starEach es X.env := by rfl) (hplain : (backTo cpos (starEach es X.env)).any (·.1) = false := by rfl) :
    EX W X (.Call (.Attribute o "extend" apos) (e :: es) [] cpos) (methE .list vExtend A B) := ex_bm .list (.inr (.inl rfl)) F.plainAttrs_list F.slot_list_extend F.type_list_extend mt_extend s_extend ho ha hbase hfew hline hs2 hplain
theorem mt_popA : MtR X "list.pop" (fun x xs H Q => rPop x xs H Q ∨ rPopAt x xs H Q) := MtR.or (X := X) mt_pop mt_popAt
theorem ex_pop0 (ho : EX W X o A) (hbase : attributeBase o "pop" X.env (eval o X.env) = eval o X.env := by rfl) (hline : (apos.endLine == cpos.line) = true := by rfl) : EX W X (.Call (.Attribute o "pop" apos) [] [] cpos) (methE .list vPop A aNil) :=
  ex_bm0 .list (.inr (.inl rfl)) F.plainAttrs_list F.slot_list_pop F.type_list_pop mt_popA s_pop ho hbase hline
theorem ex_pop1 (ho : EX W X o A) (ha : AX W X (e :: es) B) (hbase : attributeBase o "pop" X.env (eval o X.env) = eval o X.env := by rfl)
    (hfew : ((backTo cpos (starEach (e :: es) X.env)).all (fun x => !x.1) && (backToKw cpos (keywordEach [] X.env)).all (fun x => x.1.isSome)
      && decide ((e :: es).length + ([] : List Keyword).length + (if ([] : List Keyword).isEmpty then 0 else 1) < 30)) = true := by rfl)
    (hline : (apos.endLine == cpos.line) = true := by rfl) (hs2 : starEach (e :: es) X.env = (false, eval e X.env) :: starEach es X.env := by rfl) (hplain : (backTo cpos (starEach es X.env)).any (·.1) = false := by rfl) :
    EX W X (.Call (.Attribute o "pop" apos) (e :: es) [] cpos) (methE .list vPop A B) := ex_bm .list (.inr (.inl rfl)) F.plainAttrs_list F.slot_list_pop F.type_list_pop mt_popA s_pop ho ha hbase hfew hline hs2 hplain
end

/-! ### join -/
def strsOf : List Va → Option (List (List Nat))
  | [] => some []
  | .str b :: r => (strsOf r).map (b :: ·)
  | _ :: _ => none
theorem strsOf_ok {K : PySem.W.Frag} {ρ : List Addr} {H : Hp} : ∀ {xs : List Va} {us : List V} {bs : List (List Nat)}, strsOf xs = some bs → RVs K ρ H xs us → us = (bs.map SX.S).map V.str
  | [], _, _, e, r => by cases e; cases r; rfl
  | .str b :: xs, _, bs, e, ⟨u, t, e1, r1, r2⟩ => by
    unfold strsOf at e
    cases q : strsOf xs with
    | none => rw [q] at e; cases e
    | some cs =>
      rw [q] at e
      cases e
      cases r1
      rw [e1, strsOf_ok q r2]
      rfl
  | .non :: _, _, _, e, _ => by cases e
  | .bl _ :: _, _, _, e, _ => by cases e
  | .int _ :: _, _, _, e, _ => by cases e
  | .tup _ :: _, _, _, e, _ => by cases e
  | .ref _ :: _, _, _, e, _ => by cases e
  | .fl _ :: _, _, _, e, _ => by cases e
def joinN (sep : List Nat) : List (List Nat) → List Nat
  | [] => []
  | [x] => x
  | x :: y :: r => x ++ sep ++ joinN sep (y :: r)
def vJoin (a : Va) : Fn := fun xs h => match a with
  | .str z => match xs with
    | [b] => match seqV h b with
      | some ys => match strsOf ys with
        | some ws => if (ws.map List.length).sum + ws.length * z.length ≤ sLine then .ok (.str (joinN z ws)) h else .no
        | none => .no
      | none => .no
    | _ => .no
  | _ => .no
theorem joinN_eq (sep : List Nat) : ∀ ws, TL.joinL sep ws = joinN sep ws
  | [] => rfl
  | [x] => by simp [joinN, TL.joinL]
  | x :: y :: r => by
    have ih := joinN_eq sep (y :: r)
    show TL.joinL sep (x :: y :: r) = x ++ sep ++ joinN sep (y :: r)
    rw [← ih]
    simp [TL.joinL]
section
variable {K : PySem.W.Frag} {W : XW} {ρ : List Addr} {H : Hp}
theorem s_join : SM K W vJoin (fun x xs H Q => ∃ a p, ∃ ys : List Str, x = .str a ∧ xs = [.ref p] ∧ (SqL K H p (ys.map V.str) ∨ SqT K H p (ys.map V.str)) ∧ (ys.map (·.length)).sum + ys.length * a.length ≤ 16777216 ∧ Q (.str (Txt.join a ys)) H) := fun ρ h H a x xs us Q q rx rs s => by
  cases a with
  | str z =>
    cases rx
    match xs, rs with
    | [b], ⟨u, t, e, r1, r2⟩ =>
      cases r2
      subst e
      have s' : sat K W ρ H (match seqV h b with
        | some ys => match strsOf ys with
          | some ws => if (ws.map List.length).sum + ws.length * z.length ≤ sLine then .ok (.str (joinN z ws)) h else .no
          | none => .no
        | none => .no) (rv K Q) := s
      cases e1 : seqV h b with
      | none => rw [e1] at s'; exact False.elim s'
      | some ys =>
        simp only [e1] at s'
        cases e2 : strsOf ys with
        | none => simp only [e2] at s'; exact False.elim s'
        | some ws =>
          simp only [e2] at s'
          by_cases hz : (ws.map List.length).sum + ws.length * z.length ≤ sLine
          · rw [if_pos hz] at s'
            obtain ⟨p, us, rfl, h1, h2⟩ := seqV_ok q r1 e1
            rw [strsOf_ok e2 h2] at h1
            refine ⟨_, p, ws.map SX.S, rfl, rfl, h1, ?_, s'.val q ?_⟩
            · rw [SX.lens, List.length_map, len_S]; exact hz
            · show V.str _ = V.str _
              rw [show Txt.join ⟨z.toArray⟩ (ws.map SX.S) = SX.S (TL.joinL z ws) from SX.join_S z ws, joinN_eq]
          · rw [if_neg hz] at s'; exact False.elim s'
    | [], _ => exact False.elim s
    | _ :: _ :: _, _ => exact False.elim s
  | _ => exact False.elim s
end
section
variable {W : XW} {X : Cx} {o e : Expr} {es : List Expr} {A : Ex} {B : Ax} {apos cpos : Pos}
theorem ex_join (ho : EX W X o A) (ha : AX W X (e :: es) B) (hbase : attributeBase o "join" X.env (eval o X.env) = eval o X.env := by rfl)
    (hfew : ((backTo cpos (starEach (e :: es) X.env)).all (fun x => !x.1) && (backToKw cpos (keywordEach [] X.env)).all (fun x => x.1.isSome)
      && decide ((e :: es).length + ([] : List Keyword).length + (if ([] : List Keyword).isEmpty then 0 else 1) < 30)) = true := by rfl)
    (hline : (apos.endLine == cpos.line) = true := by rfl) (hs2 : starEach (e :: es) X.env = (false, eval e X.env) :: starEach es X.env := by rfl) (hplain : (backTo cpos (starEach es X.env)).any (·.1) = false := by rfl) :
    EX W X (.Call (.Attribute o "join" apos) (e :: es) [] cpos) (methE .str vJoin A B) := ex_bm .str (.inl rfl) F.plainAttrs_str F.slot_str_join F.type_str_join mt_join s_join ho ha hbase hfew hline hs2 hplain
end

/-! ### order of numbers and texts, chains -/
section
variable {W : XW} {X : Cx} {a b c : Expr} {A B C : Ex} {pos : Pos}
theorem ex_lt (ha : EX W X a A) (hb : EX W X b B) : EX W X (.Compare a [.Lt] [b] pos) (op2 vLt A B) := ex_cmp op_lt (s_iop fun _ _ _ _ => rfl) ha hb (nomark _)
theorem ex_le (ha : EX W X a A) (hb : EX W X b B) : EX W X (.Compare a [.LtE] [b] pos) (op2 vLe A B) := ex_cmp op_le (s_iop fun _ _ _ _ => rfl) ha hb (nomark _)
theorem ex_gt (ha : EX W X a A) (hb : EX W X b B) : EX W X (.Compare a [.Gt] [b] pos) (op2 vGt A B) := ex_cmp op_gt (s_iop fun _ _ _ _ => rfl) ha hb (nomark _)
theorem ex_ge (ha : EX W X a A) (hb : EX W X b B) : EX W X (.Compare a [.GtE] [b] pos) (op2 vGe A B) := ex_cmp op_ge (s_iop fun _ _ _ _ => rfl) ha hb (nomark _)
theorem tx_lt (ha : EX W X a A) (hb : EX W X b B) : TX W X (.Compare a [.Lt] [b] pos) (isB (op2 vLt A B)) := tx_cmp op_lt (s_iop fun _ _ _ _ => rfl) ha hb (nomark _)
theorem tx_le (ha : EX W X a A) (hb : EX W X b B) : TX W X (.Compare a [.LtE] [b] pos) (isB (op2 vLe A B)) := tx_cmp op_le (s_iop fun _ _ _ _ => rfl) ha hb (nomark _)
theorem tx_gt (ha : EX W X a A) (hb : EX W X b B) : TX W X (.Compare a [.Gt] [b] pos) (isB (op2 vGt A B)) := tx_cmp op_gt (s_iop fun _ _ _ _ => rfl) ha hb (nomark _)
theorem tx_ge (ha : EX W X a A) (hb : EX W X b B) : TX W X (.Compare a [.GtE] [b] pos) (isB (op2 vGe A B)) := tx_cmp op_ge (s_iop fun _ _ _ _ => rfl) ha hb (nomark _)
/-- a op b op' c -/
def chn (F G : Va → Va → M Va) (A B C : Ex) : Ex := fun l h => (A l h).bind fun a h1 => (B l h1).bind fun b h2 => (F a b h2).bind fun d h3 => match d with
  | .bl true => (C l h3).bind fun c h4 => G b c h4
  | .bl false => .ok (.bl false) h3
  | _ => .no
theorem tE.chain {K : PySem.W.Frag} {F G : Va → Va → M Va} {r r' : R2} (hs : S2 K W F r) (hs' : S2 K W G r') : ∀ σ H Q, tE K W (chn F G A B C) σ H Q → tChain r r' (tE K W A) (tE K W B) (tE K W C) σ H Q := fun σ H Q ⟨ρ, l, h, L, q, s⟩ =>
  tE.go L q s fun a h1 ρ1 H1 x e1 L1 q1 rx s1 => tE.go L1 q1 s1 fun b h2 ρ2 H2 y e2 L2 q2 ry s2 => hs ρ2 h2 H2 a b x y _ q2 (RV.ext e2 a rx) ry (s2.bind.mono fun d h3 ρ3 H3 e3 q3 s3 z rz => by
    cases d with
    | bl k =>
      cases rz
      refine ⟨k, rfl, ?_⟩
      cases k with
      | true => exact iteT (tE.go (L2.ext e3) q3 s3 fun c h4 ρ4 H4 w e4 L4 q4 rw' s4 => hs' ρ4 h4 H4 b c y w Q q4 (RV.ext (e3.trans e4) b ry) rw' s4)
      | false => exact iteF (s3.val q3 rfl)
    | _ => exact False.elim s3)
theorem ex_leLe (ha : EX W X a A) (hb : EX W X b B) (hc : EX W X c C) (hm : lastMarks [.LtE, .LtE] [b, c] = false := by with_unfolding_all rfl) : EX W X (.Compare a [.LtE, .LtE] [b, c] pos) (chn vLe vLe A B C) :=
  ⟨PE.weak (pe_chain op_le op_le ha.pe hb.pe hc.pe hm) (tE.chain (s_iop fun _ _ _ _ => rfl) (s_iop fun _ _ _ _ => rfl))⟩
theorem ex_ltLt (ha : EX W X a A) (hb : EX W X b B) (hc : EX W X c C) (hm : lastMarks [.Lt, .Lt] [b, c] = false := by with_unfolding_all rfl) : EX W X (.Compare a [.Lt, .Lt] [b, c] pos) (chn vLt vLt A B C) :=
  ⟨PE.weak (pe_chain op_lt op_lt ha.pe hb.pe hc.pe hm) (tE.chain (s_iop fun _ _ _ _ => rfl) (s_iop fun _ _ _ _ => rfl))⟩
theorem tx_leLe (ha : EX W X a A) (hb : EX W X b B) (hc : EX W X c C) (hm : lastMarks [.LtE, .LtE] [b, c] = false := by with_unfolding_all rfl) : TX W X (.Compare a [.LtE, .LtE] [b, c] pos) (isB (chn vLe vLe A B C)) :=
  ⟨PT.weak (pt_chain op_le op_le ha.pe hb.pe hc.pe hm) (tT.tTest (tE.chain (s_iop fun _ _ _ _ => rfl) (s_iop fun _ _ _ _ => rfl)))⟩
theorem tx_ltLt (ha : EX W X a A) (hb : EX W X b B) (hc : EX W X c C) (hm : lastMarks [.Lt, .Lt] [b, c] = false := by with_unfolding_all rfl) : TX W X (.Compare a [.Lt, .Lt] [b, c] pos) (isB (chn vLt vLt A B C)) :=
  ⟨PT.weak (pt_chain op_lt op_lt ha.pe hb.pe hc.pe hm) (tT.tTest (tE.chain (s_iop fun _ _ _ _ => rfl) (s_iop fun _ _ _ _ => rfl)))⟩
end

/-! ### products -/
def mulOk (i j : Int) : Bool := (decide (-18446744073709551616 < i) && decide (i < 18446744073709551616)) || (decide (-18446744073709551616 < j) && decide (j < 18446744073709551616))
def repN {α : Type} (k : Int) (xs : List α) : List α := (List.replicate k.toNat xs).flatten
def vMul (a b : Va) : M Va := fun h => match b with
  | .int j => match a with
    | .int i => if mulOk i j = true then .ok (.int (i * j)) h else (if i.natAbs.log2 + j.natAbs.log2 < 1000000 then .ok (.int (i * j)) h else .no)
    | .ref p => match h.get p with
      | some (.lst xs) => if (decide (-1000000 ≤ j) && (decide (j ≤ 1000000) && decide (xs.length * j.toNat ≤ sLine))) = true then .ok (.ref h.n) (h.push (.lst (repN j xs))) else .no
      | _ => .no
    | .tup xs => if (decide (2 ≤ j) && (decide (j ≤ 1000) && (decide (xs.length ≤ 1000) && !xs.isEmpty))) = true then .ok (.tup (repN j xs)) h else .no
    | _ => .no
  | _ => .no
def rMul (K : PySem.W.Frag) : R2 := fun x y H Q => (rI CMul (fun i j => .int (i * j)) x y H Q ∨ rI CMulW (fun i j => .int (i * j)) x y H Q) ∨ (rRep x y H Q ∨ rRepT K x y H Q)
theorem op_mulA {X : Cx} : OpR X (binaryOp .Mult) (rMul X.K) := (op_mul.or op_mulW).or (op_rep.or op_repT)
theorem s_mul {K : PySem.W.Frag} {W : XW} : S2 K W vMul (rMul K) := fun ρ h H a b x y Q q rx ry s => by
  cases b with
  | int j =>
    cases ry
    cases a with
    | int i =>
      cases rx
      have s' : sat K W ρ H (if mulOk i j = true then .ok (.int (i * j)) h else (if i.natAbs.log2 + j.natAbs.log2 < 1000000 then .ok (.int (i * j)) h else .no)) (rv K Q) := s
      by_cases h1 : mulOk i j = true
      · rw [if_pos h1] at s'
        unfold mulOk at h1
        simp only [Bool.or_eq_true, Bool.and_eq_true, decide_eq_true_eq] at h1
        exact .inl (.inl ⟨i, j, rfl, rfl, h1, s'.val q rfl⟩)
      · rw [if_neg h1] at s'
        by_cases h2 : i.natAbs.log2 + j.natAbs.log2 < 1000000
        · rw [if_pos h2] at s'
          exact .inl (.inr ⟨i, j, rfl, rfl, h2, s'.val q rfl⟩)
        · rw [if_neg h2] at s'; exact False.elim s'
    | ref p =>
      cases g : h.get p with
      | none => simp only [vMul, g] at s; exact False.elim s
      | some o =>
        cases o with
        | lst xs =>
          simp only [vMul, g] at s
          obtain ⟨p', us, rfl, _, g1, g2⟩ := q.lst rx g
          by_cases hz : (decide (-1000000 ≤ j) && (decide (j ≤ 1000000) && decide (xs.length * j.toNat ≤ sLine))) = true
          · rw [if_pos hz] at s
            simp only [Bool.and_eq_true, decide_eq_true_eq] at hz
            exact .inr (.inl ⟨p', j, us, rfl, rfl, g1, by omega, by omega, by rw [← g2.length, ← sLine_eq]; exact hz.2.2, s.newLst q (RVs.rep g2 _)⟩)
          · rw [if_neg hz] at s; exact False.elim s
        | _ => simp only [vMul, g] at s; exact False.elim s
    | tup xs =>
      obtain ⟨p, us, rfl, g1, g2⟩ := rx
      have s' : sat K W ρ H (if (decide (2 ≤ j) && (decide (j ≤ 1000) && (decide (xs.length ≤ 1000) && !xs.isEmpty))) = true then .ok (.tup (repN j xs)) h else .no) (rv K Q) := s
      by_cases hz : (decide (2 ≤ j) && (decide (j ≤ 1000) && (decide (xs.length ≤ 1000) && !xs.isEmpty))) = true
      · rw [if_pos hz] at s'
        simp only [Bool.and_eq_true, decide_eq_true_eq] at hz
        refine .inr (.inr ⟨p, j, us, rfl, rfl, g1, fun e => ?_, hz.1, hz.2.1, by rw [← g2.length]; exact hz.2.2.1, s'.newTup q (RVs.rep g2 _)⟩)
        subst e
        have := g2.length
        have e2 : xs = [] := List.eq_nil_of_length_eq_zero this
        rw [e2] at hz
        simp at hz
      · rw [if_neg hz] at s'; exact False.elim s'
    | _ => exact False.elim s
  | _ => exact False.elim s
section
variable {W : XW} {X : Cx} {a b : Expr} {A B : Ex} {pos : Pos}
theorem ex_mul (ha : EX W X a A) (hb : EX W X b B) : EX W X (.BinOp a .Mult b pos) (op2 vMul A B) := ex_op op_mulA s_mul ha hb
end
end Rf

/-! Rf: targets, statements, loops. -/
namespace Rf
open PySem PySem.Spec PyProof.Rows L2

/-! ### targets: names, tuples of targets -/
inductive Tg where
  | nm (i : Nat) | tp (ts : List Tg)
mutual
def bnd (h : Hea) : Tg → Va → Option (List (Nat × Va))
  | .nm i, v => some [(i, v)]
  | .tp ts, v => match seqV h v with
    | some xs => bnds h ts xs
    | none => none
def bnds (h : Hea) : List Tg → List Va → Option (List (Nat × Va))
  | [], [] => some []
  | t :: ts, x :: xs => match bnd h t x with
    | some a => match bnds h ts xs with
      | some b => some (a ++ b)
      | none => none
    | none => none
  | _, _ => none
end
def setL (l : Lo) : List (Nat × Va) → Lo
  | [] => l
  | (i, v) :: r => setL (l.set i (some v)) r
def setU (σ : L2.St) : List (Nat × V) → L2.St
  | [] => σ
  | (i, v) :: r => setU (σ.set i (some v)) r
def Ups (K : PySem.W.Frag) (ρ : List Addr) (H : Hp) (ups : List (Nat × Va)) (us : List (Nat × V)) : Prop := Paired (fun (p : Nat × Va) (q : Nat × V) => p.1 = q.1 ∧ RV K ρ H p.2 q.2) ups us
def tG (K : PySem.W.Frag) (tg : Tg) : TG := fun v σ H Q => ∃ ρ h a ups, HR K ρ h H ∧ RV K ρ H a v ∧ bnd h tg a = some ups ∧ ∀ us, Ups K ρ H ups us → Q (setU σ us) H
def tGs (K : PySem.W.Frag) (ts : List Tg) : TGs := fun vs σ H Q => ∃ ρ h as ups, HR K ρ h H ∧ RVs K ρ H as vs ∧ bnds h ts as = some ups ∧ ∀ us, Ups K ρ H ups us → Q (setU σ us) H
structure GX (X : Cx) (e : Expr) (tg : Tg) : Prop where
  pg : PG X e (tG X.K tg)
structure GXs (X : Cx) (es : List Expr) (ts : List Tg) : Prop where
  pg : PGs X es (tGs X.K ts)
theorem setU_append (σ : L2.St) : ∀ (a b : List (Nat × V)), setU σ (a ++ b) = setU (setU σ a) b := by
  intro a
  induction a generalizing σ with
  | nil => intro b; rfl
  | cons p r ih => intro b; exact ih (σ.set p.1 (some p.2)) b
theorem Paired.appendQ {α β : Type} {F : α → β → Prop} : ∀ {l₁ l₂ : List α} {m₁ m₂ : List β}, Paired F l₁ m₁ → Paired F l₂ m₂ → Paired F (l₁ ++ l₂) (m₁ ++ m₂)
  | _, _, _, _, .nil, s => s
  | _, _, _, _, .cons r t, s => .cons r (Paired.appendQ t s)
theorem LR.setL {K : PySem.W.Frag} {ρ : List Addr} {H : Hp} : ∀ {ups : List (Nat × Va)} {us : List (Nat × V)} {l : Lo} {σ : L2.St}, LR K ρ H l σ → Ups K ρ H ups us → LR K ρ H (setL l ups) (setU σ us)
  | _, _, _, _, L, .nil => L
  | (i, v) :: r, (j, w) :: s, l, σ, L, .cons e t => by
    have e1 : i = j := e.1
    subst e1
    show LR K ρ H (Rf.setL (l.set i (some v)) r) (setU (σ.set i (some w)) s)
    exact LR.setL (L.set e.2) t
theorem PG.weak {X : Cx} {e : Expr} {t t' : TG} (h : PG X e t) (f : ∀ v σ H Q, t' v σ H Q → t v σ H Q) : PG X e t' := ⟨fun pins s σ H v u Q I r q => h.run pins s σ H v u Q I r (f v σ H Q q)⟩
theorem PGs.weak {X : Cx} {e : List Expr} {t t' : TGs} (h : PGs X e t) (f : ∀ v σ H Q, t' v σ H Q → t v σ H Q) : PGs X e t' := ⟨fun pins s σ H v u Q I r q => h.run pins s σ H v u Q I r (f v σ H Q q)⟩
theorem pg_either {X : Cx} {e : Expr} {t t' : TG} (h1 : PG X e t) (h2 : PG X e t') : PG X e (fun v σ H Q => t v σ H Q ∨ t' v σ H Q) := ⟨fun pins s σ H v u Q I r q => q.elim (h1.run pins s σ H v u Q I r) (h2.run pins s σ H v u Q I r)⟩
section
variable {X : Cx} {pos : Pos} {e : Expr} {es : List Expr} {tg : Tg} {ts : List Tg}
theorem gx_name (i : Nat) {x : Str} (p : PG X (.Name x pos) (gName i)) : GX X (.Name x pos) (.nm i) :=
  ⟨PG.weak p fun v σ H Q ⟨ρ, h, a, ups, q, r, e, k⟩ => by
    cases e
    exact k [(i, v)] (.cons ⟨rfl, r⟩ .nil)⟩
theorem gxs_nil : GXs X [] [] :=
  ⟨PGs.weak pgs_nil fun v σ H Q ⟨ρ, h, as, ups, q, r, e, k⟩ => by
    cases as with
    | nil => cases e; exact ⟨r, k [] .nil⟩
    | cons _ _ => cases e⟩
theorem gxs_cons (h1 : GX X e tg) (h2 : GXs X es ts) (hs : (assignEach (e :: es) X.env).map (·.2) = assign e X.env :: (assignEach es X.env).map (·.2) := by rfl) : GXs X (e :: es) (tg :: ts) :=
  ⟨PGs.weak (pgs_cons h1.pg h2.pg hs) fun v σ H Q ⟨ρ, h, as, ups, q, r, e, k⟩ => by
    cases as with
    | nil => unfold bnds at e; cases e
    | cons a as =>
      obtain ⟨u, t, rfl, r1, r2⟩ := r
      unfold bnds at e
      cases e1 : bnd h tg a with
      | none => rw [e1] at e; cases e
      | some x =>
        rw [e1] at e
        cases e2 : bnds h ts as with
        | none => simp only [e2] at e; cases e
        | some y =>
          simp only [e2] at e
          cases e
          exact ⟨u, t, rfl, ρ, h, a, x, q, r1, e1, fun us U => ⟨ρ, h, as, y, q, r2, e2, fun us2 U2 => by rw [← setU_append]; exact k _ (Paired.appendQ U U2)⟩⟩⟩
theorem gx_tup {kk : Nat} {n : Nat} (hc : X.calm = true) (h : GXs X es ts) (hn : (assignEach es X.env).length = n := by rfl) (hst : (assignEach es X.env).findIdx? (·.1) = none := by rfl) (hl : ts.length = n := by rfl) : GX X (.Tuple es kk pos) (.tp ts) :=
  ⟨PG.weak (pg_either (pg_tup hc h.pg hn hst) (pg_unl hc h.pg hn hst)) fun v σ H Q ⟨ρ, h, a, ups, q, r, e, k⟩ => by
    unfold bnd at e
    cases e1 : seqV h a with
    | none => simp only [e1] at e; cases e
    | some xs =>
      simp only [e1] at e
      have hlen : ∀ (ts : List Tg) (xs : List Va) ups, bnds h ts xs = some ups → xs.length = ts.length := by
        intro ts
        induction ts with
        | nil => intro xs ups e; cases xs with
          | nil => rfl
          | cons _ _ => unfold bnds at e; cases e
        | cons t ts ih =>
          intro xs ups e
          cases xs with
          | nil => unfold bnds at e; cases e
          | cons x xs =>
            unfold bnds at e
            cases e1 : bnd h t x with
            | none => rw [e1] at e; cases e
            | some y =>
              rw [e1] at e
              cases e2 : bnds h ts xs with
              | none => simp only [e2] at e; cases e
              | some z => rw [List.length_cons, List.length_cons, ih xs z e2]
      obtain ⟨p, us, rfl, h1, h2⟩ := seqV_ok q r e1
      have hl2 : us.length = n := by rw [← h2.length, hlen ts xs ups e]; exact hl
      rcases h1 with h1 | h1
      · exact .inr ⟨p, us, rfl, h1, hl2, ρ, h, xs, ups, q, h2, e, k⟩
      · exact .inl ⟨p, us, rfl, h1, hl2, ρ, h, xs, ups, q, h2, e, k⟩⟩
end

/-! ### statements -/
def sNil : Sx := fun l h => .ok (.nx l) h
def sSeq (A B : Sx) : Sx := fun l h => (A l h).bind fun o h1 => match o with
  | .nx l1 => B l1 h1
  | o => .ok o h1
def sDrop (A : Ex) : Sx := fun l h => (A l h).bind fun _ h1 => .ok (.nx l) h1
def sRet (A : Ex) : Sx := fun l h => (A l h).bind fun a h1 => .ok (.rt a) h1
def sRetN : Sx := fun _ h => .ok (.rt .non) h
def sIf (C : Tx) (A B : Sx) : Sx := fun l h => (C l h).bind fun b h1 => if b = true then A l h1 else B l h1
def sBreak : Sx := fun l h => .ok (.bk l) h
def sCont : Sx := fun l h => .ok (.ct l) h
def sNever : Sx := fun _ _ => .no
def sSet (i : Nat) (A : Ex) : Sx := fun l h => (A l h).bind fun a h1 => .ok (.nx (l.set i (some a))) h1
def sBind (tg : Tg) (A : Ex) : Sx := fun l h => (A l h).bind fun a h1 => match bnd h1 tg a with
  | some ups => .ok (.nx (setL l ups)) h1
  | none => .no
def sPar (is : List Nat) (A : Ax) : Sx := fun l h => (A l h).bind fun xs h1 => if xs.length = is.length then .ok (.nx (setL l (is.zip xs))) h1 else .no
section
variable {W : XW} {X : Cx} {pos : Pos} {e c : Expr} {st : Stmt} {rest a b : List Stmt} {A : Ex} {C : Tx} {S T : Sx}
theorem sxs_nil : SXs W X [] sNil := ⟨PSs.weak pss_nil fun D σ H ⟨ρ, l, h, L, q, s⟩ => s.ok q σ L⟩
theorem tS.seq {K : PySem.W.Frag} : ∀ D σ H, tS K W (sSeq S T) D σ H → tSeq (tS K W S) (tS K W T) D σ H := fun D σ H ⟨ρ, l, h, L, q, s⟩ =>
  ⟨ρ, l, h, L, q, s.bind.mono fun o h1 ρ1 H1 e1 q1 s1 => by
    cases o with
    | nx l1 => exact fun σ' L' => ⟨ρ1, l1, h1, L', q1, s1⟩
    | rt v => exact s1.ok q1
    | bk l1 => exact s1.ok q1
    | ct l1 => exact s1.ok q1⟩
theorem sxs_cons (h1 : SX W X st S) (h2 : SXs W X rest T) : SXs W X (st :: rest) (sSeq S T) := ⟨PSs.weak (pss_cons h1.ps h2.ps) tS.seq⟩
theorem sxs_one (h1 : SX W X st S) : SXs W X [st] S := ⟨pss_one h1.ps⟩
theorem sx_pass : SX W X (.Pass pos) sNil := ⟨PS.weak ps_pass fun D σ H ⟨ρ, l, h, L, q, s⟩ => s.ok q σ L⟩
theorem sx_break : SX W X (.Break pos) sBreak := ⟨PS.weak ps_break fun D σ H ⟨ρ, l, h, L, q, s⟩ => s.ok q σ L⟩
theorem sx_continue : SX W X (.Continue pos) sCont := ⟨PS.weak ps_continue fun D σ H ⟨ρ, l, h, L, q, s⟩ => s.ok q σ L⟩
theorem sx_doc {x j pos'} : SX W X (.Expr (.Constant (.str x) j pos) pos') sNil := ⟨PS.weak ps_doc fun D σ H ⟨ρ, l, h, L, q, s⟩ => s.ok q σ L⟩
theorem sx_never : SX W X st sNever := ⟨PS.weak ps_never fun D σ H ⟨ρ, l, h, L, q, s⟩ => s⟩
theorem sx_expr (ha : EX W X e A) (hs : swapsWith e none pos.line X.env = pure false := by rfl) : SX W X (.Expr e pos) (sDrop A) :=
  ⟨PS.weak (ps_expr ha.pe hs) fun D σ H ⟨ρ, l, h, L, q, s⟩ => tE.go L q s fun a h1 ρ1 H1 x e1 L1 q1 rx s1 => s1.ok q1 σ L1⟩
theorem sx_ret (ha : EX W X e A) : SX W X (.Return (some e) pos) (sRet A) :=
  ⟨PS.weak (ps_ret ha.pe) fun D σ H ⟨ρ, l, h, L, q, s⟩ => tE.go L q s fun a h1 ρ1 H1 x e1 L1 q1 rx s1 => s1.ok q1 x rx⟩
theorem sx_retN : SX W X (.Return none pos) sRetN := ⟨PS.weak ps_retN fun D σ H ⟨ρ, l, h, L, q, s⟩ => s.ok q _ rfl⟩
theorem sx_if (hc : TX W X c C) (ha : SXs W X a S) (hb : SXs W X b T) : SX W X (.If c a b pos) (sIf C S T) :=
  ⟨PS.weak (ps_if hc.pt ha.ps hb.ps) fun D σ H ⟨ρ, l, h, L, q, s⟩ => tT.go L q s fun b h1 ρ1 H1 e1 L1 q1 s1 => by
    cases b with
    | true => exact iteT ⟨ρ1, l, h1, L1, q1, s1⟩
    | false => exact iteF ⟨ρ1, l, h1, L1, q1, s1⟩⟩
theorem sx_set (i : Nat) {x : Str} {pos' : Pos} (hp : ∀ te, PE X e te → PS X (.Assign [.Name x pos'] e pos) (tAsg te (gName i))) (ha : EX W X e A) : SX W X (.Assign [.Name x pos'] e pos) (sSet i A) :=
  ⟨PS.weak (hp _ ha.pe) fun D σ H ⟨ρ, l, h, L, q, s⟩ => tE.go L q s fun a h1 ρ1 H1 x e1 L1 q1 rx s1 => s1.ok q1 _ (L1.set rx)⟩
theorem sx_bind {tgx : Expr} {tg : Tg} (ha : EX W X e A) (hg : GX X tgx tg) (hs : swapsWithSole [tgx] e pos.line X.env = pure false := by rfl) (hw : swappedStores [tgx] e X.env = pure none := by rfl)
    (h1 : (assignEach [tgx] X.env).map (·.2) = [assign tgx X.env] := by rfl) : SX W X (.Assign [tgx] e pos) (sBind tg A) :=
  ⟨PS.weak (ps_asg ha.pe hg.pg hs hw h1) fun D σ H ⟨ρ, l, h, L, q, s⟩ => tE.go L q s fun a h1 ρ1 H1 x e1 L1 q1 rx s1 => by
    cases e : bnd h1 tg a with
    | none => simp only [e] at s1; exact False.elim s1
    | some ups =>
      simp only [e] at s1
      exact ⟨ρ1, h1, a, ups, q1, rx, e, fun us U => s1.ok q1 _ (L1.setL U)⟩⟩
theorem sx_par {i j : Nat} {x y : Str} {e1 e2 : Expr} {B : Ax} {px py pt : Pos} {kt k2 pt2} (hc : X.calm = true) (hN : X.N.Nodup) (hi : X.N[i]? = some x) (hj : X.N[j]? = some y) (hij : i ≠ j)
    (hx : X.env.scope.names.lookup x = some .local) (hy : X.env.scope.names.lookup y = some .local) (ha : AX W X [e1, e2] B)
    (hw : swappedStores [.Tuple [.Name x px, .Name y py] kt pt] (.Tuple [e1, e2] k2 pt2) X.env = pure (some [x, y]) := by rfl)
    (hs : swapsWithSole [.Tuple [.Name x px, .Name y py] kt pt] (.Tuple [e1, e2] k2 pt2) pos.line X.env = pure false := by rfl) :
    SX W X (.Assign [.Tuple [.Name x px, .Name y py] kt pt] (.Tuple [e1, e2] k2 pt2) pos) (sPar [i, j] B) :=
  ⟨PS.weak (ps_par hc hN hi hj hij hx hy ha.pa hw hs) fun D σ H ⟨ρ, l, h, L, q, s⟩ => tA.go L q s fun xs h1 ρ1 H1 us ex L1 q1 rs s1 => by
    match xs, rs with
    | [a, b], ⟨u, _, e1, r1, v, _, e2, r2, e3⟩ =>
      subst e3 e2 e1
      exact ⟨u, v, rfl, s1.ok q1 _ ((L1.set r1).set r2)⟩
    | [], _ => exact False.elim s1
    | [_], _ => exact False.elim s1
    | _ :: _ :: _ :: _, _ => exact False.elim s1⟩
theorem sx_par3 {i j k : Nat} {x y z : Str} {e1 e2 e3 : Expr} {B : Ax} {px py pz pt : Pos} {kt k2 pt2} (hc : X.calm = true) (hN : X.N.Nodup) (hi : X.N[i]? = some x) (hj : X.N[j]? = some y) (hk : X.N[k]? = some z) (hij : i ≠ j) (hik : i ≠ k) (hjk : j ≠ k)
    (hx : X.env.scope.names.lookup x = some .local) (hy : X.env.scope.names.lookup y = some .local) (hz : X.env.scope.names.lookup z = some .local) (ha : AX W X [e1, e2, e3] B)
    (hw : swappedStores [.Tuple [.Name x px, .Name y py, .Name z pz] kt pt] (.Tuple [e1, e2, e3] k2 pt2) X.env = pure (some [x, y, z]) := by rfl)
    (hs : swapsWithSole [.Tuple [.Name x px, .Name y py, .Name z pz] kt pt] (.Tuple [e1, e2, e3] k2 pt2) pos.line X.env = pure false := by rfl) :
    SX W X (.Assign [.Tuple [.Name x px, .Name y py, .Name z pz] kt pt] (.Tuple [e1, e2, e3] k2 pt2) pos) (sPar [i, j, k] B) :=
  ⟨PS.weak (ps_par3 hc hN hi hj hk hij hik hjk hx hy hz ha.pa hw hs) fun D σ H ⟨ρ, l, h, L, q, s⟩ => tA.go L q s fun xs h1 ρ1 H1 us ex L1 q1 rs s1 => by
    match xs, rs with
    | [a, b, c], ⟨u, _, e1, r1, v, _, e2, r2, w, _, e3, r3, e4⟩ =>
      subst e4 e3 e2 e1
      exact ⟨u, v, w, rfl, s1.ok q1 _ (((L1.set r1).set r2).set r3)⟩
    | [], _ => exact False.elim s1
    | [_], _ => exact False.elim s1
    | [_, _], _ => exact False.elim s1
    | _ :: _ :: _ :: _ :: _, _ => exact False.elim s1⟩
end

/-! ### while -/
def whileS (C : Tx) (B : Sx) : Nat → Sx
  | 0, _, _ => .no
  | f + 1, l, h => (C l h).bind fun b h1 => if b = true then (B l h1).bind fun o h2 => match o with
      | .nx l2 => whileS C B f l2 h2
      | .ct l2 => whileS C B f l2 h2
      | .bk l2 => .ok (.nx l2) h2
      | .rt v => .ok (.rt v) h2
    else .ok (.nx l) h1
def bigN : Nat := 1000000
section
variable {W : XW} {X : Cx} {pos : Pos} {c : Expr} {body : List Stmt} {C : Tx} {B : Sx}
theorem sx_while (hp : PassesOwn (model X.prog X.w) X.A X.env X.xe) (hc : TX W X c C) (hb : SXs W X body B) : SX W X (.While c body [] pos) (whileS C B bigN) :=
  ⟨PS.weak (ps_while hp hc.pt hb.ps) fun D σ H ⟨ρ, l, h, L, q, s⟩ => by
    refine ⟨fun m σ H => ∃ ρ l h, LR X.K ρ H l σ ∧ HR X.K ρ h H ∧ sat X.K W ρ H (whileS C B m l h) (ouQ X.K D), ⟨bigN, ρ, l, h, L, q, s⟩, fun m σ H ⟨ρ, l, h, L, q, s⟩ => ?_⟩
    cases m with
    | zero => exact False.elim s
    | succ m =>
      unfold whileS at s
      refine tT.go L q s fun b h1 ρ1 H1 e1 L1 q1 s1 => ?_
      cases b with
      | true =>
        refine iteT ⟨fun σ' H' => ∃ ρ l h, LR X.K ρ H' l σ' ∧ HR X.K ρ h H' ∧ sat X.K W ρ H' (whileS C B m l h) (ouQ X.K D), fun σ' H' z => ⟨m, Nat.lt_succ_self m, z⟩, ρ1, l, h1, L1, q1, ?_⟩
        rw [if_pos rfl] at s1
        refine s1.bind.mono fun o h2 ρ2 H2 e2 q2 s2 => ?_
        cases o with
        | nx l2 => exact fun σ' L' => ⟨ρ2, l2, h2, L', q2, s2⟩
        | ct l2 => exact fun σ' L' => ⟨ρ2, l2, h2, L', q2, s2⟩
        | bk l2 => exact fun σ' L' => s2.ok q2 σ' L'
        | rt v => exact fun u ru => s2.ok q2 u ru
      | false =>
        rw [if_neg (by decide)] at s1
        exact iteF (s1.ok q1 σ L1)⟩
end

/-! ### what is walked -/
inductive Sr where
  | vals (xs : List Va) | lst (i : Nat) | enl (i : Nat) | zpl (i j : Nat)
def stp (h : Hea) (k : Nat) : Sr → Option (Option Va)
  | .vals xs => some xs[k]?
  | .lst i => match h.get i with
    | some (.lst xs) => some xs[k]?
    | _ => none
  | .enl i => match h.get i with
    | some (.lst xs) => some (xs[k]?.map fun v => .tup [.int k, v])
    | _ => none
  | .zpl i j => match h.get i with
    | some (.lst xs) => match h.get j with
      | some (.lst ys) => match xs[k]? with
        | some x => match ys[k]? with
          | some y => some (some (.tup [x, y]))
          | none => some none
        | none => some none
      | _ => none
    | _ => none
/-- an iterator and what we say of it -/
structure Tie (K : PySem.W.Frag) (J : It) (src : Sr) (C : List Addr → Hp → Prop) : Prop where
  ext : ∀ ρ H ρ' H', C ρ H → Ext K ρ H ρ' H' → C ρ' H'
  stop : ∀ k h ρ H, C ρ H → HR K ρ h H → stp h k src = some none → J.stop k H
  go : ∀ k h ρ H v, C ρ H → HR K ρ h H → stp h k src = some (some v) → J.go k H ∧ ∀ x H', J.yld k H x H' → Ext K ρ H ρ H' ∧ HR K ρ h H' ∧ RV K ρ H' v x
abbrev Ix := Lo → M Sr
def tI (K : PySem.W.Frag) (W : XW) (A : Ix) : TI := fun σ H R => ∃ ρ l h, LR K ρ H l σ ∧ HR K ρ h H ∧ sat K W ρ H (A l h) (fun src h' ρ' H' => ∀ J C, Tie K J src C → C ρ' H' → R J H')
structure IX (W : XW) (X : Cx) (tg iter : Expr) (A : Ix) : Prop where
  pi : PI X tg iter (tI X.K W A)
theorem PI.weak {X : Cx} {tg e : Expr} {t t' : TI} (h : PI X tg e t) (f : ∀ σ H R, t' σ H R → t σ H R) : PI X tg e t' := ⟨fun pins s σ H R I q => h.run pins s σ H R I (f σ H R q)⟩
theorem pi_either {X : Cx} {tg e : Expr} {t t' : TI} (h1 : PI X tg e t) (h2 : PI X tg e t') : PI X tg e (fun σ H R => t σ H R ∨ t' σ H R) := ⟨fun pins s σ H R I q => q.elim (h1.run pins s σ H R I) (h2.run pins s σ H R I)⟩

def forS (src : Sr) (tg : Tg) (B : Sx) : Nat → Nat → Sx
  | 0, _, _, _ => .no
  | f + 1, k, l, h => match stp h k src with
    | none => .no
    | some none => .ok (.nx l) h
    | some (some v) => match bnd h tg v with
      | none => .no
      | some ups => (B (setL l ups) h).bind fun o h2 => match o with
        | .nx l2 => forS src tg B f (k + 1) l2 h2
        | .ct l2 => forS src tg B f (k + 1) l2 h2
        | .bk l2 => .ok (.nx l2) h2
        | .rt v => .ok (.rt v) h2
def sFor (I : Ix) (tg : Tg) (B : Sx) : Sx := fun l h => (I l h).bind fun src h1 => forS src tg B bigN 0 l h1
section
variable {W : XW} {X : Cx} {pos : Pos} {tgx iter : Expr} {body : List Stmt} {I : Ix} {tg : Tg} {B : Sx}
theorem forS_sound {K : PySem.W.Frag} {J : It} {src : Sr} {C : List Addr → Hp → Prop} {D : Ends} (T : Tie K J src C) {fuel : Nat} {ρ : List Addr} {l : Lo} {h : Hea} {σ : L2.St} {H : Hp}
    (L : LR K ρ H l σ) (q : HR K ρ h H) (c : C ρ H) (s : sat K W ρ H (forS src tg B fuel 0 l h) (ouQ K D)) :
    ∃ V : Nat → Nat → L2.St → Hp → Prop, (∃ m, V 0 m σ H) ∧ ∀ i m σ H, V i m σ H →
      (J.stop i H ∧ D.nx σ H) ∨ (J.go i H ∧ ∃ N : L2.St → Hp → Prop, (∀ σ' H', N σ' H' → ∃ m', m' < m ∧ V (i + 1) m' σ' H') ∧ ∀ x H', J.yld i H x H' → tG K tg x σ H' fun σ2 H2 => tS K W B { D with nx := N, ct := N, bk := D.nx } σ2 H2) := by
  refine ⟨fun i m σ H => ∃ ρ l h, LR K ρ H l σ ∧ HR K ρ h H ∧ C ρ H ∧ sat K W ρ H (forS src tg B m i l h) (ouQ K D), ⟨fuel, ρ, l, h, L, q, c, s⟩, fun i m σ H ⟨ρ, l, h, L, q, c, s⟩ => ?_⟩
  cases m with
  | zero => exact False.elim s
  | succ m =>
    unfold forS at s
    cases e : stp h i src with
    | none => simp only [e] at s; exact False.elim s
    | some o =>
      cases o with
      | none =>
        simp only [e] at s
        exact .inl ⟨T.stop i h ρ H c q e, s.ok q σ L⟩
      | some v =>
        simp only [e] at s
        obtain ⟨go, y⟩ := T.go i h ρ H v c q e
        refine .inr ⟨go, fun σ' H' => ∃ ρ l h, LR K ρ H' l σ' ∧ HR K ρ h H' ∧ C ρ H' ∧ sat K W ρ H' (forS src tg B m (i + 1) l h) (ouQ K D), fun σ' H' z => ⟨m, Nat.lt_succ_self m, z⟩, fun x H' yx => ?_⟩
        obtain ⟨ex, q1, rx⟩ := y x H' yx
        have s1 := s.shift ex
        cases e2 : bnd h tg v with
        | none => simp only [e2] at s1; exact False.elim s1
        | some ups =>
          simp only [e2] at s1
          refine ⟨ρ, h, v, ups, q1, rx, e2, fun us U => ⟨ρ, setL l ups, h, (L.ext ex).setL U, q1, s1.bind.mono fun o h2 ρ2 H2 e2 q2 s2 => ?_⟩⟩
          have c2 := T.ext _ _ _ _ (T.ext _ _ _ _ c ex) e2
          cases o with
          | nx l2 => exact fun σ' L' => ⟨ρ2, l2, h2, L', q2, c2, s2⟩
          | ct l2 => exact fun σ' L' => ⟨ρ2, l2, h2, L', q2, c2, s2⟩
          | bk l2 => exact fun σ' L' => s2.ok q2 σ' L'
          | rt v => exact fun u ru => s2.ok q2 u ru
theorem sx_for (hp : PassesOwn (model X.prog X.w) X.A X.env X.xe) (hc : X.calm = true) (hi : IX W X tgx iter I) (hg : GX X tgx tg) (hb : SXs W X body B)
    (hs : ∀ x, foldedSetIterable iter X.env x = pure x := by intro _; rfl) : SX W X (.For tgx iter body [] pos) (sFor I tg B) :=
  ⟨PS.weak (ps_for hp hc hi.pi hg.pg hb.ps hs) fun D σ H ⟨ρ, l, h, L, q, s⟩ => ⟨ρ, l, h, L, q, s.bind.mono fun src h1 ρ1 H1 e1 q1 s1 J C T c => forS_sound T (L.ext e1) q1 c s1⟩⟩
end

/-! ### ties -/
section
variable {K : PySem.W.Frag}
theorem tie_list {i : Nat} {a : Addr} : Tie K (Itl K a) (.lst i) (fun ρ _ => ρ[i]? = some a) := by
  refine ⟨fun ρ H ρ' H' c e => e.at c, fun k h ρ H c q e => ?_, fun k h ρ H v c q e => ?_⟩
  · unfold stp at e
    simp only at e
    split at e
    · rename_i xs g
      obtain ⟨p, us, ep, hp, h1, h2⟩ := q.lst (x := .ref a) ⟨a, rfl, c⟩ g
      cases ep
      refine ⟨us, SqL.of h1, ?_⟩
      have := Option.some.inj e
      rw [← h2.length]
      exact List.getElem?_eq_none_iff.mp this
    · cases e
  · unfold stp at e
    simp only at e
    split at e
    · rename_i xs g
      obtain ⟨p, us, ep, hp, h1, h2⟩ := q.lst (x := .ref a) ⟨a, rfl, c⟩ g
      cases ep
      obtain ⟨u, hu, ru⟩ := h2.get (Option.some.inj e)
      refine ⟨⟨us, u, SqL.of h1, hu⟩, fun x H' y => ?_⟩
      obtain ⟨rfl, y⟩ := y
      have := (y us (SqL.of h1)).symm.trans hu
      cases this
      exact ⟨Ext.refl, q, ru⟩
    · cases e
theorem tie_tup {xs : List Va} {a : Addr} : Tie K (Itt K a) (.vals xs) (fun ρ H => ∃ us, SqT K H a us ∧ RVs K ρ H xs us) := by
  refine ⟨fun ρ H ρ' H' ⟨us, c1, c2⟩ e => ⟨us, e.tup _ _ c1, RVs.ext e _ c2⟩, fun k h ρ H ⟨us, c1, c2⟩ q e => ?_, fun k h ρ H v ⟨us, c1, c2⟩ q e => ?_⟩
  · refine ⟨us, c1, ?_⟩
    have := Option.some.inj e
    rw [← c2.length]
    exact List.getElem?_eq_none_iff.mp this
  · obtain ⟨u, hu, ru⟩ := c2.get (Option.some.inj e)
    refine ⟨⟨us, u, c1, hu⟩, fun x H' y => ?_⟩
    obtain ⟨rfl, y⟩ := y
    have := (y us c1).symm.trans hu
    cases this
    exact ⟨Ext.refl, q, ru⟩
theorem tie_fl {xs : List Va} {a : Addr} : Tie K (Itl K a) (.vals xs) (fun ρ H => ∃ us, FzL K H a us ∧ RVs K ρ H xs us) := by
  refine ⟨fun ρ H ρ' H' ⟨us, c1, c2⟩ e => ⟨us, c1.elim (fun ⟨o, z⟩ => .inl ⟨o, e.fz _ _ _ z⟩) .inr, RVs.ext e _ c2⟩, fun k h ρ H ⟨us, c1, c2⟩ q e => ?_, fun k h ρ H v ⟨us, c1, c2⟩ q e => ?_⟩
  · refine ⟨us, c1.sq, ?_⟩
    have := Option.some.inj e
    rw [← c2.length]
    exact List.getElem?_eq_none_iff.mp this
  · obtain ⟨u, hu, ru⟩ := c2.get (Option.some.inj e)
    refine ⟨⟨us, u, c1.sq, hu⟩, fun x H' y => ?_⟩
    obtain ⟨rfl, y⟩ := y
    have := (y us c1.sq).symm.trans hu
    cases this
    exact ⟨Ext.refl, q, ru⟩
theorem tie_str {z : List Nat} : Tie K (Its ⟨z.toArray⟩) (.vals (z.map fun c => .str [c])) (fun _ _ => True) := by
  refine ⟨fun _ _ _ _ _ _ => trivial, fun k h ρ H c q e => ?_, fun k h ρ H v c q e => ?_⟩
  · have := List.getElem?_eq_none_iff.mp (Option.some.inj e)
    show z.toArray.size ≤ k
    simpa using this
  · have h1 := Option.some.inj e
    rw [List.getElem?_map] at h1
    cases g : z[k]? with
    | none => rw [g] at h1; cases h1
    | some c0 =>
      rw [g] at h1
      cases h1
      refine ⟨by show k < z.toArray.size; simpa using (List.getElem?_eq_some_iff.mp g).1, fun x H' y => ?_⟩
      obtain ⟨rfl, c2, h2, rfl⟩ := y
      have : c2 = c0 := by
        have h3 : z[k]? = some c2 := by simpa using h2
        rw [g] at h3
        cases h3
        rfl
      subst this
      exact ⟨Ext.refl, q, rfl⟩
def rangeV (lo : Int) (n : Nat) : List Va := (List.range n).map fun (i : Nat) => .int (lo + (i : Int))
theorem tie_range {lo : Int} {n : Nat} : Tie K (Itr lo n) (.vals (rangeV lo n)) (fun _ _ => True) := by
  refine ⟨fun _ _ _ _ _ _ => trivial, fun k h ρ H c q e => ?_, fun k h ρ H v c q e => ?_⟩
  · have := List.getElem?_eq_none_iff.mp (Option.some.inj e)
    show n ≤ k
    simpa [rangeV] using this
  · have h1 := Option.some.inj e
    unfold rangeV at h1
    rw [List.getElem?_map] at h1
    cases g : (List.range n)[k]? with
    | none => rw [g] at h1; cases h1
    | some c0 =>
      rw [g] at h1
      cases h1
      have g2 := List.getElem?_eq_some_iff.mp g
      obtain ⟨g3, g4⟩ := g2
      have e2 : c0 = k := by rw [← g4, List.getElem_range]
      subst e2
      refine ⟨by show c0 < n; simpa using g3, fun x H' y => ?_⟩
      obtain ⟨rfl, rfl⟩ := y
      exact ⟨Ext.refl, q, rfl⟩
end
/-- over a value: a list (as it stands at each turn), a tuple, a text -/
def iVal (A : Ex) : Ix := fun l h => (A l h).bind fun a h1 => match a with
  | .ref i => match h1.get i with
    | some (.lst _) => .ok (.lst i) h1
    | _ => .no
  | .tup xs => .ok (.vals xs) h1
  | .fl xs => .ok (.vals xs) h1
  | .str s => .ok (.vals (s.map fun c => .str [c])) h1
  | _ => .no
def iRange1 (A : Ax) : Ix := fun l h => (A l h).bind fun xs h1 => match xs with
  | [.int j] => if (decide (-1000000 < j) && decide (j < 1000000)) = true then .ok (.vals (rangeV 0 j.toNat)) h1 else .no
  | _ => .no
def iRange2 (A : Ax) : Ix := fun l h => (A l h).bind fun xs h1 => match xs with
  | [.int i, .int j] => if (decide (-1000000 < i) && (decide (i < 1000000) && (decide (-1000000 < j) && decide (j < 1000000)))) = true then .ok (.vals (rangeV i (j - i).toNat)) h1 else .no
  | _ => .no
section
variable {W : XW} {X : Cx} {tg e : Expr} {A : Ex} {B : Ax} {pos p : Pos}
theorem ix_val (ha : EX W X e A) : IX W X tg e (iVal A) := by
  refine ⟨PI.weak (pi_either (pi_list ha.pe) (pi_either (pi_tup ha.pe) (pi_str ha.pe))) fun σ H R ⟨ρ, l, h, L, q, s⟩ => ?_⟩
  cases e : A l h with
  | no => simp only [iVal, e, Rs.bind] at s; exact False.elim s
  | err c v h' => simp only [iVal, e, Rs.bind] at s; exact .inl ⟨ρ, l, h, L, q, by rw [e]; exact s⟩
  | ok a h' =>
    simp only [iVal, e, Rs.bind] at s
    cases a with
    | ref i =>
      refine .inl (tE.at L q e fun ρ1 H1 u x L1 q1 ru => ?_)
      cases g : h'.get i with
      | none => simp only [g] at s; exact False.elim s
      | some o =>
        cases o with
        | lst xs =>
          simp only [g] at s
          have s1 := (s.shift x).ok q1
          obtain ⟨p, us, rfl, hp, h1, h2⟩ := q1.lst ru g
          exact ⟨p, rfl, ⟨us, SqL.of h1⟩, s1 _ _ tie_list hp⟩
        | _ => simp only [g] at s; exact False.elim s
    | tup xs =>
      refine .inr (.inl (tE.at L q e fun ρ1 H1 u x L1 q1 ru => ?_))
      have s1 := (s.shift x).ok q1
      obtain ⟨p, us, rfl, h1, h2⟩ := ru
      exact ⟨p, rfl, ⟨us, h1⟩, s1 _ _ tie_tup ⟨us, h1, h2⟩⟩
    | fl xs =>
      refine .inl (tE.at L q e fun ρ1 H1 u x L1 q1 ru => ?_)
      have s1 := (s.shift x).ok q1
      obtain ⟨p, us, rfl, h1, h2⟩ := ru
      exact ⟨p, rfl, ⟨us, h1.sq⟩, s1 _ _ tie_fl ⟨us, h1, h2⟩⟩
    | str z =>
      refine .inr (.inr (tE.at L q e fun ρ1 H1 u x L1 q1 ru => ?_))
      have s1 := (s.shift x).ok q1
      cases ru
      exact ⟨_, rfl, s1 _ _ tie_str trivial⟩
    | _ => exact False.elim s
theorem ix_range1 (hg : Gl X "range") (hm : X.mg "range" = none) (ha : AX W X [e] B) (hs : starEach [e] X.env = [(false, eval e X.env)] := by rfl) : IX W X tg (.Call (.Name "range" p) [e] [] pos) (iRange1 B) :=
  ⟨PI.weak (pi_range1 hg hm ha.pa hs) fun σ H R ⟨ρ, l, h, L, q, s⟩ => tA.go L q s fun xs h1 ρ1 H1 us e1 L1 q1 rs s1 => by
    match xs, rs with
    | [.int j], ⟨u, t, e1, r1, r2⟩ =>
      cases r2
      cases r1
      subst e1
      have s2 : sat X.K W ρ1 H1 (if (decide (-1000000 < j) && decide (j < 1000000)) = true then .ok (.vals (rangeV 0 j.toNat)) h1 else .no) (fun src h' ρ' H' => ∀ J C, Tie X.K J src C → C ρ' H' → R J H') := s1
      by_cases hz : (decide (-1000000 < j) && decide (j < 1000000)) = true
      · rw [if_pos hz] at s2
        simp only [Bool.and_eq_true, decide_eq_true_eq] at hz
        exact ⟨j, rfl, by omega, by omega, s2.ok q1 _ _ tie_range trivial⟩
      · rw [if_neg hz] at s2; exact False.elim s2
    | [], _ => exact False.elim s1
    | [.non], _ => exact False.elim s1
    | [.bl _], _ => exact False.elim s1
    | [.str _], _ => exact False.elim s1
    | [.tup _], _ => exact False.elim s1
    | [.ref _], _ => exact False.elim s1
    | [.fl _], _ => exact False.elim s1
    | x1 :: _ :: _, _ => cases x1 <;> exact False.elim s1⟩
theorem ix_range2 {e2 : Expr} (hg : Gl X "range") (hm : X.mg "range" = none) (ha : AX W X [e, e2] B) (hs : starEach [e, e2] X.env = [(false, eval e X.env), (false, eval e2 X.env)] := by rfl) (hs2 : starEach [e2] X.env = [(false, eval e2 X.env)] := by rfl) : IX W X tg (.Call (.Name "range" p) [e, e2] [] pos) (iRange2 B) :=
  ⟨PI.weak (pi_range2 hg hm ha.pa hs hs2) fun σ H R ⟨ρ, l, h, L, q, s⟩ => tA.go L q s fun xs h1 ρ1 H1 us e1 L1 q1 rs s1 => by
    have key : ∀ i j, xs = [.int i, .int j] → ∃ i j : Int, us = [.int i, .int j] ∧ (-(2 ^ 62) ≤ i ∧ i < 2 ^ 62 ∧ -(2 ^ 62) ≤ j ∧ j < 2 ^ 62) ∧ R (Itr i (j - i).toNat) H1 := fun i j ex => by
      subst ex
      obtain ⟨u, _, e1, r1, v, _, e2, r2, e3⟩ := rs
      subst e3 e2 e1
      cases r1
      cases r2
      have s2 : sat X.K W ρ1 H1 (if (decide (-1000000 < i) && (decide (i < 1000000) && (decide (-1000000 < j) && decide (j < 1000000)))) = true then .ok (.vals (rangeV i (j - i).toNat)) h1 else .no) (fun src h' ρ' H' => ∀ J C, Tie X.K J src C → C ρ' H' → R J H') := s1
      by_cases hz : (decide (-1000000 < i) && (decide (i < 1000000) && (decide (-1000000 < j) && decide (j < 1000000)))) = true
      · rw [if_pos hz] at s2
        simp only [Bool.and_eq_true, decide_eq_true_eq] at hz
        exact ⟨i, j, rfl, ⟨by omega, by omega, by omega, by omega⟩, s2.ok q1 _ _ tie_range trivial⟩
      · rw [if_neg hz] at s2; exact False.elim s2
    match xs, s1, key with
    | [.int i, .int j], _, key => exact key i j rfl
    | [], s1, _ => exact False.elim s1
    | [x1], s1, _ => cases x1 <;> exact False.elim s1
    | .int _ :: x1 :: _ :: _, s1, _ => cases x1 <;> exact False.elim s1
    | [.int _, .non], s1, _ => exact False.elim s1
    | [.int _, .bl _], s1, _ => exact False.elim s1
    | [.int _, .str _], s1, _ => exact False.elim s1
    | [.int _, .tup _], s1, _ => exact False.elim s1
    | [.int _, .ref _], s1, _ => exact False.elim s1
    | [.int _, .fl _], s1, _ => exact False.elim s1
    | .non :: _ :: _, s1, _ => exact False.elim s1
    | .bl _ :: _ :: _, s1, _ => exact False.elim s1
    | .str _ :: _ :: _, s1, _ => exact False.elim s1
    | .tup _ :: _ :: _, s1, _ => exact False.elim s1
    | .ref _ :: _ :: _, s1, _ => exact False.elim s1
    | .fl _ :: _ :: _, s1, _ => exact False.elim s1⟩
end
end Rf

/-! Rf: comprehensions, stores, calls of defs, defs. -/
namespace Rf
open PySem PySem.Spec PyProof.Rows L2

/-! ### comprehensions -/
def Rs.solid {α : Type} : Rs α → Rs α
  | .ok a h => .ok a h
  | _ => .no
theorem sat.solid {K : PySem.W.Frag} {W : XW} {ρ : List Addr} {H : Hp} {α β : Type} {r : Rs α} {f : α → Hea → Rs β} {Q : β → Hea → List Addr → Hp → Prop} (s : sat K W ρ H (r.solid.bind f) Q) : sat K XF ρ H r (fun a h1 ρ1 H1 => sat K W ρ1 H1 (f a h1) Q) := by
  cases r with
  | ok a h => exact fun ρ' H' e q => sat.shift e s
  | err c v h => exact False.elim s
  | no => exact False.elim s
theorem tE.goF {K : PySem.W.Frag} {W : XW} {A : Ex} {ρ : List Addr} {l : Lo} {h : Hea} {σ : L2.St} {H : Hp} {β : Type} {f : Va → Hea → Rs β} {Q : β → Hea → List Addr → Hp → Prop} {R : VK}
    (L : LR K ρ H l σ) (r : HR K ρ h H) (s : sat K W ρ H ((A l h).solid.bind f) Q)
    (k : ∀ a h1 ρ1 H1 u, Ext K ρ H ρ1 H1 → LR K ρ1 H1 l σ → HR K ρ1 h1 H1 → RV K ρ1 H1 a u → sat K W ρ1 H1 (f a h1) Q → R u H1) : tE K XF A σ H R :=
  ⟨ρ, l, h, L, r, s.solid.mono fun a h1 ρ1 H1 e r1 s1 u ru => k a h1 ρ1 H1 u e (L.ext e) r1 ru s1⟩
theorem tT.goF {K : PySem.W.Frag} {W : XW} {A : Tx} {ρ : List Addr} {l : Lo} {h : Hea} {σ : L2.St} {H : Hp} {β : Type} {f : Bool → Hea → Rs β} {Q : β → Hea → List Addr → Hp → Prop} {R : Bool → Hp → Prop}
    (L : LR K ρ H l σ) (r : HR K ρ h H) (s : sat K W ρ H ((A l h).solid.bind f) Q)
    (k : ∀ a h1 ρ1 H1, Ext K ρ H ρ1 H1 → LR K ρ1 H1 l σ → HR K ρ1 h1 H1 → sat K W ρ1 H1 (f a h1) Q → R a H1) : tT K XF A σ H R :=
  ⟨ρ, l, h, L, r, s.solid.mono fun a h1 ρ1 H1 e r1 s1 => k a h1 ρ1 H1 e (L.ext e) r1 s1⟩
def wipeL (l : Lo) : List Nat → Lo
  | [] => l
  | v :: vs => (wipeL l vs).set v none
theorem LR.wp {K : PySem.W.Frag} {ρ : List Addr} {H : Hp} {l : Lo} {σ : L2.St} (L : LR K ρ H l σ) : ∀ vs : List Nat, LR K ρ H (wipeL l vs) (wipe σ vs)
  | [] => L
  | v :: vs => by
    have ih := LR.wp L vs
    refine ⟨by show ((wipeL l vs).set v none).length = ((wipe σ vs).set v none).length; rw [List.length_set, List.length_set]; exact ih.1, fun i a e => ?_⟩
    have e : ((wipeL l vs).set v none)[i]? = some (some a) := e
    show ∃ u, ((wipe σ vs).set v none)[i]? = some (some u) ∧ RV K ρ H a u
    by_cases h : v = i
    · subst h
      by_cases hl : v < (wipeL l vs).length
      · rw [List.getElem?_set_self hl] at e; cases e
      · rw [List.getElem?_eq_none (by simpa using hl)] at e; cases e
    · rw [List.getElem?_set_ne h] at e ⊢
      exact ih.2 i a e
mutual
def Tg.slots : Tg → List Nat
  | .nm i => [i]
  | .tp ts => Tg.slotss ts
def Tg.slotss : List Tg → List Nat
  | [] => []
  | t :: ts => t.slots ++ Tg.slotss ts
end
mutual
theorem bnd_slots {h : Hea} : ∀ (tg : Tg) (v : Va) (ups : List (Nat × Va)), bnd h tg v = some ups → ups.map (·.1) = tg.slots
  | .nm i, v, ups, e => by unfold bnd at e; cases e; rfl
  | .tp ts, v, ups, e => by
    unfold bnd at e
    cases q : seqV h v with
    | none => simp only [q] at e; cases e
    | some xs => simp only [q] at e; unfold Tg.slots; exact bnds_slots ts xs ups e
theorem bnds_slots {h : Hea} : ∀ (ts : List Tg) (xs : List Va) (ups : List (Nat × Va)), bnds h ts xs = some ups → ups.map (·.1) = Tg.slotss ts
  | [], [], ups, e => by unfold bnds at e; cases e; rfl
  | [], _ :: _, ups, e => by unfold bnds at e; cases e
  | _ :: _, [], ups, e => by unfold bnds at e; cases e
  | t :: ts, x :: xs, ups, e => by
    unfold bnds at e
    cases q : bnd h t x with
    | none => simp only [q] at e; cases e
    | some a =>
      simp only [q] at e
      cases q2 : bnds h ts xs with
      | none => simp only [q2] at e; cases e
      | some b =>
        simp only [q2] at e
        cases e
        rw [List.map_append, bnd_slots t x a q, bnds_slots ts xs b q2]
        rfl
end
theorem wipe_at (σ : L2.St) (j : Nat) : ∀ vs : List Nat, (wipe σ vs)[j]? = if j ∈ vs then σ[j]?.map (fun _ => none) else σ[j]?
  | [] => by simp [wipe]
  | v :: vs => by
    show ((wipe σ vs).set v none)[j]? = _
    rw [List.getElem?_set]
    by_cases e : v = j
    · subst e
      rw [if_pos rfl, if_pos List.mem_cons_self, wipe_length]
      by_cases hl : v < σ.length
      · rw [if_pos hl, List.getElem?_eq_getElem hl]; rfl
      · rw [if_neg hl, List.getElem?_eq_none (by simpa using hl)]; rfl
    · rw [if_neg e, wipe_at σ j vs]
      simp [Ne.symm e]
theorem wipe_set {σ : L2.St} {i : Nat} {x : Option V} {vs : List Nat} (h : i ∈ vs) : wipe (σ.set i x) vs = wipe σ vs := by
  refine List.ext_getElem? fun j => ?_
  rw [wipe_at, wipe_at]
  by_cases hj : j ∈ vs
  · rw [if_pos hj, if_pos hj, List.getElem?_set]
    by_cases e : i = j
    · subst e
      rw [if_pos rfl]
      by_cases hl : i < σ.length
      · rw [if_pos hl, List.getElem?_eq_getElem hl]; rfl
      · rw [if_neg hl, List.getElem?_eq_none (by simpa using hl)]
    · rw [if_neg e]
  · rw [if_neg hj, if_neg hj, List.getElem?_set_ne (fun e => hj (by rw [← e]; exact h))]
theorem wipe_setU {vs : List Nat} : ∀ {us : List (Nat × V)} {σ : L2.St}, (∀ p ∈ us, p.1 ∈ vs) → wipe (setU σ us) vs = wipe σ vs
  | [], _, _ => rfl
  | p :: r, σ, h => by
    show wipe (setU (σ.set p.1 (some p.2)) r) vs = _
    rw [wipe_setU fun q hq => h q (List.mem_cons_of_mem _ hq), wipe_set (h p List.mem_cons_self)]
theorem wipe_wipe (σ : L2.St) (vs : List Nat) : wipe (wipe σ vs) vs = wipe σ vs := by
  refine List.ext_getElem? fun j => ?_
  rw [wipe_at, wipe_at]
  by_cases hj : j ∈ vs
  · rw [if_pos hj, if_pos hj]
    cases σ[j]? <;> rfl
  · rw [if_neg hj, if_neg hj]
theorem ups_slots {K : PySem.W.Frag} {ρ : List Addr} {H : Hp} : ∀ {ups : List (Nat × Va)} {us : List (Nat × V)}, Ups K ρ H ups us → us.map (·.1) = ups.map (·.1)
  | _, _, .nil => rfl
  | _, _, .cons e t => by rw [List.map_cons, List.map_cons, e.1, ups_slots t]
def tTrue : Tx := fun _ h => .ok true h
structure TSX (X : Cx) (ifs : List Expr) (T : Tx) : Prop where
  pt : PTs X ifs (tT X.K XF T)
theorem PTs.weak {X : Cx} {e : List Expr} {t t' : TT} (h : PTs X e t) (f : ∀ σ H Q, t' σ H Q → t σ H Q) : PTs X e t' := ⟨fun pins s σ H Q I q => h.run pins s σ H Q I (f σ H Q q)⟩
theorem tsx_nil {X : Cx} : TSX X [] tTrue := ⟨PTs.weak pts_nil fun σ H Q ⟨ρ, l, h, L, q, s⟩ => s.ok q⟩
theorem tsx_one {X : Cx} {c : Expr} {T : Tx} (h : TX XF X c T) : TSX X [c] T := ⟨pts_one h.pt⟩
def lcS (src : Sr) (tg : Tg) (l0 : Lo) (T : Tx) (E : Ex) (d : Nat) : Nat → Nat → M Va
  | 0, _, _ => .no
  | f + 1, k, h => match stp h k src with
    | none => .no
    | some none => .ok (.ref d) h
    | some (some v) => match bnd h tg v with
      | none => .no
      | some ups => (T (setL l0 ups) h).solid.bind fun b h1 => if b = true then (E (setL l0 ups) h1).solid.bind fun y h2 => match h2.get d with
          | some (.lst acc) => if acc.length < sLine then lcS src tg l0 T E d f (k + 1) (h2.set d (.lst (acc ++ [y]))) else .no
          | _ => .no
        else lcS src tg l0 T E d f (k + 1) h1
def lcE (I : Ix) (tg : Tg) (vs : List Nat) (T : Tx) (E : Ex) : Ex := fun l h => (I l h).bind fun src h1 => lcS src tg (wipeL l vs) T E h1.n bigN 0 (h1.push (.lst []))
section
variable {K : PySem.W.Frag} {W : XW} {tg : Tg} {T : Tx} {E : Ex} {vs : List Nat} {Q : VK}
theorem tE.lc {I : Ix} (hsl : (tg.slots.all fun i => vs.contains i) = true) : ∀ σ H Q, tE K W (lcE I tg vs T E) σ H Q → tLc (tI K W I) (tG K tg) (tT K XF T) (tE K XF E) vs σ H Q := fun σ H Q ⟨ρ, l, h, L, q, s⟩ => by
  refine ⟨ρ, l, h, L, q, s.bind.mono fun src h1 ρ1 H1 e1 q1 s1 J C Ti c D nD => ?_⟩
  have q2 : HR K (ρ1 ++ [D]) (h1.push (.lst [])) (upd H1 D (.lst [])) := q1.push nD ⟨[], upd_same, rfl⟩
  have s2 := s1.shift (Ext.newAt (o := .lst []) nD)
  have c2 := Ti.ext _ _ _ _ c (Ext.newAt (o := .lst []) nD)
  refine ⟨fun i m H => ∃ ρ h, ρ[h1.n]? = some D ∧ LR K ρ H (wipeL l vs) (wipe σ vs) ∧ HR K ρ h H ∧ C ρ H ∧ sat K W ρ H (lcS src tg (wipeL l vs) T E h1.n m i h) (rv K Q),
    ⟨bigN, ρ1 ++ [D], h1.push (.lst []), q1.atN, ((L.ext e1).ext (Ext.newAt nD)).wp vs, q2, c2, s2⟩, fun i m H ⟨ρ, h, hd, L, q, c, s⟩ => ?_⟩
  cases m with
  | zero => exact False.elim s
  | succ m =>
    unfold lcS at s
    cases e : stp h i src with
    | none => simp only [e] at s; exact False.elim s
    | some o =>
      cases o with
      | none =>
        simp only [e] at s
        exact .inl ⟨Ti.stop i h ρ H c q e, s.val q ⟨D, rfl, hd⟩⟩
      | some v =>
        simp only [e] at s
        obtain ⟨go, y⟩ := Ti.go i h ρ H v c q e
        refine .inr ⟨go, fun H' => ∃ ρ h, ρ[h1.n]? = some D ∧ LR K ρ H' (wipeL l vs) (wipe σ vs) ∧ HR K ρ h H' ∧ C ρ H' ∧ sat K W ρ H' (lcS src tg (wipeL l vs) T E h1.n m (i + 1) h) (rv K Q), fun H' z => ⟨m, Nat.lt_succ_self m, z⟩, fun x H' yx => ?_⟩
        obtain ⟨ex, q1, rx⟩ := y x H' yx
        have s1 := s.shift ex
        cases e2 : bnd h tg v with
        | none => simp only [e2] at s1; exact False.elim s1
        | some ups =>
          simp only [e2] at s1
          refine ⟨ρ, h, v, ups, q1, rx, e2, fun us U => ⟨?_, ?_⟩⟩
          · rw [wipe_setU fun p hp => ?_, wipe_wipe]
            have h3 : us.map (·.1) = tg.slots := (ups_slots U).trans (bnd_slots tg v ups e2)
            have h4 : p.1 ∈ tg.slots := h3 ▸ List.mem_map_of_mem hp
            have h5 := List.all_eq_true.mp hsl p.1 h4
            simpa using h5
          · refine tT.goF ((L.ext ex).setL U) q1 s1 fun b h2 ρ2 H2 e2 L2 q2 s2 => ?_
            have c2 := Ti.ext _ _ _ _ (Ti.ext _ _ _ _ c ex) e2
            have hd2 := e2.at (ex.at hd)
            cases b with
            | false =>
              rw [if_neg (by decide)] at s2
              exact iteF ⟨ρ2, h2, hd2, (L.ext ex).ext e2, q2, c2, s2⟩
            | true =>
              rw [if_pos rfl] at s2
              refine iteT (tE.goF L2 q2 s2 fun y h3 ρ3 H3 u e3 L3 q3 ru s3 => ?_)
              cases g : h3.get h1.n with
              | none => simp only [g] at s3; exact False.elim s3
              | some o =>
                cases o with
                | lst acc =>
                  simp only [g] at s3
                  by_cases hz : acc.length < sLine
                  · rw [if_pos hz] at s3
                    obtain ⟨p, ws, ep, hp, g1, g2⟩ := q3.lst (x := .ref D) ⟨D, rfl, e3.at hd2⟩ g
                    cases ep
                    have mu : Mut (H3 D) := by rw [g1]; trivial
                    have ew : Ext K ρ3 H3 ρ3 (upd H3 D (.lst (ws ++ [u]))) := Ext.write mu
                    refine ⟨ws, g1, by rw [← g2.length, ← sLine_eq]; exact hz, ρ3, h3.set h1.n (.lst (acc ++ [y])), hp, (((L.ext ex).ext e2).ext e3).ext ew, q3.write hp g mu ⟨ws ++ [u], upd_same, RVs.ext ew _ (g2.append (RVs.one ru))⟩, Ti.ext _ _ _ _ (Ti.ext _ _ _ _ c2 e3) ew, s3.shift ew⟩
                  · rw [if_neg hz] at s3; exact False.elim s3
                | _ => simp only [g] at s3; exact False.elim s3
end
section
variable {W : XW} {X : Cx} {pos : Pos} {elt tgx iter : Expr} {ifs : List Expr} {scope : Scope} {own : List (Str × Nat)} {I : Ix} {tg : Tg} {T : Tx} {E : Ex}
theorem ex_lc (vs : List Nat) (hv : own.map (·.2) = vs) (hc : X.calm = true) (hN : X.N.Nodup) (hi : IX W X tgx iter I) (ok : BlkOk X.N X.env.scope scope own) (hsl : (tg.slots.all fun i => vs.contains i) = true)
    (hg : ∀ (s : Shared) (H : Hp) (C : Addr) (cl : List (Str × Addr)) (fp : List Addr), GX (X.blk s H scope (compEnvC scope cl C X.env) fp) tgx tg) (ht : ∀ (s : Shared) (H : Hp) (C : Addr) (cl : List (Str × Addr)) (fp : List Addr), TSX (X.blk s H scope (compEnvC scope cl C X.env) fp) ifs T)
    (he : ∀ (s : Shared) (H : Hp) (C : Addr) (cl : List (Str × Addr)) (fp : List Addr), EX XF (X.blk s H scope (compEnvC scope cl C X.env) fp) elt E) (hs : ∀ x, foldedSetIterable iter X.env x = pure x := by intro _; rfl) :
    EX W X (.ListComp elt [⟨tgx, iter, ifs, 0⟩] scope pos) (lcE I tg vs T E) := by
  subst hv
  exact ⟨PE.weak (pe_lc hc hN hi.pi ok (fun s H C cl fp => (hg s H C cl fp).pg) (fun s H C cl fp => (ht s H C cl fp).pt) (fun s H C cl fp => (he s H C cl fp).pe) hs) (tE.lc hsl)⟩
theorem sx_setLc (i : Nat) {y : Str} {py spos : Pos} (vs : List Nat) (hv : own.map (·.2) = vs) (hc : X.calm = true) (hN : X.N.Nodup) (hy : X.N[i]? = some y) (hyl : X.env.scope.names.lookup y = some .local)
    (hsw : swapsWith (.ListComp elt [⟨tgx, iter, ifs, 0⟩] scope pos) (some (.Name y py)) spos.line X.env = pure true) (hi : IX W X tgx iter I) (ok : BlkOk X.N X.env.scope scope own) (hsl : (tg.slots.all fun i => vs.contains i) = true)
    (hg : ∀ (s : Shared) (H : Hp) (C : Addr) (cl : List (Str × Addr)) (fp : List Addr), GX (X.blk s H scope (compEnvC scope cl C X.env) fp) tgx tg) (ht : ∀ (s : Shared) (H : Hp) (C : Addr) (cl : List (Str × Addr)) (fp : List Addr), TSX (X.blk s H scope (compEnvC scope cl C X.env) fp) ifs T)
    (he : ∀ (s : Shared) (H : Hp) (C : Addr) (cl : List (Str × Addr)) (fp : List Addr), EX XF (X.blk s H scope (compEnvC scope cl C X.env) fp) elt E) (hs : ∀ x, foldedSetIterable iter X.env x = pure x := by intro _; rfl) :
    SX W X (.Assign [.Name y py] (.ListComp elt [⟨tgx, iter, ifs, 0⟩] scope pos) spos) (sSet i (lcE I tg vs T E)) := by
  subst hv
  refine ⟨PS.weak (ps_setLc hc hN hy hyl hsw hi.pi ok (fun s H C cl fp => (hg s H C cl fp).pg) (fun s H C cl fp => (ht s H C cl fp).pt) (fun s H C cl fp => (he s H C cl fp).pe) hs) fun D σ H ⟨ρ, l, h, L, q, s⟩ => tE.lc hsl σ H _ ?_⟩
  exact tE.go L q s fun a h1 ρ1 H1 x e1 L1 q1 rx s1 => s1.ok q1 _ (L1.set rx)
end

/-! ### stores to a list's place -/
def stL (A B : Ex) (V : Ex) : Sx := fun l h => (V l h).bind fun v h1 => (A l h1).bind fun a h2 => (B l h2).bind fun i h3 => match a with
  | .ref p => match i with
    | .int k => match h3.get p with
      | some (.lst xs) => match ixN xs.length k with
        | some j => .ok (.nx l) (h3.set p (.lst (xs.set j v)))
        | none => .no
      | _ => .no
    | _ => .no
  | _ => .no
section
variable {W : XW} {X : Cx} {pos spos : Pos} {o i e : Expr} {A B V : Ex}
theorem sx_stL (ha : EX W X o A) (hb : EX W X i B) (hv : EX W X e V) (hs : swapsWithSole [.Subscript o i spos] e pos.line X.env = pure false := by rfl) (hw : swappedStores [.Subscript o i spos] e X.env = pure none := by rfl)
    (h1 : (assignEach [.Subscript o i spos] X.env).map (·.2) = [assign (.Subscript o i spos) X.env] := by rfl)
    (hx : ∀ v, assign (.Subscript o i spos) X.env v = (do
      let ov ← holding [v] (eval o X.env)
      let iv ← holding [v, ov] (eval i X.env)
      standAt spos
      holding [v, ov, iv] (setItem ov iv v)
      release [v, ov, iv] []) := by intro _; rfl) : SX W X (.Assign [.Subscript o i spos] e pos) (stL A B V) :=
  ⟨PS.weak (ps_asg hv.pe (pg_sub ha.pe hb.pe set_list hx) hs hw h1) fun D σ H ⟨ρ, l, h, L, q, s⟩ => tE.go L q s fun v h1 ρ1 H1 u e1 L1 q1 ru s1 => tE.go L1 q1 s1 fun a h2 ρ2 H2 x e2 L2 q2 rx s2 => tE.go L2 q2 s2 fun i h3 ρ3 H3 y e3 L3 q3 ry s3 => by
    have rx := RV.ext e3 a rx
    have ru := RV.ext (e2.trans e3) v ru
    cases a with
    | ref p =>
      cases i with
      | int k =>
        cases ry
        cases g : h3.get p with
        | none => simp only [g] at s3; exact False.elim s3
        | some o =>
          cases o with
          | lst xs =>
            simp only [g] at s3
            cases e : ixN xs.length k with
            | none => simp only [e] at s3; exact False.elim s3
            | some j =>
              simp only [e] at s3
              obtain ⟨p', us, rfl, hp, g1, g2⟩ := q3.lst rx g
              have mu : Mut (H3 p') := by rw [g1]; trivial
              exact ⟨p', us, k, j, rfl, rfl, g1, by rw [← g2.length]; exact e, s3 _ _ (Ext.write mu) (q3.write hp g mu ⟨us.set j u, upd_same, RVs.ext (Ext.write mu) _ (RVs.set ru j g2)⟩) σ (L3.ext (Ext.write mu))⟩
          | _ => simp only [g] at s3; exact False.elim s3
      | _ => exact False.elim s3
    | _ => exact False.elim s3⟩
end

/-! ### name op= e -/
def sAug (i : Nat) (F : Va → Va → M Va) (A : Ex) : Sx := fun l h => match l[i]? with
  | some (some x) => (A l h).bind fun y h1 => (F x y h1).bind fun z h2 => .ok (.nx (l.set i (some z))) h2
  | _ => .no
section
variable {W : XW} {X : Cx} {pos pos' : Pos} {e : Expr} {A : Ex} {F : Va → Va → M Va} {r : TIp} {op : Operator} {x : Str}
theorem sx_aug (i : Nat) (hp : ∀ te, PE X e te → PS X (.AugAssign (.Name x pos') op e pos) (tAug i te r)) (hs : S2 X.K W F r) (ha : EX W X e A) : SX W X (.AugAssign (.Name x pos') op e pos) (sAug i F A) :=
  ⟨PS.weak (hp _ ha.pe) fun D σ H ⟨ρ, l, h, L, q, s⟩ => by
    unfold sAug at s
    split at s
    · rename_i v e
      obtain ⟨u, h1, h2⟩ := L.2 i v e
      exact ⟨u, h1, tE.go L q s fun y h1 ρ1 H1 w e1 L1 q1 rw' s1 => hs ρ1 h1 H1 v y u w _ q1 (RV.ext e1 v h2) rw' (s1.bind.mono fun z h2 ρ2 H2 e2 q2 s2 t rt => s2.ok q2 _ ((L1.ext e2).set rt))⟩
    · exact False.elim s⟩
end
def rIAdd : R2 := fun x y H Q => rI0 (fun i j => .int (i + j)) x y H Q ∨ (∃ i j, x = .str i ∧ y = .str j ∧ i.length + j.length ≤ sizeLine ∧ Q (.str (i ++ j)) H)
theorem ip_addA {X : Cx} : PIp X .Add rIAdd := iop_add.or iop_add_str
def vIAdd (a b : Va) : M Va := fun h => match a with
  | .int i => match b with
    | .int j => .ok (.int (i + j)) h
    | _ => .no
  | .str s => match b with
    | .str t => if s.length + t.length ≤ sLine then .ok (.str (s ++ t)) h else .no
    | _ => .no
  | _ => .no
theorem s_iadd {K : PySem.W.Frag} {W : XW} : S2 K W vIAdd rIAdd := fun ρ h H a b x y Q q rx ry s => by
  cases a with
  | int i =>
    cases rx
    cases b with
    | int j => cases ry; exact .inl ⟨i, j, rfl, rfl, s.val q rfl⟩
    | _ => exact False.elim s
  | str z =>
    cases rx
    cases b with
    | str t =>
      cases ry
      have s' : sat K W ρ H (if z.length + t.length ≤ sLine then .ok (.str (z ++ t)) h else .no) (rv K Q) := s
      by_cases hz : z.length + t.length ≤ sLine
      · rw [if_pos hz] at s'
        refine .inr ⟨_, _, rfl, rfl, ?_, s'.val q ?_⟩
        · rw [← sLine_eq, len_S, len_S]; exact hz
        · show V.str _ = V.str _
          rw [str_app]
      · rw [if_neg hz] at s'; exact False.elim s'
    | _ => exact False.elim s
  | _ => exact False.elim s
def vISub : Va → Va → M Va := iop fun i j => .int (i - j)

/-! ### xs[i] op= e -/
/-- o[i], by values: a list, a place from 0 on -/
def rGetL (K : PySem.W.Frag) : V → V → Hp → VK → Prop := fun o i H Q => ∃ p xs k v, o = .ref p ∧ i = .int k ∧ SqL K H p xs ∧ 0 ≤ k ∧ k < 1000000000 ∧ xs[k.toNat]? = some v ∧ Q v H
theorem get_listP {X : Cx} : PGet X (rGetL X.K) := by
  intro pins s σ H o i ov iv Q I ro ri h
  obtain ⟨p, xs, k, v, rfl, rfl, hx, h0, h1, e, q⟩ := h
  cases ro
  obtain ⟨t, rfl⟩ := ri
  obtain ⟨its, rv, pl, hz⟩ := I.list hx
  obtain ⟨u, hu, ru⟩ := rv.get e
  exact wpAny_getItem_list pl.isList h0 (by omega) (by simpa using hu) ⟨v, H, I, ru, q⟩
/-- xs[i] op= e -/
def augL (A B : Ex) (F : Va → Va → M Va) (V : Ex) : Sx := fun l h => (A l h).bind fun a h1 => (B l h1).bind fun i h2 => match a with
  | .ref p => match i with
    | .int k => match h2.get p with
      | some (.lst xs) => if (decide (0 ≤ k) && decide (k < 1000000000)) = true then (match xs[k.toNat]? with
        | some old => (V l h2).bind fun v h3 => (F old v h3).bind fun new h4 => match h4.get p with
          | some (.lst ys) => match ixN ys.length k with
            | some j => .ok (.nx l) (h4.set p (.lst (ys.set j new)))
            | none => .no
          | _ => .no
        | none => .no) else .no
      | _ => .no
    | _ => .no
  | _ => .no
section
variable {W : XW} {X : Cx} {pos tpos : Pos} {o i e : Expr} {A B V : Ex} {F : Va → Va → M Va} {r : TIp} {op : Operator}
theorem sx_augL (hp : PIp X op r) (hs : S2 X.K W F r) (ha : EX W X o A) (hb : EX W X i B) (hv : EX W X e V)
    (hx : ∀ ov iv new, augStore i ov iv new = (do holding [new, ov, iv] (setItem ov iv new); release [new, ov, iv] []; pure .next) := by intros; rfl) : SX W X (.AugAssign (.Subscript o i tpos) op e pos) (augL A B F V) :=
  ⟨PS.weak (ps_augS ha.pe hb.pe get_listP hv.pe hp set_list hx) fun D σ H ⟨ρ, l, h, L, q, s⟩ => tE.go L q s fun a h1 ρ1 H1 x e1 L1 q1 rx s1 => tE.go L1 q1 s1 fun i h2 ρ2 H2 y e2 L2 q2 ry s2 => by
    have rx := RV.ext e2 a rx
    cases a with
    | ref p =>
      cases i with
      | int k =>
        cases ry
        cases g : h2.get p with
        | none => simp only [g] at s2; exact False.elim s2
        | some ob =>
          cases ob with
          | lst xs =>
            simp only [g] at s2
            by_cases hz : (decide (0 ≤ k) && decide (k < 1000000000)) = true
            · rw [if_pos hz] at s2
              simp only [Bool.and_eq_true, decide_eq_true_eq] at hz
              cases e : xs[k.toNat]? with
              | none => simp only [e] at s2; exact False.elim s2
              | some old =>
                simp only [e] at s2
                obtain ⟨p', us, rfl, hp, g1, g2⟩ := q2.lst rx g
                obtain ⟨u, hu, ru⟩ := g2.get e
                refine ⟨p', us, k, u, rfl, rfl, SqL.of g1, hz.1, hz.2, hu, tE.go L2 q2 s2 fun v h3 ρ3 H3 w e3 L3 q3 rw' s3 => hs ρ3 h3 H3 old v u w _ q3 (RV.ext e3 old ru) rw' (s3.bind.mono fun new h4 ρ4 H4 e4 q4 s4 t rt => ?_)⟩
                have rx4 := RV.ext (e3.trans e4) _ rx
                cases g' : h4.get p with
                | none => simp only [g'] at s4; exact False.elim s4
                | some ob =>
                  cases ob with
                  | lst ys =>
                    simp only [g'] at s4
                    cases ej : ixN ys.length k with
                    | none => simp only [ej] at s4; exact False.elim s4
                    | some j =>
                      simp only [ej] at s4
                      obtain ⟨p2, us2, ep, hp2, g3, g4⟩ := q4.lst rx4 g'
                      cases ep
                      have mu : Mut (H4 p') := by rw [g3]; trivial
                      exact ⟨p', us2, k, j, rfl, rfl, g3, by rw [← g4.length]; exact ej, s4 _ _ (Ext.write mu) (q4.write hp2 g' mu ⟨us2.set j t, upd_same, RVs.ext (Ext.write mu) _ (RVs.set rt j g4)⟩) σ ((L3.ext e4).ext (Ext.write mu))⟩
                  | _ => simp only [g'] at s4; exact False.elim s4
            · rw [if_neg hz] at s2; exact False.elim s2
          | _ => simp only [g] at s2; exact False.elim s2
      | _ => exact False.elim s2
    | _ => exact False.elim s2⟩
end

/-! ### defs and their calls -/
/-- a def by its body: n slots -/
def fnM (n : Nat) (B : Sx) : Fn := fun args h => (B (args.map some ++ List.replicate (n - args.length) none) h).bind fun o h1 => match o with
  | .rt v => .ok v h1
  | .nx _ => .ok .non h1
  | _ => .no
/-- what a def promises: what our function comes to -/
def spM (K : PySem.W.Frag) (n : Nat) (m : Fn) : Sp := fun vs H Q _ => ∃ ρ h args, HR K ρ h H ∧ RVs K ρ H args vs ∧ args.length = n ∧ sat K XF ρ H (m args h) (rv K Q)
def pick {α : Type} (perm : List Nat) (ws : List α) : List α := perm.filterMap (ws[·]?)
structure Callee (P : Program) (w : World) (K : PySem.W.Frag) (mg : Str → Option Value) (base : Heap) (x : Str) (st : Stmt) (ps : List Str) (k : Nat) (m : Fn) : Prop where
  ex : ∃ (f : Addr) (fd : FuncData), mg x = some (.ref f) ∧ FnOk P w K mg base CX0 k f fd ps (spM K ps.length m) ∧ Fun K x x st f fd
  bind : ∀ (kV doc pm : Value) (an : Option Addr) (cdv ct : Value) (us : List Value), us.length = ps.length → bindArgs (PySem.W.fnOf x x (defArgs st) (defBody st) (defScope st) .none kV doc pm an cdv ct) ⟨us, []⟩ = pure (ps.zip us)
theorem start_rel {K : PySem.W.Frag} {ρ : List Addr} {H : Hp} {args : List Va} {vs : List V} {N : List Str} {n : Nat} (hn : N.length = n) (hl : args.length ≤ n) (r : RVs K ρ H args vs) : LR K ρ H (args.map some ++ List.replicate (n - args.length) none) (L2.start N vs) := by
  subst hn
  have el := r.length
  refine ⟨?_, fun i a e => ?_⟩
  · unfold L2.start
    rw [List.length_append, List.length_append, List.length_map, List.length_map, List.length_replicate, List.length_replicate, el]
  · unfold L2.start
    by_cases hi : i < args.length
    · rw [List.getElem?_append_left (by simpa using hi), List.getElem?_map] at e
      rw [List.getElem?_append_left (by simpa [← el] using hi), List.getElem?_map]
      cases q : args[i]? with
      | none => rw [q] at e; cases e
      | some b =>
        rw [q] at e
        cases e
        obtain ⟨u, hu, ru⟩ := r.get q
        exact ⟨u, by rw [hu]; rfl, ru⟩
    · rw [List.getElem?_append_right (by simpa using hi), List.getElem?_replicate] at e
      split at e <;> cases e
theorem Callee.mk' {P : Program} {w : World} {K : PySem.W.Frag} {mg : Str → Option Value} {base : Heap} {x : Str} {st : Stmt} {f : Addr} {fd : FuncData} {N ps : List Str} {k n : Nat} {B : Sx} (F : Fun K x x st f fd) (hm : mg x = some (.ref f)) (S : FnScope N ps (defScope st)) (hn : N.length = n) (hps : ps.length ≤ n)
    (hb : ∀ (kV doc pm : Value) (an : Option Addr) (cdv ct : Value) (us : List Value), us.length = ps.length → bindArgs (PySem.W.fnOf x x (defArgs st) (defBody st) (defScope st) .none kV doc pm an cdv ct) ⟨us, []⟩ = pure (ps.zip us))
    (body : ∀ (cdv : Value) (A : Around) (outer : List Env) (s : Shared) (H : Hp) (E : XK), Room k (A.deeper (envOfC x (defScope st) s.heap.objs.size f cdv)) → SXs XF (cxOf CX0 P w K mg base N x (defScope st) f cdv A outer s H E).nox (defBody st) B) :
    Callee P w K mg base x st ps (k + 1) (fnM n B) := by
  refine ⟨⟨f, fd, hm, F.ok S (fun vs H Q E ⟨ρ, h, args, q, r, hl, s⟩ => r.length.symm.trans hl) (fun cdv A outer s H vs Q E hr ⟨ρ, h, args, q, r, hl, sa⟩ => ⟨_, (body cdv A outer s H E hr).ps, ρ, _, h, start_rel hn (by omega) r, q, ?_⟩), F⟩, hb⟩
  have sa : sat K XF ρ H ((B (args.map some ++ List.replicate (n - args.length) none) h).bind fun o h1 => match o with
    | .rt v => .ok v h1
    | .nx _ => .ok .non h1
    | _ => .no) (rv K Q) := sa
  refine sa.bind.mono fun o h1 ρ1 H1 e1 q1 s1 => ?_
  cases o with
  | rt v => exact fun u ru => s1.ok q1 u ru
  | nx l => exact fun σ' _ => s1.ok q1 _ rfl
  | bk l => exact False.elim s1
  | ct l => exact False.elim s1
def callF (n : Nat) (m : Fn) (B : Ax) : Ex := fun l h => (B l h).bind fun xs h1 => if xs.length = n then (m xs h1).solid else .no
/-- with keywords: their values by the parameters' order -/
def callK (n j : Nat) (perm : List Nat) (m : Fn) (B C : Ax) : Ex := fun l h => (B l h).bind fun xs h1 => (C l h1).bind fun ys h2 => if xs.length = j then (if ys.length = perm.length then (if (xs ++ pick perm ys).length = n then (m (xs ++ pick perm ys) h2).solid else .no) else .no) else .no
section
variable {X : Cx} {x : Str} {p pos : Pos} {st : Stmt} {ps ks : List Str} {k : Nat} {m : Fn} {e : Expr} {es : List Expr} {kws : List Keyword} {B : Ax}
theorem ex_call {W : XW} (c : Callee X.prog X.w X.K X.mg X.base x st ps k m) (hr : Room k X.A) (hg : Gl X x) (ha : AX W X (e :: es) B) {n : Nat} (hn : ps.length = n := by rfl) (hdb : (x == ("__debug__" : Str)) = false := by decide)
    (he : starEach (e :: es) X.env = (false, eval e X.env) :: starEach es X.env := by rfl) (hpl : (backTo pos (starEach es X.env)).any (·.1) = false := by rfl) : EX W X (.Call (.Name x p) (e :: es) [] pos) (callF n m B) := by
  subst hn
  obtain ⟨f, fd, hm, F, Fu⟩ := c.ex
  refine ⟨PE.weak (pe_call F hr hg hm Fu.kp (Fu.binds c.bind) .nil pass0 ha.pa hdb he hpl) fun σ H Q ⟨ρ, l, h, L, q, s⟩ => tA.go L q s fun xs h1 ρ1 H1 us e1 L1 q1 rs s1 => ?_⟩
  by_cases hz : xs.length = ps.length
  · rw [if_pos hz] at s1
    refine ⟨ρ1, h1, xs, q1, by rw [List.append_nil]; exact rs, hz, ?_⟩
    cases e : m xs h1 with
    | ok a h' => rw [e] at s1; exact s1
    | err c v h' => rw [e] at s1; exact False.elim s1
    | no => rw [e] at s1; exact False.elim s1
  · rw [if_neg hz] at s1; exact False.elim s1
theorem RVs.pick {K : PySem.W.Frag} {ρ : List Addr} {H : Hp} {ys : List Va} {us : List V} (r : RVs K ρ H ys us) : ∀ perm : List Nat, RVs K ρ H (Rf.pick perm ys) (Rf.pick perm us)
  | [] => rfl
  | j :: perm => by
    have ih := RVs.pick r perm
    unfold Rf.pick at ih ⊢
    rw [List.filterMap_cons, List.filterMap_cons]
    cases e : ys[j]? with
    | none =>
      have := r.none_of e
      simp only [this]
      exact ih
    | some y =>
      obtain ⟨u, hu, ru⟩ := r.get e
      simp only [hu]
      exact ⟨u, _, rfl, ru, ih⟩
theorem Vals.pick {vs : List V} {us : List Value} (r : Vals vs us) : ∀ perm : List Nat, Vals (Rf.pick perm vs) (Rf.pick perm us)
  | [] => .nil
  | j :: perm => by
    have ih := Vals.pick r perm
    unfold Rf.pick at ih ⊢
    rw [List.filterMap_cons, List.filterMap_cons]
    cases e : vs[j]? with
    | none =>
      have := Vals.none_of r e
      simp only [this]
      exact ih
    | some y =>
      obtain ⟨u, hu, ru⟩ := L2.Vals.get r e
      simp only [hu]
      exact .cons ru ih
theorem kbn_of {K : PySem.W.Frag} {f : Addr} {fd : FuncData} {j : Nat} {perm : List Nat} (F : Fun K x x st f fd) (hp : ks.length = perm.length)
    (h : ∀ (kV doc pm : Value) (an : Option Addr) (cdv ct : Value) (us ws : List Value), us.length = j → ws.length = perm.length → bindArgs (PySem.W.fnOf x x (defArgs st) (defBody st) (defScope st) .none kV doc pm an cdv ct) ⟨us, ks.zip ws⟩ = pure (ps.zip (us ++ pick perm ws))) :
    KBn K fd ps j ks (fun us ws => us ++ pick perm ws) (fun vs zs => vs ++ pick perm zs) := by
  obtain ⟨oc, od, kV, doc, pm, an, cdv, ct, osl, rfl, lk, hcd⟩ := F.ex
  exact ⟨fun s us ws _ h1 h2 => .of_eq (h kV doc pm an cdv ct us ws h1 (h2.trans hp)), fun r1 r2 => r1.append (Vals.pick r2 perm)⟩
structure KX (W : XW) (X : Cx) (kws : List Keyword) (A : Ax) : Prop where
  pk : PK X kws (tA X.K W A)
theorem PK.weak {X : Cx} {e : List Keyword} {t t' : TA} (h : PK X e t) (f : ∀ σ H Q, t' σ H Q → t σ H Q) : PK X e t' := ⟨fun p pins s σ H Q I q => h.run p pins s σ H Q I (f σ H Q q)⟩
theorem kx_nil {W : XW} : KX W X [] aNil := ⟨PK.weak pk_nil fun σ H Q ⟨ρ, l, h, L, q, s⟩ => s.ok q [] rfl⟩
theorem kx_cons {W : XW} {nm : Option Str} {kpos : Pos} {A : Ex} (ha : EX W X e A) (hb : KX W X kws B) : KX W X (⟨nm, e, kpos⟩ :: kws) (aCons A B) :=
  ⟨PK.weak (pk_cons ha.pe hb.pk) fun σ H Q ⟨ρ, l, h, L, q, s⟩ => tE.go L q s fun a h1 ρ1 H1 x e1 L1 q1 rx s1 => tA.go L1 q1 s1 fun xs h2 ρ2 H2 us e2 L2 q2 rs s2 => s2.ok q2 (x :: us) ⟨x, us, rfl, RV.ext e2 a rx, rs⟩⟩
theorem pe_callN0 {CX : CXT} {f : Addr} {fd : FuncData} {sp : Sp} {E : XK} {tk : TA} {g : List Value → List Value → List Value} {gV : List V → List V → List V} (F : FnOk X.prog X.w X.K X.mg X.base CX k f fd ps sp) (hr : Room k X.A) (hg : Gl X x) (hm : X.mg x = some (.ref f)) (hk : PySem.W.keepIn X.K (.ref f) = true) (hb : KBn X.K fd ps 0 ks g gV) (hx : Passes CX X E)
    (hkw : PK X kws tk) (hall : (backToKw pos (keywordEach kws X.env)).all (·.1.isSome) = true := by rfl) (hks : (backToKw pos (keywordEach kws X.env)).filterMap (·.1) = ks := by rfl)
    (hdb : (x == ("__debug__" : Str)) = false := by decide)
    (hpl : ((backTo pos (starEach [] X.env)).any (·.1) || (backToKw pos (keywordEach kws X.env)).any (·.1.isNone)) = false := by rfl) :
    PE X (.Call (.Name x p) [] kws pos) (tCallN 0 ks.length sp gV E tNil tk) := by
  refine ⟨fun pins s σ H Q I h => ?_⟩
  refine wpAny_Call_Name_kw (ld_glob I hg hm ?_ hdb)
  refine PySem.W.callWith_KW0 (h₀ := X.base) I.ok.mod.kin hk hall ?_ hpl
  refine thn (hkw.run pos pins s σ H _ I h) fun ws s2 ⟨zs, H2, I2, rz, l1, l2, q2⟩ => ⟨I2.kIn, ?_⟩
  rw [hks]
  exact run_fnN (us := []) (vs := []) F hr hb hx I2 .nil rz rfl l2 q2
theorem callK_go {W : XW} {σ : L2.St} {H : Hp} {Q : VK} {K : PySem.W.Frag} {n j : Nat} {perm : List Nat} {C : Ax} {ρ : List Addr} {h2 : Hea} {xs ys : List Va} {vs zs : List V} (q : HR K ρ h2 H) (rx : RVs K ρ H xs vs) (ry : RVs K ρ H ys zs)
    (s : sat K W ρ H (if xs.length = j then (if ys.length = perm.length then (if (xs ++ pick perm ys).length = n then (m (xs ++ pick perm ys) h2).solid else .no) else .no) else .no) (rv K Q)) : vs.length = j ∧ zs.length = perm.length ∧ spM K n m (vs ++ pick perm zs) H Q E0 := by
  by_cases h1 : xs.length = j
  · rw [if_pos h1] at s
    by_cases h3 : ys.length = perm.length
    · rw [if_pos h3] at s
      by_cases h4 : (xs ++ pick perm ys).length = n
      · rw [if_pos h4] at s
        refine ⟨rx.length.symm.trans h1, ry.length.symm.trans h3, ρ, h2, xs ++ pick perm ys, q, rx.append (ry.pick perm), h4, ?_⟩
        cases e : m (xs ++ pick perm ys) h2 with
        | ok a h' => rw [e] at s; exact s
        | err c v h' => rw [e] at s; exact False.elim s
        | no => rw [e] at s; exact False.elim s
      · rw [if_neg h4] at s; exact False.elim s
    · rw [if_neg h3] at s; exact False.elim s
  · rw [if_neg h1] at s; exact False.elim s
theorem ex_callK0 {W : XW} {C : Ax} (perm : List Nat) (c : Callee X.prog X.w X.K X.mg X.base x st ps k m) (hr : Room k X.A) (hg : Gl X x) (hkw : KX W X kws C) (hp : ks.length = perm.length)
    (h : ∀ (kV doc pm : Value) (an : Option Addr) (cdv ct : Value) (us ws : List Value), us.length = 0 → ws.length = perm.length → bindArgs (PySem.W.fnOf x x (defArgs st) (defBody st) (defScope st) .none kV doc pm an cdv ct) ⟨us, ks.zip ws⟩ = pure (ps.zip (us ++ pick perm ws)))
    (hall : (backToKw pos (keywordEach kws X.env)).all (·.1.isSome) = true := by rfl) (hks : (backToKw pos (keywordEach kws X.env)).filterMap (·.1) = ks := by rfl) (hdb : (x == ("__debug__" : Str)) = false := by decide)
    (hpl : ((backTo pos (starEach [] X.env)).any (·.1) || (backToKw pos (keywordEach kws X.env)).any (·.1.isNone)) = false := by rfl) {n : Nat} (hn : ps.length = n := by rfl) : EX W X (.Call (.Name x p) [] kws pos) (callK n 0 perm m aNil C) := by
  subst hn
  obtain ⟨f, fd, hm, F, Fu⟩ := c.ex
  refine ⟨PE.weak (pe_callN0 F hr hg hm Fu.kp (kbn_of Fu hp h) pass0 hkw.pk hall hks hdb hpl) fun σ H Q ⟨ρ, l, h, L, q, s⟩ => tA.go L q s fun ys h2 ρ2 H2 us e2 L2 q2 ry s2 => ?_⟩
  have := callK_go (σ := σ) (C := C) q2 (xs := []) (vs := []) rfl ry s2
  exact ⟨rfl, this.2.1.trans hp.symm, this.2.2⟩
theorem ex_callK {W : XW} {C : Ax} (j : Nat) (perm : List Nat) (c : Callee X.prog X.w X.K X.mg X.base x st ps k m) (hr : Room k X.A) (hg : Gl X x) (ha : AX W X (e :: es) B) (hkw : KX W X kws C) (hp : ks.length = perm.length)
    (h : ∀ (kV doc pm : Value) (an : Option Addr) (cdv ct : Value) (us ws : List Value), us.length = j → ws.length = perm.length → bindArgs (PySem.W.fnOf x x (defArgs st) (defBody st) (defScope st) .none kV doc pm an cdv ct) ⟨us, ks.zip ws⟩ = pure (ps.zip (us ++ pick perm ws)))
    (hall : (backToKw pos (keywordEach kws X.env)).all (·.1.isSome) = true := by rfl) (hks : (backToKw pos (keywordEach kws X.env)).filterMap (·.1) = ks := by rfl)
    (hdb : (x == ("__debug__" : Str)) = false := by decide) (he : starEach (e :: es) X.env = (false, eval e X.env) :: starEach es X.env := by rfl)
    (hpl : ((backTo pos (starEach (e :: es) X.env)).any (·.1) || (backToKw pos (keywordEach kws X.env)).any (·.1.isNone)) = false := by rfl) {n : Nat} (hn : ps.length = n := by rfl) : EX W X (.Call (.Name x p) (e :: es) kws pos) (callK n j perm m B C) := by
  subst hn
  obtain ⟨f, fd, hm, F, Fu⟩ := c.ex
  refine ⟨PE.weak (pe_callN F hr hg hm Fu.kp (kbn_of Fu hp h) pass0 ha.pa hkw.pk hall hks hdb he hpl) fun σ H Q ⟨ρ, l, h, L, q, s⟩ => tA.go L q s fun xs h1 ρ1 H1 vs e1 L1 q1 rx s1 => tA.go L1 q1 s1 fun ys h2 ρ2 H2 us e2 L2 q2 ry s2 => ?_⟩
  have := callK_go (σ := σ) (C := C) q2 (RVs.ext e2 _ rx) ry s2
  exact ⟨this.1, this.2.1.trans hp.symm, this.2.2⟩
end

/-! ### the law's own promise -/
def spLaw (K : PySem.W.Frag) (m : Fn) : Sp := spM K 1 m
theorem spLaw_ok {m : Fn} (hm : ∀ ns : List Int, ns.length ≤ 63 → ∃ h', m [.fl (ns.map Va.int)] ⟨0, []⟩ = .ok (.bl true) h') {K : PySem.W.Frag} {H : Hp} {a : Addr} {ns : List Int} (hl : ns.length ≤ 63) (hO : Only H) (hS : SqL K H a (ns.map V.int)) :
    spLaw K m [.ref a] H (fun v _ => v = .bl true) fun _ _ _ => False := by
  obtain ⟨h', e⟩ := hm ns hl
  have fz : FzL K H a (ns.map V.int) := by
    rcases hS with (h | ⟨o, h⟩) | h
    · rcases hO a with z | ⟨o, xs, z⟩
      · rw [h] at z; cases z
      · rw [h] at z; cases z
    · exact .inl ⟨o, h⟩
    · exact .inr h
  have rs : RVs K [] H (ns.map Va.int) (ns.map V.int) := by
    have : ∀ ns : List Int, RVs K [] H (ns.map Va.int) (ns.map V.int) := by
      intro ns
      induction ns with
      | nil => rfl
      | cons n r ih => exact ⟨_, _, rfl, rfl, ih⟩
    exact this ns
  refine ⟨[], ⟨0, []⟩, [.fl (ns.map Va.int)], ⟨rfl, List.nodup_nil, fun i a e => by simp at e, fun i o e => ?_⟩, ⟨_, [], rfl, ⟨a, _, rfl, fz, rs⟩, rfl⟩, rfl, ?_⟩
  · have := Hea.get_lt e
    exact absurd this (Nat.not_lt_zero _)
  · rw [e]
    exact fun ρ' H' _ _ u ru => ru
end Rf
namespace Rf
open PySem PySem.Spec PyProof.Rows L2
theorem hu65 {k : Nat} {A : Around} (r : Room k A) : A.units + 65 < cLine := by have := r.un; omega
theorem Callee.zero {P : Program} {w : World} {K : PySem.W.Frag} {mg : Str → Option Value} {base : Heap} {x : Str} {st : Stmt} {f : Addr} {fd : FuncData} {ps : List Str} {k : Nat} (F : Fun K x x st f fd) (hm : mg x = some (.ref f))
    (hb : ∀ (kV doc pm : Value) (an : Option Addr) (cdv ct : Value) (us : List Value), us.length = ps.length → bindArgs (PySem.W.fnOf x x (defArgs st) (defBody st) (defScope st) .none kV doc pm an cdv ct) ⟨us, []⟩ = pure (ps.zip us)) :
    Callee P w K mg base x st ps k (fun _ _ => .no) :=
  ⟨⟨f, fd, hm, ⟨fun vs H Q E ⟨ρ, h, args, q, r, hl, s⟩ => False.elim s, fun A outer s H args us vs Q E hr he hb r ⟨ρ, h, args', q, r', hl, s⟩ => False.elim s⟩, F⟩, hb⟩
end Rf
namespace Rf
open PySem PySem.Spec PyProof.Rows L2
section
variable {P : Program} {w : World} {K : PySem.W.Frag} {mg : Str → Option Value} {base : Heap} {x : Str} {st : Stmt} {f : Addr} {fd : FuncData} {ps : List Str} {k : Nat} {m : Fn}
theorem Fun.same {f' : Addr} {fd' : FuncData} (F : Fun K x x st f fd) (F' : Fun K x x st f' fd') (e : f' = f) : fd' = fd := by
  subst e
  obtain ⟨oc, od, kV, doc, pm, an, cdv, ct, osl, e1, lk, hcd⟩ := F.ex
  obtain ⟨oc', od', kV', doc', pm', an', cdv', ct', osl', e1', lk', hcd'⟩ := F'.ex
  rw [lk] at lk'
  injection lk' with q
  injection q with _ _ q2 _
  injection q2 with q3
  exact q3.symm
theorem Callee.fnOk (c : Callee P w K mg base x st ps k m) (F : Fun K x x st f fd) (hm : mg x = some (.ref f)) : FnOk P w K mg base CX0 k f fd ps (spM K ps.length m) := by
  obtain ⟨f', fd', hm', F', Fu'⟩ := c.ex
  have e : f' = f := by rw [hm] at hm'; injection hm' with q; injection q with q; exact q.symm
  have e2 := Fun.same F Fu' e
  subst e e2
  exact F'
theorem Fun.bindsTo (F : Fun K x x st f fd) (hb : ∀ (kV doc pm : Value) (an : Option Addr) (cdv ct : Value) (us : List Value), us.length = ps.length → bindArgs (PySem.W.fnOf x x (defArgs st) (defBody st) (defScope st) .none kV doc pm an cdv ct) ⟨us, []⟩ = pure (ps.zip us)) (s : Shared) (us : List Value) (h : us.length = ps.length) : BindsTo s fd ⟨us, []⟩ (ps.zip us) := by
  obtain ⟨oc, od, kV, doc, pm, an, cdv, ct, osl, rfl, lk, hcd⟩ := F.ex
  exact .of_eq (hb kV doc pm an cdv ct us h)
end
end Rf

/-! Rf: a loop whose turns leave no objects; what is asked of a computation. -/
namespace Rf
open PySem PySem.Spec PyProof.Rows L2

/-! ### a for whose turns' own objects are forgotten -/
mutual
def okV (n : Nat) : Va → Bool
  | .ref i => decide (i < n)
  | .tup xs => okVs n xs
  | .fl xs => okVs n xs
  | _ => true
def okVs (n : Nat) : List Va → Bool
  | [] => true
  | x :: xs => okV n x && okVs n xs
end
def okK {κ : Type} (n : Nat) : List (κ × Va) → Bool
  | [] => true
  | p :: r => okV n p.2 && okK n r
def okO (n : Nat) : Ob → Bool
  | .lst xs => okVs n xs
  | .dic kvs => okK n kvs
  | .dlk kvs => okK n kvs
  | .dit kvs => okK n kvs
  | .dtk kvs => okK n kvs
def truncH (n : Nat) (h : Hea) : Option Hea := if n ≤ h.n then (if ((h.l.drop (h.n - n)).all (okO n)) = true then some ⟨n, h.l.drop (h.n - n)⟩ else none) else none
def cutLo (n : Nat) (l : Lo) : Lo := l.map fun x => match x with
  | some v => if okV n v = true then some v else none
  | none => none
section
variable {K : PySem.W.Frag} {ρ more : List Addr} {H : Hp} {n : Nat}
mutual
theorem RV.cut (hn : ρ.length = n) : ∀ (a : Va) {u : V}, okV n a = true → RV K (ρ ++ more) H a u → RV K ρ H a u
  | .non, _, _, h => h
  | .bl _, _, _, h => h
  | .int _, _, _, h => h
  | .str _, _, _, h => h
  | .tup xs, _, o, ⟨a, us, e1, q, r⟩ => ⟨a, us, e1, q, RVs.cut hn xs (by unfold okV at o; exact o) r⟩
  | .ref i, _, o, ⟨a, e1, q⟩ => ⟨a, e1, by
    unfold okV at o
    have hi : i < n := of_decide_eq_true o
    rw [List.getElem?_append_left (by omega)] at q
    exact q⟩
  | .fl xs, _, o, ⟨a, us, e1, q, r⟩ => ⟨a, us, e1, q, RVs.cut hn xs (by unfold okV at o; exact o) r⟩
theorem RVs.cut (hn : ρ.length = n) : ∀ (xs : List Va) {us : List V}, okVs n xs = true → RVs K (ρ ++ more) H xs us → RVs K ρ H xs us
  | [], _, _, h => h
  | x :: xs, _, o, ⟨u, r, e1, q, s⟩ => by
    unfold okVs at o
    rw [Bool.and_eq_true] at o
    exact ⟨u, r, e1, RV.cut hn x o.1 q, RVs.cut hn xs o.2 s⟩
end
theorem okK_cut {κ κ' : Type} {F : κ → κ' → Prop} (hn : ρ.length = n) : ∀ {kvs : List (κ × Va)} {ws : List (κ' × V)}, okK n kvs = true → Paired (fun (p : κ × Va) (q : κ' × V) => F p.1 q.1 ∧ RV K (ρ ++ more) H p.2 q.2) kvs ws → Paired (fun (p : κ × Va) (q : κ' × V) => F p.1 q.1 ∧ RV K ρ H p.2 q.2) kvs ws
  | _, _, _, .nil => .nil
  | _, _, o, .cons r t => by
    unfold okK at o
    rw [Bool.and_eq_true] at o
    exact .cons ⟨r.1, RV.cut hn _ o.1 r.2⟩ (okK_cut hn o.2 t)
theorem RO.cut {a : Addr} {o : Ob} (hn : ρ.length = n) (k : okO n o = true) (h : RO K (ρ ++ more) H a o) : RO K ρ H a o := by
  cases o with
  | lst xs => obtain ⟨us, q, r⟩ := h; exact ⟨us, q, RVs.cut hn xs k r⟩
  | dic kvs => obtain ⟨us, q, r⟩ := h; exact ⟨us, q, okK_cut (F := fun (p : Ke) (q : Key) => q = p.key) hn k r⟩
  | dlk kvs => obtain ⟨o, us, q, r⟩ := h; exact ⟨o, us, q, okK_cut (F := fun (p : Ke) (q : Key) => q = p.key) hn k r⟩
  | dit kvs => obtain ⟨us, q, r⟩ := h; exact ⟨us, q, okK_cut (F := fun (p : List Ke) (q : List Key) => q = p.map Ke.key) hn k r⟩
  | dtk kvs => obtain ⟨o, us, q, r⟩ := h; exact ⟨o, us, q, okK_cut (F := fun (p : List Ke) (q : List Key) => q = p.map Ke.key) hn k r⟩
theorem HR.trunc {h h' : Hea} (r : HR K (ρ ++ more) h H) (hn : ρ.length = n) (e : truncH n h = some h') : HR K ρ h' H := by
  unfold truncH at e
  by_cases h1 : n ≤ h.n
  · rw [if_pos h1] at e
    by_cases h2 : ((h.l.drop (h.n - n)).all (okO n)) = true
    · rw [if_pos h2] at e
      cases e
      refine ⟨hn, (List.nodup_append.mp r.nd).1, fun i a q => r.tr i a ?_, fun i o q => ?_⟩
      · rw [List.getElem?_append_left (List.getElem?_eq_some_iff.mp q).1]; exact q
      · have hi := Hea.get_lt q
        have hi : i < n := hi
        unfold Hea.get at q
        simp only [if_pos hi] at q
        have q2 : h.get i = some o := by
          unfold Hea.get
          rw [if_pos (by omega)]
          rw [List.getElem?_drop] at q
          have : h.n - n + (n - 1 - i) = h.n - 1 - i := by omega
          rw [this] at q
          exact q
        obtain ⟨a, ha, ro⟩ := r.ob i o q2
        rw [List.getElem?_append_left (by omega)] at ha
        refine ⟨a, ha, RO.cut hn ?_ ro⟩
        exact List.all_eq_true.mp h2 o (List.mem_of_getElem? q)
    · rw [if_neg h2] at e; cases e
  · rw [if_neg h1] at e; cases e
theorem LR.cut {l : Lo} {σ : L2.St} (L : LR K (ρ ++ more) H l σ) (hn : ρ.length = n) : LR K ρ H (cutLo n l) σ := by
  refine ⟨by unfold cutLo; rw [List.length_map]; exact L.1, fun i a e => ?_⟩
  unfold cutLo at e
  rw [List.getElem?_map] at e
  cases q : l[i]? with
  | none => rw [q] at e; cases e
  | some x =>
    rw [q] at e
    cases x with
    | none => cases e
    | some v =>
      have e' : some (if okV n v = true then some v else none) = some (some a) := e
      by_cases hv : okV n v = true
      · rw [if_pos hv] at e'
        have e2 : v = a := Option.some.inj (Option.some.inj e')
        obtain ⟨u, h1, h2⟩ := L.2 i v q
        rw [← e2]
        exact ⟨u, h1, RV.cut hn v hv h2⟩
      · rw [if_neg hv] at e'; cases e'
end
def forG (src : Sr) (tg : Tg) (B : Sx) (n : Nat) : Nat → Nat → Sx
  | 0, _, _, _ => .no
  | f + 1, k, l, h => match stp h k src with
    | none => .no
    | some none => .ok (.nx l) h
    | some (some v) => match bnd h tg v with
      | none => .no
      | some ups => (B (setL l ups) h).bind fun o h2 => match o with
        | .nx l2 => match truncH n h2 with
          | some h3 => forG src tg B n f (k + 1) (cutLo n l2) h3
          | none => .no
        | .ct l2 => match truncH n h2 with
          | some h3 => forG src tg B n f (k + 1) (cutLo n l2) h3
          | none => .no
        | .bk l2 => .ok (.nx l2) h2
        | .rt v => .ok (.rt v) h2
def sForG (I : Ix) (tg : Tg) (B : Sx) : Sx := fun l h => (I l h).bind fun src h1 => forG src tg B h1.n bigN 0 l h1
section
variable {W : XW} {X : Cx} {pos : Pos} {tgx iter : Expr} {body : List Stmt} {I : Ix} {tg : Tg} {B : Sx}
theorem Ext.back {K : PySem.W.Frag} {ρ ρ2 : List Addr} {H H2 : Hp} (e : Ext K ρ H ρ2 H2) : Ext K ρ H ρ H2 := ⟨⟨[], by simp⟩, e.tup, e.fz⟩
theorem forG_sound {K : PySem.W.Frag} {J : It} {src : Sr} {C : List Addr → Hp → Prop} {D : Ends} (T : Tie K J src C) {fuel : Nat} {ρ : List Addr} {l : Lo} {h : Hea} {σ : L2.St} {H : Hp}
    (L : LR K ρ H l σ) (q : HR K ρ h H) (c : C ρ H) (s : sat K W ρ H (forG src tg B h.n fuel 0 l h) (ouQ K D)) :
    ∃ V : Nat → Nat → L2.St → Hp → Prop, (∃ m, V 0 m σ H) ∧ ∀ i m σ H, V i m σ H →
      (J.stop i H ∧ D.nx σ H) ∨ (J.go i H ∧ ∃ N : L2.St → Hp → Prop, (∀ σ' H', N σ' H' → ∃ m', m' < m ∧ V (i + 1) m' σ' H') ∧ ∀ x H', J.yld i H x H' → tG K tg x σ H' fun σ2 H2 => tS K W B { D with nx := N, ct := N, bk := D.nx } σ2 H2) := by
  have hn : ρ.length = h.n := q.len
  generalize h.n = n at s hn
  refine ⟨fun i m σ H => ∃ l h, LR K ρ H l σ ∧ HR K ρ h H ∧ C ρ H ∧ sat K W ρ H (forG src tg B n m i l h) (ouQ K D), ⟨fuel, l, h, L, q, c, s⟩, fun i m σ H ⟨l, h, L, q, c, s⟩ => ?_⟩
  cases m with
  | zero => exact False.elim s
  | succ m =>
    unfold forG at s
    cases e : stp h i src with
    | none => simp only [e] at s; exact False.elim s
    | some o =>
      cases o with
      | none =>
        simp only [e] at s
        exact .inl ⟨T.stop i h ρ H c q e, s.ok q σ L⟩
      | some v =>
        simp only [e] at s
        obtain ⟨go, y⟩ := T.go i h ρ H v c q e
        refine .inr ⟨go, fun σ' H' => ∃ l h, LR K ρ H' l σ' ∧ HR K ρ h H' ∧ C ρ H' ∧ sat K W ρ H' (forG src tg B n m (i + 1) l h) (ouQ K D), fun σ' H' z => ⟨m, Nat.lt_succ_self m, z⟩, fun x H' yx => ?_⟩
        obtain ⟨ex, q1, rx⟩ := y x H' yx
        have s1 := s.shift ex
        cases e2 : bnd h tg v with
        | none => simp only [e2] at s1; exact False.elim s1
        | some ups =>
          simp only [e2] at s1
          refine ⟨ρ, h, v, ups, q1, rx, e2, fun us U => ⟨ρ, setL l ups, h, (L.ext ex).setL U, q1, ?_⟩⟩
          cases eB : B (setL l ups) h with
          | no => rw [eB] at s1; exact False.elim s1
          | err c v h' => rw [eB] at s1; exact s1
          | ok o h2 =>
            rw [eB] at s1
            simp only [Rs.bind] at s1
            refine fun ρ2 H2 e2 q2 => ?_
            obtain ⟨more, em⟩ := e2.pre
            subst em
            have c2 : C ρ H2 := T.ext _ _ _ _ (T.ext _ _ _ _ c ex) e2.back
            have nxt : ∀ l2, sat K W ρ H' (match truncH n h2 with
                | some h3 => forG src tg B n m (i + 1) (cutLo n l2) h3
                | none => .no) (ouQ K D) → ∀ σ', LR K (ρ ++ more) H2 l2 σ' → ∃ l h, LR K ρ H2 l σ' ∧ HR K ρ h H2 ∧ C ρ H2 ∧ sat K W ρ H2 (forG src tg B n m (i + 1) l h) (ouQ K D) := fun l2 s2 σ' L' => by
              cases e3 : truncH n h2 with
              | none => rw [e3] at s2; exact False.elim s2
              | some h3 =>
                rw [e3] at s2
                exact ⟨cutLo n l2, h3, L'.cut hn, q2.trunc hn e3, c2, s2.shift e2.back⟩
            cases o with
            | nx l2 => exact nxt l2 s1
            | ct l2 => exact nxt l2 s1
            | bk l2 => exact fun σ' L' => (s1.shift e2).ok q2 σ' L'
            | rt v => exact fun u ru => (s1.shift e2).ok q2 u ru
theorem sx_forG (hp : PassesOwn (model X.prog X.w) X.A X.env X.xe) (hc : X.calm = true) (hi : IX W X tgx iter I) (hg : GX X tgx tg) (hb : SXs W X body B)
    (hs : ∀ x, foldedSetIterable iter X.env x = pure x := by intro _; rfl) : SX W X (.For tgx iter body [] pos) (sForG I tg B) :=
  ⟨PS.weak (ps_for hp hc hi.pi hg.pg hb.ps hs) fun D σ H ⟨ρ, l, h, L, q, s⟩ => ⟨ρ, l, h, L, q, s.bind.mono fun src h1 ρ1 H1 e1 q1 s1 J C T c => forG_sound T (L.ext e1) q1 c s1⟩⟩
end

/-! ### what is asked of a computation -/
def Ret {α : Type} (r : Rs α) (Q : α → Hea → Prop) : Prop := match r with
  | .ok a h => Q a h
  | _ => False
theorem Ret.bind {α β : Type} {r : Rs α} {f : α → Hea → Rs β} {Q : β → Hea → Prop} (h : Ret r fun a h1 => Ret (f a h1) Q) : Ret (r.bind f) Q := by
  cases r with
  | ok a h1 => exact h
  | err c v h1 => exact h
  | no => exact h
theorem Ret.mono {α : Type} {r : Rs α} {Q Q' : α → Hea → Prop} (h : Ret r Q) (i : ∀ a h, Q a h → Q' a h) : Ret r Q' := by
  cases r with
  | ok a h1 => exact i a h1 h
  | err c v h1 => exact h
  | no => exact h
theorem Ret.ex {α : Type} {r : Rs α} {Q : α → Hea → Prop} (h : Ret r Q) : ∃ a h1, r = .ok a h1 ∧ Q a h1 := by
  cases r with
  | ok a h1 => exact ⟨a, h1, rfl, h⟩
  | err c v h1 => exact False.elim h
  | no => exact False.elim h
theorem Hea.set_set (h : Hea) (i : Nat) (o o' : Ob) : (h.set i o).set i o' = h.set i o' := by
  unfold Hea.set
  simp only [List.set_set]
end Rf

/-! Rf: steps of a computation; the drawing of numbers. -/
namespace Rf
open PySem PySem.Spec PyProof.Rows L2
theorem sSeq_nx {A B : Sx} {l l1 : Lo} {h h1 : Hea} (e : A l h = .ok (.nx l1) h1) : sSeq A B l h = B l1 h1 := by
  unfold sSeq; rw [e]; rfl
theorem sSeq_rt {A B : Sx} {l : Lo} {h h1 : Hea} {v : Va} (e : A l h = .ok (.rt v) h1) : sSeq A B l h = .ok (.rt v) h1 := by
  unfold sSeq; rw [e]; rfl
theorem fnM_rt {n : Nat} {B : Sx} {args : List Va} {h h1 : Hea} {v : Va} (e : B (args.map some ++ List.replicate (n - args.length) none) h = .ok (.rt v) h1) : fnM n B args h = .ok v h1 := by
  unfold fnM; rw [e]; rfl
theorem isB_ok {A : Ex} {l : Lo} {h h1 : Hea} {b : Bool} (e : A l h = .ok (.bl b) h1) : isB A l h = .ok b h1 := by
  unfold isB; rw [e]; rfl
theorem sIf_t {C : Tx} {A B : Sx} {l : Lo} {h h1 : Hea} (e : C l h = .ok true h1) : sIf C A B l h = A l h1 := by
  unfold sIf; rw [e]; rfl
theorem sIf_f {C : Tx} {A B : Sx} {l : Lo} {h h1 : Hea} (e : C l h = .ok false h1) : sIf C A B l h = B l h1 := by
  unfold sIf; rw [e]; rfl
theorem sIf_b {C : Tx} {A B : Sx} {l : Lo} {h h1 : Hea} {b : Bool} (e : C l h = .ok b h1) : sIf C A B l h = if b = true then A l h1 else B l h1 := by
  unfold sIf; rw [e]; rfl
theorem sSet_ok {i : Nat} {A : Ex} {l : Lo} {h h1 : Hea} {a : Va} (e : A l h = .ok a h1) : sSet i A l h = .ok (.nx (l.set i (some a))) h1 := by
  unfold sSet; rw [e]; rfl
theorem sRet_ok {A : Ex} {l : Lo} {h h1 : Hea} {a : Va} (e : A l h = .ok a h1) : sRet A l h = .ok (.rt a) h1 := by
  unfold sRet; rw [e]; rfl
theorem op2_ok {F : Va → Va → M Va} {A B : Ex} {l : Lo} {h h1 h2 : Hea} {a b : Va} (eA : A l h = .ok a h1) (eB : B l h1 = .ok b h2) : op2 F A B l h = F a b h2 := by
  unfold op2; rw [eA]; simp only [Rs.bind]; rw [eB]
/-- a place of a list that is told by a literal -/
theorem ix_lit {A : Ex} {i : Int} {l : Lo} {h : Hea} {p : Nat} {xs : List Va} {v : Va} (eA : A l h = .ok (.ref p) h) (hp : h.get p = some (.lst xs)) (e : atI xs i = some v) : op2 vIx A (cV (.int i)) l h = .ok v h := by
  rw [op2_ok eA rfl]
  unfold vIx
  simp only [hp, atV, e]
theorem iop_ok {F : Int → Int → Va} {A B : Ex} {l : Lo} {h : Hea} {i j : Int} (eA : A l h = .ok (.int i) h) (eB : B l h = .ok (.int j) h) : op2 (iop F) A B l h = .ok (F i j) h := by
  rw [op2_ok eA eB]; rfl
theorem iopC_ok {C : Int → Int → Bool} {F : Int → Int → Va} {A B : Ex} {l : Lo} {h : Hea} {i j : Int} (eA : A l h = .ok (.int i) h) (eB : B l h = .ok (.int j) h) (c : C i j = true) : op2 (iopC C F) A B l h = .ok (F i j) h := by
  rw [op2_ok eA eB]; unfold iopC; simp only [c, if_true]
theorem eq_ok {A B : Ex} {l : Lo} {h : Hea} {i j : Int} (eA : A l h = .ok (.int i) h) (eB : B l h = .ok (.int j) h) : op2 vEq A B l h = .ok (.bl (decide (i = j))) h := by
  rw [op2_ok eA eB]
  have e : vq h 20 (.int i) (.int j) = decide (i = j) := by
    unfold vq view PyData.eqv
    first | rfl | (simp; done) | (by_cases q : i = j <;> simp [q])
  unfold vEq
  rw [e]
  rfl
theorem add_ok {A B : Ex} {l : Lo} {h : Hea} {i j : Int} (eA : A l h = .ok (.int i) h) (eB : B l h = .ok (.int j) h) : op2 vAdd A B l h = .ok (.int (i + j)) h := by
  rw [op2_ok eA eB]; rfl
theorem mul_ok {A B : Ex} {l : Lo} {h : Hea} {i j : Int} (eA : A l h = .ok (.int i) h) (eB : B l h = .ok (.int j) h) (hi : -18446744073709551616 < j ∧ j < 18446744073709551616) : op2 vMul A B l h = .ok (.int (i * j)) h := by
  rw [op2_ok eA eB]
  have e : mulOk i j = true := by
    unfold mulOk
    rw [Bool.or_eq_true]
    right
    rw [Bool.and_eq_true]
    exact ⟨decide_eq_true hi.1, decide_eq_true hi.2⟩
  unfold vMul
  simp only [e, if_true]
theorem mul_ok' {A B : Ex} {l : Lo} {h : Hea} {i j : Int} (eA : A l h = .ok (.int i) h) (eB : B l h = .ok (.int j) h) (hi : -18446744073709551616 < i ∧ i < 18446744073709551616) : op2 vMul A B l h = .ok (.int (i * j)) h := by
  rw [op2_ok eA eB]
  have e : mulOk i j = true := by
    unfold mulOk
    rw [Bool.or_eq_true]
    left
    rw [Bool.and_eq_true]
    exact ⟨decide_eq_true hi.1, decide_eq_true hi.2⟩
  unfold vMul
  simp only [e, if_true]
theorem int_ok {A : Ex} {l : Lo} {h : Hea} {i : Int} (eA : A l h = .ok (.int i) h) : callE (fn1 vInt) (aCons A aNil) l h = .ok (.int i) h := by
  unfold callE aCons aNil; rw [eA]; rfl
theorem len_ok {A : Ex} {l : Lo} {h : Hea} {p : Nat} {xs : List Va} (eA : A l h = .ok (.ref p) h) (hp : h.get p = some (.lst xs)) : callE (fn1 vLen) (aCons A aNil) l h = .ok (.int xs.length) h := by
  unfold callE aCons aNil; rw [eA]
  simp only [Rs.bind, fn1, vLen, hp]
theorem stL_ok {A V : Ex} {i : Int} {l : Lo} {h : Hea} {p j : Nat} {xs : List Va} {v : Va} (eA : A l h = .ok (.ref p) h) (eV : V l h = .ok v h) (hp : h.get p = some (.lst xs)) (e : ixN xs.length i = some j) : stL A (cV (.int i)) V l h = .ok (.nx l) (h.set p (.lst (xs.set j v))) := by
  unfold stL
  rw [eV]
  simp only [Rs.bind]
  rw [eA]
  simp only [cV, hp, e]
theorem augL_ok {A V : Ex} {i k : Int} {l : Lo} {h : Hea} {p j : Nat} {xs : List Va} {old v : Int} (eA : A l h = .ok (.ref p) h) (eV : V l h = .ok (.int v) h) (hp : h.get p = some (.lst xs)) (e : ixN xs.length i = some j) (h0 : 0 ≤ i ∧ i < 1000000000) (eo : xs[i.toNat]? = some (.int old)) : augL A (cV (.int i)) vIAdd V l h = .ok (.nx l) (h.set p (.lst (xs.set j (.int (old + v))))) := by
  unfold augL
  rw [eA]
  have c : (decide (0 ≤ i) && decide (i < 1000000000)) = true := by
    rw [Bool.and_eq_true]; exact ⟨decide_eq_true h0.1, decide_eq_true h0.2⟩
  simp only [Rs.bind, cV, hp, c, if_true, eo, eV, vIAdd, e]
theorem tAnd_t {A B : Tx} {l : Lo} {h h1 : Hea} (e : A l h = .ok true h1) : tAnd A B l h = B l h1 := by
  unfold tAnd; rw [e]; rfl
theorem tAnd_f {A B : Tx} {l : Lo} {h h1 : Hea} (e : A l h = .ok false h1) : tAnd A B l h = .ok false h1 := by
  unfold tAnd; rw [e]; rfl
theorem vr_ok {l : Lo} {i : Nat} {v : Va} {h : Hea} (e : l[i]? = some (some v)) : vr i l h = .ok v h := by
  unfold vr; rw [e]

/-! ### own, and what drawing makes of it -/
abbrev ownO (a b c d : Int) (q : Nat) : Ob := .lst [.int a, .int b, .int c, .int d, .ref q]
def nxA : Sx := augL (vr 0) (cV (.int 2)) vIAdd (cV (.int 1))
def nxC : Tx := tAnd (isB (op2 vEq (op2 vIx (vr 0) (cV (.int 0))) (cV (.int 0)))) (isB (op2 vLt (op2 vIx (vr 0) (cV (.int 3))) (callE (fn1 vLen) (aCons (op2 vIx (vr 0) (cV (.int 4))) aNil))))
def nxD : Sx := sSeq (sSet 3 (op2 vMod (callE (fn1 vInt) (aCons (vr 2) aNil)) (cV (.int 1000000007))))
  (stL (vr 0) (cV (.int 1)) (op2 vMod (callE (fn1 vInt) (aCons (op2 vAdd (op2 vAdd (op2 vAdd (op2 vMul (op2 vIx (vr 0) (cV (.int 1))) (cV (.int 30269))) (op2 vMul (vr 3) (vr 3))) (op2 vMul (cV (.int 11)) (vr 3))) (op2 vMul (cV (.int 5)) (op2 vIx (vr 0) (cV (.int 3))))) aNil)) (cV (.int 2147483563))))
def nxE : Sx := sSeq (sSet 2 (op2 vIx (op2 vIx (vr 0) (cV (.int 4))) (op2 vIx (vr 0) (cV (.int 3)))))
  (sSeq (augL (vr 0) (cV (.int 3)) vIAdd (cV (.int 1)))
  (sIf (isB (op2 vGe (vr 2) (op2 vPow (cV (.int 10)) (cV (.int 18))))) (stL (vr 0) (cV (.int 0)) (op2 vSub (vr 2) (op2 vPow (cV (.int 10)) (cV (.int 18))))) nxD))
def nxF : Sx := sSeq (sSet 4 (op2 vMod (callE (fn1 vInt) (aCons (op2 vIx (vr 0) (cV (.int 0))) aNil)) (vr 1)))
  (sSeq (stL (vr 0) (cV (.int 0)) (op2 vDiv (op2 vIx (vr 0) (cV (.int 0))) (vr 1)))
  (sRet (vr 4)))
def nxG : Sx := sSeq (stL (vr 0) (cV (.int 1)) (op2 vMod (callE (fn1 vInt) (aCons (op2 vAdd (op2 vAdd (op2 vMul (op2 vIx (vr 0) (cV (.int 1))) (op2 vIx (vr 0) (cV (.int 1)))) (op2 vMul (cV (.int 40014)) (op2 vIx (vr 0) (cV (.int 2))))) (cV (.int 37))) aNil)) (cV (.int 2147483563))))
  (sRet (op2 vMod (callE (fn1 vInt) (aCons (op2 vAdd (op2 vDiv (op2 vIx (vr 0) (cV (.int 1))) (cV (.int 8))) (op2 vMul (op2 vMul (cV (.int 3)) (op2 vIx (vr 0) (cV (.int 2)))) (op2 vIx (vr 0) (cV (.int 2))))) aNil)) (vr 1)))
def bdNext : Sx := sSeq nxA (sSeq (sIf nxC nxE sNil) (sSeq (sIf (isB (op2 vGt (op2 vIx (vr 0) (cV (.int 0))) (cV (.int 0)))) nxF sNil) nxG))
def mNext : Fn := fnM 5 bdNext
section
variable {h : Hea} {p q : Nat} {a b c d many : Int} {ns : List Int}
theorem own_ne (hp : h.get p = some (ownO a b c d q)) (hq : h.get q = some (.lst (ns.map .int))) : p ≠ q := by
  intro e
  subst e
  rw [hp] at hq
  have := Option.some.inj hq
  cases ns with
  | nil => simp at this
  | cons n r =>
    simp at this
    obtain ⟨_, h2⟩ := this
    match r, h2 with
    | [_, _, _, _], h2 => simp at h2
theorem nxG_ok {x2 x3 x4 : Option Va} (hp : h.get p = some (ownO a b c d q)) (hm : 0 < many ∧ many < 1000000000) (hb : 0 ≤ b ∧ b < 2147483563) (hc : 0 ≤ c ∧ c < 1000000000000) :
    ∃ r b', nxG [some (.ref p), some (.int many), x2, x3, x4] h = .ok (.rt (.int r)) (h.set p (ownO a b' c d q)) ∧ 0 ≤ r ∧ r < many ∧ 0 ≤ b' ∧ b' < 2147483563 := by
  have v0 : ∀ h', vr 0 [some (.ref p), some (.int many), x2, x3, x4] h' = .ok (.ref p) h' := fun h' => vr_ok rfl
  have v1 : ∀ h', vr 1 [some (.ref p), some (.int many), x2, x3, x4] h' = .ok (.int many) h' := fun h' => vr_ok rfl
  refine ⟨((b * b + 40014 * c + 37) % 2147483563 / 8 + 3 * c * c) % many, (b * b + 40014 * c + 37) % 2147483563, (sSeq_nx (stL_ok (v0 h) (iopC_ok (int_ok (add_ok (add_ok (mul_ok (ix_lit (v0 h) hp rfl) (ix_lit (v0 h) hp rfl) (by omega)) (mul_ok' rfl (ix_lit (v0 h) hp rfl) (by omega))) rfl)) rfl rfl) hp rfl)).trans ?_, ?_⟩
  · have hp1 := Hea.get_set_self hp (o' := ownO a ((b * b + 40014 * c + 37) % 2147483563) c d q)
    exact sRet_ok (iopC_ok (int_ok (add_ok (iopC_ok (ix_lit (v0 _) hp1 rfl) rfl rfl) (mul_ok (mul_ok' rfl (ix_lit (v0 _) hp1 rfl) (by omega)) (ix_lit (v0 _) hp1 rfl) (by omega)))) (v1 _) (decide_eq_true hm.1))
  · exact ⟨Int.emod_nonneg _ (by omega), Int.emod_lt_of_pos _ hm.1, Int.emod_nonneg _ (by omega), Int.emod_lt_of_pos _ (by omega)⟩
theorem nxF_ok {x2 x3 x4 : Option Va} (hp : h.get p = some (ownO a b c d q)) (hm : 0 < many ∧ many < 1000000000) (ha : 0 ≤ a) :
    ∃ r a', nxF [some (.ref p), some (.int many), x2, x3, x4] h = .ok (.rt (.int r)) (h.set p (ownO a' b c d q)) ∧ 0 ≤ r ∧ r < many ∧ 0 ≤ a' := by
  have v0 : ∀ h' y4, vr 0 [some (.ref p), some (.int many), x2, x3, y4] h' = .ok (.ref p) h' := fun h' _ => vr_ok rfl
  have v1 : ∀ h' y4, vr 1 [some (.ref p), some (.int many), x2, x3, y4] h' = .ok (.int many) h' := fun h' _ => vr_ok rfl
  refine ⟨a % many, a / many, (sSeq_nx (sSet_ok (iopC_ok (int_ok (ix_lit (v0 h _) hp rfl)) (v1 h _) (decide_eq_true hm.1)))).trans ((sSeq_nx (stL_ok (v0 h _) (iopC_ok (ix_lit (v0 h _) hp rfl) (v1 h _) ?_) hp rfl)).trans (sRet_ok (vr_ok rfl))), Int.emod_nonneg _ (by omega), Int.emod_lt_of_pos _ hm.1, Int.ediv_nonneg ha (by omega)⟩
  rw [Bool.and_eq_true]
  exact ⟨decide_eq_true hm.1, decide_eq_true (by omega)⟩
theorem nxD_ok {n : Int} {x3 x4 : Option Va} (hp : h.get p = some (ownO a b c d q)) (hb : 0 ≤ b ∧ b < 2147483563) (hd : 0 ≤ d ∧ d ≤ 1000) :
    ∃ b' y3, nxD [some (.ref p), some (.int many), some (.int n), x3, x4] h = .ok (.nx [some (.ref p), some (.int many), some (.int n), y3, x4]) (h.set p (ownO a b' c d q)) ∧ 0 ≤ b' ∧ b' < 2147483563 := by
  have v0 : ∀ h' y3, vr 0 [some (.ref p), some (.int many), some (.int n), y3, x4] h' = .ok (.ref p) h' := fun h' _ => vr_ok rfl
  have s0 : 0 ≤ n % 1000000007 := Int.emod_nonneg _ (by omega)
  have s1 : n % 1000000007 < 1000000007 := Int.emod_lt_of_pos _ (by omega)
  have e3 : nxD [some (.ref p), some (.int many), some (.int n), x3, x4] h = stL (vr 0) (cV (.int 1)) (op2 vMod (callE (fn1 vInt) (aCons (op2 vAdd (op2 vAdd (op2 vAdd (op2 vMul (op2 vIx (vr 0) (cV (.int 1))) (cV (.int 30269))) (op2 vMul (vr 3) (vr 3))) (op2 vMul (cV (.int 11)) (vr 3))) (op2 vMul (cV (.int 5)) (op2 vIx (vr 0) (cV (.int 3))))) aNil)) (cV (.int 2147483563))) [some (.ref p), some (.int many), some (.int n), some (.int (n % 1000000007)), x4] h := sSeq_nx (sSet_ok (iopC_ok (int_ok (vr_ok rfl)) rfl rfl))
  generalize n % 1000000007 = m at s0 s1 e3
  have v3 : vr 3 [some (.ref p), some (.int many), some (.int n), some (.int m), x4] h = .ok (.int m) h := vr_ok rfl
  have w := v0 h (some (.int m))
  generalize hL : [some (.ref p), some (.int many), some (.int n), some (.int m), x4] = L at v3 w
  have f1 : op2 vMul (op2 vIx (vr 0) (cV (.int 1))) (cV (.int 30269)) L h = .ok (.int (b * 30269)) h := mul_ok (ix_lit w hp rfl) rfl (by omega)
  have f2 : op2 vMul (vr 3) (vr 3) L h = .ok (.int (m * m)) h := mul_ok v3 v3 (by omega)
  have f3 : op2 vMul (cV (.int 11)) (vr 3) L h = .ok (.int (11 * m)) h := mul_ok' rfl v3 (by omega)
  have f4 : op2 vMul (cV (.int 5)) (op2 vIx (vr 0) (cV (.int 3))) L h = .ok (.int (5 * d)) h := mul_ok' rfl (ix_lit w hp rfl) (by omega)
  have f5 : op2 vMod (callE (fn1 vInt) (aCons (op2 vAdd (op2 vAdd (op2 vAdd (op2 vMul (op2 vIx (vr 0) (cV (.int 1))) (cV (.int 30269))) (op2 vMul (vr 3) (vr 3))) (op2 vMul (cV (.int 11)) (vr 3))) (op2 vMul (cV (.int 5)) (op2 vIx (vr 0) (cV (.int 3))))) aNil)) (cV (.int 2147483563)) L h = .ok (.int ((b * 30269 + m * m + 11 * m + 5 * d) % 2147483563)) h := iopC_ok (int_ok (add_ok (add_ok (add_ok f1 f2) f3) f4)) rfl rfl
  have f6 := stL_ok (i := 1) (j := 1) w f5 hp rfl
  subst hL
  exact ⟨(b * 30269 + m * m + 11 * m + 5 * d) % 2147483563, some (.int m), e3.trans f6, Int.emod_nonneg _ (by omega), Int.emod_lt_of_pos _ (by omega)⟩
theorem nxE_ok {x2 x3 x4 : Option Va} (hp : h.get p = some (ownO a b c d q)) (hq : h.get q = some (.lst (ns.map .int))) (ha : 0 ≤ a) (hb : 0 ≤ b ∧ b < 2147483563) (hd : 0 ≤ d ∧ d < ns.length) (hl : ns.length ≤ 999) :
    ∃ a' b' d' y2 y3, nxE [some (.ref p), some (.int many), x2, x3, x4] h = .ok (.nx [some (.ref p), some (.int many), y2, y3, x4]) (h.set p (ownO a' b' c d' q)) ∧ 0 ≤ a' ∧ (0 ≤ b' ∧ b' < 2147483563) ∧ (0 ≤ d' ∧ d' ≤ ns.length) := by
  have pq := own_ne hp hq
  have v0 : ∀ h' y2, vr 0 [some (.ref p), some (.int many), y2, x3, x4] h' = .ok (.ref p) h' := fun h' _ => vr_ok rfl
  have hdn : d.toNat < ns.length := by omega
  have e4 : ∀ y2, op2 vIx (op2 vIx (vr 0) (cV (.int 4))) (op2 vIx (vr 0) (cV (.int 3))) [some (.ref p), some (.int many), y2, x3, x4] h = .ok (.int ns[d.toNat]) h := fun y2 => by
    rw [op2_ok (ix_lit (v0 h _) hp rfl) (ix_lit (v0 h _) hp rfl)]
    have e : atI (ns.map Va.int) d = some (.int ns[d.toNat]) := by
      have e1 : ixN (ns.map Va.int).length d = some d.toNat := by
        unfold ixN
        rw [List.length_map]
        split <;> first | rfl | (exfalso; omega) | (split <;> first | rfl | (exfalso; omega))
      unfold atI
      rw [e1]
      show (ns.map Va.int)[d.toNat]? = _
      rw [List.getElem?_map, List.getElem?_eq_getElem hdn]
      rfl
    unfold vIx
    simp only [hq, atV, e]
  have hp1 := Hea.get_set_self hp (o' := ownO a b c (d + 1) q)
  have st1 : nxE [some (.ref p), some (.int many), x2, x3, x4] h = sIf (isB (op2 vGe (vr 2) (op2 vPow (cV (.int 10)) (cV (.int 18))))) (stL (vr 0) (cV (.int 0)) (op2 vSub (vr 2) (op2 vPow (cV (.int 10)) (cV (.int 18))))) nxD [some (.ref p), some (.int many), some (.int ns[d.toNat]), x3, x4] (h.set p (ownO a b c (d + 1) q)) :=
    (sSeq_nx (sSet_ok (e4 x2))).trans (sSeq_nx (augL_ok (k := 0) (i := 3) (v := 1) (old := d) (j := 3) (v0 h _) rfl hp rfl (by omega) rfl))
  rw [st1]
  generalize ns[d.toNat] = n
  have e18 : ∀ h', op2 vPow (cV (.int 10)) (cV (.int 18)) [some (.ref p), some (.int many), some (.int n), x3, x4] h' = .ok (.int 1000000000000000000) h' := fun h' => (iopC_ok rfl rfl (by decide)).trans (by rfl)
  have eC : isB (op2 vGe (vr 2) (op2 vPow (cV (.int 10)) (cV (.int 18)))) [some (.ref p), some (.int many), some (.int n), x3, x4] (h.set p (ownO a b c (d + 1) q)) = .ok (decide (1000000000000000000 ≤ n)) (h.set p (ownO a b c (d + 1) q)) := isB_ok (iop_ok (vr_ok rfl) (e18 _))
  rw [sIf_b eC]
  by_cases hn : 1000000000000000000 ≤ n
  · rw [if_pos (decide_eq_true hn)]
    refine ⟨n - 1000000000000000000, b, d + 1, some (.int n), x3, (stL_ok (v0 _ _) (iop_ok (vr_ok rfl) (e18 _)) hp1 rfl).trans ?_, ?_⟩
    · rw [Hea.set_set]; rfl
    · exact ⟨by omega, hb, by omega⟩
  · rw [if_neg (by rw [decide_eq_true_eq]; exact hn)]
    obtain ⟨b', y3, e, hb'⟩ := nxD_ok (many := many) (n := n) (x3 := x3) (x4 := x4) hp1 hb (by omega)
    refine ⟨a, b', d + 1, some (.int n), y3, e.trans ?_, ?_⟩
    · rw [Hea.set_set]
    · exact ⟨ha, hb', by omega⟩
theorem next_spec (hp : h.get p = some (ownO a b c d q)) (hq : h.get q = some (.lst (ns.map .int)))
    (hm : 0 < many ∧ many < 1000000000) (ha : 0 ≤ a) (hb : 0 ≤ b ∧ b < 2147483563) (hc : 0 ≤ c ∧ c < 999999999999) (hd : 0 ≤ d ∧ d ≤ ns.length) (hl : ns.length ≤ 999) :
    ∃ r a' b' d', mNext [.ref p, .int many] h = .ok (.int r) (h.set p (ownO a' b' (c + 1) d' q)) ∧ 0 ≤ r ∧ r < many ∧ 0 ≤ a' ∧ (0 ≤ b' ∧ b' < 2147483563) ∧ (0 ≤ d' ∧ d' ≤ ns.length) := by
  have pq := own_ne hp hq
  have pn := Hea.get_lt hp
  have hp1 := Hea.get_set_self hp (o' := ownO a b (c + 1) d q)
  have hq1 : (h.set p (ownO a b (c + 1) d q)).get q = some (.lst (ns.map .int)) := by rw [Hea.get_set_ne pn pq]; exact hq
  have s1 : bdNext [some (.ref p), some (.int many), none, none, none] h = _ := sSeq_nx (augL_ok (k := 0) (vr_ok rfl) rfl hp rfl (by omega) rfl)
  have hs : ∀ o, (h.set p (ownO a b (c + 1) d q)).set p o = h.set p o := fun o => Hea.set_set h p _ o
  have s2 : ∀ r h2, (sSeq (sIf nxC nxE sNil) (sSeq (sIf (isB (op2 vGt (op2 vIx (vr 0) (cV (.int 0))) (cV (.int 0)))) nxF sNil) nxG)) [some (.ref p), some (.int many), none, none, none] (h.set p (ownO a b (c + 1) d q)) = .ok (.rt (.int r)) h2 → mNext [.ref p, .int many] h = .ok (.int r) h2 := fun r h2 e => fnM_rt (s1.trans e)
  have key : ∃ a' b' d' y2 y3, sIf nxC nxE sNil [some (.ref p), some (.int many), none, none, none] (h.set p (ownO a b (c + 1) d q)) = .ok (.nx [some (.ref p), some (.int many), y2, y3, none]) (h.set p (ownO a' b' (c + 1) d' q)) ∧ 0 ≤ a' ∧ (0 ≤ b' ∧ b' < 2147483563) ∧ (0 ≤ d' ∧ d' ≤ ns.length) := by
    have triv : ∃ a' b' d' y2 y3, (Rs.ok (Ou.nx [some (.ref p), some (.int many), none, none, none]) (h.set p (ownO a b (c + 1) d q)) : Rs Ou) = .ok (.nx [some (.ref p), some (.int many), y2, y3, none]) (h.set p (ownO a' b' (c + 1) d' q)) ∧ 0 ≤ a' ∧ (0 ≤ b' ∧ b' < 2147483563) ∧ (0 ≤ d' ∧ d' ≤ ns.length) := ⟨a, b, d, none, none, rfl, ha, hb, hd⟩
    generalize h.set p (ownO a b (c + 1) d q) = h1 at hp1 hq1 hs triv
    have e1 : isB (op2 vEq (op2 vIx (vr 0) (cV (.int 0))) (cV (.int 0))) [some (.ref p), some (.int many), none, none, none] h1 = .ok (decide (a = 0)) h1 := isB_ok (eq_ok (ix_lit (vr_ok rfl) hp1 rfl) rfl)
    have e2 : isB (op2 vLt (op2 vIx (vr 0) (cV (.int 3))) (callE (fn1 vLen) (aCons (op2 vIx (vr 0) (cV (.int 4))) aNil))) [some (.ref p), some (.int many), none, none, none] h1 = .ok (decide (d < ((ns.map Va.int).length : Int))) h1 := isB_ok (iop_ok (ix_lit (vr_ok rfl) hp1 rfl) (len_ok (ix_lit (vr_ok rfl) hp1 rfl) hq1))
    rw [List.length_map] at e2
    unfold nxC
    by_cases h0 : a = 0
    · rw [decide_eq_true h0] at e1
      by_cases h3 : d < (ns.length : Int)
      · rw [decide_eq_true h3] at e2
        rw [sIf_t ((tAnd_t e1).trans e2)]
        obtain ⟨a', b', d', y2, y3, e, r⟩ := nxE_ok (many := many) (x2 := none) (x3 := none) (x4 := none) hp1 hq1 ha hb ⟨hd.1, h3⟩ hl
        exact ⟨a', b', d', y2, y3, by rw [e, hs], r⟩
      · rw [decide_eq_false h3] at e2
        rw [sIf_f ((tAnd_t e1).trans e2)]
        exact triv
    · rw [decide_eq_false h0] at e1
      rw [sIf_f (tAnd_f e1)]
      exact triv
  obtain ⟨a', b', d', y2, y3, e, ha', hb', hd'⟩ := key
  have hp2 := Hea.get_set_self hp (o' := ownO a' b' (c + 1) d' q)
  have hs2 : ∀ o, (h.set p (ownO a' b' (c + 1) d' q)).set p o = h.set p o := fun o => Hea.set_set h p _ o
  have e5 : isB (op2 vGt (op2 vIx (vr 0) (cV (.int 0))) (cV (.int 0))) [some (.ref p), some (.int many), y2, y3, none] (h.set p (ownO a' b' (c + 1) d' q)) = .ok (decide (0 < a')) (h.set p (ownO a' b' (c + 1) d' q)) := isB_ok (iop_ok (ix_lit (vr_ok rfl) hp2 rfl) rfl)
  by_cases h6 : 0 < a'
  · rw [decide_eq_true h6] at e5
    obtain ⟨r, a2, e6, r0, r1, r2⟩ := nxF_ok (x2 := y2) (x3 := y3) (x4 := none) hp2 hm ha'
    refine ⟨r, a2, b', d', s2 r _ ((sSeq_nx e).trans (sSeq_rt ((sIf_t e5).trans e6))|>.trans (by rw [hs2])), r0, r1, r2, hb', hd'⟩
  · rw [decide_eq_false h6] at e5
    obtain ⟨r, b2, e6, r0, r1, r2⟩ := nxG_ok (x2 := y2) (x3 := y3) (x4 := none) hp2 hm hb' (by omega)
    refine ⟨r, a', b2, d', s2 r _ ((sSeq_nx e).trans ((sSeq_nx (sIf_f e5)).trans e6)|>.trans (by rw [hs2])), r0, r1, ha', r2, hd'⟩
end

/-! ### turns of a law -/
structure OwnOk (ns : List Int) (k : Int) (h : Hea) : Prop where
  it : ∃ a b c d, h = ⟨2, [ownO a b c d 0, .lst (ns.map .int)]⟩ ∧ 0 ≤ a ∧ (0 ≤ b ∧ b < 2147483563) ∧ (0 ≤ c ∧ c ≤ k) ∧ (0 ≤ d ∧ d ≤ ns.length)
theorem OwnOk.next {ns : List Int} {k : Int} {h : Hea} {many : Int} (o : OwnOk ns k h) (hl : ns.length ≤ 999) (hk : k < 100000000000) (hm : 0 < many ∧ many < 1000000000) :
    ∃ r h', mNext [.ref 1, .int many] h = .ok (.int r) h' ∧ 0 ≤ r ∧ r < many ∧ OwnOk ns (k + 1) h' := by
  obtain ⟨a, b, c, d, rfl, ha, hb, hc, hd⟩ := o.it
  obtain ⟨r, a', b', d', e, r0, r1, ha', hb', hd'⟩ := next_spec (h := ⟨2, [ownO a b c d 0, .lst (ns.map .int)]⟩) (p := 1) (q := 0) (ns := ns) rfl rfl hm ha hb (by omega) hd hl
  exact ⟨r, _, e, r0, r1, ⟨⟨a', b', c + 1, d', rfl, ha', hb', by omega, hd'⟩⟩⟩
theorem OwnOk.mono {ns : List Int} {k k' : Int} {h : Hea} (o : OwnOk ns k h) (hk : k ≤ k') : OwnOk ns k' h := by
  obtain ⟨a, b, c, d, rfl, ha, hb, hc, hd⟩ := o.it
  exact ⟨⟨a, b, c, d, rfl, ha, hb, by omega, hd⟩⟩
/-- what a turn leaves: goes on, the two lowest objects, the first two slots, how many slots -/
def dig (r : Rs Ou) : Bool × List Ob × Lo × Nat := match r with
  | .ok (.nx l) h => (Nat.ble 2 h.n, h.l.drop (h.n - 2), l.take 2, l.length)
  | .ok (.ct l) h => (Nat.ble 2 h.n, h.l.drop (h.n - 2), l.take 2, l.length)
  | _ => (false, [], [], 0)
theorem okVs_ints (n : Nat) : ∀ ns : List Int, okVs n (ns.map .int) = true
  | [] => rfl
  | x :: r => by
    show (okV n (.int x) && okVs n (r.map .int)) = true
    rw [okVs_ints n r]; rfl
def Turned (n : Nat) (r : Rs Ou) (I : Lo → Hea → Prop) : Prop := ∃ l2 h2 h3, (r = .ok (.nx l2) h2 ∨ r = .ok (.ct l2) h2) ∧ truncH n h2 = some h3 ∧ I (cutLo n l2) h3
structure LwI (ns : List Int) (m : Nat) (k : Int) (l : Lo) (h : Hea) : Prop where
  own : OwnOk ns k h
  two : l.take 2 = [some (.fl (ns.map .int)), some (.ref 1)]
  len : l.length = m
theorem turn_ok {r : Rs Ou} {ns : List Int} {m : Nat} {k : Int} {h : Hea} (o : OwnOk ns k h) (e : dig r = (true, h.l, [some (.fl (ns.map .int)), some (.ref 1)], m)) : Turned 2 r (LwI ns m k) := by
  obtain ⟨a, b, c, d, eh, ha, hb, hc, hd⟩ := o.it
  have key : ∀ l2 h2, (r = .ok (.nx l2) h2 ∨ r = .ok (.ct l2) h2) → (Nat.ble 2 h2.n, h2.l.drop (h2.n - 2), l2.take 2, l2.length) = (true, h.l, ([some (.fl (ns.map .int)), some (.ref 1)] : Lo), m) → Turned 2 r (LwI ns m k) := by
    intro l2 h2 er e
    injection e with e1 e
    injection e with e2 e
    injection e with e3 e4
    refine ⟨l2, h2, h, er, ?_, ⟨o, ?_, by unfold cutLo; rw [List.length_map]; exact e4⟩⟩
    · unfold truncH
      rw [if_pos (Nat.le_of_ble_eq_true e1), e2]
      subst eh
      have : ([ownO a b c d 0, .lst (ns.map .int)].all (okO 2)) = true := by
        show (okO 2 (ownO a b c d 0) && (okO 2 (.lst (ns.map .int)) && true)) = true
        have h1 : okO 2 (ownO a b c d 0) = true := rfl
        have h2 : okO 2 (.lst (ns.map .int)) = true := okVs_ints 2 ns
        rw [h1, h2]; rfl
      rw [if_pos this]
    · unfold cutLo
      rw [← List.map_take, e3]
      have h1 : okV 2 (.fl (ns.map .int)) = true := by unfold okV; exact okVs_ints 2 ns
      have h2 : okV 2 (.ref 1) = true := rfl
      simp only [List.map_cons, List.map_nil, h1, h2, if_true]
  match r, e, key with
  | .ok (.nx l2) h2, e, key => exact key l2 h2 (.inl rfl) e
  | .ok (.ct l2) h2, e, key => exact key l2 h2 (.inr rfl) e
  | .ok (.bk l2) h2, e, key => injection e with e1 _; cases e1
  | .ok (.rt l2) h2, e, key => injection e with e1 _; cases e1
  | .err .., e, key => injection e with e1 _; cases e1
  | .no, e, key => injection e with e1 _; cases e1
theorem forG_inv {src : Sr} {tg : Tg} {B : Sx} {n : Nat} (I : Nat → Lo → Hea → Prop) (N : Nat)
    (hs : ∀ k, k < N → ∀ l h, I k l h → ∃ v ups, stp h k src = some (some v) ∧ bnd h tg v = some ups ∧ Turned n (B (setL l ups) h) (I (k + 1)))
    (he : ∀ l h, I N l h → stp h N src = some none) :
    ∀ (m k : Nat), k + m = N → ∀ fuel, m < fuel → ∀ l h, I k l h → ∃ l' h', forG src tg B n fuel k l h = .ok (.nx l') h' ∧ I N l' h'
  | 0, k, e, f + 1, _, l, h, i => by
    have e : k = N := e
    subst e
    refine ⟨l, h, ?_, i⟩
    unfold forG
    rw [he l h i]
  | m + 1, k, e, f + 1, hf, l, h, i => by
    obtain ⟨v, ups, e1, e2, l2, h2, h3, e3, e4, i2⟩ := hs k (by omega) l h i
    obtain ⟨l', h', e5, i3⟩ := forG_inv I N hs he m (k + 1) (by omega) f (by omega) _ _ i2
    refine ⟨l', h', ?_, i3⟩
    unfold forG
    simp only [e1, e2]
    rcases e3 with e3 | e3
    · rw [e3]; simp only [Rs.bind, e4, e5]
    · rw [e3]; simp only [Rs.bind, e4, e5]
theorem stp_range (N k : Nat) (h : Hea) : stp h k (.vals (rangeV 0 N)) = some (if k < N then some (.int k) else none) := by
  show some (rangeV 0 N)[k]? = _
  unfold rangeV
  rw [List.getElem?_map]
  by_cases q : k < N
  · rw [if_pos q, List.getElem?_eq_getElem (by simpa using q), List.getElem_range]
    simp
  · rw [if_neg q, List.getElem?_eq_none (by simpa using q)]
    rfl
theorem forG_range {B : Sx} {ns : List Int} {m N : Nat} {step : Int} {l : Lo} {h : Hea} (i : LwI ns m (step * (0 : Nat)) l h) (h0 : 0 ≤ step)
    (hs : ∀ (k : Nat) (c : Int) (l : Lo) (h : Hea), 0 ≤ c → c ≤ step * N → LwI ns m c l h → k < N → Turned 2 (B (l.set 2 (some (.int k))) h) (LwI ns m (c + step))) (F : Nat) (hF : N < F) :
    ∃ l' h', forG (.vals (rangeV 0 N)) (.nm 2) B 2 F 0 l h = .ok (.nx l') h' ∧ LwI ns m (step * N) l' h' :=
  forG_inv (src := .vals (rangeV 0 N)) (tg := .nm 2) (B := B) (n := 2) (fun k l h => LwI ns m (step * (k : Nat)) l h) N (fun k hk l h i => ⟨.int k, [(2, .int k)], by rw [stp_range, if_pos hk], rfl, by
    have t := hs k (step * k) l h (Int.mul_nonneg h0 (by omega)) (Int.mul_le_mul_of_nonneg_left (by omega) h0) i hk
    have e : step * ((k + 1 : Nat) : Int) = step * k + step := by rw [Int.natCast_add, Int.mul_add]; simp
    rw [e]
    exact t⟩) (fun l h _ => by rw [stp_range, if_neg (by omega)]) N 0 (by omega) F hF l h i
theorem LwI.zero {ns : List Int} {m : Nat} {step : Int} {l : Lo} {h : Hea} (i : LwI ns m 0 l h) : LwI ns m (step * (0 : Nat)) l h := by
  have : step * ((0 : Nat) : Int) = 0 := by simp
  rw [this]; exact i
theorem iRange1_ok {A : Ex} {l : Lo} {h : Hea} {j : Int} (e : A l h = .ok (.int j) h) (h0 : -1000000 < j) (h1 : j < 1000000) : iRange1 (aCons A aNil) l h = .ok (.vals (rangeV 0 j.toNat)) h := by
  have c : (decide (-1000000 < j) && decide (j < 1000000)) = true := by rw [Bool.and_eq_true]; exact ⟨decide_eq_true h0, decide_eq_true h1⟩
  unfold iRange1 aCons aNil
  rw [e]
  simp only [Rs.bind]
  rw [if_pos c]
theorem bigN_le : 100000 ≤ bigN := by decide +kernel
/-- a law of turns: each turn goes on -/
theorem law_turns {B T : Sx} {ns : List Int} {m N : Nat} {step : Int} (j : Int) (hj : (N : Int) = j) (hN : N < 100000) (l : Lo) (h : Hea) (i : LwI ns m 0 l h) (h0 : 0 ≤ step)
    (hs : ∀ (k : Nat) (c : Int) (l : Lo) (h : Hea), 0 ≤ c → c ≤ step * N → LwI ns m c l h → k < N → Turned 2 (B (l.set 2 (some (.int k))) h) (LwI ns m (c + step))) :
    ∃ l' h', sForG (iRange1 (aCons (cV (.int j)) aNil)) (.nm 2) B l h = .ok (.nx l') h' ∧ LwI ns m (step * N) l' h' := by
  obtain ⟨a, b, c, d, eh, ha, hb, hc, hd⟩ := i.own.it
  have en : h.n = 2 := by rw [eh]
  subst hj
  have e1 : iRange1 (aCons (cV (.int (N : Int))) aNil) l h = .ok (.vals (rangeV 0 N)) h := by
    have := iRange1_ok (A := cV (.int (N : Int))) (l := l) (h := h) rfl (by omega) (by omega)
    rw [Int.toNat_natCast] at this
    exact this
  have hB : 100000 ≤ bigN := bigN_le
  obtain ⟨l', h', e, q⟩ := forG_range i.zero h0 hs bigN (Nat.lt_of_lt_of_le hN hB)
  refine ⟨l', h', ?_, q⟩
  have e2 : sForG (iRange1 (aCons (cV (.int (N : Int))) aNil)) (.nm 2) B l h = (iRange1 (aCons (cV (.int (N : Int))) aNil) l h).bind fun src h1 => forG src (.nm 2) B h1.n bigN 0 l h1 := by unfold sForG; rfl
  rw [e2, e1]
  rw [← e, ← en]
  unfold Rs.bind
  with_reducible rfl
theorem callF_ok {n : Nat} {m : Fn} {B : Ax} {l : Lo} {h h1 h2 : Hea} {xs : List Va} {v : Va} (e : B l h = .ok xs h1) (hn : xs.length = n) (e2 : m xs h1 = .ok v h2) : callF n m B l h = .ok v h2 := by
  unfold callF
  rw [e]
  simp only [Rs.bind]
  rw [if_pos hn, e2]
  rfl
/-- a draw below a number -/
theorem draw_ok {A : Ex} {l : Lo} {h : Hea} {j : Int} {r : Int} {h' : Hea} (hv : l[1]? = some (some (.ref 1))) (eA : A l h = .ok (.int j) h) (e : mNext [.ref 1, .int j] h = .ok (.int r) h') : callF 2 mNext (aCons (vr 1) (aCons A aNil)) l h = .ok (.int r) h' :=
  callF_ok (xs := [.ref 1, .int j]) (h1 := h) (by unfold aCons; rw [vr_ok hv]; simp only [Rs.bind]; rw [eA]; rfl) rfl e
end Rf

namespace LK
open PySem PySem.Spec PyProof.Rows L2 Rf
def topS (i : Nat) : Stmt := PySem.Challenge.pw_wholefree_k70_basic_commutators_in_their.main.body.getD i (.Pass ⟨0, 0, 0, 0⟩)
/-! ### is_integer -/
abbrev s_is_integer : Stmt := topS 5
abbrev N_is_integer : List Str := ["value"]
theorem sc_is_integer : FnScope N_is_integer ["value"] (defScope s_is_integer) := ⟨rfl, rfl, rfl, by decide +kernel, rfl, by decide +kernel, by decide +kernel⟩
def bd_is_integer : Sx := (sRet (vAnd (instE [.int] (vr 0)) (vNot (instE [.bool] (vr 0)))))
def m_is_integer : Fn := fnM 1 bd_is_integer
theorem ok_is_integer {P : Program} {w : World} {K : PySem.W.Frag} {mg : Str → Option Value} {base : Heap} {f : Addr} {fd : FuncData} (b_isinstance : mg "isinstance" = none) (b_int : mg "int" = none) (b_bool : mg "bool" = none) (F : Fun K "is_integer" "is_integer" s_is_integer f fd) (hm : mg "is_integer" = some (.ref f)) : Callee P w K mg base "is_integer" s_is_integer ["value"] 1 m_is_integer :=
  Callee.mk' (k := 0) F hm sc_is_integer rfl (by decide) (fun _ _ _ _ _ _ us hl => match us, hl with | [_], _ => rfl) fun cdv A outer s H E hr => by
  have nd : List.Nodup N_is_integer := sc_is_integer.nd
  have hu := hu65 hr
  exact (sxs_one (sx_ret (ex_and (ex_inst .int (by rfl) b_isinstance (ex_var 0 (pv 0)) (by rfl) b_int (by decide +kernel)) (ex_one (ex_not (ex_inst .bool (by rfl) b_isinstance (ex_var 0 (pv 0)) (by rfl) b_bool (by decide +kernel)))))))
/-! ### check_natural -/
abbrev s_check_natural : Stmt := topS 6
abbrev N_check_natural : List Str := ["value", "least"]
theorem sc_check_natural : FnScope N_check_natural ["value", "least"] (defScope s_check_natural) := ⟨rfl, rfl, rfl, by decide +kernel, rfl, by decide +kernel, by decide +kernel⟩
def bd_check_natural : Sx := (sIf (tOr (tNot (trB (callF 1 m_is_integer (aCons (vr 0) aNil)))) (isB (op2 vLt (vr 0) (vr 1)))) sNever sNil)
def m_check_natural : Fn := fnM 2 bd_check_natural
theorem ok_check_natural {P : Program} {w : World} {K : PySem.W.Frag} {mg : Str → Option Value} {base : Heap} {f : Addr} {fd : FuncData} (c_is_integer : Callee P w K mg base "is_integer" s_is_integer ["value"] 1 m_is_integer) (F : Fun K "check_natural" "check_natural" s_check_natural f fd) (hm : mg "check_natural" = some (.ref f)) : Callee P w K mg base "check_natural" s_check_natural ["value", "least"] 2 m_check_natural :=
  Callee.mk' (k := 1) F hm sc_check_natural rfl (by decide) (fun _ _ _ _ _ _ us hl => match us, hl with | [_, _], _ => rfl) fun cdv A outer s H E hr => by
  have nd : List.Nodup N_check_natural := sc_check_natural.nd
  have hu := hu65 hr
  exact (sxs_one (sx_if (tx_w (wx_or (tx_not (tx_truth (ex_call c_is_integer (hr.mono (by decide)) (by rfl) (ax_cons (ex_var 0 (pv 0)) ax_nil)))) (wx_or1 (tx_lt (ex_var 0 (pv 0)) (ex_var 1 (pv 1)))))) (sxs_one sx_never) sxs_nil))
/-! ### is_size -/
abbrev s_is_size : Stmt := topS 7
abbrev N_is_size : List Str := ["value"]
theorem sc_is_size : FnScope N_is_size ["value"] (defScope s_is_size) := ⟨rfl, rfl, rfl, by decide +kernel, rfl, by decide +kernel, by decide +kernel⟩
def bd_is_size : Sx := (sRet (vAnd (callF 1 m_is_integer (aCons (vr 0) aNil)) (chn vLe vLe (cV (.int 1)) (vr 0) (callE (fn1 vLen) (aCons (cV (.str [97, 98, 99, 100, 101, 102, 103, 104, 105, 106, 107, 108, 109, 110, 111, 112, 113, 114, 115, 116, 117, 118, 119, 120, 121, 122])) aNil)))))
def m_is_size : Fn := fnM 1 bd_is_size
theorem ok_is_size {P : Program} {w : World} {K : PySem.W.Frag} {mg : Str → Option Value} {base : Heap} {f : Addr} {fd : FuncData} (c_is_integer : Callee P w K mg base "is_integer" s_is_integer ["value"] 1 m_is_integer) (b_len : mg "len" = none) {t_ALPHABET : Tok} (g_ALPHABET : mg "ALPHABET" = some (.str "abcdefghijklmnopqrstuvwxyz" t_ALPHABET)) (F : Fun K "is_size" "is_size" s_is_size f fd) (hm : mg "is_size" = some (.ref f)) : Callee P w K mg base "is_size" s_is_size ["value"] 2 m_is_size :=
  Callee.mk' (k := 1) F hm sc_is_size rfl (by decide) (fun _ _ _ _ _ _ us hl => match us, hl with | [_], _ => rfl) fun cdv A outer s H E hr => by
  have nd : List.Nodup N_is_size := sc_is_size.nd
  have hu := hu65 hr
  exact (sxs_one (sx_ret (ex_and (ex_call c_is_integer (hr.mono (by decide)) (by rfl) (ax_cons (ex_var 0 (pv 0)) ax_nil)) (ex_one (ex_leLe ex_int (ex_var 0 (pv 0)) (ex_len (by rfl) b_len (ex_gstr (by rfl) g_ALPHABET rfl)))))))
/-! ### check_size -/
abbrev s_check_size : Stmt := topS 8
abbrev N_check_size : List Str := ["size"]
theorem sc_check_size : FnScope N_check_size ["size"] (defScope s_check_size) := ⟨rfl, rfl, rfl, by decide +kernel, rfl, by decide +kernel, by decide +kernel⟩
def bd_check_size : Sx := (sIf (tNot (trB (callF 1 m_is_size (aCons (vr 0) aNil)))) sNever sNil)
def m_check_size : Fn := fnM 1 bd_check_size
theorem ok_check_size {P : Program} {w : World} {K : PySem.W.Frag} {mg : Str → Option Value} {base : Heap} {f : Addr} {fd : FuncData} (c_is_size : Callee P w K mg base "is_size" s_is_size ["value"] 2 m_is_size) (F : Fun K "check_size" "check_size" s_check_size f fd) (hm : mg "check_size" = some (.ref f)) : Callee P w K mg base "check_size" s_check_size ["size"] 3 m_check_size :=
  Callee.mk' (k := 2) F hm sc_check_size rfl (by decide) (fun _ _ _ _ _ _ us hl => match us, hl with | [_], _ => rfl) fun cdv A outer s H E hr => by
  have nd : List.Nodup N_check_size := sc_check_size.nd
  have hu := hu65 hr
  exact (sxs_one (sx_if (tx_not (tx_truth (ex_call c_is_size (hr.mono (by decide)) (by rfl) (ax_cons (ex_var 0 (pv 0)) ax_nil)))) (sxs_one sx_never) sxs_nil))
/-! ### inverse_of -/
abbrev s_inverse_of : Stmt := topS 10
abbrev N_inverse_of : List Str := ["word"]
theorem sc_inverse_of : FnScope N_inverse_of ["word"] (defScope s_inverse_of) := ⟨rfl, rfl, rfl, by decide +kernel, rfl, by decide +kernel, by decide +kernel⟩
def bd_inverse_of : Sx := (sRet (methE .str vSwap (op1 vRev (vr 0)) aNil))
def m_inverse_of : Fn := fnM 1 bd_inverse_of
theorem ok_inverse_of {P : Program} {w : World} {K : PySem.W.Frag} {mg : Str → Option Value} {base : Heap} {f : Addr} {fd : FuncData} (F : Fun K "inverse_of" "inverse_of" s_inverse_of f fd) (hm : mg "inverse_of" = some (.ref f)) : Callee P w K mg base "inverse_of" s_inverse_of ["word"] 1 m_inverse_of :=
  Callee.mk' (k := 0) F hm sc_inverse_of rfl (by decide) (fun _ _ _ _ _ _ us hl => match us, hl with | [_], _ => rfl) fun cdv A outer s H E hr => by
  have nd : List.Nodup N_inverse_of := sc_inverse_of.nd
  have hu := hu65 hr
  exact (sxs_one (sx_ret (ex_swapcase (ex_rev (ex_var 0 (pv 0))))))
/-! ### reduced_of -/
abbrev s_reduced_of : Stmt := topS 11
abbrev N_reduced_of : List Str := ["word", "found", "sign"]
theorem sc_reduced_of : FnScope N_reduced_of ["word"] (defScope s_reduced_of) := ⟨rfl, rfl, rfl, by decide +kernel, rfl, by decide +kernel, by decide +kernel⟩
def bd_reduced_of : Sx := (sSeq (sSet 1 (lstE aNil))
  (sSeq (sFor (iVal (vr 0)) (.nm 2) (sIf (tAnd (isB (op2 vNe (vr 1) (lstE aNil))) (isB (op2 vEq (op2 vIx (vr 1) (op1 vNeg (cV (.int 1)))) (methE .str vSwap (vr 2) aNil)))) (sDrop (methE .list vPop (vr 1) aNil)) (sDrop (methE .list vAppend (vr 1) (aCons (vr 2) aNil)))))
  (sRet (methE .str vJoin (cV (.str [])) (aCons (vr 1) aNil)))))
def m_reduced_of : Fn := fnM 3 bd_reduced_of
theorem ok_reduced_of {P : Program} {w : World} {K : PySem.W.Frag} {mg : Str → Option Value} {base : Heap} {f : Addr} {fd : FuncData} (F : Fun K "reduced_of" "reduced_of" s_reduced_of f fd) (hm : mg "reduced_of" = some (.ref f)) : Callee P w K mg base "reduced_of" s_reduced_of ["word"] 1 m_reduced_of :=
  Callee.mk' (k := 0) F hm sc_reduced_of rfl (by decide) (fun _ _ _ _ _ _ us hl => match us, hl with | [_], _ => rfl) fun cdv A outer s H E hr => by
  have nd : List.Nodup N_reduced_of := sc_reduced_of.nd
  have hu := hu65 hr
  exact (sxs_cons (sx_set 1 (fun te h => ps_set (i := 1) nd rfl (by first | exact Or.inl rfl | exact Or.inr rfl) h) (ex_lst ax_nil))
  (sxs_cons (sx_for PassesOwn.never rfl (ix_val (ex_var 0 (pv 0))) (gx_name 2 (pg_name (i := 2) nd rfl (by first | exact Or.inl rfl | exact Or.inr rfl))) (sxs_one (sx_if (tx_w (wx_and (tx_ne hu (ex_var 1 (pv 1)) (ex_lst ax_nil)) (wx_and1 (tx_eq hu (ex_ixS (ex_var 1 (pv 1)) (ex_neg ex_int)) (ex_swapcase (ex_var 2 (pv 2))))))) (sxs_one (sx_expr (ex_pop0 (ex_var 1 (pv 1))))) (sxs_one (sx_expr (ex_append (ex_var 1 (pv 1)) (ax_cons (ex_var 2 (pv 2)) ax_nil)))))))
  (sxs_one (sx_ret (ex_join (ex_str (s := []) rfl) (ax_cons (ex_var 1 (pv 1)) ax_nil))))))
/-! ### commutator_of -/
abbrev s_commutator_of : Stmt := topS 13
abbrev N_commutator_of : List Str := ["word", "second_word"]
theorem sc_commutator_of : FnScope N_commutator_of ["word", "second_word"] (defScope s_commutator_of) := ⟨rfl, rfl, rfl, by decide +kernel, rfl, by decide +kernel, by decide +kernel⟩
def bd_commutator_of : Sx := (sRet (callF 1 m_reduced_of (aCons (op2 vAdd (op2 vAdd (op2 vAdd (callF 1 m_inverse_of (aCons (vr 0) aNil)) (callF 1 m_inverse_of (aCons (vr 1) aNil))) (vr 0)) (vr 1)) aNil)))
def m_commutator_of : Fn := fnM 2 bd_commutator_of
theorem ok_commutator_of {P : Program} {w : World} {K : PySem.W.Frag} {mg : Str → Option Value} {base : Heap} {f : Addr} {fd : FuncData} (c_reduced_of : Callee P w K mg base "reduced_of" s_reduced_of ["word"] 1 m_reduced_of) (c_inverse_of : Callee P w K mg base "inverse_of" s_inverse_of ["word"] 1 m_inverse_of) (F : Fun K "commutator_of" "commutator_of" s_commutator_of f fd) (hm : mg "commutator_of" = some (.ref f)) : Callee P w K mg base "commutator_of" s_commutator_of ["word", "second_word"] 2 m_commutator_of :=
  Callee.mk' (k := 1) F hm sc_commutator_of rfl (by decide) (fun _ _ _ _ _ _ us hl => match us, hl with | [_, _], _ => rfl) fun cdv A outer s H E hr => by
  have nd : List.Nodup N_commutator_of := sc_commutator_of.nd
  have hu := hu65 hr
  exact (sxs_one (sx_ret (ex_call c_reduced_of (hr.mono (by decide)) (by rfl) (ax_cons (ex_add (ex_add (ex_add (ex_call c_inverse_of (hr.mono (by decide)) (by rfl) (ax_cons (ex_var 0 (pv 0)) ax_nil)) (ex_call c_inverse_of (hr.mono (by decide)) (by rfl) (ax_cons (ex_var 1 (pv 1)) ax_nil))) (ex_var 0 (pv 0))) (ex_var 1 (pv 1))) ax_nil))))
/-! ### weights_of -/
abbrev s_weights_of : Stmt := topS 15
abbrev N_weights_of : List Str := ["some", "found", "own"]
theorem sc_weights_of : FnScope N_weights_of ["some"] (defScope s_weights_of) := ⟨rfl, rfl, rfl, by decide +kernel, rfl, by decide +kernel, by decide +kernel⟩
def bd_weights_of : Sx := (sSeq (sSet 1 (lstE aNil))
  (sSeq (sFor (iVal (vr 0)) (.nm 2) (sDrop (methE .list vAppend (vr 1) (aCons (ifE (trB (instE [.str] (vr 2))) (cV (.int 1)) (op2 vAdd (op2 vIx (vr 1) (op2 vIx (vr 2) (cV (.int 0)))) (op2 vIx (vr 1) (op2 vIx (vr 2) (cV (.int 1)))))) aNil))))
  (sRet (vr 1))))
def m_weights_of : Fn := fnM 3 bd_weights_of
theorem ok_weights_of {P : Program} {w : World} {K : PySem.W.Frag} {mg : Str → Option Value} {base : Heap} {f : Addr} {fd : FuncData} (b_isinstance : mg "isinstance" = none) (b_str : mg "str" = none) (F : Fun K "weights_of" "weights_of" s_weights_of f fd) (hm : mg "weights_of" = some (.ref f)) : Callee P w K mg base "weights_of" s_weights_of ["some"] 1 m_weights_of :=
  Callee.mk' (k := 0) F hm sc_weights_of rfl (by decide) (fun _ _ _ _ _ _ us hl => match us, hl with | [_], _ => rfl) fun cdv A outer s H E hr => by
  have nd : List.Nodup N_weights_of := sc_weights_of.nd
  have hu := hu65 hr
  exact (sxs_cons (sx_set 1 (fun te h => ps_set (i := 1) nd rfl (by first | exact Or.inl rfl | exact Or.inr rfl) h) (ex_lst ax_nil))
  (sxs_cons (sx_for PassesOwn.never rfl (ix_val (ex_var 0 (pv 0))) (gx_name 2 (pg_name (i := 2) nd rfl (by first | exact Or.inl rfl | exact Or.inr rfl))) (sxs_one (sx_expr (ex_append (ex_var 1 (pv 1)) (ax_cons (ex_if (tx_truth (ex_inst .str (by rfl) b_isinstance (ex_var 2 (pv 2)) (by rfl) b_str (by decide +kernel))) ex_int (ex_add (ex_ixS (ex_var 1 (pv 1)) (ex_ixS (ex_var 2 (pv 2)) ex_int)) (ex_ixS (ex_var 1 (pv 1)) (ex_ixS (ex_var 2 (pv 2)) ex_int)))) ax_nil)))))
  (sxs_one (sx_ret (ex_var 1 (pv 1))))))
/-! ### pairs_of_weight -/
abbrev s_pairs_of_weight : Stmt := topS 16
abbrev N_pairs_of_weight : List Str := ["some", "weight", "weights", "found", "i", "j"]
theorem sc_pairs_of_weight : FnScope N_pairs_of_weight ["some", "weight"] (defScope s_pairs_of_weight) := ⟨rfl, rfl, rfl, by decide +kernel, rfl, by decide +kernel, by decide +kernel⟩
def bd_pairs_of_weight : Sx := (sSeq (sPar [2, 3] (aCons (callF 1 m_weights_of (aCons (vr 0) aNil)) (aCons (lstE aNil) aNil)))
  (sSeq (sFor (iRange1 (aCons (callE (fn1 vLen) (aCons (vr 0) aNil)) aNil)) (.nm 4) (sFor (iRange1 (aCons (vr 4) aNil)) (.nm 5) (sIf (tAnd (isB (op2 vEq (op2 vAdd (op2 vIx (vr 2) (vr 4)) (op2 vIx (vr 2) (vr 5))) (vr 1))) (tOr (isB (op2 vEq (op2 vIx (vr 2) (vr 4)) (cV (.int 1)))) (isB (op2 vLe (op2 vIx (op2 vIx (vr 0) (vr 4)) (cV (.int 1))) (vr 5))))) (sDrop (methE .list vAppend (vr 3) (aCons (tupE (aCons (vr 4) (aCons (vr 5) aNil))) aNil))) sNil)))
  (sRet (vr 3))))
def m_pairs_of_weight : Fn := fnM 6 bd_pairs_of_weight
theorem ok_pairs_of_weight {P : Program} {w : World} {K : PySem.W.Frag} {mg : Str → Option Value} {base : Heap} {f : Addr} {fd : FuncData} (c_weights_of : Callee P w K mg base "weights_of" s_weights_of ["some"] 1 m_weights_of) (b_len : mg "len" = none) (b_range : mg "range" = none) (F : Fun K "pairs_of_weight" "pairs_of_weight" s_pairs_of_weight f fd) (hm : mg "pairs_of_weight" = some (.ref f)) : Callee P w K mg base "pairs_of_weight" s_pairs_of_weight ["some", "weight"] 2 m_pairs_of_weight :=
  Callee.mk' (k := 1) F hm sc_pairs_of_weight rfl (by decide) (fun _ _ _ _ _ _ us hl => match us, hl with | [_, _], _ => rfl) fun cdv A outer s H E hr => by
  have nd : List.Nodup N_pairs_of_weight := sc_pairs_of_weight.nd
  have hu := hu65 hr
  exact (sxs_cons (sx_par (i := 2) (j := 3) rfl nd rfl rfl (by decide) rfl rfl (ax_cons (ex_call c_weights_of (hr.mono (by decide)) (by rfl) (ax_cons (ex_var 0 (pv 0)) ax_nil)) (ax_cons (ex_lst ax_nil) ax_nil)))
  (sxs_cons (sx_for PassesOwn.never rfl (ix_range1 (by rfl) b_range (ax_cons (ex_len (by rfl) b_len (ex_var 0 (pv 0))) ax_nil)) (gx_name 4 (pg_name (i := 4) nd rfl (by first | exact Or.inl rfl | exact Or.inr rfl))) (sxs_one (sx_for PassesOwn.never rfl (ix_range1 (by rfl) b_range (ax_cons (ex_var 4 (pv 4)) ax_nil)) (gx_name 5 (pg_name (i := 5) nd rfl (by first | exact Or.inl rfl | exact Or.inr rfl))) (sxs_one (sx_if (tx_w (wx_and (tx_eq hu (ex_add (ex_ixS (ex_var 2 (pv 2)) (ex_var 4 (pv 4))) (ex_ixS (ex_var 2 (pv 2)) (ex_var 5 (pv 5)))) (ex_var 1 (pv 1))) (wx_and1 (tx_w (wx_or (tx_eq hu (ex_ixS (ex_var 2 (pv 2)) (ex_var 4 (pv 4))) ex_int) (wx_or1 (tx_le (ex_ixS (ex_ixS (ex_var 0 (pv 0)) (ex_var 4 (pv 4))) ex_int) (ex_var 5 (pv 5))))))))) (sxs_one (sx_expr (ex_append (ex_var 3 (pv 3)) (ax_cons (ex_tup (ax_cons (ex_var 4 (pv 4)) (ax_cons (ex_var 5 (pv 5)) ax_nil))) ax_nil)))) sxs_nil)))))
  (sxs_one (sx_ret (ex_var 3 (pv 3))))))
/-! ### basics -/
abbrev s_basics : Stmt := topS 17
abbrev N_basics : List Str := ["size", "k", "found", "weight"]
theorem sc_basics : FnScope N_basics ["size", "k"] (defScope s_basics) := ⟨rfl, rfl, rfl, by decide +kernel, rfl, by decide +kernel, by decide +kernel⟩
def bd_basics : Sx := (sSeq (sSet 2 (ifE (isB (op2 vGt (vr 1) (cV (.int 0)))) (callE (fn1 vList) (aCons (slE (cV (.str [97, 98, 99, 100, 101, 102, 103, 104, 105, 106, 107, 108, 109, 110, 111, 112, 113, 114, 115, 116, 117, 118, 119, 120, 121, 122])) noPart (aPart (vr 0))) aNil)) (lstE aNil)))
  (sSeq (sFor (iRange2 (aCons (cV (.int 2)) (aCons (op2 vAdd (vr 1) (cV (.int 1))) aNil))) (.nm 3) (sSet 2 (op2 vAdd (vr 2) (callF 2 m_pairs_of_weight (aCons (vr 2) (aCons (vr 3) aNil))))))
  (sRet (vr 2))))
def m_basics : Fn := fnM 4 bd_basics
theorem ok_basics {P : Program} {w : World} {K : PySem.W.Frag} {mg : Str → Option Value} {base : Heap} {f : Addr} {fd : FuncData} (c_pairs_of_weight : Callee P w K mg base "pairs_of_weight" s_pairs_of_weight ["some", "weight"] 2 m_pairs_of_weight) (b_list : mg "list" = none) (b_range : mg "range" = none) {t_ALPHABET : Tok} (g_ALPHABET : mg "ALPHABET" = some (.str "abcdefghijklmnopqrstuvwxyz" t_ALPHABET)) (F : Fun K "basics" "basics" s_basics f fd) (hm : mg "basics" = some (.ref f)) : Callee P w K mg base "basics" s_basics ["size", "k"] 3 m_basics :=
  Callee.mk' (k := 2) F hm sc_basics rfl (by decide) (fun _ _ _ _ _ _ us hl => match us, hl with | [_, _], _ => rfl) fun cdv A outer s H E hr => by
  have nd : List.Nodup N_basics := sc_basics.nd
  have hu := hu65 hr
  exact (sxs_cons (sx_set 2 (fun te h => ps_set (i := 2) nd rfl (by first | exact Or.inl rfl | exact Or.inr rfl) h) (ex_if (tx_gt (ex_var 1 (pv 1)) ex_int) (ex_list1 rfl (by rfl) b_list (ex_slice (ex_gstr (by rfl) g_ALPHABET rfl) px_none (px_some (ex_var 0 (pv 0))))) (ex_lst ax_nil)))
  (sxs_cons (sx_for PassesOwn.never rfl (ix_range2 (by rfl) b_range (ax_cons ex_int (ax_cons (ex_add (ex_var 1 (pv 1)) ex_int) ax_nil))) (gx_name 3 (pg_name (i := 3) nd rfl (by first | exact Or.inl rfl | exact Or.inr rfl))) (sxs_one (sx_set 2 (fun te h => ps_set (i := 2) nd rfl (by first | exact Or.inl rfl | exact Or.inr rfl) h) (ex_add (ex_var 2 (pv 2)) (ex_call c_pairs_of_weight (hr.mono (by decide)) (by rfl) (ax_cons (ex_var 2 (pv 2)) (ax_cons (ex_var 3 (pv 3)) ax_nil)))))))
  (sxs_one (sx_ret (ex_var 2 (pv 2))))))
/-! ### words_of_basics -/
abbrev s_words_of_basics : Stmt := topS 18
abbrev N_words_of_basics : List Str := ["some", "found", "own"]
theorem sc_words_of_basics : FnScope N_words_of_basics ["some"] (defScope s_words_of_basics) := ⟨rfl, rfl, rfl, by decide +kernel, rfl, by decide +kernel, by decide +kernel⟩
def bd_words_of_basics : Sx := (sSeq (sSet 1 (lstE aNil))
  (sSeq (sFor (iVal (vr 0)) (.nm 2) (sDrop (methE .list vAppend (vr 1) (aCons (ifE (trB (instE [.str] (vr 2))) (vr 2) (callF 2 m_commutator_of (aCons (op2 vIx (vr 1) (op2 vIx (vr 2) (cV (.int 0)))) (aCons (op2 vIx (vr 1) (op2 vIx (vr 2) (cV (.int 1)))) aNil)))) aNil))))
  (sRet (vr 1))))
def m_words_of_basics : Fn := fnM 3 bd_words_of_basics
theorem ok_words_of_basics {P : Program} {w : World} {K : PySem.W.Frag} {mg : Str → Option Value} {base : Heap} {f : Addr} {fd : FuncData} (c_commutator_of : Callee P w K mg base "commutator_of" s_commutator_of ["word", "second_word"] 2 m_commutator_of) (b_isinstance : mg "isinstance" = none) (b_str : mg "str" = none) (F : Fun K "words_of_basics" "words_of_basics" s_words_of_basics f fd) (hm : mg "words_of_basics" = some (.ref f)) : Callee P w K mg base "words_of_basics" s_words_of_basics ["some"] 3 m_words_of_basics :=
  Callee.mk' (k := 2) F hm sc_words_of_basics rfl (by decide) (fun _ _ _ _ _ _ us hl => match us, hl with | [_], _ => rfl) fun cdv A outer s H E hr => by
  have nd : List.Nodup N_words_of_basics := sc_words_of_basics.nd
  have hu := hu65 hr
  exact (sxs_cons (sx_set 1 (fun te h => ps_set (i := 1) nd rfl (by first | exact Or.inl rfl | exact Or.inr rfl) h) (ex_lst ax_nil))
  (sxs_cons (sx_for PassesOwn.never rfl (ix_val (ex_var 0 (pv 0))) (gx_name 2 (pg_name (i := 2) nd rfl (by first | exact Or.inl rfl | exact Or.inr rfl))) (sxs_one (sx_expr (ex_append (ex_var 1 (pv 1)) (ax_cons (ex_if (tx_truth (ex_inst .str (by rfl) b_isinstance (ex_var 2 (pv 2)) (by rfl) b_str (by decide +kernel))) (ex_var 2 (pv 2)) (ex_call c_commutator_of (hr.mono (by decide)) (by rfl) (ax_cons (ex_ixS (ex_var 1 (pv 1)) (ex_ixS (ex_var 2 (pv 2)) ex_int)) (ax_cons (ex_ixS (ex_var 1 (pv 1)) (ex_ixS (ex_var 2 (pv 2)) ex_int)) ax_nil)))) ax_nil)))))
  (sxs_one (sx_ret (ex_var 1 (pv 1))))))
/-! ### basic_list -/
abbrev s_basic_list : Stmt := topS 19
abbrev N_basic_list : List Str := ["size", "k"]
theorem sc_basic_list : FnScope N_basic_list ["size", "k"] (defScope s_basic_list) := ⟨rfl, rfl, rfl, by decide +kernel, rfl, by decide +kernel, by decide +kernel⟩
def bd_basic_list : Sx := (sSeq (sDrop (callF 1 m_check_size (aCons (vr 0) aNil)))
  (sSeq (sDrop (callF 2 m_check_natural (aCons (vr 1) (aCons (cV (.int 0)) aNil))))
  (sRet (callE (fn1 vTuple) (aCons (callF 2 m_basics (aCons (vr 0) (aCons (vr 1) aNil))) aNil)))))
def m_basic_list : Fn := fnM 2 bd_basic_list
theorem ok_basic_list {P : Program} {w : World} {K : PySem.W.Frag} {mg : Str → Option Value} {base : Heap} {f : Addr} {fd : FuncData} (c_check_size : Callee P w K mg base "check_size" s_check_size ["size"] 3 m_check_size) (c_check_natural : Callee P w K mg base "check_natural" s_check_natural ["value", "least"] 2 m_check_natural) (c_basics : Callee P w K mg base "basics" s_basics ["size", "k"] 3 m_basics) (b_tuple : mg "tuple" = none) (F : Fun K "basic_list" "basic_list" s_basic_list f fd) (hm : mg "basic_list" = some (.ref f)) : Callee P w K mg base "basic_list" s_basic_list ["size", "k"] 4 m_basic_list :=
  Callee.mk' (k := 3) F hm sc_basic_list rfl (by decide) (fun _ _ _ _ _ _ us hl => match us, hl with | [_, _], _ => rfl) fun cdv A outer s H E hr => by
  have nd : List.Nodup N_basic_list := sc_basic_list.nd
  have hu := hu65 hr
  exact (sxs_cons (sx_expr (ex_call c_check_size (hr.mono (by decide)) (by rfl) (ax_cons (ex_var 0 (pv 0)) ax_nil)))
  (sxs_cons (sx_expr (ex_call c_check_natural (hr.mono (by decide)) (by rfl) (ax_cons (ex_var 1 (pv 1)) (ax_cons ex_int ax_nil))))
  (sxs_one (sx_ret (ex_tuple1 (by rfl) b_tuple (ex_call c_basics (hr.mono (by decide)) (by rfl) (ax_cons (ex_var 0 (pv 0)) (ax_cons (ex_var 1 (pv 1)) ax_nil))))))))
/-! ### basic_words -/
abbrev s_basic_words : Stmt := topS 20
abbrev N_basic_words : List Str := ["size", "k"]
theorem sc_basic_words : FnScope N_basic_words ["size", "k"] (defScope s_basic_words) := ⟨rfl, rfl, rfl, by decide +kernel, rfl, by decide +kernel, by decide +kernel⟩
def bd_basic_words : Sx := (sSeq (sDrop (callF 1 m_check_size (aCons (vr 0) aNil)))
  (sSeq (sDrop (callF 2 m_check_natural (aCons (vr 1) (aCons (cV (.int 0)) aNil))))
  (sRet (callE (fn1 vTuple) (aCons (callF 1 m_words_of_basics (aCons (callF 2 m_basics (aCons (vr 0) (aCons (vr 1) aNil))) aNil)) aNil)))))
def m_basic_words : Fn := fnM 2 bd_basic_words
theorem ok_basic_words {P : Program} {w : World} {K : PySem.W.Frag} {mg : Str → Option Value} {base : Heap} {f : Addr} {fd : FuncData} (c_check_size : Callee P w K mg base "check_size" s_check_size ["size"] 3 m_check_size) (c_check_natural : Callee P w K mg base "check_natural" s_check_natural ["value", "least"] 2 m_check_natural) (c_words_of_basics : Callee P w K mg base "words_of_basics" s_words_of_basics ["some"] 3 m_words_of_basics) (c_basics : Callee P w K mg base "basics" s_basics ["size", "k"] 3 m_basics) (b_tuple : mg "tuple" = none) (F : Fun K "basic_words" "basic_words" s_basic_words f fd) (hm : mg "basic_words" = some (.ref f)) : Callee P w K mg base "basic_words" s_basic_words ["size", "k"] 4 m_basic_words :=
  Callee.mk' (k := 3) F hm sc_basic_words rfl (by decide) (fun _ _ _ _ _ _ us hl => match us, hl with | [_, _], _ => rfl) fun cdv A outer s H E hr => by
  have nd : List.Nodup N_basic_words := sc_basic_words.nd
  have hu := hu65 hr
  exact (sxs_cons (sx_expr (ex_call c_check_size (hr.mono (by decide)) (by rfl) (ax_cons (ex_var 0 (pv 0)) ax_nil)))
  (sxs_cons (sx_expr (ex_call c_check_natural (hr.mono (by decide)) (by rfl) (ax_cons (ex_var 1 (pv 1)) (ax_cons ex_int ax_nil))))
  (sxs_one (sx_ret (ex_tuple1 (by rfl) b_tuple (ex_call c_words_of_basics (hr.mono (by decide)) (by rfl) (ax_cons (ex_call c_basics (hr.mono (by decide)) (by rfl) (ax_cons (ex_var 0 (pv 0)) (ax_cons (ex_var 1 (pv 1)) ax_nil))) ax_nil)))))))
/-! ### _law_next -/
abbrev s__law_next : Stmt := topS 22
abbrev N__law_next : List Str := ["own", "many", "cell", "small", "digit"]
theorem sc__law_next : FnScope N__law_next ["own", "many"] (defScope s__law_next) := ⟨rfl, rfl, rfl, by decide +kernel, rfl, by decide +kernel, by decide +kernel⟩
def bd__law_next : Sx := (sSeq (augL (vr 0) (cV (.int 2)) vIAdd (cV (.int 1)))
  (sSeq (sIf (tAnd (isB (op2 vEq (op2 vIx (vr 0) (cV (.int 0))) (cV (.int 0)))) (isB (op2 vLt (op2 vIx (vr 0) (cV (.int 3))) (callE (fn1 vLen) (aCons (op2 vIx (vr 0) (cV (.int 4))) aNil))))) (sSeq (sSet 2 (op2 vIx (op2 vIx (vr 0) (cV (.int 4))) (op2 vIx (vr 0) (cV (.int 3)))))
  (sSeq (augL (vr 0) (cV (.int 3)) vIAdd (cV (.int 1)))
  (sIf (isB (op2 vGe (vr 2) (op2 vPow (cV (.int 10)) (cV (.int 18))))) (stL (vr 0) (cV (.int 0)) (op2 vSub (vr 2) (op2 vPow (cV (.int 10)) (cV (.int 18))))) (sSeq (sSet 3 (op2 vMod (callE (fn1 vInt) (aCons (vr 2) aNil)) (cV (.int 1000000007))))
  (stL (vr 0) (cV (.int 1)) (op2 vMod (callE (fn1 vInt) (aCons (op2 vAdd (op2 vAdd (op2 vAdd (op2 vMul (op2 vIx (vr 0) (cV (.int 1))) (cV (.int 30269))) (op2 vMul (vr 3) (vr 3))) (op2 vMul (cV (.int 11)) (vr 3))) (op2 vMul (cV (.int 5)) (op2 vIx (vr 0) (cV (.int 3))))) aNil)) (cV (.int 2147483563)))))))) sNil)
  (sSeq (sIf (isB (op2 vGt (op2 vIx (vr 0) (cV (.int 0))) (cV (.int 0)))) (sSeq (sSet 4 (op2 vMod (callE (fn1 vInt) (aCons (op2 vIx (vr 0) (cV (.int 0))) aNil)) (vr 1)))
  (sSeq (stL (vr 0) (cV (.int 0)) (op2 vDiv (op2 vIx (vr 0) (cV (.int 0))) (vr 1)))
  (sRet (vr 4)))) sNil)
  (sSeq (stL (vr 0) (cV (.int 1)) (op2 vMod (callE (fn1 vInt) (aCons (op2 vAdd (op2 vAdd (op2 vMul (op2 vIx (vr 0) (cV (.int 1))) (op2 vIx (vr 0) (cV (.int 1)))) (op2 vMul (cV (.int 40014)) (op2 vIx (vr 0) (cV (.int 2))))) (cV (.int 37))) aNil)) (cV (.int 2147483563))))
  (sRet (op2 vMod (callE (fn1 vInt) (aCons (op2 vAdd (op2 vDiv (op2 vIx (vr 0) (cV (.int 1))) (cV (.int 8))) (op2 vMul (op2 vMul (cV (.int 3)) (op2 vIx (vr 0) (cV (.int 2)))) (op2 vIx (vr 0) (cV (.int 2))))) aNil)) (vr 1)))))))
def m__law_next : Fn := fnM 5 bd__law_next
theorem ok__law_next {P : Program} {w : World} {K : PySem.W.Frag} {mg : Str → Option Value} {base : Heap} {f : Addr} {fd : FuncData} (b_len : mg "len" = none) (b_int : mg "int" = none) (F : Fun K "_law_next" "_law_next" s__law_next f fd) (hm : mg "_law_next" = some (.ref f)) : Callee P w K mg base "_law_next" s__law_next ["own", "many"] 1 m__law_next :=
  Callee.mk' (k := 0) F hm sc__law_next rfl (by decide) (fun _ _ _ _ _ _ us hl => match us, hl with | [_, _], _ => rfl) fun cdv A outer s H E hr => by
  have nd : List.Nodup N__law_next := sc__law_next.nd
  have hu := hu65 hr
  exact (sxs_cons (sx_augL ip_addA s_iadd (ex_var 0 (pv 0)) ex_int ex_int)
  (sxs_cons (sx_if (tx_w (wx_and (tx_eq hu (ex_ixS (ex_var 0 (pv 0)) ex_int) ex_int) (wx_and1 (tx_lt (ex_ixS (ex_var 0 (pv 0)) ex_int) (ex_len (by rfl) b_len (ex_ixS (ex_var 0 (pv 0)) ex_int)))))) (sxs_cons (sx_set 2 (fun te h => ps_set (i := 2) nd rfl (by first | exact Or.inl rfl | exact Or.inr rfl) h) (ex_ixS (ex_ixS (ex_var 0 (pv 0)) ex_int) (ex_ixS (ex_var 0 (pv 0)) ex_int)))
  (sxs_cons (sx_augL ip_addA s_iadd (ex_var 0 (pv 0)) ex_int ex_int)
  (sxs_one (sx_if (tx_ge (ex_var 2 (pv 2)) (ex_pow ex_int ex_int)) (sxs_one (sx_stL (ex_var 0 (pv 0)) ex_int (ex_sub (ex_var 2 (pv 2)) (ex_pow ex_int ex_int)))) (sxs_cons (sx_set 3 (fun te h => ps_set (i := 3) nd rfl (by first | exact Or.inl rfl | exact Or.inr rfl) h) (ex_mod (ex_int1 (by rfl) b_int (ex_var 2 (pv 2))) ex_int))
  (sxs_one (sx_stL (ex_var 0 (pv 0)) ex_int (ex_mod (ex_int1 (by rfl) b_int (ex_add (ex_add (ex_add (ex_mul (ex_ixS (ex_var 0 (pv 0)) ex_int) ex_int) (ex_mul (ex_var 3 (pv 3)) (ex_var 3 (pv 3)))) (ex_mul ex_int (ex_var 3 (pv 3)))) (ex_mul ex_int (ex_ixS (ex_var 0 (pv 0)) ex_int)))) ex_int)))))))) sxs_nil)
  (sxs_cons (sx_if (tx_gt (ex_ixS (ex_var 0 (pv 0)) ex_int) ex_int) (sxs_cons (sx_set 4 (fun te h => ps_set (i := 4) nd rfl (by first | exact Or.inl rfl | exact Or.inr rfl) h) (ex_mod (ex_int1 (by rfl) b_int (ex_ixS (ex_var 0 (pv 0)) ex_int)) (ex_var 1 (pv 1))))
  (sxs_cons (sx_stL (ex_var 0 (pv 0)) ex_int (ex_div (ex_ixS (ex_var 0 (pv 0)) ex_int) (ex_var 1 (pv 1))))
  (sxs_one (sx_ret (ex_var 4 (pv 4)))))) sxs_nil)
  (sxs_cons (sx_stL (ex_var 0 (pv 0)) ex_int (ex_mod (ex_int1 (by rfl) b_int (ex_add (ex_add (ex_mul (ex_ixS (ex_var 0 (pv 0)) ex_int) (ex_ixS (ex_var 0 (pv 0)) ex_int)) (ex_mul ex_int (ex_ixS (ex_var 0 (pv 0)) ex_int))) ex_int)) ex_int))
  (sxs_one (sx_ret (ex_mod (ex_int1 (by rfl) b_int (ex_add (ex_div (ex_ixS (ex_var 0 (pv 0)) ex_int) ex_int) (ex_mul (ex_mul ex_int (ex_ixS (ex_var 0 (pv 0)) ex_int)) (ex_ixS (ex_var 0 (pv 0)) ex_int)))) (ex_var 1 (pv 1)))))))))
/-! ### _law_like -/
abbrev s__law_like : Stmt := topS 23
abbrev N__law_like : List Str := ["got", "due", "k"]
theorem sc__law_like : FnScope N__law_like ["got", "due"] (defScope s__law_like) := ⟨rfl, rfl, rfl, by decide +kernel, rfl, by decide +kernel, by decide +kernel⟩
def bd__law_like (m__law_like_d : Fn) : Sx := (sSeq (sIf (trB (instE [.list, .tuple] (vr 1))) (sSeq (sIf (tOr (tNot (trB (instE [.list, .tuple] (vr 0)))) (tOr (isB (op2 vNe (instE [.list] (vr 0)) (instE [.list] (vr 1)))) (isB (op2 vNe (callE (fn1 vLen) (aCons (vr 0) aNil)) (callE (fn1 vLen) (aCons (vr 1) aNil)))))) (sRet (cV (.bl false))) sNil)
  (sRet (callE (fn1 vAll) (aCons (lcE (iRange1 (aCons (callE (fn1 vLen) (aCons (vr 1) aNil)) aNil)) (.nm 2) [2] tTrue (callF 2 m__law_like_d (aCons (op2 vIx (vr 0) (vr 2)) (aCons (op2 vIx (vr 1) (vr 2)) aNil)))) aNil)))) sNil)
  (sSeq (sIf (isB (op2 vIs (vr 1) (cV .non))) (sRet (op2 vIs (vr 0) (cV .non))) sNil)
  (sSeq (sIf (trB (instE [.bool] (vr 1))) (sRet (vAnd (instE [.bool] (vr 0)) (op2 vEq (vr 0) (vr 1)))) sNil)
  (sSeq (sIf (trB (instE [.str] (vr 1))) (sRet (vAnd (instE [.str] (vr 0)) (op2 vEq (vr 0) (vr 1)))) sNil)
  (sRet (vAnd (instE [.int] (vr 0)) (vAnd (vNot (instE [.bool] (vr 0))) (op2 vEq (vr 0) (vr 1)))))))))
def m__law_like : Nat → Fn
  | 0 => fun _ _ => .no
  | d + 1 => fnM 3 (bd__law_like (m__law_like d))
theorem ok__law_like {P : Program} {w : World} {K : PySem.W.Frag} {mg : Str → Option Value} {base : Heap} {f : Addr} {fd : FuncData} (b_isinstance : mg "isinstance" = none) (b_list : mg "list" = none) (b_tuple : mg "tuple" = none) (b_len : mg "len" = none) (b_range : mg "range" = none) (b_all : mg "all" = none) (b_bool : mg "bool" = none) (b_str : mg "str" = none) (b_int : mg "int" = none) (F : Fun K "_law_like" "_law_like" s__law_like f fd) (hm : mg "_law_like" = some (.ref f)) : ∀ d : Nat, Callee P w K mg base "_law_like" s__law_like ["got", "due"] (1 + d) (m__law_like d)
  | 0 => Callee.zero F hm (fun _ _ _ _ _ _ us hl => match us, hl with | [_, _], _ => rfl)
  | d + 1 => Callee.mk' (k := 1 + d) F hm sc__law_like rfl (by decide) (fun _ _ _ _ _ _ us hl => match us, hl with | [_, _], _ => rfl) fun cdv A outer s H E hr => by
    have nd : List.Nodup N__law_like := sc__law_like.nd
    have hu := hu65 hr
    have c__law_like := ok__law_like (P := P) (w := w) (base := base) b_isinstance b_list b_tuple b_len b_range b_all b_bool b_str b_int F hm d
    exact (sxs_cons (sx_if (tx_truth (ex_inst2 .list .tuple (by rfl) b_isinstance (ex_var 1 (pv 1)) (by rfl) b_list (by decide +kernel) (by rfl) b_tuple (by decide +kernel))) (sxs_cons (sx_if (tx_w (wx_or (tx_not (tx_truth (ex_inst2 .list .tuple (by rfl) b_isinstance (ex_var 0 (pv 0)) (by rfl) b_list (by decide +kernel) (by rfl) b_tuple (by decide +kernel)))) (wx_or (tx_ne hu (ex_inst .list (by rfl) b_isinstance (ex_var 0 (pv 0)) (by rfl) b_list (by decide +kernel)) (ex_inst .list (by rfl) b_isinstance (ex_var 1 (pv 1)) (by rfl) b_list (by decide +kernel))) (wx_or1 (tx_ne hu (ex_len (by rfl) b_len (ex_var 0 (pv 0))) (ex_len (by rfl) b_len (ex_var 1 (pv 1)))))))) (sxs_one (sx_ret ex_bl)) sxs_nil)
  (sxs_one (sx_ret (ex_all rfl (by rfl) b_all (ex_lc (own := [("k", 2)]) [2] rfl rfl nd (ix_range1 (by rfl) b_range (ax_cons (ex_len (by rfl) b_len (ex_var 1 (pv 1))) ax_nil)) (blkOk_by (N := N__law_like) (sc := defScope s__law_like) (by decide +kernel)) (by decide) (fun _ _ _ _ _ => (gx_name 2 (pg_name (i := 2) nd rfl (by first | exact Or.inl rfl | exact Or.inr rfl)))) (fun _ _ _ _ _ => tsx_nil) (fun _ _ _ _ _ => (ex_call c__law_like (hr.mono (by omega)) (by rfl) (ax_cons (ex_ixS (ex_var 0 (pv 0)) (ex_var 2 (pv 2))) (ax_cons (ex_ixS (ex_var 1 (pv 1)) (ex_var 2 (pv 2))) ax_nil))))))))) sxs_nil)
  (sxs_cons (sx_if (tx_is (ex_var 1 (pv 1)) ex_non) (sxs_one (sx_ret (ex_is (ex_var 0 (pv 0)) ex_non))) sxs_nil)
  (sxs_cons (sx_if (tx_truth (ex_inst .bool (by rfl) b_isinstance (ex_var 1 (pv 1)) (by rfl) b_bool (by decide +kernel))) (sxs_one (sx_ret (ex_and (ex_inst .bool (by rfl) b_isinstance (ex_var 0 (pv 0)) (by rfl) b_bool (by decide +kernel)) (ex_one (ex_eq hu (ex_var 0 (pv 0)) (ex_var 1 (pv 1))))))) sxs_nil)
  (sxs_cons (sx_if (tx_truth (ex_inst .str (by rfl) b_isinstance (ex_var 1 (pv 1)) (by rfl) b_str (by decide +kernel))) (sxs_one (sx_ret (ex_and (ex_inst .str (by rfl) b_isinstance (ex_var 0 (pv 0)) (by rfl) b_str (by decide +kernel)) (ex_one (ex_eq hu (ex_var 0 (pv 0)) (ex_var 1 (pv 1))))))) sxs_nil)
  (sxs_one (sx_ret (ex_and (ex_inst .int (by rfl) b_isinstance (ex_var 0 (pv 0)) (by rfl) b_int (by decide +kernel)) (ex_and (ex_not (ex_inst .bool (by rfl) b_isinstance (ex_var 0 (pv 0)) (by rfl) b_bool (by decide +kernel))) (ex_one (ex_eq hu (ex_var 0 (pv 0)) (ex_var 1 (pv 1))))))))))))
/-! ### _law_flip -/
abbrev s__law_flip : Stmt := topS 24
abbrev N__law_flip : List Str := ["sign"]
theorem sc__law_flip : FnScope N__law_flip ["sign"] (defScope s__law_flip) := ⟨rfl, rfl, rfl, by decide +kernel, rfl, by decide +kernel, by decide +kernel⟩
def bd__law_flip : Sx := (sRet (ifE (trB (methE .str vIsLower (vr 0) aNil)) (methE .str vUpper (vr 0) aNil) (methE .str vLower (vr 0) aNil)))
def m__law_flip : Fn := fnM 1 bd__law_flip
theorem ok__law_flip {P : Program} {w : World} {K : PySem.W.Frag} {mg : Str → Option Value} {base : Heap} {f : Addr} {fd : FuncData} (F : Fun K "_law_flip" "_law_flip" s__law_flip f fd) (hm : mg "_law_flip" = some (.ref f)) : Callee P w K mg base "_law_flip" s__law_flip ["sign"] 1 m__law_flip :=
  Callee.mk' (k := 0) F hm sc__law_flip rfl (by decide) (fun _ _ _ _ _ _ us hl => match us, hl with | [_], _ => rfl) fun cdv A outer s H E hr => by
  have nd : List.Nodup N__law_flip := sc__law_flip.nd
  have hu := hu65 hr
  exact (sxs_one (sx_ret (ex_if (tx_truth (ex_islower (ex_var 0 (pv 0)))) (ex_upper (ex_var 0 (pv 0))) (ex_lower (ex_var 0 (pv 0))))))
/-! ### _law_red -/
abbrev s__law_red : Stmt := topS 25
abbrev N__law_red : List Str := ["word", "found", "sign"]
theorem sc__law_red : FnScope N__law_red ["word"] (defScope s__law_red) := ⟨rfl, rfl, rfl, by decide +kernel, rfl, by decide +kernel, by decide +kernel⟩
def bd__law_red : Sx := (sSeq (sSet 1 (cV (.str [])))
  (sSeq (sFor (iVal (vr 0)) (.nm 2) (sIf (tAnd (isB (op2 vNe (vr 1) (cV (.str [])))) (isB (op2 vEq (op2 vIx (vr 1) (op1 vNeg (cV (.int 1)))) (callF 1 m__law_flip (aCons (vr 2) aNil))))) (sSet 1 (slE (vr 1) noPart (aPart (op1 vNeg (cV (.int 1)))))) (sSet 1 (op2 vAdd (vr 1) (vr 2)))))
  (sRet (vr 1))))
def m__law_red : Fn := fnM 3 bd__law_red
theorem ok__law_red {P : Program} {w : World} {K : PySem.W.Frag} {mg : Str → Option Value} {base : Heap} {f : Addr} {fd : FuncData} (c__law_flip : Callee P w K mg base "_law_flip" s__law_flip ["sign"] 1 m__law_flip) (F : Fun K "_law_red" "_law_red" s__law_red f fd) (hm : mg "_law_red" = some (.ref f)) : Callee P w K mg base "_law_red" s__law_red ["word"] 2 m__law_red :=
  Callee.mk' (k := 1) F hm sc__law_red rfl (by decide) (fun _ _ _ _ _ _ us hl => match us, hl with | [_], _ => rfl) fun cdv A outer s H E hr => by
  have nd : List.Nodup N__law_red := sc__law_red.nd
  have hu := hu65 hr
  exact (sxs_cons (sx_set 1 (fun te h => ps_set (i := 1) nd rfl (by first | exact Or.inl rfl | exact Or.inr rfl) h) (ex_str (s := []) rfl))
  (sxs_cons (sx_for PassesOwn.never rfl (ix_val (ex_var 0 (pv 0))) (gx_name 2 (pg_name (i := 2) nd rfl (by first | exact Or.inl rfl | exact Or.inr rfl))) (sxs_one (sx_if (tx_w (wx_and (tx_ne hu (ex_var 1 (pv 1)) (ex_str (s := []) rfl)) (wx_and1 (tx_eq hu (ex_ixS (ex_var 1 (pv 1)) (ex_neg ex_int)) (ex_call c__law_flip (hr.mono (by decide)) (by rfl) (ax_cons (ex_var 2 (pv 2)) ax_nil)))))) (sxs_one (sx_set 1 (fun te h => ps_set (i := 1) nd rfl (by first | exact Or.inl rfl | exact Or.inr rfl) h) (ex_slice (ex_var 1 (pv 1)) px_none (px_some (ex_neg ex_int))))) (sxs_one (sx_set 1 (fun te h => ps_set (i := 1) nd rfl (by first | exact Or.inl rfl | exact Or.inr rfl) h) (ex_add (ex_var 1 (pv 1)) (ex_var 2 (pv 2))))))))
  (sxs_one (sx_ret (ex_var 1 (pv 1))))))
/-! ### _law_inv -/
abbrev s__law_inv : Stmt := topS 26
abbrev N__law_inv : List Str := ["word", "sign"]
theorem sc__law_inv : FnScope N__law_inv ["word"] (defScope s__law_inv) := ⟨rfl, rfl, rfl, by decide +kernel, rfl, by decide +kernel, by decide +kernel⟩
def bd__law_inv : Sx := (sRet (callF 1 m__law_red (aCons (methE .str vJoin (cV (.str [])) (aCons (lcE (iVal (op1 vRev (vr 0))) (.nm 1) [1] tTrue (callF 1 m__law_flip (aCons (vr 1) aNil))) aNil)) aNil)))
def m__law_inv : Fn := fnM 2 bd__law_inv
theorem ok__law_inv {P : Program} {w : World} {K : PySem.W.Frag} {mg : Str → Option Value} {base : Heap} {f : Addr} {fd : FuncData} (c__law_red : Callee P w K mg base "_law_red" s__law_red ["word"] 2 m__law_red) (c__law_flip : Callee P w K mg base "_law_flip" s__law_flip ["sign"] 1 m__law_flip) (F : Fun K "_law_inv" "_law_inv" s__law_inv f fd) (hm : mg "_law_inv" = some (.ref f)) : Callee P w K mg base "_law_inv" s__law_inv ["word"] 3 m__law_inv :=
  Callee.mk' (k := 2) F hm sc__law_inv rfl (by decide) (fun _ _ _ _ _ _ us hl => match us, hl with | [_], _ => rfl) fun cdv A outer s H E hr => by
  have nd : List.Nodup N__law_inv := sc__law_inv.nd
  have hu := hu65 hr
  exact (sxs_one (sx_ret (ex_call c__law_red (hr.mono (by decide)) (by rfl) (ax_cons (ex_join (ex_str (s := []) rfl) (ax_cons (ex_lc (own := [("sign", 1)]) [1] rfl rfl nd (ix_val (ex_rev (ex_var 0 (pv 0)))) (blkOk_by (N := N__law_inv) (sc := defScope s__law_inv) (by decide +kernel)) (by decide) (fun _ _ _ _ _ => (gx_name 1 (pg_name (i := 1) nd rfl (by first | exact Or.inl rfl | exact Or.inr rfl)))) (fun _ _ _ _ _ => tsx_nil) (fun _ _ _ _ _ => (ex_call c__law_flip (hr.mono (by decide)) (by rfl) (ax_cons (ex_var 1 (pv 1)) ax_nil)))) ax_nil)) ax_nil))))
/-! ### _law_row -/
abbrev s__law_row : Stmt := topS 27
abbrev N__law_row : List Str := ["size", "k", "found", "weight", "more", "i", "j", "right", "at"]
theorem sc__law_row : FnScope N__law_row ["size", "k"] (defScope s__law_row) := ⟨rfl, rfl, rfl, by decide +kernel, rfl, by decide +kernel, by decide +kernel⟩
def bd__law_row : Sx := (sSeq (sSet 2 (ifE (isB (op2 vGt (vr 1) (cV (.int 0)))) (lcE (iRange1 (aCons (vr 0) aNil)) (.nm 8) [8] tTrue (lstE (aCons (op2 vIx (cV (.str [97, 98, 99])) (vr 8)) (aCons (cV (.int 1)) aNil)))) (lstE aNil)))
  (sSeq (sFor (iRange2 (aCons (cV (.int 2)) (aCons (op2 vAdd (vr 1) (cV (.int 1))) aNil))) (.nm 3) (sSeq (sSet 4 (lstE aNil))
  (sSeq (sFor (iRange1 (aCons (callE (fn1 vLen) (aCons (vr 2) aNil)) aNil)) (.nm 5) (sFor (iRange1 (aCons (vr 5) aNil)) (.nm 6) (sSeq (sSet 7 (vOr (instE [.str] (op2 vIx (op2 vIx (vr 2) (vr 5)) (cV (.int 0)))) (op2 vLe (op2 vIx (op2 vIx (op2 vIx (vr 2) (vr 5)) (cV (.int 0))) (cV (.int 1))) (vr 6))))
  (sIf (tAnd (isB (op2 vEq (op2 vAdd (op2 vIx (op2 vIx (vr 2) (vr 5)) (cV (.int 1))) (op2 vIx (op2 vIx (vr 2) (vr 6)) (cV (.int 1)))) (vr 3))) (trB (vr 7))) (sDrop (methE .list vAppend (vr 4) (aCons (lstE (aCons (tupE (aCons (vr 5) (aCons (vr 6) aNil))) (aCons (vr 3) aNil))) aNil))) sNil))))
  (sSet 2 (op2 vAdd (vr 2) (vr 4))))))
  (sRet (vr 2))))
def m__law_row : Fn := fnM 9 bd__law_row
theorem ok__law_row {P : Program} {w : World} {K : PySem.W.Frag} {mg : Str → Option Value} {base : Heap} {f : Addr} {fd : FuncData} (b_range : mg "range" = none) (b_len : mg "len" = none) (b_isinstance : mg "isinstance" = none) (b_str : mg "str" = none) (F : Fun K "_law_row" "_law_row" s__law_row f fd) (hm : mg "_law_row" = some (.ref f)) : Callee P w K mg base "_law_row" s__law_row ["size", "k"] 1 m__law_row :=
  Callee.mk' (k := 0) F hm sc__law_row rfl (by decide) (fun _ _ _ _ _ _ us hl => match us, hl with | [_, _], _ => rfl) fun cdv A outer s H E hr => by
  have nd : List.Nodup N__law_row := sc__law_row.nd
  have hu := hu65 hr
  exact (sxs_cons (sx_set 2 (fun te h => ps_set (i := 2) nd rfl (by first | exact Or.inl rfl | exact Or.inr rfl) h) (ex_if (tx_gt (ex_var 1 (pv 1)) ex_int) (ex_lc (own := [("at", 8)]) [8] rfl rfl nd (ix_range1 (by rfl) b_range (ax_cons (ex_var 0 (pv 0)) ax_nil)) (blkOk_by (N := N__law_row) (sc := defScope s__law_row) (by decide +kernel)) (by decide) (fun _ _ _ _ _ => (gx_name 8 (pg_name (i := 8) nd rfl (by first | exact Or.inl rfl | exact Or.inr rfl)))) (fun _ _ _ _ _ => tsx_nil) (fun _ _ _ _ _ => (ex_lst (ax_cons (ex_ixS (ex_str (s := [97, 98, 99]) rfl) (ex_var 8 (pv 8))) (ax_cons ex_int ax_nil))))) (ex_lst ax_nil)))
  (sxs_cons (sx_for PassesOwn.never rfl (ix_range2 (by rfl) b_range (ax_cons ex_int (ax_cons (ex_add (ex_var 1 (pv 1)) ex_int) ax_nil))) (gx_name 3 (pg_name (i := 3) nd rfl (by first | exact Or.inl rfl | exact Or.inr rfl))) (sxs_cons (sx_set 4 (fun te h => ps_set (i := 4) nd rfl (by first | exact Or.inl rfl | exact Or.inr rfl) h) (ex_lst ax_nil))
  (sxs_cons (sx_for PassesOwn.never rfl (ix_range1 (by rfl) b_range (ax_cons (ex_len (by rfl) b_len (ex_var 2 (pv 2))) ax_nil)) (gx_name 5 (pg_name (i := 5) nd rfl (by first | exact Or.inl rfl | exact Or.inr rfl))) (sxs_one (sx_for PassesOwn.never rfl (ix_range1 (by rfl) b_range (ax_cons (ex_var 5 (pv 5)) ax_nil)) (gx_name 6 (pg_name (i := 6) nd rfl (by first | exact Or.inl rfl | exact Or.inr rfl))) (sxs_cons (sx_set 7 (fun te h => ps_set (i := 7) nd rfl (by first | exact Or.inl rfl | exact Or.inr rfl) h) (ex_or (ex_inst .str (by rfl) b_isinstance (ex_ixS (ex_ixS (ex_var 2 (pv 2)) (ex_var 5 (pv 5))) ex_int) (by rfl) b_str (by decide +kernel)) (ex_one (ex_le (ex_ixS (ex_ixS (ex_ixS (ex_var 2 (pv 2)) (ex_var 5 (pv 5))) ex_int) ex_int) (ex_var 6 (pv 6))))))
  (sxs_one (sx_if (tx_w (wx_and (tx_eq hu (ex_add (ex_ixS (ex_ixS (ex_var 2 (pv 2)) (ex_var 5 (pv 5))) ex_int) (ex_ixS (ex_ixS (ex_var 2 (pv 2)) (ex_var 6 (pv 6))) ex_int)) (ex_var 3 (pv 3))) (wx_and1 (tx_truth (ex_var 7 (pv 7)))))) (sxs_one (sx_expr (ex_append (ex_var 4 (pv 4)) (ax_cons (ex_lst (ax_cons (ex_tup (ax_cons (ex_var 5 (pv 5)) (ax_cons (ex_var 6 (pv 6)) ax_nil))) (ax_cons (ex_var 3 (pv 3)) ax_nil))) ax_nil)))) sxs_nil))))))
  (sxs_one (sx_set 2 (fun te h => ps_set (i := 2) nd rfl (by first | exact Or.inl rfl | exact Or.inr rfl) h) (ex_add (ex_var 2 (pv 2)) (ex_var 4 (pv 4))))))))
  (sxs_one (sx_ret (ex_var 2 (pv 2))))))
/-! ### _law_words -/
abbrev s__law_words : Stmt := topS 28
abbrev N__law_words : List Str := ["row", "found", "one", "weight", "first", "second"]
theorem sc__law_words : FnScope N__law_words ["row"] (defScope s__law_words) := ⟨rfl, rfl, rfl, by decide +kernel, rfl, by decide +kernel, by decide +kernel⟩
def bd__law_words : Sx := (sSeq (sSet 1 (lstE aNil))
  (sSeq (sFor (iVal (vr 0)) (.tp [(.nm 2), (.nm 3)]) (sIf (trB (instE [.str] (vr 2))) (sDrop (methE .list vAppend (vr 1) (aCons (vr 2) aNil))) (sSeq (sPar [4, 5] (aCons (op2 vIx (vr 1) (op2 vIx (vr 2) (cV (.int 0)))) (aCons (op2 vIx (vr 1) (op2 vIx (vr 2) (cV (.int 1)))) aNil)))
  (sDrop (methE .list vAppend (vr 1) (aCons (callF 1 m__law_red (aCons (op2 vAdd (op2 vAdd (op2 vAdd (callF 1 m__law_inv (aCons (vr 4) aNil)) (callF 1 m__law_inv (aCons (vr 5) aNil))) (vr 4)) (vr 5)) aNil)) aNil))))))
  (sRet (vr 1))))
def m__law_words : Fn := fnM 6 bd__law_words
theorem ok__law_words {P : Program} {w : World} {K : PySem.W.Frag} {mg : Str → Option Value} {base : Heap} {f : Addr} {fd : FuncData} (c__law_red : Callee P w K mg base "_law_red" s__law_red ["word"] 2 m__law_red) (c__law_inv : Callee P w K mg base "_law_inv" s__law_inv ["word"] 3 m__law_inv) (b_isinstance : mg "isinstance" = none) (b_str : mg "str" = none) (F : Fun K "_law_words" "_law_words" s__law_words f fd) (hm : mg "_law_words" = some (.ref f)) : Callee P w K mg base "_law_words" s__law_words ["row"] 4 m__law_words :=
  Callee.mk' (k := 3) F hm sc__law_words rfl (by decide) (fun _ _ _ _ _ _ us hl => match us, hl with | [_], _ => rfl) fun cdv A outer s H E hr => by
  have nd : List.Nodup N__law_words := sc__law_words.nd
  have hu := hu65 hr
  exact (sxs_cons (sx_set 1 (fun te h => ps_set (i := 1) nd rfl (by first | exact Or.inl rfl | exact Or.inr rfl) h) (ex_lst ax_nil))
  (sxs_cons (sx_for PassesOwn.never rfl (ix_val (ex_var 0 (pv 0))) (gx_tup rfl (gxs_cons (gx_name 2 (pg_name (i := 2) nd rfl (by first | exact Or.inl rfl | exact Or.inr rfl))) (gxs_cons (gx_name 3 (pg_name (i := 3) nd rfl (by first | exact Or.inl rfl | exact Or.inr rfl))) gxs_nil))) (sxs_one (sx_if (tx_truth (ex_inst .str (by rfl) b_isinstance (ex_var 2 (pv 2)) (by rfl) b_str (by decide +kernel))) (sxs_one (sx_expr (ex_append (ex_var 1 (pv 1)) (ax_cons (ex_var 2 (pv 2)) ax_nil)))) (sxs_cons (sx_par (i := 4) (j := 5) rfl nd rfl rfl (by decide) rfl rfl (ax_cons (ex_ixS (ex_var 1 (pv 1)) (ex_ixS (ex_var 2 (pv 2)) ex_int)) (ax_cons (ex_ixS (ex_var 1 (pv 1)) (ex_ixS (ex_var 2 (pv 2)) ex_int)) ax_nil)))
  (sxs_one (sx_expr (ex_append (ex_var 1 (pv 1)) (ax_cons (ex_call c__law_red (hr.mono (by decide)) (by rfl) (ax_cons (ex_add (ex_add (ex_add (ex_call c__law_inv (hr.mono (by decide)) (by rfl) (ax_cons (ex_var 4 (pv 4)) ax_nil)) (ex_call c__law_inv (hr.mono (by decide)) (by rfl) (ax_cons (ex_var 5 (pv 5)) ax_nil))) (ex_var 4 (pv 4))) (ex_var 5 (pv 5))) ax_nil)) ax_nil))))))))
  (sxs_one (sx_ret (ex_var 1 (pv 1))))))
/-! ### law -/
abbrev s_law : Stmt := topS 29
abbrev N_law : List Str := ["script", "own", "turn", "size", "k", "row", "got", "words", "numbers", "one", "weight", "degree"]
theorem sc_law : FnScope N_law ["script"] (defScope s_law) := ⟨rfl, rfl, rfl, by decide +kernel, rfl, by decide +kernel, by decide +kernel⟩
def lb0_8 : Sx := (sIf (isB (op2 vNe (vr 8) (slE (op2 vIx (lstE (aCons (lstE (aCons (cV (.int 1)) (aCons (cV (.int 0)) (aCons (cV (.int 0)) (aCons (cV (.int 0)) (aCons (cV (.int 0)) aNil)))))) (aCons (lstE (aCons (cV (.int 2)) (aCons (cV (.int 1)) (aCons (cV (.int 2)) (aCons (cV (.int 3)) (aCons (cV (.int 6)) aNil)))))) (aCons (lstE (aCons (cV (.int 3)) (aCons (cV (.int 3)) (aCons (cV (.int 8)) (aCons (cV (.int 18)) (aCons (cV (.int 48)) aNil)))))) aNil)))) (op2 vSub (vr 3) (cV (.int 1)))) noPart (aPart (vr 4))))) (sRet (cV (.bl false))) sNil)
def lb0_7 : Sx := (sSeq (sSet 8 (lcE (iRange2 (aCons (cV (.int 1)) (aCons (op2 vAdd (vr 4) (cV (.int 1))) aNil))) (.nm 11) [11] tTrue (callE (fn1 vLen) (aCons (lcE (iVal (vr 5)) (.tp [(.nm 9), (.nm 10)]) [9, 10] (isB (op2 vEq (vr 10) (vr 11))) (cV (.int 1))) aNil))))
  lb0_8)
def lb0_6 : Sx := (sSeq (sIf (tNot (trB (callF 2 (m__law_like 10) (aCons (lstE (aCons (callF 2 m_basic_words (aCons (vr 3) (aCons (vr 4) aNil))) (aCons (callK 2 0 [1, 0] m_basic_words aNil (aCons (vr 4) (aCons (vr 3) aNil))) aNil))) (aCons (lstE (aCons (vr 7) (aCons (vr 7) aNil))) aNil))))) (sRet (cV (.bl false))) sNil)
  lb0_7)
def lb0_5 : Sx := (sSeq (sSet 7 (callE (fn1 vTuple) (aCons (callF 1 m__law_words (aCons (vr 5) aNil)) aNil)))
  lb0_6)
def lb0_4 : Sx := (sSeq (sIf (tNot (trB (callF 2 (m__law_like 10) (aCons (vr 6) (aCons (op2 vMul (lstE (aCons (callE (fn1 vTuple) (aCons (lcE (iVal (vr 5)) (.tp [(.nm 9), (.nm 10)]) [9, 10] tTrue (vr 9)) aNil)) aNil)) (cV (.int 2))) aNil))))) (sRet (cV (.bl false))) sNil)
  lb0_5)
def lb0_3 : Sx := (sSeq (sSet 6 (lstE (aCons (callF 2 m_basic_list (aCons (vr 3) (aCons (vr 4) aNil))) (aCons (callK 2 0 [1, 0] m_basic_list aNil (aCons (vr 4) (aCons (vr 3) aNil))) aNil))))
  lb0_4)
def lb0_2 : Sx := (sSeq (sSet 5 (callF 2 m__law_row (aCons (vr 3) (aCons (vr 4) aNil))))
  lb0_3)
def lb0_1 : Sx := (sSeq (sSet 4 (callF 2 m__law_next (aCons (vr 1) (aCons (ifE (isB (op2 vLt (vr 3) (cV (.int 3)))) (cV (.int 6)) (cV (.int 4))) aNil))))
  lb0_2)
def lb0_0 : Sx := (sSeq (sSet 3 (op2 vAdd (cV (.int 1)) (callF 2 m__law_next (aCons (vr 1) (aCons (cV (.int 3)) aNil)))))
  lb0_1)
def lw_2 : Sx := (sRet (cV (.bl true)))
def lw_1 : Sx := (sSeq (sForG (iRange1 (aCons (cV (.int 4)) aNil)) (.nm 2) lb0_0)
  lw_2)
def lw_0 : Sx := (sSeq (sSet 1 (lstE (aCons (cV (.int 0)) (aCons (cV (.int 70)) (aCons (cV (.int 0)) (aCons (cV (.int 0)) (aCons (callE (fn1 vList) (aCons (vr 0) aNil)) aNil)))))))
  lw_1)
def bd_law : Sx := lw_0
def m_law : Fn := fnM 12 bd_law
theorem ok_law {P : Program} {w : World} {K : PySem.W.Frag} {mg : Str → Option Value} {base : Heap} {f : Addr} {fd : FuncData} (c__law_next : Callee P w K mg base "_law_next" s__law_next ["own", "many"] 1 m__law_next) (c__law_row : Callee P w K mg base "_law_row" s__law_row ["size", "k"] 1 m__law_row) (c_basic_list : Callee P w K mg base "basic_list" s_basic_list ["size", "k"] 4 m_basic_list) (c__law_like : Callee P w K mg base "_law_like" s__law_like ["got", "due"] 11 (m__law_like 10)) (c__law_words : Callee P w K mg base "_law_words" s__law_words ["row"] 4 m__law_words) (c_basic_words : Callee P w K mg base "basic_words" s_basic_words ["size", "k"] 4 m_basic_words) (b_list : mg "list" = none) (b_range : mg "range" = none) (b_tuple : mg "tuple" = none) (b_len : mg "len" = none) (F : Fun K "law" "law" s_law f fd) (hm : mg "law" = some (.ref f)) : Callee P w K mg base "law" s_law ["script"] 12 m_law :=
  Callee.mk' (k := 11) F hm sc_law rfl (by decide) (fun _ _ _ _ _ _ us hl => match us, hl with | [_], _ => rfl) fun cdv A outer s H E hr => by
  have nd : List.Nodup N_law := sc_law.nd
  have hu := hu65 hr
  exact (sxs_cons (sx_set 1 (fun te h => ps_set (i := 1) nd rfl (by first | exact Or.inl rfl | exact Or.inr rfl) h) (ex_lst (ax_cons ex_int (ax_cons ex_int (ax_cons ex_int (ax_cons ex_int (ax_cons (ex_list1 rfl (by rfl) b_list (ex_var 0 (pv 0))) ax_nil)))))))
  (sxs_cons (sx_forG PassesOwn.never rfl (ix_range1 (by rfl) b_range (ax_cons ex_int ax_nil)) (gx_name 2 (pg_name (i := 2) nd rfl (by first | exact Or.inl rfl | exact Or.inr rfl))) (sxs_cons (sx_set 3 (fun te h => ps_set (i := 3) nd rfl (by first | exact Or.inl rfl | exact Or.inr rfl) h) (ex_add ex_int (ex_call c__law_next (hr.mono (by decide)) (by rfl) (ax_cons (ex_var 1 (pv 1)) (ax_cons ex_int ax_nil)))))
  (sxs_cons (sx_set 4 (fun te h => ps_set (i := 4) nd rfl (by first | exact Or.inl rfl | exact Or.inr rfl) h) (ex_call c__law_next (hr.mono (by decide)) (by rfl) (ax_cons (ex_var 1 (pv 1)) (ax_cons (ex_if (tx_lt (ex_var 3 (pv 3)) ex_int) ex_int ex_int) ax_nil))))
  (sxs_cons (sx_set 5 (fun te h => ps_set (i := 5) nd rfl (by first | exact Or.inl rfl | exact Or.inr rfl) h) (ex_call c__law_row (hr.mono (by decide)) (by rfl) (ax_cons (ex_var 3 (pv 3)) (ax_cons (ex_var 4 (pv 4)) ax_nil))))
  (sxs_cons (sx_set 6 (fun te h => ps_set (i := 6) nd rfl (by first | exact Or.inl rfl | exact Or.inr rfl) h) (ex_lst (ax_cons (ex_call c_basic_list (hr.mono (by decide)) (by rfl) (ax_cons (ex_var 3 (pv 3)) (ax_cons (ex_var 4 (pv 4)) ax_nil))) (ax_cons (ex_callK0 (ks := ["k", "size"]) [1, 0] c_basic_list (hr.mono (by decide)) (by rfl) (kx_cons (ex_var 4 (pv 4)) (kx_cons (ex_var 3 (pv 3)) kx_nil)) rfl (fun _ _ _ _ _ _ us ws h1 h2 => match us, ws, h1, h2 with | [], [_, _], _, _ => rfl)) ax_nil))))
  (sxs_cons (sx_if (tx_not (tx_truth (ex_call c__law_like (hr.mono (by decide)) (by rfl) (ax_cons (ex_var 6 (pv 6)) (ax_cons (ex_mul (ex_lst (ax_cons (ex_tuple1 (by rfl) b_tuple (ex_lc (own := [("one", 9), ("weight", 10)]) [9, 10] rfl rfl nd (ix_val (ex_var 5 (pv 5))) (blkOk_by (N := N_law) (sc := defScope s_law) (by decide +kernel)) (by decide) (fun _ _ _ _ _ => (gx_tup rfl (gxs_cons (gx_name 9 (pg_name (i := 9) nd rfl (by first | exact Or.inl rfl | exact Or.inr rfl))) (gxs_cons (gx_name 10 (pg_name (i := 10) nd rfl (by first | exact Or.inl rfl | exact Or.inr rfl))) gxs_nil)))) (fun _ _ _ _ _ => tsx_nil) (fun _ _ _ _ _ => (ex_var 9 (pv 9))))) ax_nil)) ex_int) ax_nil))))) (sxs_one (sx_ret ex_bl)) sxs_nil)
  (sxs_cons (sx_set 7 (fun te h => ps_set (i := 7) nd rfl (by first | exact Or.inl rfl | exact Or.inr rfl) h) (ex_tuple1 (by rfl) b_tuple (ex_call c__law_words (hr.mono (by decide)) (by rfl) (ax_cons (ex_var 5 (pv 5)) ax_nil))))
  (sxs_cons (sx_if (tx_not (tx_truth (ex_call c__law_like (hr.mono (by decide)) (by rfl) (ax_cons (ex_lst (ax_cons (ex_call c_basic_words (hr.mono (by decide)) (by rfl) (ax_cons (ex_var 3 (pv 3)) (ax_cons (ex_var 4 (pv 4)) ax_nil))) (ax_cons (ex_callK0 (ks := ["k", "size"]) [1, 0] c_basic_words (hr.mono (by decide)) (by rfl) (kx_cons (ex_var 4 (pv 4)) (kx_cons (ex_var 3 (pv 3)) kx_nil)) rfl (fun _ _ _ _ _ _ us ws h1 h2 => match us, ws, h1, h2 with | [], [_, _], _, _ => rfl)) ax_nil))) (ax_cons (ex_lst (ax_cons (ex_var 7 (pv 7)) (ax_cons (ex_var 7 (pv 7)) ax_nil))) ax_nil))))) (sxs_one (sx_ret ex_bl)) sxs_nil)
  (sxs_cons (sx_setLc 8 (own := [("degree", 11)]) [11] rfl rfl nd rfl rfl (sw_true rfl rfl rfl (by decide +kernel)) (ix_range2 (by rfl) b_range (ax_cons ex_int (ax_cons (ex_add (ex_var 4 (pv 4)) ex_int) ax_nil))) (blkOk_by (N := N_law) (sc := defScope s_law) (by decide +kernel)) (by decide) (fun _ _ _ _ _ => (gx_name 11 (pg_name (i := 11) nd rfl (by first | exact Or.inl rfl | exact Or.inr rfl)))) (fun _ _ _ _ _ => tsx_nil) (fun _ _ _ _ _ => (ex_len (by rfl) b_len (ex_lc (own := [("one", 9), ("weight", 10)]) [9, 10] rfl rfl nd (ix_val (ex_var 5 (pv 5))) (blkOk_by (by kernel_rfl)) (by decide) (fun _ _ _ _ _ => (gx_tup rfl (gxs_cons (gx_name 9 (pg_name (i := 9) nd rfl (by first | exact Or.inl rfl | exact Or.inr rfl))) (gxs_cons (gx_name 10 (pg_name (i := 10) nd rfl (by first | exact Or.inl rfl | exact Or.inr rfl))) gxs_nil)))) (fun _ _ _ _ _ => (tsx_one (tx_eq hu (ex_var 10 (pv 10)) (ex_var 11 (pv 11))))) (fun _ _ _ _ _ => ex_int)))))
  (sxs_one (sx_if (tx_ne hu (ex_var 8 (pv 8)) (ex_slice (ex_ixS (ex_lst (ax_cons (ex_lst (ax_cons ex_int (ax_cons ex_int (ax_cons ex_int (ax_cons ex_int (ax_cons ex_int ax_nil)))))) (ax_cons (ex_lst (ax_cons ex_int (ax_cons ex_int (ax_cons ex_int (ax_cons ex_int (ax_cons ex_int ax_nil)))))) (ax_cons (ex_lst (ax_cons ex_int (ax_cons ex_int (ax_cons ex_int (ax_cons ex_int (ax_cons ex_int ax_nil)))))) ax_nil)))) (ex_sub (ex_var 3 (pv 3)) ex_int)) px_none (px_some (ex_var 4 (pv 4))))) (sxs_one (sx_ret ex_bl)) sxs_nil)))))))))))
  (sxs_one (sx_ret ex_bl))))
end LK

namespace LK
open PySem PySem.Spec PyProof.Rows L2 Rf
theorem turn_rest (size k : Int) (hs : (size = 1 ∨ size = 2) ∧ (k = 0 ∨ k = 1 ∨ k = 2 ∨ k = 3 ∨ k = 4 ∨ k = 5) ∨ size = 3 ∧ (k = 0 ∨ k = 1 ∨ k = 2 ∨ k = 3)) (a b c d : Int) (ns : List Int) (t : Int) (x5 x6 x7 x8 x9 x10 x11 : Option Va) :
    dig (lb0_2 [some (.fl (ns.map .int)), some (.ref 1), some (.int t), some (.int size), some (.int k), x5, x6, x7, x8, x9, x10, x11] ⟨2, [ownO a b c d 0, .lst (ns.map .int)]⟩) = (true, [ownO a b c d 0, .lst (ns.map .int)], [some (.fl (ns.map .int)), some (.ref 1)], 12) := by
  generalize ns.map Va.int = vs
  rcases hs with ⟨rfl | rfl, rfl | rfl | rfl | rfl | rfl | rfl⟩ | ⟨rfl, rfl | rfl | rfl | rfl⟩
  all_goals kernel_rfl
theorem len12 {l : Lo} {x y : Option Va} (h : l.take 2 = [x, y]) (n : l.length = 12) : ∃ x2 x3 x4 x5 x6 x7 x8 x9 x10 x11, l = [x, y, x2, x3, x4, x5, x6, x7, x8, x9, x10, x11] := by
  match l, h, n with
  | [a, b, x2, x3, x4, x5, x6, x7, x8, x9, x10, x11], h, _ =>
    injection h with h1 h
    injection h with h2 _
    subst h1 h2
    exact ⟨_, _, _, _, _, _, _, _, _, _, rfl⟩
theorem turn {ns : List Int} (hl : ns.length ≤ 63) (k : Nat) (c : Int) (l : Lo) (h : Hea) (c0 : 0 ≤ c) (c1 : c ≤ 2 * (4 : Nat)) (i : LwI ns 12 c l h) (hk : k < 4) : Turned 2 (lb0_0 (l.set 2 (some (.int k))) h) (LwI ns 12 (c + 2)) := by
  obtain ⟨x2, x3, x4, x5, x6, x7, x8, x9, x10, x11, rfl⟩ := len12 i.two i.len
  obtain ⟨r, h1, e1, r0, r1, o1⟩ := i.own.next (many := 3) (by omega) (by omega) (by omega)
  have s1 : lb0_0 [some (.fl (ns.map .int)), some (.ref 1), some (.int k), x3, x4, x5, x6, x7, x8, x9, x10, x11] h = lb0_1 [some (.fl (ns.map .int)), some (.ref 1), some (.int k), some (.int (1 + r)), x4, x5, x6, x7, x8, x9, x10, x11] h1 :=
    sSeq_nx (sSet_ok ((op2_ok (F := vAdd) (h1 := h) rfl (draw_ok rfl rfl e1)).trans rfl))
  obtain ⟨many, hm⟩ : ∃ m : Int, m = if 1 + r < 3 then 6 else 4 := ⟨_, rfl⟩
  have hm2 : (1 + r < 3 ∧ many = 6) ∨ (1 + r = 3 ∧ many = 4) := by
    by_cases q : 1 + r < 3
    · rw [if_pos q] at hm; exact .inl ⟨q, hm⟩
    · rw [if_neg q] at hm; exact .inr ⟨by omega, hm⟩
  obtain ⟨n, h2, e2, n0, n1, o2⟩ := o1.next (many := many) (by omega) (by omega) (by omega)
  have e3 : ∀ L : Lo, L[3]? = some (some (.int (1 + r))) → ifE (isB (op2 vLt (vr 3) (cV (.int 3)))) (cV (.int 6)) (cV (.int 4)) L h1 = .ok (.int many) h1 := fun L hL => by
    have e : isB (op2 vLt (vr 3) (cV (.int 3))) L h1 = .ok (decide (1 + r < 3)) h1 := isB_ok (iop_ok (vr_ok hL) rfl)
    unfold ifE
    rw [e]
    rcases hm2 with ⟨q, w⟩ | ⟨q, w⟩
    · rw [decide_eq_true q, w]; rfl
    · rw [decide_eq_false (by omega), w]; rfl
  have s2 : lb0_1 [some (.fl (ns.map .int)), some (.ref 1), some (.int k), some (.int (1 + r)), x4, x5, x6, x7, x8, x9, x10, x11] h1 = lb0_2 [some (.fl (ns.map .int)), some (.ref 1), some (.int k), some (.int (1 + r)), some (.int n), x5, x6, x7, x8, x9, x10, x11] h2 :=
    sSeq_nx (sSet_ok (draw_ok rfl (e3 _ rfl) e2))
  have e4 : (c : Int) + 1 + 1 = c + 2 := by omega
  rw [e4] at o2
  show Turned 2 (lb0_0 [some (.fl (ns.map .int)), some (.ref 1), some (.int k), x3, x4, x5, x6, x7, x8, x9, x10, x11] h) _
  rw [s1, s2]
  refine turn_ok o2 ?_
  obtain ⟨a, b, c', d, rfl, _⟩ := o2.it
  exact turn_rest _ _ (by omega) a b c' d ns k x5 x6 x7 x8 x9 x10 x11
theorem law_true : ∀ ns : List Int, ns.length ≤ 63 → ∃ h', m_law [.fl (ns.map Va.int)] ⟨0, []⟩ = .ok (.bl true) h' := fun ns hl => by
  have s0 : lw_0 [some (.fl (ns.map .int)), none, none, none, none, none, none, none, none, none, none, none] ⟨0, []⟩ = lw_1 [some (.fl (ns.map .int)), some (.ref 1), none, none, none, none, none, none, none, none, none, none] ⟨2, [ownO 0 70 0 0 0, .lst (ns.map .int)]⟩ := by
    generalize ns.map Va.int = vs
    kernel_rfl
  obtain ⟨l', h', e, _⟩ := law_turns (B := lb0_0) (T := sNil) (ns := ns) (m := 12) (N := 4) (step := 2) 4 rfl (by omega) _ _ (⟨⟨⟨0, 70, 0, 0, rfl, by omega, by omega, by omega, by omega⟩⟩, rfl, rfl⟩ : LwI ns 12 0 [some (.fl (ns.map .int)), some (.ref 1), none, none, none, none, none, none, none, none, none, none] ⟨2, [ownO 0 70 0 0 0, .lst (ns.map .int)]⟩) (by omega) (turn hl)
  exact ⟨h', fnM_rt (s0.trans ((sSeq_nx e).trans (sRet_ok rfl)))⟩
end LK

namespace LK
open PySem PySem.Spec PyProof.Rows L2 Rf
/-! ### what the top has written -/
theorem all_mk {l : PySem.W.OpenLaw} {w : World} {K : PySem.W.Frag} {h : Heap} {mg : Str → Option Value} {fa : Addr} (X : K.In h) (G : h.Ns mainGlobals mg) (hfa : mg "law" = some (.ref fa))
    {od_is_integer an_is_integer : Option Addr} {sl_is_integer : Array (Option Value)} {oc_is_integer kV_is_integer dc_is_integer pm_is_integer cd_is_integer ct_is_integer : Value} {fa_is_integer : Addr} (a_is_integer : PySem.W.nsIn K mainGlobals "is_integer" = some (some (.ref fa_is_integer))) (l_is_integer : K.lookup fa_is_integer = some ⟨oc_is_integer, od_is_integer, .func (PySem.W.fnOf "is_integer" "is_integer" (defArgs s_is_integer) (defBody s_is_integer) (defScope s_is_integer) .none kV_is_integer dc_is_integer pm_is_integer an_is_integer cd_is_integer ct_is_integer), sl_is_integer⟩) (e_is_integer : PySem.W.codeIn K cd_is_integer "is_integer" = true) (k_is_integer : PySem.W.keepIn K (.ref fa_is_integer) = true)
    {od_check_natural an_check_natural : Option Addr} {sl_check_natural : Array (Option Value)} {oc_check_natural kV_check_natural dc_check_natural pm_check_natural cd_check_natural ct_check_natural : Value} {fa_check_natural : Addr} (a_check_natural : PySem.W.nsIn K mainGlobals "check_natural" = some (some (.ref fa_check_natural))) (l_check_natural : K.lookup fa_check_natural = some ⟨oc_check_natural, od_check_natural, .func (PySem.W.fnOf "check_natural" "check_natural" (defArgs s_check_natural) (defBody s_check_natural) (defScope s_check_natural) .none kV_check_natural dc_check_natural pm_check_natural an_check_natural cd_check_natural ct_check_natural), sl_check_natural⟩) (e_check_natural : PySem.W.codeIn K cd_check_natural "check_natural" = true) (k_check_natural : PySem.W.keepIn K (.ref fa_check_natural) = true)
    {od_is_size an_is_size : Option Addr} {sl_is_size : Array (Option Value)} {oc_is_size kV_is_size dc_is_size pm_is_size cd_is_size ct_is_size : Value} {fa_is_size : Addr} (a_is_size : PySem.W.nsIn K mainGlobals "is_size" = some (some (.ref fa_is_size))) (l_is_size : K.lookup fa_is_size = some ⟨oc_is_size, od_is_size, .func (PySem.W.fnOf "is_size" "is_size" (defArgs s_is_size) (defBody s_is_size) (defScope s_is_size) .none kV_is_size dc_is_size pm_is_size an_is_size cd_is_size ct_is_size), sl_is_size⟩) (e_is_size : PySem.W.codeIn K cd_is_size "is_size" = true) (k_is_size : PySem.W.keepIn K (.ref fa_is_size) = true)
    {od_check_size an_check_size : Option Addr} {sl_check_size : Array (Option Value)} {oc_check_size kV_check_size dc_check_size pm_check_size cd_check_size ct_check_size : Value} {fa_check_size : Addr} (a_check_size : PySem.W.nsIn K mainGlobals "check_size" = some (some (.ref fa_check_size))) (l_check_size : K.lookup fa_check_size = some ⟨oc_check_size, od_check_size, .func (PySem.W.fnOf "check_size" "check_size" (defArgs s_check_size) (defBody s_check_size) (defScope s_check_size) .none kV_check_size dc_check_size pm_check_size an_check_size cd_check_size ct_check_size), sl_check_size⟩) (e_check_size : PySem.W.codeIn K cd_check_size "check_size" = true) (k_check_size : PySem.W.keepIn K (.ref fa_check_size) = true)
    {od_inverse_of an_inverse_of : Option Addr} {sl_inverse_of : Array (Option Value)} {oc_inverse_of kV_inverse_of dc_inverse_of pm_inverse_of cd_inverse_of ct_inverse_of : Value} {fa_inverse_of : Addr} (a_inverse_of : PySem.W.nsIn K mainGlobals "inverse_of" = some (some (.ref fa_inverse_of))) (l_inverse_of : K.lookup fa_inverse_of = some ⟨oc_inverse_of, od_inverse_of, .func (PySem.W.fnOf "inverse_of" "inverse_of" (defArgs s_inverse_of) (defBody s_inverse_of) (defScope s_inverse_of) .none kV_inverse_of dc_inverse_of pm_inverse_of an_inverse_of cd_inverse_of ct_inverse_of), sl_inverse_of⟩) (e_inverse_of : PySem.W.codeIn K cd_inverse_of "inverse_of" = true) (k_inverse_of : PySem.W.keepIn K (.ref fa_inverse_of) = true)
    {od_reduced_of an_reduced_of : Option Addr} {sl_reduced_of : Array (Option Value)} {oc_reduced_of kV_reduced_of dc_reduced_of pm_reduced_of cd_reduced_of ct_reduced_of : Value} {fa_reduced_of : Addr} (a_reduced_of : PySem.W.nsIn K mainGlobals "reduced_of" = some (some (.ref fa_reduced_of))) (l_reduced_of : K.lookup fa_reduced_of = some ⟨oc_reduced_of, od_reduced_of, .func (PySem.W.fnOf "reduced_of" "reduced_of" (defArgs s_reduced_of) (defBody s_reduced_of) (defScope s_reduced_of) .none kV_reduced_of dc_reduced_of pm_reduced_of an_reduced_of cd_reduced_of ct_reduced_of), sl_reduced_of⟩) (e_reduced_of : PySem.W.codeIn K cd_reduced_of "reduced_of" = true) (k_reduced_of : PySem.W.keepIn K (.ref fa_reduced_of) = true)
    {od_commutator_of an_commutator_of : Option Addr} {sl_commutator_of : Array (Option Value)} {oc_commutator_of kV_commutator_of dc_commutator_of pm_commutator_of cd_commutator_of ct_commutator_of : Value} {fa_commutator_of : Addr} (a_commutator_of : PySem.W.nsIn K mainGlobals "commutator_of" = some (some (.ref fa_commutator_of))) (l_commutator_of : K.lookup fa_commutator_of = some ⟨oc_commutator_of, od_commutator_of, .func (PySem.W.fnOf "commutator_of" "commutator_of" (defArgs s_commutator_of) (defBody s_commutator_of) (defScope s_commutator_of) .none kV_commutator_of dc_commutator_of pm_commutator_of an_commutator_of cd_commutator_of ct_commutator_of), sl_commutator_of⟩) (e_commutator_of : PySem.W.codeIn K cd_commutator_of "commutator_of" = true) (k_commutator_of : PySem.W.keepIn K (.ref fa_commutator_of) = true)
    {od_weights_of an_weights_of : Option Addr} {sl_weights_of : Array (Option Value)} {oc_weights_of kV_weights_of dc_weights_of pm_weights_of cd_weights_of ct_weights_of : Value} {fa_weights_of : Addr} (a_weights_of : PySem.W.nsIn K mainGlobals "weights_of" = some (some (.ref fa_weights_of))) (l_weights_of : K.lookup fa_weights_of = some ⟨oc_weights_of, od_weights_of, .func (PySem.W.fnOf "weights_of" "weights_of" (defArgs s_weights_of) (defBody s_weights_of) (defScope s_weights_of) .none kV_weights_of dc_weights_of pm_weights_of an_weights_of cd_weights_of ct_weights_of), sl_weights_of⟩) (e_weights_of : PySem.W.codeIn K cd_weights_of "weights_of" = true) (k_weights_of : PySem.W.keepIn K (.ref fa_weights_of) = true)
    {od_pairs_of_weight an_pairs_of_weight : Option Addr} {sl_pairs_of_weight : Array (Option Value)} {oc_pairs_of_weight kV_pairs_of_weight dc_pairs_of_weight pm_pairs_of_weight cd_pairs_of_weight ct_pairs_of_weight : Value} {fa_pairs_of_weight : Addr} (a_pairs_of_weight : PySem.W.nsIn K mainGlobals "pairs_of_weight" = some (some (.ref fa_pairs_of_weight))) (l_pairs_of_weight : K.lookup fa_pairs_of_weight = some ⟨oc_pairs_of_weight, od_pairs_of_weight, .func (PySem.W.fnOf "pairs_of_weight" "pairs_of_weight" (defArgs s_pairs_of_weight) (defBody s_pairs_of_weight) (defScope s_pairs_of_weight) .none kV_pairs_of_weight dc_pairs_of_weight pm_pairs_of_weight an_pairs_of_weight cd_pairs_of_weight ct_pairs_of_weight), sl_pairs_of_weight⟩) (e_pairs_of_weight : PySem.W.codeIn K cd_pairs_of_weight "pairs_of_weight" = true) (k_pairs_of_weight : PySem.W.keepIn K (.ref fa_pairs_of_weight) = true)
    {od_basics an_basics : Option Addr} {sl_basics : Array (Option Value)} {oc_basics kV_basics dc_basics pm_basics cd_basics ct_basics : Value} {fa_basics : Addr} (a_basics : PySem.W.nsIn K mainGlobals "basics" = some (some (.ref fa_basics))) (l_basics : K.lookup fa_basics = some ⟨oc_basics, od_basics, .func (PySem.W.fnOf "basics" "basics" (defArgs s_basics) (defBody s_basics) (defScope s_basics) .none kV_basics dc_basics pm_basics an_basics cd_basics ct_basics), sl_basics⟩) (e_basics : PySem.W.codeIn K cd_basics "basics" = true) (k_basics : PySem.W.keepIn K (.ref fa_basics) = true)
    {od_words_of_basics an_words_of_basics : Option Addr} {sl_words_of_basics : Array (Option Value)} {oc_words_of_basics kV_words_of_basics dc_words_of_basics pm_words_of_basics cd_words_of_basics ct_words_of_basics : Value} {fa_words_of_basics : Addr} (a_words_of_basics : PySem.W.nsIn K mainGlobals "words_of_basics" = some (some (.ref fa_words_of_basics))) (l_words_of_basics : K.lookup fa_words_of_basics = some ⟨oc_words_of_basics, od_words_of_basics, .func (PySem.W.fnOf "words_of_basics" "words_of_basics" (defArgs s_words_of_basics) (defBody s_words_of_basics) (defScope s_words_of_basics) .none kV_words_of_basics dc_words_of_basics pm_words_of_basics an_words_of_basics cd_words_of_basics ct_words_of_basics), sl_words_of_basics⟩) (e_words_of_basics : PySem.W.codeIn K cd_words_of_basics "words_of_basics" = true) (k_words_of_basics : PySem.W.keepIn K (.ref fa_words_of_basics) = true)
    {od_basic_list an_basic_list : Option Addr} {sl_basic_list : Array (Option Value)} {oc_basic_list kV_basic_list dc_basic_list pm_basic_list cd_basic_list ct_basic_list : Value} {fa_basic_list : Addr} (a_basic_list : PySem.W.nsIn K mainGlobals "basic_list" = some (some (.ref fa_basic_list))) (l_basic_list : K.lookup fa_basic_list = some ⟨oc_basic_list, od_basic_list, .func (PySem.W.fnOf "basic_list" "basic_list" (defArgs s_basic_list) (defBody s_basic_list) (defScope s_basic_list) .none kV_basic_list dc_basic_list pm_basic_list an_basic_list cd_basic_list ct_basic_list), sl_basic_list⟩) (e_basic_list : PySem.W.codeIn K cd_basic_list "basic_list" = true) (k_basic_list : PySem.W.keepIn K (.ref fa_basic_list) = true)
    {od_basic_words an_basic_words : Option Addr} {sl_basic_words : Array (Option Value)} {oc_basic_words kV_basic_words dc_basic_words pm_basic_words cd_basic_words ct_basic_words : Value} {fa_basic_words : Addr} (a_basic_words : PySem.W.nsIn K mainGlobals "basic_words" = some (some (.ref fa_basic_words))) (l_basic_words : K.lookup fa_basic_words = some ⟨oc_basic_words, od_basic_words, .func (PySem.W.fnOf "basic_words" "basic_words" (defArgs s_basic_words) (defBody s_basic_words) (defScope s_basic_words) .none kV_basic_words dc_basic_words pm_basic_words an_basic_words cd_basic_words ct_basic_words), sl_basic_words⟩) (e_basic_words : PySem.W.codeIn K cd_basic_words "basic_words" = true) (k_basic_words : PySem.W.keepIn K (.ref fa_basic_words) = true)
    {od__law_next an__law_next : Option Addr} {sl__law_next : Array (Option Value)} {oc__law_next kV__law_next dc__law_next pm__law_next cd__law_next ct__law_next : Value} {fa__law_next : Addr} (a__law_next : PySem.W.nsIn K mainGlobals "_law_next" = some (some (.ref fa__law_next))) (l__law_next : K.lookup fa__law_next = some ⟨oc__law_next, od__law_next, .func (PySem.W.fnOf "_law_next" "_law_next" (defArgs s__law_next) (defBody s__law_next) (defScope s__law_next) .none kV__law_next dc__law_next pm__law_next an__law_next cd__law_next ct__law_next), sl__law_next⟩) (e__law_next : PySem.W.codeIn K cd__law_next "_law_next" = true) (k__law_next : PySem.W.keepIn K (.ref fa__law_next) = true)
    {od__law_like an__law_like : Option Addr} {sl__law_like : Array (Option Value)} {oc__law_like kV__law_like dc__law_like pm__law_like cd__law_like ct__law_like : Value} {fa__law_like : Addr} (a__law_like : PySem.W.nsIn K mainGlobals "_law_like" = some (some (.ref fa__law_like))) (l__law_like : K.lookup fa__law_like = some ⟨oc__law_like, od__law_like, .func (PySem.W.fnOf "_law_like" "_law_like" (defArgs s__law_like) (defBody s__law_like) (defScope s__law_like) .none kV__law_like dc__law_like pm__law_like an__law_like cd__law_like ct__law_like), sl__law_like⟩) (e__law_like : PySem.W.codeIn K cd__law_like "_law_like" = true) (k__law_like : PySem.W.keepIn K (.ref fa__law_like) = true)
    {od__law_flip an__law_flip : Option Addr} {sl__law_flip : Array (Option Value)} {oc__law_flip kV__law_flip dc__law_flip pm__law_flip cd__law_flip ct__law_flip : Value} {fa__law_flip : Addr} (a__law_flip : PySem.W.nsIn K mainGlobals "_law_flip" = some (some (.ref fa__law_flip))) (l__law_flip : K.lookup fa__law_flip = some ⟨oc__law_flip, od__law_flip, .func (PySem.W.fnOf "_law_flip" "_law_flip" (defArgs s__law_flip) (defBody s__law_flip) (defScope s__law_flip) .none kV__law_flip dc__law_flip pm__law_flip an__law_flip cd__law_flip ct__law_flip), sl__law_flip⟩) (e__law_flip : PySem.W.codeIn K cd__law_flip "_law_flip" = true) (k__law_flip : PySem.W.keepIn K (.ref fa__law_flip) = true)
    {od__law_red an__law_red : Option Addr} {sl__law_red : Array (Option Value)} {oc__law_red kV__law_red dc__law_red pm__law_red cd__law_red ct__law_red : Value} {fa__law_red : Addr} (a__law_red : PySem.W.nsIn K mainGlobals "_law_red" = some (some (.ref fa__law_red))) (l__law_red : K.lookup fa__law_red = some ⟨oc__law_red, od__law_red, .func (PySem.W.fnOf "_law_red" "_law_red" (defArgs s__law_red) (defBody s__law_red) (defScope s__law_red) .none kV__law_red dc__law_red pm__law_red an__law_red cd__law_red ct__law_red), sl__law_red⟩) (e__law_red : PySem.W.codeIn K cd__law_red "_law_red" = true) (k__law_red : PySem.W.keepIn K (.ref fa__law_red) = true)
    {od__law_inv an__law_inv : Option Addr} {sl__law_inv : Array (Option Value)} {oc__law_inv kV__law_inv dc__law_inv pm__law_inv cd__law_inv ct__law_inv : Value} {fa__law_inv : Addr} (a__law_inv : PySem.W.nsIn K mainGlobals "_law_inv" = some (some (.ref fa__law_inv))) (l__law_inv : K.lookup fa__law_inv = some ⟨oc__law_inv, od__law_inv, .func (PySem.W.fnOf "_law_inv" "_law_inv" (defArgs s__law_inv) (defBody s__law_inv) (defScope s__law_inv) .none kV__law_inv dc__law_inv pm__law_inv an__law_inv cd__law_inv ct__law_inv), sl__law_inv⟩) (e__law_inv : PySem.W.codeIn K cd__law_inv "_law_inv" = true) (k__law_inv : PySem.W.keepIn K (.ref fa__law_inv) = true)
    {od__law_row an__law_row : Option Addr} {sl__law_row : Array (Option Value)} {oc__law_row kV__law_row dc__law_row pm__law_row cd__law_row ct__law_row : Value} {fa__law_row : Addr} (a__law_row : PySem.W.nsIn K mainGlobals "_law_row" = some (some (.ref fa__law_row))) (l__law_row : K.lookup fa__law_row = some ⟨oc__law_row, od__law_row, .func (PySem.W.fnOf "_law_row" "_law_row" (defArgs s__law_row) (defBody s__law_row) (defScope s__law_row) .none kV__law_row dc__law_row pm__law_row an__law_row cd__law_row ct__law_row), sl__law_row⟩) (e__law_row : PySem.W.codeIn K cd__law_row "_law_row" = true) (k__law_row : PySem.W.keepIn K (.ref fa__law_row) = true)
    {od__law_words an__law_words : Option Addr} {sl__law_words : Array (Option Value)} {oc__law_words kV__law_words dc__law_words pm__law_words cd__law_words ct__law_words : Value} {fa__law_words : Addr} (a__law_words : PySem.W.nsIn K mainGlobals "_law_words" = some (some (.ref fa__law_words))) (l__law_words : K.lookup fa__law_words = some ⟨oc__law_words, od__law_words, .func (PySem.W.fnOf "_law_words" "_law_words" (defArgs s__law_words) (defBody s__law_words) (defScope s__law_words) .none kV__law_words dc__law_words pm__law_words an__law_words cd__law_words ct__law_words), sl__law_words⟩) (e__law_words : PySem.W.codeIn K cd__law_words "_law_words" = true) (k__law_words : PySem.W.keepIn K (.ref fa__law_words) = true)
    {od_law an_law : Option Addr} {sl_law : Array (Option Value)} {oc_law kV_law dc_law pm_law cd_law ct_law : Value} {fa_law : Addr} (a_law : PySem.W.nsIn K mainGlobals "law" = some (some (.ref fa_law))) (l_law : K.lookup fa_law = some ⟨oc_law, od_law, .func (PySem.W.fnOf "law" "law" (defArgs s_law) (defBody s_law) (defScope s_law) .none kV_law dc_law pm_law an_law cd_law ct_law), sl_law⟩) (e_law : PySem.W.codeIn K cd_law "law" = true) (k_law : PySem.W.keepIn K (.ref fa_law) = true)
    (z_isinstance : PySem.W.nsIn K mainGlobals "isinstance" = some none)
    (z_int : PySem.W.nsIn K mainGlobals "int" = some none)
    (z_bool : PySem.W.nsIn K mainGlobals "bool" = some none)
    (z_len : PySem.W.nsIn K mainGlobals "len" = some none)
    (z_str : PySem.W.nsIn K mainGlobals "str" = some none)
    (z_range : PySem.W.nsIn K mainGlobals "range" = some none)
    (z_list : PySem.W.nsIn K mainGlobals "list" = some none)
    (z_tuple : PySem.W.nsIn K mainGlobals "tuple" = some none)
    (z_all : PySem.W.nsIn K mainGlobals "all" = some none)
    {t_ALPHABET : Tok} (z_ALPHABET : PySem.W.nsIn K mainGlobals "ALPHABET" = some (some (.str "abcdefghijklmnopqrstuvwxyz" t_ALPHABET))) :
    ∃ fd : FuncData, (∀ (s : Shared) (v : Value), BindsTo s fd ⟨[v], []⟩ [("script", v)]) ∧ ∀ base : Heap, K.In base → base.Ns mainGlobals mg → FnOk l.prog w K mg base CX0 12 fa fd ["script"] (spLaw K m_law) := by
  have e := hfa.symm.trans (PySem.W.mg_of X G a_law)
  cases e
  have F_is_integer := fun_mk (st := s_is_integer) l_is_integer e_is_integer k_is_integer
  have F_check_natural := fun_mk (st := s_check_natural) l_check_natural e_check_natural k_check_natural
  have F_is_size := fun_mk (st := s_is_size) l_is_size e_is_size k_is_size
  have F_check_size := fun_mk (st := s_check_size) l_check_size e_check_size k_check_size
  have F_inverse_of := fun_mk (st := s_inverse_of) l_inverse_of e_inverse_of k_inverse_of
  have F_reduced_of := fun_mk (st := s_reduced_of) l_reduced_of e_reduced_of k_reduced_of
  have F_commutator_of := fun_mk (st := s_commutator_of) l_commutator_of e_commutator_of k_commutator_of
  have F_weights_of := fun_mk (st := s_weights_of) l_weights_of e_weights_of k_weights_of
  have F_pairs_of_weight := fun_mk (st := s_pairs_of_weight) l_pairs_of_weight e_pairs_of_weight k_pairs_of_weight
  have F_basics := fun_mk (st := s_basics) l_basics e_basics k_basics
  have F_words_of_basics := fun_mk (st := s_words_of_basics) l_words_of_basics e_words_of_basics k_words_of_basics
  have F_basic_list := fun_mk (st := s_basic_list) l_basic_list e_basic_list k_basic_list
  have F_basic_words := fun_mk (st := s_basic_words) l_basic_words e_basic_words k_basic_words
  have F__law_next := fun_mk (st := s__law_next) l__law_next e__law_next k__law_next
  have F__law_like := fun_mk (st := s__law_like) l__law_like e__law_like k__law_like
  have F__law_flip := fun_mk (st := s__law_flip) l__law_flip e__law_flip k__law_flip
  have F__law_red := fun_mk (st := s__law_red) l__law_red e__law_red k__law_red
  have F__law_inv := fun_mk (st := s__law_inv) l__law_inv e__law_inv k__law_inv
  have F__law_row := fun_mk (st := s__law_row) l__law_row e__law_row k__law_row
  have F__law_words := fun_mk (st := s__law_words) l__law_words e__law_words k__law_words
  have F_law := fun_mk (st := s_law) l_law e_law k_law
  have hb : ∀ (kV doc pm : Value) (an : Option Addr) (cdv ct : Value) (us : List Value), us.length = ["script"].length → bindArgs (PySem.W.fnOf "law" "law" (defArgs s_law) (defBody s_law) (defScope s_law) .none kV doc pm an cdv ct) ⟨us, []⟩ = pure ((["script"] : List Str).zip us) := fun _ _ _ _ _ _ us hl => match us, hl with | [_], _ => rfl
  refine ⟨_, fun s v => Fun.bindsTo (ps := ["script"]) F_law hb s [v] rfl, fun base _ _ => ?_⟩
  have b_isinstance := PySem.W.mg_none_of X G z_isinstance
  have b_int := PySem.W.mg_none_of X G z_int
  have b_bool := PySem.W.mg_none_of X G z_bool
  have b_len := PySem.W.mg_none_of X G z_len
  have b_str := PySem.W.mg_none_of X G z_str
  have b_range := PySem.W.mg_none_of X G z_range
  have b_list := PySem.W.mg_none_of X G z_list
  have b_tuple := PySem.W.mg_none_of X G z_tuple
  have b_all := PySem.W.mg_none_of X G z_all
  have g_ALPHABET := PySem.W.mg_of X G z_ALPHABET
  have c_is_integer := ok_is_integer (P := l.prog) (w := w) (base := base) b_isinstance b_int b_bool F_is_integer (PySem.W.mg_of X G a_is_integer)
  have c_check_natural := ok_check_natural (P := l.prog) (w := w) (base := base) c_is_integer F_check_natural (PySem.W.mg_of X G a_check_natural)
  have c_is_size := ok_is_size (P := l.prog) (w := w) (base := base) c_is_integer b_len g_ALPHABET F_is_size (PySem.W.mg_of X G a_is_size)
  have c_check_size := ok_check_size (P := l.prog) (w := w) (base := base) c_is_size F_check_size (PySem.W.mg_of X G a_check_size)
  have c_inverse_of := ok_inverse_of (P := l.prog) (w := w) (base := base) F_inverse_of (PySem.W.mg_of X G a_inverse_of)
  have c_reduced_of := ok_reduced_of (P := l.prog) (w := w) (base := base) F_reduced_of (PySem.W.mg_of X G a_reduced_of)
  have c_commutator_of := ok_commutator_of (P := l.prog) (w := w) (base := base) c_reduced_of c_inverse_of F_commutator_of (PySem.W.mg_of X G a_commutator_of)
  have c_weights_of := ok_weights_of (P := l.prog) (w := w) (base := base) b_isinstance b_str F_weights_of (PySem.W.mg_of X G a_weights_of)
  have c_pairs_of_weight := ok_pairs_of_weight (P := l.prog) (w := w) (base := base) c_weights_of b_len b_range F_pairs_of_weight (PySem.W.mg_of X G a_pairs_of_weight)
  have c_basics := ok_basics (P := l.prog) (w := w) (base := base) c_pairs_of_weight b_list b_range g_ALPHABET F_basics (PySem.W.mg_of X G a_basics)
  have c_words_of_basics := ok_words_of_basics (P := l.prog) (w := w) (base := base) c_commutator_of b_isinstance b_str F_words_of_basics (PySem.W.mg_of X G a_words_of_basics)
  have c_basic_list := ok_basic_list (P := l.prog) (w := w) (base := base) c_check_size c_check_natural c_basics b_tuple F_basic_list (PySem.W.mg_of X G a_basic_list)
  have c_basic_words := ok_basic_words (P := l.prog) (w := w) (base := base) c_check_size c_check_natural c_words_of_basics c_basics b_tuple F_basic_words (PySem.W.mg_of X G a_basic_words)
  have c__law_next := ok__law_next (P := l.prog) (w := w) (base := base) b_len b_int F__law_next (PySem.W.mg_of X G a__law_next)
  have c__law_like := ok__law_like (P := l.prog) (w := w) (base := base) b_isinstance b_list b_tuple b_len b_range b_all b_bool b_str b_int F__law_like (PySem.W.mg_of X G a__law_like) 10
  have c__law_flip := ok__law_flip (P := l.prog) (w := w) (base := base) F__law_flip (PySem.W.mg_of X G a__law_flip)
  have c__law_red := ok__law_red (P := l.prog) (w := w) (base := base) c__law_flip F__law_red (PySem.W.mg_of X G a__law_red)
  have c__law_inv := ok__law_inv (P := l.prog) (w := w) (base := base) c__law_red c__law_flip F__law_inv (PySem.W.mg_of X G a__law_inv)
  have c__law_row := ok__law_row (P := l.prog) (w := w) (base := base) b_range b_len b_isinstance b_str F__law_row (PySem.W.mg_of X G a__law_row)
  have c__law_words := ok__law_words (P := l.prog) (w := w) (base := base) c__law_red c__law_inv b_isinstance b_str F__law_words (PySem.W.mg_of X G a__law_words)
  have c_law := ok_law (P := l.prog) (w := w) (base := base) c__law_next c__law_row c_basic_list c__law_like c__law_words c_basic_words b_list b_range b_tuple b_len F_law (PySem.W.mg_of X G a_law)
  exact c_law.fnOk F_law (PySem.W.mg_of X G a_law)
end LK
open PySem PySem.W PyProof.Rows
set_option maxRecDepth 100000 in
set_option maxHeartbeats 0 in
theorem PySem.Challenge.cw_wholefree_k70_basic_commutators_in_their_holds : PySem.Challenge.rw_wholefree_k70_basic_commutators_in_their.Holds := by
  w_on; o_law; k_head; (case hw => w_witness2)
  k_fill
  refine L2.walk_of (l := PySem.Challenge.rw_wholefree_k70_basic_commutators_in_their) (n := 63) (k := 12) (x := "script") (CX := fun _ => L2.CX0) (sp := fun w => Rf.spLaw _ LK.m_law) rfl (by decide) rfl ⟨rfl, by decide, by decide⟩ (fun w h Y => PySem.W.kIn_of Y) ?F (fun _ H a ns hl hO hS => Rf.spLaw_ok LK.law_true hl hO hS) (fun _ _ _ _ _ h => h)
  case F =>
    intro w mg fa h KX G hmg
    refine' LK.all_mk KX G hmg ?a_is_integer ?l_is_integer ?e_is_integer ?k_is_integer ?a_check_natural ?l_check_natural ?e_check_natural ?k_check_natural ?a_is_size ?l_is_size ?e_is_size ?k_is_size ?a_check_size ?l_check_size ?e_check_size ?k_check_size ?a_inverse_of ?l_inverse_of ?e_inverse_of ?k_inverse_of ?a_reduced_of ?l_reduced_of ?e_reduced_of ?k_reduced_of ?a_commutator_of ?l_commutator_of ?e_commutator_of ?k_commutator_of ?a_weights_of ?l_weights_of ?e_weights_of ?k_weights_of ?a_pairs_of_weight ?l_pairs_of_weight ?e_pairs_of_weight ?k_pairs_of_weight ?a_basics ?l_basics ?e_basics ?k_basics ?a_words_of_basics ?l_words_of_basics ?e_words_of_basics ?k_words_of_basics ?a_basic_list ?l_basic_list ?e_basic_list ?k_basic_list ?a_basic_words ?l_basic_words ?e_basic_words ?k_basic_words ?a__law_next ?l__law_next ?e__law_next ?k__law_next ?a__law_like ?l__law_like ?e__law_like ?k__law_like ?a__law_flip ?l__law_flip ?e__law_flip ?k__law_flip ?a__law_red ?l__law_red ?e__law_red ?k__law_red ?a__law_inv ?l__law_inv ?e__law_inv ?k__law_inv ?a__law_row ?l__law_row ?e__law_row ?k__law_row ?a__law_words ?l__law_words ?e__law_words ?k__law_words ?a_law ?l_law ?e_law ?k_law ?z_isinstance ?z_int ?z_bool ?z_len ?z_str ?z_range ?z_list ?z_tuple ?z_all ?z_ALPHABET
    (case a_is_integer => k_is); (case l_is_integer => k_is); (case e_is_integer => k_is); (case k_is_integer => k_is); (case a_check_natural => k_is); (case l_check_natural => k_is); (case e_check_natural => k_is); (case k_check_natural => k_is); (case a_is_size => k_is); (case l_is_size => k_is); (case e_is_size => k_is); (case k_is_size => k_is); (case a_check_size => k_is); (case l_check_size => k_is); (case e_check_size => k_is); (case k_check_size => k_is); (case a_inverse_of => k_is); (case l_inverse_of => k_is); (case e_inverse_of => k_is); (case k_inverse_of => k_is); (case a_reduced_of => k_is); (case l_reduced_of => k_is); (case e_reduced_of => k_is); (case k_reduced_of => k_is); (case a_commutator_of => k_is); (case l_commutator_of => k_is); (case e_commutator_of => k_is); (case k_commutator_of => k_is); (case a_weights_of => k_is); (case l_weights_of => k_is); (case e_weights_of => k_is); (case k_weights_of => k_is); (case a_pairs_of_weight => k_is); (case l_pairs_of_weight => k_is); (case e_pairs_of_weight => k_is); (case k_pairs_of_weight => k_is); (case a_basics => k_is); (case l_basics => k_is); (case e_basics => k_is); (case k_basics => k_is); (case a_words_of_basics => k_is); (case l_words_of_basics => k_is); (case e_words_of_basics => k_is); (case k_words_of_basics => k_is); (case a_basic_list => k_is); (case l_basic_list => k_is); (case e_basic_list => k_is); (case k_basic_list => k_is); (case a_basic_words => k_is); (case l_basic_words => k_is); (case e_basic_words => k_is); (case k_basic_words => k_is); (case a__law_next => k_is); (case l__law_next => k_is); (case e__law_next => k_is); (case k__law_next => k_is); (case a__law_like => k_is); (case l__law_like => k_is); (case e__law_like => k_is); (case k__law_like => k_is); (case a__law_flip => k_is); (case l__law_flip => k_is); (case e__law_flip => k_is); (case k__law_flip => k_is); (case a__law_red => k_is); (case l__law_red => k_is); (case e__law_red => k_is); (case k__law_red => k_is); (case a__law_inv => k_is); (case l__law_inv => k_is); (case e__law_inv => k_is); (case k__law_inv => k_is); (case a__law_row => k_is); (case l__law_row => k_is); (case e__law_row => k_is); (case k__law_row => k_is); (case a__law_words => k_is); (case l__law_words => k_is); (case e__law_words => k_is); (case k__law_words => k_is); (case a_law => k_is); (case l_law => k_is); (case e_law => k_is); (case k_law => k_is); (case z_isinstance => k_is); (case z_int => k_is); (case z_bool => k_is); (case z_len => k_is); (case z_str => k_is); (case z_range => k_is); (case z_list => k_is); (case z_tuple => k_is); (case z_all => k_is); (case z_ALPHABET => k_is)
