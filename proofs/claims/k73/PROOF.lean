import PyProof.Rows.All
import KE.KDictKeyed
import Wide.All
import OpenK.AllK
import Wide.FinOn
import HandS.ForMost
import HandS.Strs
import HandS.TupAny
import HandS.TupMul
import HandS.Wide
import HandS.Style
import HandS.IsInst
import HandS.StrMore
import HandS.Conv
import HandS.Walk
import HandS.NoneIn
import HandS.Deep
import KE.KRevSl
import PyProof.ListStr
import HandS.Codes
import HandS.Defaults
import HandS.SetKeys
import HandS.Lambda
import KE.GoesEnum
import HandS.Replace
import HandS.SortInts
import HandS.SetFor
import HandS.TupSets
import KE.KIndexOf
import KE.SortData
import KE.DataMinMax
import HandS.ListItems
import HandS.More
import PyProof.NeKinds
import HandS.DictComp
import HandS.SetBool
import KE.KDictCopyH
import KE.KDictSum
import PySem.Challenge.RW_wholefree_k73_tables_and_words
set_option Elab.async false
set_option linter.all false
set_option maxRecDepth 100000
/-! Rf: values without addresses, a heap of lists and dicts, and what a text computes over them. -/
namespace Rf
open PySem PySem.Spec PyProof.Rows L2

/-- what a run stands on: the fragment, the program, the world -/
structure FW where
  K : PySem.W.Frag
  P : Program
  w : World
instance : Coe FW PySem.W.Frag := ⟨FW.K⟩
abbrev _root_.L2.Cx.fw (X : L2.Cx) : FW := ⟨X.K, X.prog, X.w⟩
/-- a key of a dict -/
inductive Ke where
  | i (n : Int) | s (x : List Nat)
  deriving DecidableEq

/-- a value: texts by their signs, tuples as trees; lists and dicts at places of the small heap; lists and dicts that stand still -/
inductive Va where
  | non | bl (b : Bool) | int (i : Int) | str (s : List Nat) | tup (xs : List Va) | ref (i : Nat) | fl (xs : List Va) | pr (xs : List Va) | fd (ks : List Ke) (vs : List Va) | sl (xs : List Va)

/-! the key that a value is, where it is one -/
mutual
def nkOf : Va → Option NestedKey
  | .non => some .none
  | .int i => some (.num i)
  | .bl b => some (.num (if b then 1 else 0))
  | .str s => some (.text ⟨s.toArray⟩)
  | .tup xs => match nksOf xs with
    | some ks => some (.tup ks)
    | none => none
  | .ref _ => none
  | .fl _ => none
  | .pr _ => none
  | .fd _ _ => none
  | .sl _ => none
def nksOf : List Va → Option (List NestedKey)
  | [] => some []
  | x :: r => match nkOf x with
    | some k => match nksOf r with
      | some ks => some (k :: ks)
      | none => none
    | none => none
end

def Ke.va : Ke → Va
  | .i n => .int n
  | .s x => .str x
def Ke.key : Ke → Key
  | .i n => .inl n
  | .s x => .inr ⟨x.toArray⟩
theorem Ke.key_inj : ∀ {a b : Ke}, a.key = b.key → a = b
  | .i _, .i _, h => by
    have := Sum.inl.inj h
    rw [this]
  | .s x, .s y, h => by
    have h1 := congrArg (fun z : Str => z.cps.toList) (Sum.inr.inj h)
    simp at h1
    rw [h1]
  | .i _, .s _, h => by cases h
  | .s _, .i _, h => by cases h

inductive Ob where
  | lst (xs : List Va)
  | dic (kvs : List (Ke × Va))
  | dlk (kvs : List (Ke × Va))
  | dit (kvs : List (Va × Va))
  | st (ns : List Int)

structure Hea where
  n : Nat
  l : List Ob

def Hea.get (h : Hea) (i : Nat) : Option Ob := if i < h.n then h.l[h.n - 1 - i]? else none
def Hea.set (h : Hea) (i : Nat) (o : Ob) : Hea := ⟨h.n, h.l.set (h.n - 1 - i) o⟩
def Hea.push (h : Hea) (o : Ob) : Hea := ⟨h.n + 1, o :: h.l⟩

theorem Hea.get_lt {h : Hea} {i : Nat} {o : Ob} (e : h.get i = some o) : i < h.n := by
  unfold Hea.get at e
  split at e
  · assumption
  · cases e
theorem Hea.get_push_self (h : Hea) (o : Ob) : (h.push o).get h.n = some o := by
  unfold Hea.get Hea.push
  simp
theorem Hea.get_push_lt {h : Hea} {i : Nat} (o : Ob) (hi : i < h.n) : (h.push o).get i = h.get i := by
  unfold Hea.get Hea.push
  have e : h.n + 1 - 1 - i = (h.n - 1 - i) + 1 := by omega
  simp only [e, if_pos hi, if_pos (show i < h.n + 1 by omega), List.getElem?_cons_succ]
theorem Hea.get_push_of {h : Hea} {i : Nat} {o o' : Ob} (e : h.get i = some o') : (h.push o).get i = some o' := by
  rw [Hea.get_push_lt o (Hea.get_lt e)]; exact e
theorem Hea.get_push_inv {h : Hea} {i : Nat} {o o' : Ob} (e : (h.push o).get i = some o') : (i = h.n ∧ o' = o) ∨ h.get i = some o' := by
  by_cases hi : i < h.n
  · rw [Hea.get_push_lt o hi] at e; exact .inr e
  · have h1 : i < h.n + 1 := Hea.get_lt e
    have h2 : i = h.n := by omega
    subst h2
    rw [Hea.get_push_self] at e
    exact .inl ⟨rfl, (Option.some.inj e).symm⟩
theorem Hea.get_set_self {h : Hea} {i : Nat} {o o' : Ob} (e : h.get i = some o) : (h.set i o').get i = some o' := by
  have hi := Hea.get_lt e
  unfold Hea.get at e
  rw [if_pos hi] at e
  unfold Hea.get Hea.set
  simp only [if_pos hi]
  rw [List.getElem?_set_self (List.getElem?_eq_some_iff.mp e).1]
theorem Hea.get_set_ne {h : Hea} {i j : Nat} {o' : Ob} (hi : i < h.n) (hij : i ≠ j) : (h.set i o').get j = h.get j := by
  unfold Hea.get Hea.set
  simp only
  split
  · rw [List.getElem?_set_ne (by omega)]
  · rfl
theorem Hea.n_push (h : Hea) (o : Ob) : (h.push o).n = h.n + 1 := rfl
theorem Hea.n_set (h : Hea) (i : Nat) (o : Ob) : (h.set i o).n = h.n := rfl

/-- what a computation comes to: a value, an error (class, value), nothing that is told -/
inductive Rs (α : Type) where
  | ok (a : α) (h : Hea)
  | err (c : Nat) (v : Va) (h : Hea)
  | no
def Rs.bind {α β : Type} (r : Rs α) (f : α → Hea → Rs β) : Rs β := match r with
  | .ok a h => f a h
  | .err c v h => .err c v h
  | .no => .no

abbrev Lo := List (Option Va)
abbrev M (α : Type) := Hea → Rs α
abbrev Ex := Lo → M Va
abbrev Tx := Lo → M Bool
abbrev Ax := Lo → M (List Va)
inductive Ou where
  | nx (l : Lo) | rt (v : Va) | bk (l : Lo) | ct (l : Lo)
abbrev Sx := Lo → M Ou

/-! ### the ties -/
/-- a list that stands still: the script, a list of the module -/
def FzL (K : FW) (H : Hp) (a : Addr) (us : List V) : Prop := (∃ o, H a = some (.frz o (.lst us))) ∨
  ∃ (o : Obj) (its : Array Value) (n : Nat), K.K.lookup a = some o ∧ o.cls = .type "list" ∧ o.dict = none ∧ o.data = .seq its n ∧ its.size ≤ sizeLine ∧ Vals us its.toList
theorem FzL.sq {K : FW} {H : Hp} {a : Addr} {us : List V} (h : FzL K H a us) : SqL K H a us := by
  rcases h with ⟨o, h⟩ | h
  · exact .inl (.inr ⟨o, h⟩)
  · exact .inr h
/-- a list of ours that stands still -/
def FrL (H : Hp) (a : Addr) (us : List V) : Prop := ∃ o, H a = some (.frz o (.lst us))
theorem FrL.sq {K : FW} {H : Hp} {a : Addr} {us : List V} (h : FrL H a us) : SqL K H a us := let ⟨o, h⟩ := h; .inl (.inr ⟨o, h⟩)
/-- a tuple that has no dict of its own -/
def NoD (K : FW) (H : Hp) (a : Addr) : Prop := (∃ o us, H a = some (.frz o (.tup us)) ∧ o.dict = none) ∨ ∃ o, K.K.lookup a = some o ∧ o.dict = none
def TqT (K : FW) (H : Hp) (a : Addr) (us : List V) : Prop := SqT K H a us ∧ NoD K H a
section
variable (K : FW) (ρ : List Addr) (H : Hp)
mutual
def RV : Va → V → Prop
  | .non, x => x = .non
  | .bl b, x => x = .bl b
  | .int i, x => x = .int i
  | .str s, x => x = .str ⟨s.toArray⟩
  | .tup xs, x => ∃ a us, x = .ref a ∧ TqT K H a us ∧ RVs xs us
  | .ref i, x => ∃ a, x = .ref a ∧ ρ[i]? = some a
  | .fl xs, x => ∃ a us, x = .ref a ∧ FrL H a us ∧ RVs xs us
  | .sl xs, x => ∃ a us, x = .ref a ∧ FzL K H a us ∧ RVs xs us
  | .pr xs, x => ∃ a us, x = .ref a ∧ SqT K H a us ∧ RVs xs us
  | .fd ks vs, x => ∃ a o ws, x = .ref a ∧ (a ∉ ρ ∧ H a = some (.frz o (.dK ws))) ∧ ws.map (·.1) = ks.map Ke.key ∧ RVs vs (ws.map (·.2))
def RVs : List Va → List V → Prop
  | [], us => us = []
  | x :: xs, us => ∃ u r, us = u :: r ∧ RV x u ∧ RVs xs r
end
end

/-- tuples and the script stand as they stood; places are kept -/
structure Ext (K : FW) (ρ : List Addr) (H : Hp) (ρ' : List Addr) (H' : Hp) : Prop where
  pre : ∃ more, ρ' = ρ ++ more ∧ ∀ a ∈ more, H a = none
  tup : ∀ a us, SqT K H a us → SqT K H' a us
  fz : ∀ a o u, H a = some (.frz o u) → H' a = some (.frz o u)
  nod : ∀ a, NoD K H a → NoD K H' a
  there : ∀ a, H a ≠ none → H' a ≠ none
  keep : ∀ a, H a ≠ none → a ∉ ρ → H' a = H a
section
variable {K : FW} {ρ ρ1 ρ2 ρ' : List Addr} {H H1 H2 H' : Hp}
theorem Ext.refl : Ext K ρ H ρ H := ⟨⟨[], by simp, by simp⟩, fun _ _ h => h, fun _ _ _ h => h, fun _ h => h, fun _ h => h, fun _ _ _ => rfl⟩
theorem Ext.trans (a : Ext K ρ H ρ1 H1) (b : Ext K ρ1 H1 ρ2 H2) : Ext K ρ H ρ2 H2 := by
  obtain ⟨m1, e1, f1⟩ := a.pre
  obtain ⟨m2, e2, f2⟩ := b.pre
  have gone : ∀ x, x ∉ ρ → H x ≠ none → x ∉ ρ1 := fun x hx hn hm => by
    rw [e1] at hm
    rcases List.mem_append.mp hm with z | z
    · exact hx z
    · exact hn (f1 x z)
  refine ⟨⟨m1 ++ m2, by rw [e2, e1, List.append_assoc], fun x hx => ?_⟩, fun x us h => b.tup _ _ (a.tup _ _ h), fun x o us h => b.fz _ _ _ (a.fz _ _ _ h), fun x h => b.nod _ (a.nod _ h), fun x h => b.there x (a.there x h), fun x hn hx => ?_⟩
  · rcases List.mem_append.mp hx with z | z
    · exact f1 x z
    · by_cases hn : H x = none
      · exact hn
      · exact absurd (f2 x z) (a.there x hn)
  · have k1 := a.keep x hn hx
    exact (b.keep x (by rw [k1]; exact hn) (gone x hx hn)).trans k1
theorem Ext.at (a : Ext K ρ H ρ1 H1) {i : Nat} {p : Addr} (h : ρ[i]? = some p) : ρ1[i]? = some p := by
  obtain ⟨m, e, _⟩ := a.pre
  rw [e, List.getElem?_append_left (List.getElem?_eq_some_iff.mp h).1]
  exact h
theorem SqT.upd_none {a p : Addr} {us : List V} {o : HO} (h : SqT K H a us) (n : H p = none) : SqT K (upd H p o) a us := by
  rcases h with (h | ⟨ob, h⟩) | h
  · exact .inl (.inl (by rw [upd_ne (ne_of_none h n)]; exact h))
  · exact .inl (.inr ⟨ob, by rw [upd_ne (ne_of_none h n)]; exact h⟩)
  · exact .inr h
theorem SqT.upd_mut {a p : Addr} {us : List V} {o : HO} (h : SqT K H a us) (n : Mut (H p)) : SqT K (upd H p o) a us := by
  rcases h with (h | ⟨ob, h⟩) | h
  · exact .inl (.inl (by rw [upd_ne (fun e => by rw [← e, h] at n; exact n)]; exact h))
  · exact .inl (.inr ⟨ob, by rw [upd_ne (fun e => by rw [← e, h] at n; exact n)]; exact h⟩)
  · exact .inr h
theorem NoD.upd_none {a p : Addr} {o : HO} (h : NoD K H a) (n : H p = none) : NoD K (upd H p o) a := by
  rcases h with ⟨ob, us, h, hd⟩ | h
  · exact .inl ⟨ob, us, by rw [upd_ne (ne_of_none h n)]; exact h, hd⟩
  · exact .inr h
theorem NoD.upd_mut {a p : Addr} {o : HO} (h : NoD K H a) (n : Mut (H p)) : NoD K (upd H p o) a := by
  rcases h with ⟨ob, us, h, hd⟩ | h
  · exact .inl ⟨ob, us, by rw [upd_ne (fun e => by rw [← e, h] at n; exact n)]; exact h, hd⟩
  · exact .inr h
theorem upd_there {p : Addr} {o : HO} : ∀ a, H a ≠ none → upd H p o a ≠ none := fun a h => by
  by_cases e : a = p
  · subst e; rw [upd_same]; simp
  · rw [upd_ne e]; exact h
theorem Ext.new {p : Addr} {o : HO} (n : H p = none) : Ext K ρ H ρ (upd H p o) :=
  ⟨⟨[], by simp, by simp⟩, fun _ _ h => SqT.upd_none h n, fun _ _ _ h => by rw [upd_ne (ne_of_none h n)]; exact h, fun _ h => NoD.upd_none h n, upd_there, fun a h _ => upd_ne fun e => h (e ▸ n)⟩
theorem Ext.newAt {p : Addr} {o : HO} (n : H p = none) : Ext K ρ H (ρ ++ [p]) (upd H p o) :=
  ⟨⟨[p], rfl, fun a h => by rw [List.mem_singleton.mp h]; exact n⟩, fun _ _ h => SqT.upd_none h n, fun _ _ _ h => by rw [upd_ne (ne_of_none h n)]; exact h, fun _ h => NoD.upd_none h n, upd_there, fun a h _ => upd_ne fun e => h (e ▸ n)⟩
theorem Ext.writeM {p : Addr} {o : HO} (hp : p ∈ ρ) (n : Mut (H p)) : Ext K ρ H ρ (upd H p o) :=
  ⟨⟨[], by simp, by simp⟩, fun _ _ h => SqT.upd_mut h n, fun _ _ _ h => by rw [upd_ne (fun e => by rw [← e, h] at n; exact n)]; exact h, fun _ h => NoD.upd_mut h n, upd_there, fun a _ h => upd_ne fun e => h (e ▸ hp)⟩
theorem Ext.write {p : Addr} {o : HO} {i : Nat} (hp : ρ[i]? = some p) (n : Mut (H p)) : Ext K ρ H ρ (upd H p o) := Ext.writeM (List.mem_of_getElem? hp) n

/-- the same, less what is locked -/
structure Ext0 (K : FW) (ρ : List Addr) (H : Hp) (ρ' : List Addr) (H' : Hp) : Prop where
  pre : ∃ more, ρ' = ρ ++ more ∧ ∀ a ∈ more, H a = none
  fd : ∀ a o us, a ∉ ρ → H a = some (.frz o (.dK us)) → H' a = some (.frz o (.dK us))
  tup : ∀ a us, SqT K H a us → SqT K H' a us
  fz : ∀ a o us, H a = some (.frz o (.lst us)) → H' a = some (.frz o (.lst us))
  nod : ∀ a, NoD K H a → NoD K H' a
theorem Ext.to0 (e : Ext K ρ H ρ1 H1) : Ext0 K ρ H ρ1 H1 := ⟨e.pre, fun _ _ _ _ h => e.fz _ _ _ h, e.tup, fun _ _ _ h => e.fz _ _ _ h, e.nod⟩
theorem Ext0.at (a : Ext0 K ρ H ρ1 H1) {i : Nat} {p : Addr} (h : ρ[i]? = some p) : ρ1[i]? = some p := by
  obtain ⟨m, e, _⟩ := a.pre
  rw [e, List.getElem?_append_left (List.getElem?_eq_some_iff.mp h).1]
  exact h
theorem Ext0.out (e : Ext0 K ρ H ρ1 H1) {a : Addr} {o : HO} (h : a ∉ ρ) (n : H a = some o) : a ∉ ρ1 := fun z => by
  obtain ⟨m, e1, f⟩ := e.pre
  rw [e1] at z
  rcases List.mem_append.mp z with z | z
  · exact h z
  · rw [f a z] at n; cases n
mutual
theorem RV.ext0 (e : Ext0 K ρ H ρ1 H1) : ∀ (a : Va) {u : V}, RV K ρ H a u → RV K ρ1 H1 a u
  | .non, _, h => h
  | .bl _, _, h => h
  | .int _, _, h => h
  | .str _, _, h => h
  | .tup xs, _, ⟨a, us, e1, q, r⟩ => ⟨a, us, e1, ⟨e.tup _ _ q.1, e.nod _ q.2⟩, RVs.ext0 e xs r⟩
  | .pr xs, _, ⟨a, us, e1, q, r⟩ => ⟨a, us, e1, e.tup _ _ q, RVs.ext0 e xs r⟩
  | .ref _, _, ⟨a, e1, q⟩ => ⟨a, e1, e.at q⟩
  | .fl xs, _, ⟨a, us, e1, ⟨o, q⟩, r⟩ => ⟨a, us, e1, ⟨o, e.fz _ _ _ q⟩, RVs.ext0 e xs r⟩
  | .sl xs, _, ⟨a, us, e1, q, r⟩ => ⟨a, us, e1, q.elim (fun ⟨o, z⟩ => .inl ⟨o, e.fz _ _ _ z⟩) .inr, RVs.ext0 e xs r⟩
  | .fd ks vs, _, ⟨a, o, ws, e1, ⟨q1, q2⟩, k, r⟩ => ⟨a, o, ws, e1, ⟨e.out q1 q2, e.fd _ _ _ q1 q2⟩, k, RVs.ext0 e vs r⟩
theorem RVs.ext0 (e : Ext0 K ρ H ρ1 H1) : ∀ (xs : List Va) {us : List V}, RVs K ρ H xs us → RVs K ρ1 H1 xs us
  | [], _, h => h
  | x :: xs, _, ⟨u, r, e1, q, s⟩ => ⟨u, r, e1, RV.ext0 e x q, RVs.ext0 e xs s⟩
end
theorem RV.ext (e : Ext K ρ H ρ1 H1) (a : Va) {u : V} (h : RV K ρ H a u) : RV K ρ1 H1 a u := RV.ext0 e.to0 a h
theorem RVs.ext (e : Ext K ρ H ρ1 H1) (xs : List Va) {us : List V} (h : RVs K ρ H xs us) : RVs K ρ1 H1 xs us := RVs.ext0 e.to0 xs h
theorem RVs.length : ∀ {xs : List Va} {us : List V}, RVs K ρ H xs us → xs.length = us.length
  | [], _, h => by cases h; rfl
  | _ :: _, _, ⟨_, _, e, _, s⟩ => by subst e; simp [RVs.length s]
theorem RVs.get : ∀ {xs : List Va} {us : List V} {i : Nat} {x : Va}, RVs K ρ H xs us → xs[i]? = some x → ∃ u, us[i]? = some u ∧ RV K ρ H x u
  | [], _, _, _, _, h => by simp at h
  | _ :: _, _, 0, _, ⟨u, r, e, q, s⟩, h => by
    subst e
    simp at h
    subst h
    exact ⟨u, rfl, q⟩
  | _ :: xs, _, i + 1, x, ⟨u, r, e, q, s⟩, h => by
    subst e
    obtain ⟨w, h1, h2⟩ := RVs.get (i := i) s (by simpa using h)
    exact ⟨w, by simpa using h1, h2⟩
theorem RVs.append : ∀ {xs ys : List Va} {us ws : List V}, RVs K ρ H xs us → RVs K ρ H ys ws → RVs K ρ H (xs ++ ys) (us ++ ws)
  | [], _, _, _, h, h2 => by cases h; exact h2
  | _ :: _, _, _, _, ⟨u, r, e, q, s⟩, h2 => by
    subst e
    exact ⟨u, _, rfl, q, RVs.append s h2⟩
theorem RVs.one {x : Va} {u : V} (h : RV K ρ H x u) : RVs K ρ H [x] [u] := ⟨u, [], rfl, h, rfl⟩
theorem RVs.set {x : Va} {u : V} (r : RV K ρ H x u) : ∀ {xs : List Va} {us : List V} (i : Nat), RVs K ρ H xs us → RVs K ρ H (xs.set i x) (us.set i u)
  | [], _, _, h => by cases h; rfl
  | _ :: _, _, 0, ⟨w, t, e, q, s⟩ => by subst e; exact ⟨u, t, rfl, r, s⟩
  | _ :: _, _, i + 1, ⟨w, t, e, q, s⟩ => by subst e; exact ⟨w, _, rfl, q, RVs.set r i s⟩
theorem RVs.take : ∀ {xs : List Va} {us : List V} (i : Nat), RVs K ρ H xs us → RVs K ρ H (xs.take i) (us.take i)
  | [], _, i, h => by cases h; simp [RVs]
  | _ :: _, _, 0, ⟨w, t, e, q, s⟩ => by subst e; simp [RVs]
  | _ :: _, _, i + 1, ⟨w, t, e, q, s⟩ => by subst e; exact ⟨w, _, rfl, q, RVs.take i s⟩
theorem RVs.drop : ∀ {xs : List Va} {us : List V} (i : Nat), RVs K ρ H xs us → RVs K ρ H (xs.drop i) (us.drop i)
  | [], _, i, h => by cases h; simp [RVs]
  | _ :: _, _, 0, ⟨w, t, e, q, s⟩ => ⟨w, t, e, q, s⟩
  | _ :: _, _, i + 1, ⟨w, t, e, q, s⟩ => by subst e; exact RVs.drop i s
theorem RVs.reverse : ∀ {xs : List Va} {us : List V}, RVs K ρ H xs us → RVs K ρ H xs.reverse us.reverse
  | [], _, h => by cases h; rfl
  | _ :: _, _, ⟨w, t, e, q, s⟩ => by
    subst e
    rw [List.reverse_cons, List.reverse_cons]
    exact RVs.append (RVs.reverse s) (RVs.one q)
theorem RVs.rep {xs : List Va} {us : List V} (h : RVs K ρ H xs us) : ∀ k : Nat, RVs K ρ H (List.replicate k xs).flatten (List.replicate k us).flatten
  | 0 => rfl
  | k + 1 => by
    rw [List.replicate_succ, List.replicate_succ, List.flatten_cons, List.flatten_cons]
    exact RVs.append h (RVs.rep h k)
theorem RVs.dropLast : ∀ {xs : List Va} {us : List V}, RVs K ρ H xs us → RVs K ρ H xs.dropLast us.dropLast := by
  intro xs us h
  rw [List.dropLast_eq_take, List.dropLast_eq_take, ← h.length]
  exact h.take _
theorem RVs.none_of {xs : List Va} {us : List V} {i : Nat} (r : RVs K ρ H xs us) (h : xs[i]? = none) : us[i]? = none := by
  have h1 := r.length
  have h2 : xs.length ≤ i := List.getElem?_eq_none_iff.mp h
  exact List.getElem?_eq_none_iff.mpr (by omega)

def RKV (K : FW) (ρ : List Addr) (H : Hp) (kvs : List (Ke × Va)) (ws : List (Key × V)) : Prop := Paired (fun (p : Ke × Va) (q : Key × V) => q.1 = p.1.key ∧ RV K ρ H p.2 q.2) kvs ws
/-- a dict with tuple keys: the keys are trees -/
def DN (K : FW) (a : Addr) (xs : List (NestedKey × Addr × Value)) (h : Heap) : Prop := xs.length ≤ sizeLine ∧ (a == sysModules) = false ∧
  ∃ o es ep, h.get? a = some o ∧ o.ExactDict ∧ o.data = .dict es ep ∧ es.toList = xs.map (entryOfKey (nestedKind K.P K.w)) ∧ (xs.map (·.1)).Nodup
def RN (K : FW) (ρ : List Addr) (H : Hp) (kvs : List (Va × Va)) (xs : List (NestedKey × Addr × Value)) : Prop :=
  Paired (fun (p : Va × Va) (x : NestedKey × Addr × Value) => (nkOf p.1 = some x.1 ∧ x.1.depth ≤ 8 ∧ RV K ρ H p.1 (.ref x.2.1)) ∧ ∃ y, RV K ρ H p.2 y ∧ RelV y x.2.2) kvs xs
def RO (K : FW) (ρ : List Addr) (H : Hp) (a : Addr) : Ob → Prop
  | .lst xs => ∃ us, H a = some (.lst us) ∧ RVs K ρ H xs us
  | .dic kvs => ∃ ws, H a = some (.dK ws) ∧ RKV K ρ H kvs ws
  | .dlk kvs => ∃ o ws, H a = some (.frz o (.dK ws)) ∧ RKV K ρ H kvs ws
  | .dit kvs => ∃ xs, H a = some (.ext (DN K a xs)) ∧ RN K ρ H kvs xs
  | .st ns => ∃ n, H a = some (SetO K.w a (fun j => decide (j ∈ ns)) n)
theorem Paired.mapQ {α β : Type} {F G : α → β → Prop} : ∀ {l₁ : List α} {l₂ : List β}, Paired F l₁ l₂ → (∀ a b, F a b → G a b) → Paired G l₁ l₂
  | _, _, .nil, _ => .nil
  | _, _, .cons r t, f => .cons (f _ _ r) (Paired.mapQ t f)
theorem RO.ext0 {a : Addr} {o : Ob} (e : Ext0 K ρ H ρ1 H1) (h : RO K ρ H a o) (k : H1 a = H a) : RO K ρ1 H1 a o := by
  cases o with
  | lst xs => obtain ⟨us, q, r⟩ := h; exact ⟨us, k.trans q, RVs.ext0 e _ r⟩
  | dic kvs => obtain ⟨us, q, r⟩ := h; exact ⟨us, k.trans q, Paired.mapQ r fun _ _ z => ⟨z.1, RV.ext0 e _ z.2⟩⟩
  | dlk kvs => obtain ⟨o, us, q, r⟩ := h; exact ⟨o, us, k.trans q, Paired.mapQ r fun _ _ z => ⟨z.1, RV.ext0 e _ z.2⟩⟩
  | st ns => obtain ⟨n, q⟩ := h; exact ⟨n, k.trans q⟩
  | dit kvs => obtain ⟨us, q, r⟩ := h; exact ⟨us, k.trans q, Paired.mapQ r fun _ _ ⟨⟨z1, z2, z3⟩, y, z4, z5⟩ => ⟨⟨z1, z2, RV.ext0 e _ z3⟩, y, RV.ext0 e _ z4, z5⟩⟩

theorem RO.ext {a : Addr} {o : Ob} (e : Ext K ρ H ρ1 H1) (h : RO K ρ H a o) (k : H1 a = H a) : RO K ρ1 H1 a o := RO.ext0 e.to0 h k

structure HR (K : FW) (ρ : List Addr) (h : Hea) (H : Hp) : Prop where
  len : ρ.length = h.n
  nd : ρ.Nodup
  tr : ∀ (i : Nat) (a : Addr), ρ[i]? = some a → H a ≠ none
  ob : ∀ (i : Nat) (o : Ob), h.get i = some o → ∃ a : Addr, ρ[i]? = some a ∧ RO K ρ H a o
variable {h h1 : Hea}
/-- a new object that is none of ours -/
theorem HR.new {p : Addr} {o : HO} (r : HR K ρ h H) (n : H p = none) : HR K ρ h (upd H p o) := by
  refine ⟨r.len, r.nd, fun i a q => ?_, fun i o q => ?_⟩
  · by_cases e : a = p
    · subst e; rw [upd_same]; simp
    · rw [upd_ne e]; exact r.tr i a q
  · obtain ⟨a, h1, h2⟩ := r.ob i o q
    have e : a ≠ p := fun e => r.tr i a h1 (e ▸ n)
    exact ⟨a, h1, h2.ext (Ext.new n) (upd_ne e)⟩
/-- a new object of ours -/
theorem HR.push {p : Addr} {o : HO} {ob : Ob} (r : HR K ρ h H) (n : H p = none) (q : RO K (ρ ++ [p]) (upd H p o) p ob) : HR K (ρ ++ [p]) (h.push ob) (upd H p o) := by
  refine ⟨?_, ?_, fun i a e => ?_, fun i ob' e => ?_⟩
  · rw [List.length_append, r.len]; rfl
  · rw [List.nodup_append]
    refine ⟨r.nd, by simp, fun a ha b hb e => ?_⟩
    simp at hb
    obtain ⟨i, hi⟩ := List.getElem?_of_mem ha
    exact r.tr i a hi (by rw [e, hb]; exact n)
  · by_cases z : a = p
    · subst z; rw [upd_same]; simp
    · rw [upd_ne z]
      by_cases hi : i < ρ.length
      · rw [List.getElem?_append_left hi] at e
        exact r.tr i a e
      · rw [List.getElem?_append_right (by omega)] at e
        have := List.mem_of_getElem? e
        simp at this
        exact absurd this z
  · rcases Hea.get_push_inv e with ⟨e1, e2⟩ | e
    · subst e1 e2
      exact ⟨p, by rw [← r.len, List.getElem?_append_right (Nat.le_refl _)]; simp, q⟩
    · obtain ⟨a, h1, h2⟩ := r.ob i ob' e
      have z : a ≠ p := fun e => r.tr i a h1 (e ▸ n)
      exact ⟨a, (Ext.newAt (K := K) (o := o) n).at h1, h2.ext (Ext.newAt n) (upd_ne z)⟩
/-- an object of ours is changed -/
theorem HR.write {i : Nat} {p : Addr} {o : HO} {ob ob' : Ob} (r : HR K ρ h H) (hp : ρ[i]? = some p) (hi : h.get i = some ob) (mu : Mut (H p)) (q : RO K ρ (upd H p o) p ob') : HR K ρ (h.set i ob') (upd H p o) := by
  refine ⟨r.len, r.nd, fun j a e => ?_, fun j oj e => ?_⟩
  · by_cases z : a = p
    · subst z; rw [upd_same]; simp
    · rw [upd_ne z]; exact r.tr j a e
  · by_cases hj : j = i
    · subst hj
      rw [Hea.get_set_self hi] at e
      cases e
      exact ⟨p, hp, q⟩
    · rw [Hea.get_set_ne (Hea.get_lt hi) (Ne.symm hj)] at e
      obtain ⟨a, h1, h2⟩ := r.ob j oj e
      have z : a ≠ p := fun z => by
        subst z
        have h3 := List.getElem?_eq_some_iff.mp h1
        have h4 := List.getElem?_eq_some_iff.mp hp
        obtain ⟨l1, e1⟩ := h3
        obtain ⟨l2, e2⟩ := h4
        exact hj ((List.getElem_inj r.nd).mp (e1.trans e2.symm))
      exact ⟨a, h1, h2.ext (Ext.write hp mu) (upd_ne z)⟩

def LR (K : FW) (ρ : List Addr) (H : Hp) (l : Lo) (σ : L2.St) : Prop := l.length = σ.length ∧ ∀ (i : Nat) (a : Va), l[i]? = some (some a) → ∃ u, σ[i]? = some (some u) ∧ RV K ρ H a u
theorem LR.ext {l : Lo} {σ : L2.St} (e : Ext K ρ H ρ1 H1) (h : LR K ρ H l σ) : LR K ρ1 H1 l σ :=
  ⟨h.1, fun i a q => let ⟨u, h1, h2⟩ := h.2 i a q; ⟨u, h1, RV.ext e a h2⟩⟩
theorem LR.ext0 {l : Lo} {σ : L2.St} (e : Ext0 K ρ H ρ1 H1) (h : LR K ρ H l σ) : LR K ρ1 H1 l σ :=
  ⟨h.1, fun i a q => let ⟨u, h1, h2⟩ := h.2 i a q; ⟨u, h1, RV.ext0 e a h2⟩⟩
/-- a locked dict is let go -/
theorem Ext0.unlock {p : Addr} {od : Obj} {ws : List (Key × V)} {o : HO} (hp : p ∈ ρ) (f : H p = some (.frz od (.dK ws))) : Ext0 K ρ H ρ (upd H p o) := by
  refine ⟨⟨[], by simp, by simp⟩, fun a o us h1 h => by rw [upd_ne (fun e => h1 (by rw [e]; exact hp))]; exact h, fun a us h => ?_, fun a o us h => ?_, fun a h => ?_⟩
  · rcases h with (h | ⟨ob, h⟩) | h
    · exact .inl (.inl (by rw [upd_ne (fun e => by rw [e, f] at h; cases h)]; exact h))
    · exact .inl (.inr ⟨ob, by rw [upd_ne (fun e => by rw [e, f] at h; cases h)]; exact h⟩)
    · exact .inr h
  · rw [upd_ne (fun e => by rw [e, f] at h; cases h)]; exact h
  · rcases h with ⟨ob, us, h, hd⟩ | h
    · exact .inl ⟨ob, us, by rw [upd_ne (fun e => by rw [e, f] at h; cases h)]; exact h, hd⟩
    · exact .inr h
theorem HR.unlock {i : Nat} {p : Addr} {od : Obj} {ws : List (Key × V)} {o : HO} {ob ob' : Ob} (r : HR K ρ h H) (hp : ρ[i]? = some p) (hi : h.get i = some ob) (f : H p = some (.frz od (.dK ws))) (q : RO K ρ (upd H p o) p ob') : HR K ρ (h.set i ob') (upd H p o) := by
  refine ⟨r.len, r.nd, fun j a e => ?_, fun j oj e => ?_⟩
  · by_cases z : a = p
    · subst z; rw [upd_same]; simp
    · rw [upd_ne z]; exact r.tr j a e
  · by_cases hj : j = i
    · subst hj
      rw [Hea.get_set_self hi] at e
      cases e
      exact ⟨p, hp, q⟩
    · rw [Hea.get_set_ne (Hea.get_lt hi) (Ne.symm hj)] at e
      obtain ⟨a, h1, h2⟩ := r.ob j oj e
      have z : a ≠ p := fun z => by
        subst z
        obtain ⟨l1, e1⟩ := List.getElem?_eq_some_iff.mp h1
        obtain ⟨l2, e2⟩ := List.getElem?_eq_some_iff.mp hp
        exact hj ((List.getElem_inj r.nd).mp (e1.trans e2.symm))
      exact ⟨a, h1, h2.ext0 (Ext0.unlock (List.mem_of_getElem? hp) f) (upd_ne z)⟩
/-- from a state, its lock, what is done under it, and the letting go -/
theorem Ext.unlock {p : Addr} {od : Obj} {ws : List (Key × V)} (hp : p ∈ ρ) (e : Ext K ρ (upd H p (.frz od (.dK ws))) ρ1 H1) (f : H p = some (.dK ws)) : Ext K ρ H ρ1 (upd H1 p (.dK ws)) := by
  have mu : Mut (H p) := by rw [f]; trivial
  have f1 : H1 p = some (.frz od (.dK ws)) := e.fz _ _ _ upd_same
  obtain ⟨m, e1, f2⟩ := e.pre
  have hp1 : p ∈ ρ1 := by rw [e1]; exact List.mem_append_left _ hp
  have x := Ext0.unlock (K := K) (ρ := ρ1) (o := .dK ws) hp1 f1
  refine ⟨⟨m, e1, fun a h => ?_⟩, fun a us h => x.tup _ _ (e.tup _ _ (SqT.upd_mut h mu)), fun a o u h => ?_, fun a h => x.nod _ (e.nod _ (NoD.upd_mut h mu)), fun a h => ?_, fun a h hn => ?_⟩
  · have q := f2 a h
    have ne : a ≠ p := fun z => by rw [z, upd_same] at q; cases q
    rw [upd_ne ne] at q; exact q
  · have ne : a ≠ p := fun z => by rw [z, f] at h; cases h
    rw [upd_ne ne]
    exact e.fz _ _ _ (by rw [upd_ne ne]; exact h)
  · exact upd_there a (e.there a (upd_there a h))
  · have ne : a ≠ p := fun z => hn (z ▸ hp)
    rw [upd_ne ne, e.keep a (by rw [upd_ne ne]; exact h) hn, upd_ne ne]
theorem LR.set {l : Lo} {σ : L2.St} {i : Nat} {a : Va} {u : V} (h : LR K ρ H l σ) (r : RV K ρ H a u) : LR K ρ H (l.set i (some a)) (σ.set i (some u)) := by
  refine ⟨by simp [h.1], fun j b q => ?_⟩
  by_cases e : i = j
  · subst e
    have hl : i < l.length := by
      have := (List.getElem?_eq_some_iff.mp q).1
      simpa using this
    rw [List.getElem?_set_self hl] at q
    cases q
    exact ⟨u, by rw [List.getElem?_set_self (by rw [← h.1]; exact hl)], r⟩
  · rw [List.getElem?_set_ne e] at q
    obtain ⟨w, h1, h2⟩ := h.2 j b q
    exact ⟨w, by rw [List.getElem?_set_ne e]; exact h1, h2⟩
end

/-! ### what is wanted of a computation -/
/-- of an error: its class, its value, our heap, the places, the abstract heap -/
abbrev XW := Nat → Va → Hea → List Addr → Hp → Prop
abbrev XF : XW := fun _ _ _ _ _ => False
def sat (K : FW) (W : XW) (ρ : List Addr) (H : Hp) {α : Type} (r : Rs α) (Q : α → Hea → List Addr → Hp → Prop) : Prop := match r with
  | .ok a h' => ∀ ρ' H', Ext K ρ H ρ' H' → HR K ρ' h' H' → Q a h' ρ' H'
  | .err c v h' => ∀ ρ' H', Ext K ρ H ρ' H' → HR K ρ' h' H' → W c v h' ρ' H'
  | .no => False
section
variable {K : FW} {W : XW} {ρ ρ1 : List Addr} {H H1 : Hp} {α β : Type} {r : Rs α} {Q Q' : α → Hea → List Addr → Hp → Prop}
theorem sat.mono (h : sat K W ρ H r Q) (f : ∀ a h' ρ' H', Ext K ρ H ρ' H' → HR K ρ' h' H' → Q a h' ρ' H' → Q' a h' ρ' H') : sat K W ρ H r Q' := by
  cases r with
  | ok a h' => exact fun ρ' H' e q => f a h' ρ' H' e q (h ρ' H' e q)
  | err c v h' => exact h
  | no => exact h
theorem sat.shift (e : Ext K ρ H ρ1 H1) (h : sat K W ρ H r Q) : sat K W ρ1 H1 r Q := by
  cases r with
  | ok a h' => exact fun ρ' H' e' q => h ρ' H' (e.trans e') q
  | err c v h' => exact fun ρ' H' e' q => h ρ' H' (e.trans e') q
  | no => exact h
theorem sat.bind {f : α → Hea → Rs β} {Q : β → Hea → List Addr → Hp → Prop} (h : sat K W ρ H (r.bind f) Q) : sat K W ρ H r (fun a h1 ρ1 H1 => sat K W ρ1 H1 (f a h1) Q) := by
  cases r with
  | ok a h' => exact fun ρ' H' e q => sat.shift e h
  | err c v h' => exact h
  | no => exact h
theorem sat.ok {a : α} {h : Hea} (x : sat K W ρ H (.ok a h) Q) (q : HR K ρ h H) : Q a h ρ H := x ρ H Ext.refl q
end
/-- a value's wish -/
abbrev rv (K : FW) (Q : VK) : Va → Hea → List Addr → Hp → Prop := fun a _ ρ' H' => ∀ u, RV K ρ' H' a u → Q u H'
abbrev rvs (K : FW) (Q : List V → Hp → Prop) : List Va → Hea → List Addr → Hp → Prop := fun a _ ρ' H' => ∀ u, RVs K ρ' H' a u → Q u H'
def tE (K : FW) (W : XW) (A : Ex) : TE := fun σ H Q => ∃ ρ l h, LR K ρ H l σ ∧ HR K ρ h H ∧ sat K W ρ H (A l h) (rv K Q)
def tT (K : FW) (W : XW) (A : Tx) : TT := fun σ H Q => ∃ ρ l h, LR K ρ H l σ ∧ HR K ρ h H ∧ sat K W ρ H (A l h) (fun b _ _ H' => Q b H')
def tA (K : FW) (W : XW) (A : Ax) : TA := fun σ H Q => ∃ ρ l h, LR K ρ H l σ ∧ HR K ρ h H ∧ sat K W ρ H (A l h) (rvs K Q)
def ouQ (K : FW) (D : Ends) : Ou → Hea → List Addr → Hp → Prop := fun o _ ρ' H' => match o with
  | .nx l' => ∀ σ', LR K ρ' H' l' σ' → D.nx σ' H'
  | .rt v => ∀ u, RV K ρ' H' v u → D.rt u H'
  | .bk l' => ∀ σ', LR K ρ' H' l' σ' → D.bk σ' H'
  | .ct l' => ∀ σ', LR K ρ' H' l' σ' → D.ct σ' H'
def tS (K : FW) (W : XW) (A : Sx) : TS := fun D σ H => ∃ ρ l h, LR K ρ H l σ ∧ HR K ρ h H ∧ sat K W ρ H (A l h) (ouQ K D)

structure EX (W : XW) (X : Cx) (e : Expr) (A : Ex) : Prop where
  pe : PE X e (tE X.fw W A)
structure TX (W : XW) (X : Cx) (e : Expr) (A : Tx) : Prop where
  pt : PT X e (tT X.fw W A)
structure WX (W : XW) (X : Cx) (e : Expr) (A : Tx) : Prop where
  pw : PW X e (tT X.fw W A)
structure AX (W : XW) (X : Cx) (es : List Expr) (A : Ax) : Prop where
  pa : PA X es (tA X.fw W A)
structure SX (W : XW) (X : Cx) (s : Stmt) (A : Sx) : Prop where
  ps : PS X s (tS X.fw W A)
structure SXs (W : XW) (X : Cx) (s : List Stmt) (A : Sx) : Prop where
  ps : PSs X s (tS X.fw W A)
theorem PE.weak {X : Cx} {e : Expr} {t t' : TE} (h : PE X e t) (f : ∀ σ H Q, t' σ H Q → t σ H Q) : PE X e t' := ⟨fun pins s σ H Q I q => h.run pins s σ H Q I (f σ H Q q)⟩
theorem PT.weak {X : Cx} {e : Expr} {t t' : TT} (h : PT X e t) (f : ∀ σ H Q, t' σ H Q → t σ H Q) : PT X e t' := ⟨fun pins s σ H Q I q => h.run pins s σ H Q I (f σ H Q q)⟩
theorem PW.weak {X : Cx} {e : Expr} {t t' : TT} (h : PW X e t) (f : ∀ σ H Q, t' σ H Q → t σ H Q) : PW X e t' := ⟨fun wh pins s σ H Q I q => h.run wh pins s σ H Q I (f σ H Q q)⟩
theorem PA.weak {X : Cx} {e : List Expr} {t t' : TA} (h : PA X e t) (f : ∀ σ H Q, t' σ H Q → t σ H Q) : PA X e t' := ⟨fun p pins s σ H Q I q => h.run p pins s σ H Q I (f σ H Q q)⟩
theorem PS.weak {X : Cx} {e : Stmt} {t t' : TS} (h : PS X e t) (f : ∀ D σ H, t' D σ H → t D σ H) : PS X e t' := ⟨fun pins s σ H D I q => h.run pins s σ H D I (f D σ H q)⟩
theorem PSs.weak {X : Cx} {e : List Stmt} {t t' : TS} (h : PSs X e t) (f : ∀ D σ H, t' D σ H → t D σ H) : PSs X e t' := ⟨fun pins s σ H D I q => h.run pins s σ H D I (f D σ H q)⟩

/-- from a part's reading to the next -/
theorem tE.go {K : FW} {W : XW} {A : Ex} {ρ : List Addr} {l : Lo} {h : Hea} {σ : L2.St} {H : Hp} {β : Type} {f : Va → Hea → Rs β} {Q : β → Hea → List Addr → Hp → Prop} {R : VK}
    (L : LR K ρ H l σ) (r : HR K ρ h H) (s : sat K W ρ H ((A l h).bind f) Q)
    (k : ∀ a h1 ρ1 H1 u, Ext K ρ H ρ1 H1 → LR K ρ1 H1 l σ → HR K ρ1 h1 H1 → RV K ρ1 H1 a u → sat K W ρ1 H1 (f a h1) Q → R u H1) : tE K W A σ H R :=
  ⟨ρ, l, h, L, r, s.bind.mono fun a h1 ρ1 H1 e r1 s1 u ru => k a h1 ρ1 H1 u e (L.ext e) r1 ru s1⟩
theorem tE.at {K : FW} {W : XW} {A : Ex} {ρ : List Addr} {l : Lo} {h h1 : Hea} {σ : L2.St} {H : Hp} {a : Va} {R : VK}
    (L : LR K ρ H l σ) (r : HR K ρ h H) (e : A l h = .ok a h1) (k : ∀ ρ1 H1 u, Ext K ρ H ρ1 H1 → LR K ρ1 H1 l σ → HR K ρ1 h1 H1 → RV K ρ1 H1 a u → R u H1) : tE K W A σ H R :=
  ⟨ρ, l, h, L, r, by rw [e]; exact fun ρ1 H1 x r1 u ru => k ρ1 H1 u x (L.ext x) r1 ru⟩
theorem tT.go {K : FW} {W : XW} {A : Tx} {ρ : List Addr} {l : Lo} {h : Hea} {σ : L2.St} {H : Hp} {β : Type} {f : Bool → Hea → Rs β} {Q : β → Hea → List Addr → Hp → Prop} {R : Bool → Hp → Prop}
    (L : LR K ρ H l σ) (r : HR K ρ h H) (s : sat K W ρ H ((A l h).bind f) Q)
    (k : ∀ a h1 ρ1 H1, Ext K ρ H ρ1 H1 → LR K ρ1 H1 l σ → HR K ρ1 h1 H1 → sat K W ρ1 H1 (f a h1) Q → R a H1) : tT K W A σ H R :=
  ⟨ρ, l, h, L, r, s.bind.mono fun a h1 ρ1 H1 e r1 s1 => k a h1 ρ1 H1 e (L.ext e) r1 s1⟩
theorem tA.go {K : FW} {W : XW} {A : Ax} {ρ : List Addr} {l : Lo} {h : Hea} {σ : L2.St} {H : Hp} {β : Type} {f : List Va → Hea → Rs β} {Q : β → Hea → List Addr → Hp → Prop} {R : List V → Hp → Prop}
    (L : LR K ρ H l σ) (r : HR K ρ h H) (s : sat K W ρ H ((A l h).bind f) Q)
    (k : ∀ a h1 ρ1 H1 u, Ext K ρ H ρ1 H1 → LR K ρ1 H1 l σ → HR K ρ1 h1 H1 → RVs K ρ1 H1 a u → sat K W ρ1 H1 (f a h1) Q → R u H1) : tA K W A σ H R :=
  ⟨ρ, l, h, L, r, s.bind.mono fun a h1 ρ1 H1 e r1 s1 u ru => k a h1 ρ1 H1 u e (L.ext e) r1 ru s1⟩
end Rf

/-! Rf: tuples as they are made: known to the object, without a dict of their own. -/
namespace Rf
open PySem PySem.Spec PyProof.Rows L2
/-- a new tuple of these items, with any object that has no dict -/
def NewT (us : List V) (H : Hp) (Q : VK) : Prop := ∀ (p : Addr) (o : Obj), H p = none → o.dict = none → Q (.ref p) (upd H p (.frz o (.tup us)))
section
variable {X : Cx} {pins : List (Addr × Obj)} {σ : L2.St} {H : Hp} {s : Shared} {Q : VK}
theorem laidTup {h' : Heap} {tk : Nat} {us : List V} {its : List Value} {p : Addr} {o : Obj} (I : L2.Inv X pins σ H s) (q : NewT us H Q) (rel : Vals us its) (small : us.length ≤ sizeLine) (le : s.heap.objs.size ≤ p)
    (kp : ∀ b u, s.heap.get? b = some u → h'.get? b = some u) (at_ : h'.get? p = some o) (hc : o.cls = .type "tuple") (hn : o.dict = none) (hd : ∃ n, o.data = .seq its.toArray n) : EP X pins σ Q (.ref p) { s with heap := h', toks := tk } :=
  ⟨.ref p, upd H p (.frz o (.tup us)), I.laid (t' := tk) kp le ⟨at_, small, its, rel, o, at_, hc, hd⟩, rfl, q p o (I.hok.fresh le) hn⟩
theorem pushTup {us : List V} {its : List Value} (I : L2.Inv X pins σ H s) (q : NewT us H Q) (rel : Vals us its) (small : us.length ≤ sizeLine) : EP X pins σ Q (.ref s.heap.objs.size) { s with heap := s.heap.push { cls := .type "tuple", data := .seq its.toArray } } :=
  laidTup (tk := s.toks) I q rel small (Nat.le_refl _) (fun _ _ e => Heap.get?_push_of_some _ e) (Heap.get?_push_size _ rfl) rfl rfl ⟨_, rfl⟩
end
section
variable {X : Cx} {es : List Expr} {pos : Pos} {t : TA}
def tTupN (t : TA) : TE := fun σ H Q => t σ H fun xs H1 => xs.length ≤ sizeLine ∧ NewT xs H1 Q
theorem pe_tupN {k} (h : PA X es t) : PE X (.Tuple es k pos) (tTupN t) :=
  ⟨fun pins s σ H Q I w => wpAny_Tuple_spliced (thn (h.run pos pins s σ H _ I w) fun us s1 ⟨xs, H1, I1, rel, z, q⟩ => ⟨by rw [← rel.length]; exact z, pushTup I1 q rel z⟩)⟩
def rTupN (K : PySem.W.Frag) : List V → Hp → VK → Prop := fun xs H Q => ∃ p ys, xs = [.ref p] ∧ ((SqL K H p ys ∧ NewT ys H Q) ∨ (SqT K H p ys ∧ Q (.ref p) H))
theorem call_tupN : CallR X (.type "tuple") (rTupN X.K) := by
  intro pins s σ H xs us Q I rel ⟨p, ys, e, w⟩
  subst e
  obtain ⟨u, rfl, ru⟩ := vals1 rel
  cases ru
  rcases w with ⟨hl, q⟩ | ⟨ht, q⟩
  · obtain ⟨its, ri, pl, small⟩ := I.list hl
    have len := ri.length
    refine call_tuple_list pl.isList (fun h1 kp => ?_) (by rw [List.size_toArray]; omega)
    exact pushTup (s := { s with heap := h1 }) (I.kept (t' := s.toks) kp) q ri small
  · obtain ⟨its, ri, pt, small⟩ := I.tuple ht
    exact call_tuple_same pt ⟨.ref p, H, I, rfl, q⟩
/-- t + u: a side that is empty gives the other one itself -/
def rCatN (K : PySem.W.Frag) : R2 := fun x y H Q => ∃ a b xs ys, x = .ref a ∧ y = .ref b ∧ SqT K H a xs ∧ SqT K H b ys ∧ xs.length + ys.length ≤ sizeLine ∧
  (xs = [] → Q (.ref b) H) ∧ (xs ≠ [] → ys = [] → Q (.ref a) H) ∧ (xs ≠ [] → ys ≠ [] → NewT (xs ++ ys) H Q)
theorem op_catN : OpR X (binaryOp .Add) (rCatN X.K) := by
  intro pins s σ H x y v u Q I rx ry ⟨a, b, xs, ys, ex, ey, ta, tb, small, q0, q1, q2⟩
  subst ex ey
  cases rx
  cases ry
  obtain ⟨its, ri, pa, _⟩ := I.tuple ta
  obtain ⟨jts, rj, pb, _⟩ := I.tuple tb
  by_cases xe : xs = []
  · subst xe
    cases ri
    exact cat_tup0 pa pb ⟨.ref b, H, I, rfl, q0 rfl⟩
  · refine HT.cat_tup pa pb (fun z => xe (ri.nil_iff.mp z)) (fun z => ⟨.ref a, H, I, rfl, q1 xe (rj.nil_iff.mp z)⟩) (fun z => ?_) (by rw [← ri.length, ← rj.length]; exact small)
    exact pushTup I (q2 xe fun w => z (rj.nil_iff.mpr w)) (ri.append rj) (by rw [List.length_append]; exact small)
/-- t[lo:hi]: the whole of it is t itself -/
def rSlN (K : PySem.W.Frag) : V → Option Int → Option Int → Hp → VK → Prop := fun x lo hi H Q => ∃ a xs, x = .ref a ∧ SqT K H a xs ∧
  (HT.sIx xs.length 0 lo = 0 ∧ HT.sIx xs.length xs.length hi = xs.length → Q (.ref a) H) ∧ (¬ (HT.sIx xs.length 0 lo = 0 ∧ HT.sIx xs.length xs.length hi = xs.length) → NewT (cutV xs lo hi) H Q)
theorem sl_tupN : SlR X (rSlN X.K) := by
  intro pins s σ H x v vl vu lo hi sl Q I rx isl pl pu ⟨a, xs, ex, ta, q1, q2⟩
  subst ex
  cases rx
  obtain ⟨its, ri, pt, small⟩ := I.tuple ta
  have len : its.toArray.size = xs.length := by rw [List.size_toArray]; exact ri.length.symm
  refine ⟨"tuple", _, PyProof.Rows.slot_tuple_getitem.lookup, pt.typeIs, ?_⟩
  by_cases w : HT.sIx xs.length 0 lo = 0 ∧ HT.sIx xs.length xs.length hi = xs.length
  · exact getItem_tuple_whole pt isl pl pu (by rw [len]; exact w) ⟨.ref a, H, I, rfl, q1 w⟩
  · refine HT.getItem_tuple_cut pt isl pl pu (by rw [len]; exact w) ?_ (by rw [len]; exact small)
    rw [len]
    exact pushTup I (q2 w) ((ri.drop _).take _) (Nat.le_trans (cutV_length xs lo hi) small)
/-- t * k, k from 1 on; once is t itself -/
def rRepN (K : PySem.W.Frag) : R2 := fun x y H Q => ∃ l k xs, x = .ref l ∧ y = .int k ∧ SqT K H l xs ∧ xs ≠ [] ∧ 1 ≤ k ∧ k ≤ 1000 ∧ xs.length ≤ 1000 ∧ (k = 1 → Q (.ref l) H) ∧ (k ≠ 1 → NewT (List.replicate k.toNat xs).flatten H Q)
theorem tup_once (l : Addr) (items : Array Value) (n : Nat) (dd : Option Addr) (sl : Array (Option Value)) (u : Tok) :
    Meets (Builtin.«tuple.__mul__» ⟨[.ref l, .int 1 u], []⟩) (fun _ R s => s.heap.get? l = some { cls := .type "tuple", dict := dd, data := .seq items n, slots := sl } ∧ R (.ok (.ret (Value.ref l))) s) :=
  .of_wp fun prog w A R s ⟨hl, h⟩ => by
    obtain ⟨hp, g, d, tk, os⟩ := s
    have f1 := AutoSeq1.idx_int
    wp_walk using wpAny_loadPart' hl
    exact ⟨_, rfl, h⟩
theorem op_repN : OpR X (binaryOp .Mult) (rRepN X.K) := by
  intro pins s σ H x y v u Q I rx ry ⟨l, k, xs, ex, ey, ht, hne, h1, h2, small, q1, q2⟩
  subst ex ey
  cases rx
  obtain ⟨t, rfl⟩ := ry
  obtain ⟨its, ri, pt, _⟩ := I.tuple ht
  obtain ⟨⟨c, dd, data, sl⟩, at_, hc, n, hd⟩ := pt
  simp only at hc hd
  subst hc hd
  have len : its.length = xs.length := ri.length.symm
  have road : wpAny (model X.prog X.w) X.A (call (.builtin "tuple.__mul__") [.ref l, .int k t]) (EP X pins σ Q) X.xe s → wpAny (model X.prog X.w) X.A (binaryOp .Mult (.ref l) (.int k t)) (EP X pins σ Q) X.xe s := fun go =>
    wpAny_binaryOp_repeat_ref (T := "tuple") (U := "int") (by decide) ⟨_, at_, rfl⟩ (fun s' => typeIs_int s' k t) noFill_tuple_mul F.fills_int_mul F.slot_int_rmul repeat_tuple F.slot_int_index.lookup
      (call_meets F.slot_int_rmul (typeIs_int s k t) F.entry_int_rmul (F.args_int_rmul_2 _ _) (int_rmul_tuple k t l its.toArray n dd sl) ⟨at_, rfl, ⟨_, at_, rfl⟩, go⟩)
  apply road
  by_cases k1 : k = 1
  · subst k1
    exact call_meets F.slot_tuple_mul ⟨_, at_, rfl⟩ F.entry_tuple_mul (F.args_tuple_mul_2 _ _) (tup_once l its.toArray n dd sl t) ⟨at_, .ref l, H, I, rfl, q1 rfl⟩
  · have sz : its.toArray.size = xs.length := by rw [List.size_toArray, len]
    have full : its.toArray.isEmpty = false := by
      cases its with
      | nil => exact absurd (List.eq_nil_of_length_eq_zero len.symm) hne
      | cons _ _ => rfl
    have prod : k.toNat * xs.length ≤ 1000 * 1000 := Nat.mul_le_mul (by omega) small
    have prodI : ((its.toArray.size : Nat) : Int) * k ≤ 1000000 := by
      rw [sz]
      have := Int.mul_le_mul_of_nonneg_right (a := (xs.length : Int)) (b := 1000) (c := k) (by omega) (by omega)
      omega
    have out : (List.replicate k.toNat its).flatten.length ≤ sizeLine := by rw [PyProof.Rows.lm_len_rep_flat, len, sizeLine_eq]; omega
    refine call_meets F.slot_tuple_mul ⟨_, at_, rfl⟩ F.entry_tuple_mul (F.args_tuple_mul_2 _ _) (tuple_mulW l its.toArray n dd sl k t ?_ ?_ ?_ (by omega) ?_ (by rw [size_rep, List.size_toArray]; exact out)) ⟨at_, ?_⟩
    · rw [decide_eq_false (by omega), decide_eq_false (by omega)]; rfl
    · rw [full, Bool.false_or]; exact beq_eq_false_iff_ne.mpr k1
    · rw [full, Bool.or_false]; exact decide_eq_false (by omega)
    · unfold Builtin.Tuple.tupleTooMany
      rw [sizeLine_eq]
      exact decide_eq_false (by omega)
    · rw [size_rep]
      refine pushTup I (q2 k1) (ri.rep k.toNat) ?_
      rw [PyProof.Rows.lm_len_rep_flat, sizeLine_eq]
      omega
end
end Rf

/-! Rf: expressions. -/
namespace Rf
open PySem PySem.Spec PyProof.Rows L2

/-! ### the ties of single places -/
section
variable {K : FW} {W : XW} {ρ : List Addr} {H : Hp} {h : Hea}
theorem HR.at_ref {i : Nat} {x : V} {o : Ob} (r : HR K ρ h H) (rx : RV K ρ H (.ref i) x) (g : h.get i = some o) : ∃ p, x = .ref p ∧ ρ[i]? = some p ∧ RO K ρ H p o := by
  obtain ⟨p, e, hp⟩ := rx
  obtain ⟨q, hq, ro⟩ := r.ob i o g
  rw [hp] at hq
  cases hq
  exact ⟨p, e, hp, ro⟩
theorem HR.lst {i : Nat} {x : V} {xs : List Va} (r : HR K ρ h H) (rx : RV K ρ H (.ref i) x) (g : h.get i = some (.lst xs)) : ∃ p us, x = .ref p ∧ ρ[i]? = some p ∧ H p = some (.lst us) ∧ RVs K ρ H xs us := by
  obtain ⟨p, e, hp, us, q, s⟩ := r.at_ref rx g
  exact ⟨p, us, e, hp, q, s⟩
theorem HR.atN {p : Addr} (r : HR K ρ h H) : (ρ ++ [p])[h.n]? = some p := by
  rw [← r.len, List.getElem?_append_right (Nat.le_refl _)]
  simp
theorem sat.val {a : Va} {Q : VK} {u : V} (s : sat K W ρ H (.ok a h) (rv K Q)) (r : HR K ρ h H) (ru : RV K ρ H a u) : Q u H := s ρ H Ext.refl r u ru
theorem sat.newLst {xs : List Va} {us : List V} {Q : VK} (s : sat K W ρ H (.ok (.ref h.n) (h.push (.lst xs))) (rv K Q)) (r : HR K ρ h H) (rs : RVs K ρ H xs us) : ∀ p, H p = none → Q (.ref p) (upd H p (.lst us)) := fun p n =>
  s (ρ ++ [p]) _ (Ext.newAt n) (r.push n ⟨us, upd_same, RVs.ext (Ext.newAt n) _ rs⟩) (.ref p) ⟨p, rfl, r.atN⟩
theorem sat.newTup {xs : List Va} {us : List V} {Q : VK} (s : sat K W ρ H (.ok (.tup xs) h) (rv K Q)) (r : HR K ρ h H) (rs : RVs K ρ H xs us) : NewT us H Q := fun p o n hd =>
  s ρ _ (Ext.new n) (r.new n) (.ref p) ⟨p, us, rfl, ⟨.inl (.inr ⟨o, upd_same⟩), .inl ⟨o, us, upd_same, hd⟩⟩, RVs.ext (Ext.new n) _ rs⟩
theorem sat.setLst {i : Nat} {p : Addr} {xs ys : List Va} {us ws : List V} {a : Va} {Q : VK} {u : V} (s : sat K W ρ H (.ok a (h.set i (.lst ys))) (rv K Q)) (r : HR K ρ h H) (hp : ρ[i]? = some p) (g : h.get i = some (.lst xs)) (q : H p = some (.lst us))
    (rs : RVs K ρ H ys ws) (ra : RV K ρ H a u) : Q u (upd H p (.lst ws)) := by
  have mu : Mut (H p) := by rw [q]; trivial
  exact s ρ _ (Ext.write hp mu) (r.write hp g mu ⟨ws, upd_same, RVs.ext (Ext.write hp mu) _ rs⟩) u (RV.ext (Ext.write hp mu) _ ra)
end

/-! ### names and constants -/
def cV (v : Va) : Ex := fun _ h => .ok v h
def vr (i : Nat) : Ex := fun l h => match l[i]? with
  | some (some v) => .ok v h
  | _ => .no
section
variable {W : XW} {X : Cx} {pos : Pos}
theorem ex_int {i j} : EX W X (.Constant (.int i) j pos) (cV (.int i)) := ⟨PE.weak pe_int fun σ H Q ⟨ρ, l, h, L, r, s⟩ => s.val r rfl⟩
theorem ex_bl {i j} : EX W X (.Constant (.bool i) j pos) (cV (.bl i)) := ⟨PE.weak pe_bl fun σ H Q ⟨ρ, l, h, L, r, s⟩ => s.val r rfl⟩
theorem ex_non {j} : EX W X (.Constant .none j pos) (cV .non) := ⟨PE.weak pe_non fun σ H Q ⟨ρ, l, h, L, r, s⟩ => s.val r rfl⟩
theorem ex_str {x : Str} {j} {s : List Nat} (e : x = ⟨s.toArray⟩) : EX W X (.Constant (.str x) j pos) (cV (.str s)) := ⟨PE.weak pe_str fun σ H Q ⟨ρ, l, h, L, r, q⟩ => q.val r (by rw [e]; rfl)⟩
theorem ex_var (i : Nat) {x : Str} (p : PE X (.Name x pos) (tVar i)) : EX W X (.Name x pos) (vr i) := ⟨PE.weak p fun σ H Q ⟨ρ, l, h, L, r, s⟩ => by
  unfold vr at s
  split at s
  · rename_i v e
    obtain ⟨u, h1, h2⟩ := L.2 i v e
    exact ⟨u, h1, s.val r h2⟩
  · exact False.elim s⟩
theorem ex_gstr {x : Str} {v : Str} {s : List Nat} {t : Tok} (hg : Gl X x) (hm : X.mg x = some (.str v t)) (e : v = ⟨s.toArray⟩) (hd : (x == ("__debug__" : Str)) = false := by decide) : EX W X (.Name x pos) (cV (.str s)) :=
  ⟨PE.weak (pe_glob (v := .str v) hg hm ⟨t, rfl⟩ hd) fun σ H Q ⟨ρ, l, h, L, r, q⟩ => q.val r (by rw [e]; rfl)⟩
end

/-! ### operators of two values -/
def op2 (F : Va → Va → M Va) (A B : Ex) : Ex := fun l h => (A l h).bind fun a h1 => (B l h1).bind fun b h2 => F a b h2
def op1 (F : Va → M Va) (A : Ex) : Ex := fun l h => (A l h).bind fun a h1 => F a h1
def S2 (K : FW) (W : XW) (F : Va → Va → M Va) (r : R2) : Prop := ∀ ρ h H a b x y Q, HR K ρ h H → RV K ρ H a x → RV K ρ H b y → sat K W ρ H (F a b h) (rv K Q) → r x y H Q
def S1 (K : FW) (W : XW) (F : Va → M Va) (r : V → Hp → VK → Prop) : Prop := ∀ ρ h H a x Q, HR K ρ h H → RV K ρ H a x → sat K W ρ H (F a h) (rv K Q) → r x H Q
section
variable {W : XW} {X : Cx} {a b : Expr} {A B : Ex} {pos : Pos} {F : Va → Va → M Va} {r : R2}
theorem tE.two {K : FW} (hs : S2 K W F r) : ∀ σ H Q, tE K W (op2 F A B) σ H Q → tOp r (tE K W A) (tE K W B) σ H Q := fun σ H Q ⟨ρ, l, h, L, q, s⟩ =>
  tE.go L q s fun a h1 ρ1 H1 x e1 L1 q1 rx s1 => tE.go L1 q1 s1 fun b h2 ρ2 H2 y e2 L2 q2 ry s2 => hs ρ2 h2 H2 a b x y Q q2 (RV.ext e2 a rx) ry s2
theorem ex_op {op : Operator} (ho : OpR X (binaryOp op) r) (hs : S2 X.fw W F r) (ha : EX W X a A) (hb : EX W X b B) : EX W X (.BinOp a op b pos) (op2 F A B) :=
  ⟨PE.weak (pe_op ho ha.pe hb.pe) (tE.two hs)⟩
theorem ex_un {op : UnaryOp} {F : Va → M Va} {r : V → Hp → VK → Prop} (ho : UnR X (unaryOp op) r) (hs : S1 X.fw W F r) (ha : EX W X a A) : EX W X (.UnaryOp op a pos) (op1 F A) :=
  ⟨PE.weak (pe_un ho ha.pe) fun σ H Q ⟨ρ, l, h, L, q, s⟩ => tE.go L q s fun a h1 ρ1 H1 x e1 L1 q1 rx s1 => hs ρ1 h1 H1 a x Q q1 rx s1⟩
theorem ex_cmp {op : CmpOp} (ho : OpR X (compareOp op) r) (hs : S2 X.fw W F r) (ha : EX W X a A) (hb : EX W X b B) (hm : behindInMarks op b = false) : EX W X (.Compare a [op] [b] pos) (op2 F A B) :=
  ⟨PE.weak (pe_cmpR ho ha.pe hb.pe hm) (tE.two hs)⟩
theorem ex_ix (ho : IxR X r) (hs : S2 X.fw W F r) (ha : EX W X a A) (hb : EX W X b B) (hp : PlainIx b) : EX W X (.Subscript a b pos) (op2 F A B) :=
  ⟨PE.weak (pe_ix ho ha.pe hb.pe hp) (tE.two hs)⟩
end

/-! ### tests -/
/-- a value that is a bool, as a test -/
def isB (A : Ex) : Tx := fun l h => (A l h).bind fun a h1 => match a with
  | .bl b => .ok b h1
  | _ => .no
def ofT (A : Tx) : Ex := fun l h => (A l h).bind fun b h1 => .ok (.bl b) h1
/-- the truth of a value -/
def truv (h : Hea) : Va → Option Bool
  | .non => some false
  | .bl b => some b
  | .int i => some (i != 0)
  | .str s => if s.length ≤ 16777216 then some (!s.isEmpty) else none
  | .tup xs => some (!xs.isEmpty)
  | .fl xs => some (!xs.isEmpty)
  | .pr _ => none
  | .fd _ _ => none
  | .sl _ => none
  | .ref i => match h.get i with
    | some (.lst xs) => some (!xs.isEmpty)
    | some (.dic kvs) => some (!kvs.isEmpty)
    | _ => none
def trB (A : Ex) : Tx := fun l h => (A l h).bind fun a h1 => match truv h1 a with
  | some b => .ok b h1
  | none => .no
def tAnd (A B : Tx) : Tx := fun l h => (A l h).bind fun b h1 => if b = true then B l h1 else .ok false h1
def tOr (A B : Tx) : Tx := fun l h => (A l h).bind fun b h1 => if b = true then .ok true h1 else B l h1
def tNot (A : Tx) : Tx := fun l h => (A l h).bind fun b h1 => .ok (!b) h1
def ifE (C : Tx) (A B : Ex) : Ex := fun l h => (C l h).bind fun b h1 => if b = true then A l h1 else B l h1
section
variable {W : XW} {X : Cx} {a b c : Expr} {A B : Ex} {C D : Tx} {pos : Pos} {F : Va → Va → M Va} {r : R2} {rest : List Expr}
theorem isB_tt {K : FW} : ∀ σ H Q, tT K W (isB A) σ H Q → tTest (tE K W A) σ H Q := fun σ H Q ⟨ρ, l, h, L, q, s⟩ =>
  tE.go L q s fun a h1 ρ1 H1 x e1 L1 q1 rx s1 => by
    cases a with
    | bl b => cases rx; exact ⟨b, rfl, s1.ok q1⟩
    | _ => exact False.elim s1
theorem tT.tTest {K : FW} {t : TE} (f : ∀ σ H Q, tE K W A σ H Q → t σ H Q) (hm : ∀ σ H Q, tT K W (isB A) σ H Q → L2.tTest (tE K W A) σ H Q := isB_tt) : ∀ σ H Q, tT K W (isB A) σ H Q → L2.tTest t σ H Q := fun σ H Q s => f σ H _ (hm σ H Q s)
theorem tx_cmp {op : CmpOp} (ho : OpR X (compareOp op) r) (hs : S2 X.fw W F r) (ha : EX W X a A) (hb : EX W X b B) (hm : behindInMarks op b = false) : TX W X (.Compare a [op] [b] pos) (isB (op2 F A B)) :=
  ⟨PT.weak (pt_cmpR ho ha.pe hb.pe hm) (tT.tTest (tE.two hs))⟩
theorem tx_val (ha : EX W X a A) (he : ∀ whole, isTrue a X.env whole = (do let v ← whole; standAt a.pos; holding [v] (truthy v)) := by intro _; rfl) : TX W X a (isB A) :=
  ⟨PT.weak (pt_val ha.pe he) isB_tt⟩
theorem truv_ok {K : FW} {ρ : List Addr} {H : Hp} {h : Hea} {a : Va} {x : V} {b : Bool} (q : HR K ρ h H) (rx : RV K ρ H a x) (e : truv h a = some b) : TruV K x H b := by
  cases a with
  | non => cases rx; cases e; rfl
  | bl b => cases rx; cases e; rfl
  | int i => cases rx; cases e; rfl
  | str s =>
    cases rx
    have e' : (if s.length ≤ 16777216 then some (!s.isEmpty) else none) = some b := e
    by_cases hz : s.length ≤ 16777216
    · rw [if_pos hz] at e'
      cases e'
      refine ⟨by show s.toArray.size ≤ _; rw [sizeLine_eq]; simpa using hz, ?_⟩
      show (!s.isEmpty) = ((s.toArray.size : Int) != 0)
      cases s with
      | nil => rfl
      | cons c r =>
        rw [List.size_toArray, List.length_cons]
        have : (((r.length + 1 : Nat) : Int) != 0) = true := by simp; omega
        rw [this]
        rfl
    · rw [if_neg hz] at e'
      cases e'
  | pr xs => cases e
  | fd ks vs => cases e
  | sl xs => cases e
  | tup xs =>
    obtain ⟨p, us, rfl, h1, h2⟩ := rx
    cases e
    refine .inr (.inl ⟨us, h1.1, ?_⟩)
    have := h2.length
    cases xs <;> cases us <;> simp at this ⊢
  | fl xs =>
    obtain ⟨p, us, rfl, h1, h2⟩ := rx
    cases e
    refine .inl ⟨us, h1.sq, ?_⟩
    have := h2.length
    cases xs <;> cases us <;> simp at this ⊢
  | ref i =>
    have e : (match h.get i with
      | some (.lst xs) => some (!xs.isEmpty)
      | some (.dic kvs) => some (!kvs.isEmpty)
      | _ => none) = some b := e
    split at e
    · rename_i xs g
      obtain ⟨p, us, rfl, _, h1, h2⟩ := q.lst rx g
      cases e
      refine .inl ⟨us, SqL.of h1, ?_⟩
      have := h2.length
      cases xs <;> cases us <;> simp at this ⊢
    · rename_i xs g
      obtain ⟨p, rfl, _, us, h1, h2⟩ := q.at_ref rx g
      cases e
      refine .inr (.inr ⟨us, h1, ?_⟩)
      cases h2 <;> rfl
    · cases e
theorem tx_truth (ha : EX W X a A) (he : ∀ whole, isTrue a X.env whole = (do let v ← whole; standAt a.pos; holding [v] (truthy v)) := by intro _; rfl) : TX W X a (trB A) :=
  ⟨PT.weak (pt_truth ha.pe he) fun σ H Q ⟨ρ, l, h, L, q, s⟩ => tE.go L q s fun a h1 ρ1 H1 x e1 L1 q1 rx s1 => by
    cases e : truv h1 a with
    | none => simp only [e] at s1; exact False.elim s1
    | some b =>
      simp only [e] at s1
      exact ⟨b, truv_ok q1 rx e, s1.ok q1⟩⟩
theorem tT.seq {K : FW} {f : Bool → Hea → Rs Bool} {t : TT} (ρ : List Addr) (l : Lo) (h : Hea) {σ : L2.St} {H : Hp} {Q : Bool → Hp → Prop} : True := trivial
theorem tx_not (ha : TX W X a C) : TX W X (.UnaryOp .Not a pos) (tNot C) :=
  ⟨PT.weak (pt_not ha.pt) fun σ H Q ⟨ρ, l, h, L, q, s⟩ => tT.go L q s fun b h1 ρ1 H1 e1 L1 q1 s1 => s1.ok q1⟩
theorem wx_and1 (ha : TX W X a C) : WX W X (.BoolOp .And [a] pos) C := ⟨pw_and1 ha.pt⟩
theorem wx_or1 (ha : TX W X a C) : WX W X (.BoolOp .Or [a] pos) C := ⟨pw_or1 ha.pt⟩
theorem wx_and (ha : TX W X a C) (hb : WX W X (.BoolOp .And (b :: rest) pos) D) : WX W X (.BoolOp .And (a :: b :: rest) pos) (tAnd C D) :=
  ⟨PW.weak (pw_and ha.pt hb.pw) fun σ H Q ⟨ρ, l, h, L, q, s⟩ => tT.go L q s fun b h1 ρ1 H1 e1 L1 q1 s1 => by
    cases b with
    | true => exact ⟨ρ1, l, h1, L1, q1, s1⟩
    | false => exact s1.ok q1⟩
theorem wx_or (ha : TX W X a C) (hb : WX W X (.BoolOp .Or (b :: rest) pos) D) : WX W X (.BoolOp .Or (a :: b :: rest) pos) (tOr C D) :=
  ⟨PW.weak (pw_or ha.pt hb.pw) fun σ H Q ⟨ρ, l, h, L, q, s⟩ => tT.go L q s fun b h1 ρ1 H1 e1 L1 q1 s1 => by
    cases b with
    | true => exact s1.ok q1
    | false => exact ⟨ρ1, l, h1, L1, q1, s1⟩⟩
theorem tx_w (ha : WX W X a C) : TX W X a C := ⟨ha.pw.pt⟩
theorem ex_if (hc : TX W X c C) (ha : EX W X a A) (hb : EX W X b B) : EX W X (.IfExp c a b pos) (ifE C A B) :=
  ⟨PE.weak (pe_ifExp hc.pt ha.pe hb.pe) fun σ H Q ⟨ρ, l, h, L, q, s⟩ => tT.go L q s fun b h1 ρ1 H1 e1 L1 q1 s1 => by
    cases b with
    | true => exact ⟨ρ1, l, h1, L1, q1, s1⟩
    | false => exact ⟨ρ1, l, h1, L1, q1, s1⟩⟩
/-! and, or, not as values (bools) -/
def vAnd (A B : Ex) : Ex := fun l h => (A l h).bind fun a h1 => match a with
  | .bl true => B l h1
  | .bl false => .ok (.bl false) h1
  | _ => .no
def vOr (A B : Ex) : Ex := fun l h => (A l h).bind fun a h1 => match a with
  | .bl true => .ok (.bl true) h1
  | .bl false => B l h1
  | _ => .no
def vNot (A : Ex) : Ex := fun l h => (A l h).bind fun a h1 => match a with
  | .bl b => .ok (.bl (!b)) h1
  | _ => .no
theorem ex_one {op} (ha : EX W X a A) : EX W X (.BoolOp op [a] pos) A := ⟨pe_one ha.pe⟩
theorem ex_and (ha : EX W X a A) (hb : EX W X (.BoolOp .And (b :: rest) pos) B) : EX W X (.BoolOp .And (a :: b :: rest) pos) (vAnd A B) :=
  ⟨PE.weak (pe_and ha.pe hb.pe) fun σ H Q ⟨ρ, l, h, L, q, s⟩ => tE.go L q s fun a h1 ρ1 H1 x e1 L1 q1 rx s1 => by
    cases a with
    | bl b =>
      cases rx
      cases b with
      | true => exact ⟨true, rfl, ρ1, l, h1, L1, q1, s1⟩
      | false => exact ⟨false, rfl, s1.val q1 rfl⟩
    | _ => exact False.elim s1⟩
theorem ex_or (ha : EX W X a A) (hb : EX W X (.BoolOp .Or (b :: rest) pos) B) : EX W X (.BoolOp .Or (a :: b :: rest) pos) (vOr A B) :=
  ⟨PE.weak (pe_or ha.pe hb.pe) fun σ H Q ⟨ρ, l, h, L, q, s⟩ => tE.go L q s fun a h1 ρ1 H1 x e1 L1 q1 rx s1 => by
    cases a with
    | bl b =>
      cases rx
      cases b with
      | true => exact ⟨true, rfl, s1.val q1 rfl⟩
      | false => exact ⟨false, rfl, ρ1, l, h1, L1, q1, s1⟩
    | _ => exact False.elim s1⟩
theorem ex_not (ha : EX W X a A) : EX W X (.UnaryOp .Not a pos) (vNot A) :=
  ⟨PE.weak (pe_not ha.pe) fun σ H Q ⟨ρ, l, h, L, q, s⟩ => tE.go L q s fun a h1 ρ1 H1 x e1 L1 q1 rx s1 => by
    cases a with
    | bl b => cases rx; exact ⟨b, rfl, s1.val q1 rfl⟩
    | _ => exact False.elim s1⟩
end
end Rf

/-! Rf: operators by values. -/
namespace Rf
open PySem PySem.Spec PyProof.Rows L2

/-! ### data, and when it is equal -/
inductive Sh where
  | sc (d : PyData) | st (s : List Nat) | tu (xs : List Va) | li (xs : List Va) | bad
def view (h : Hea) : Va → Sh
  | .non => .sc .none
  | .bl b => .sc (.bool b)
  | .int i => .sc (.int i)
  | .str s => .st s
  | .tup xs => .tu xs
  | .fl xs => .li xs
  | .pr _ => .bad
  | .fd _ _ => .bad
  | .sl _ => .bad
  | .ref i => match h.get i with
    | some (.lst xs) => .li xs
    | _ => .bad
def dOk (h : Hea) : Nat → Va → Bool
  | 0, _ => false
  | n + 1, a => match view h a with
    | .sc _ => true
    | .st s => s.all fun c => decide (c < 1114112)
    | .tu xs => xs.all (dOk h n)
    | .li xs => xs.all (dOk h n)
    | .bad => false
def toD (h : Hea) : Nat → Va → PyData
  | 0, _ => .none
  | n + 1, a => match view h a with
    | .sc d => d
    | .st s => .str ⟨s.toArray⟩
    | .tu xs => .tuple (xs.map (toD h n))
    | .li xs => .list (xs.map (toD h n))
    | .bad => .none
def all2 {α : Type} (f : α → α → Bool) : List α → List α → Bool
  | [], [] => true
  | x :: xs, y :: ys => f x y && all2 f xs ys
  | _, _ => false
def vq (h : Hea) : Nat → Va → Va → Bool
  | 0, _, _ => false
  | n + 1, a, b => match view h a, view h b with
    | .sc d, .sc e => PyData.eqv d e
    | .st s, .st t => s == t
    | .tu xs, .tu ys => all2 (vq h n) xs ys
    | .li xs, .li ys => all2 (vq h n) xs ys
    | _, _ => false
def PyData.isSc : PyData → Bool
  | .none => true
  | .bool _ => true
  | .int _ => true
  | _ => false
theorem view_sc {h : Hea} {a : Va} {d : PyData} (e : view h a = .sc d) : PyData.isSc d = true := by
  cases a with
  | ref i =>
    unfold view at e
    simp only at e
    split at e <;> cases e
  | _ => first | (cases e; rfl) | (cases e)
theorem str_beq (s t : List Nat) : ((⟨s.toArray⟩ : Str) == ⟨t.toArray⟩) = (s == t) := by
  rw [Bool.eq_iff_iff]
  simp
theorem sc_st {d : PyData} {s : Str} (h : PyData.isSc d = true) : PyData.eqv d (.str s) = false ∧ PyData.eqv (.str s) d = false := by
  cases d <;> first | (simp [PyData.eqv]; done) | (exact absurd h (by simp [PyData.isSc]))
theorem sc_tu {d : PyData} {s : List PyData} (h : PyData.isSc d = true) : PyData.eqv d (.tuple s) = false ∧ PyData.eqv (.tuple s) d = false := by
  cases d <;> first | (simp [PyData.eqv]; done) | (exact absurd h (by simp [PyData.isSc]))
theorem sc_li {d : PyData} {s : List PyData} (h : PyData.isSc d = true) : PyData.eqv d (.list s) = false ∧ PyData.eqv (.list s) d = false := by
  cases d <;> first | (simp [PyData.eqv]; done) | (exact absurd h (by simp [PyData.isSc]))
theorem eqvAll_map {f : Va → PyData} {g : Va → Va → Bool} {p : Va → Bool} (hfg : ∀ a b, p a = true → p b = true → g a b = PyData.eqv (f a) (f b)) : ∀ xs ys : List Va, xs.all p = true → ys.all p = true → all2 g xs ys = PyData.eqvAll (xs.map f) (ys.map f)
  | [], [], _, _ => by simp [all2, PyData.eqvAll]
  | [], _ :: _, _, _ => by simp [all2, PyData.eqvAll]
  | _ :: _, [], _, _ => by simp [all2, PyData.eqvAll]
  | x :: xs, y :: ys, h1, h2 => by
    rw [List.all_cons, Bool.and_eq_true] at h1 h2
    simp only [all2, PyData.eqvAll, List.map_cons]
    rw [hfg x y h1.1 h2.1, eqvAll_map hfg xs ys h1.2 h2.2]
theorem vq_eqv (h : Hea) : ∀ (n : Nat) (a b : Va), dOk h n a = true → dOk h n b = true → vq h n a b = PyData.eqv (toD h n a) (toD h n b)
  | 0, _, _, e, _ => by cases e
  | n + 1, a, b, e1, e2 => by
    unfold dOk at e1 e2
    unfold vq toD
    cases ea : view h a with
    | bad => simp [ea] at e1
    | sc d =>
      have sd := view_sc ea
      cases eb : view h b with
      | bad => simp [eb] at e2
      | sc e => rfl
      | st t => exact (sc_st sd).1.symm
      | tu ys => exact (sc_tu sd).1.symm
      | li ys => exact (sc_li sd).1.symm
    | st s =>
      cases eb : view h b with
      | bad => simp [eb] at e2
      | sc e => exact (sc_st (view_sc eb)).2.symm
      | st t => simp only [PyData.eqv, str_beq]
      | tu ys => simp [PyData.eqv]
      | li ys => simp [PyData.eqv]
    | tu xs =>
      cases eb : view h b with
      | bad => simp [eb] at e2
      | sc e => exact (sc_tu (view_sc eb)).2.symm
      | st t => simp [PyData.eqv]
      | tu ys =>
        simp only [ea, eb] at e1 e2
        simp only [PyData.eqv]
        exact eqvAll_map (fun a b => vq_eqv h n a b) xs ys e1 e2
      | li ys => simp [PyData.eqv]
    | li xs =>
      cases eb : view h b with
      | bad => simp [eb] at e2
      | sc e => exact (sc_li (view_sc eb)).2.symm
      | st t => simp [PyData.eqv]
      | tu ys => simp [PyData.eqv]
      | li ys =>
        simp only [ea, eb] at e1 e2
        simp only [PyData.eqv]
        exact eqvAll_map (fun a b => vq_eqv h n a b) xs ys e1 e2
section
variable {K : FW} {ρ : List Addr} {H : Hp} {h : Hea}
theorem dp_of (q : HR K ρ h H) : ∀ (n : Nat) (a : Va) (x : V), dOk h n a = true → RV K ρ H a x → Dp K H x (toD h n a) ∧ (toD h n a).canLay0 = true ∧ (toD h n a).depth ≤ n
  | 0, _, _, e, _ => by cases e
  | n + 1, a, x, e, rx => by
    have all : ∀ (xs : List Va) (us : List V), xs.all (dOk h n) = true → RVs K ρ H xs us → DpAll K H us (xs.map (toD h n)) ∧ PyData.canLayAll0 (xs.map (toD h n)) = true ∧ PyData.depthAll (xs.map (toD h n)) ≤ n := by
      intro xs
      induction xs with
      | nil => intro us _ r; cases r; exact ⟨.nil, by simp [PyData.canLayAll0], by simp [PyData.depthAll]⟩
      | cons y ys ih =>
        intro us e r
        obtain ⟨u, t, rfl, r1, r2⟩ := r
        rw [List.all_cons, Bool.and_eq_true] at e
        obtain ⟨i1, i2, i3⟩ := ih t e.2 r2
        obtain ⟨j1, j2, j3⟩ := dp_of q n y u e.1 r1
        refine ⟨.cons j1 i1, by simp [PyData.canLayAll0, j2, i2], ?_⟩
        simp only [List.map_cons, PyData.depthAll]
        omega
    unfold dOk at e
    unfold toD
    cases a with
    | non => cases rx; exact ⟨.non, by simp [view, PyData.canLay0], by simp [view, PyData.depth]⟩
    | bl b => cases rx; exact ⟨.bl b, by simp [view, PyData.canLay0], by simp [view, PyData.depth]⟩
    | int b => cases rx; exact ⟨.int b, by simp [view, PyData.canLay0], by simp [view, PyData.depth]⟩
    | str s =>
      cases rx
      refine ⟨.str _, ?_, by simp [view, PyData.depth]⟩
      simp only [view, PyData.canLay0, PyData.strOk]
      have e' : (s.all fun c => decide (c < 1114112)) = true := e
      simpa using e'
    | tup xs =>
      obtain ⟨p, us, rfl, h1, h2⟩ := rx
      have e' : xs.all (dOk h n) = true := e
      obtain ⟨i1, i2, i3⟩ := all xs us e' h2
      exact ⟨.tup h1.1 i1, by simp only [view, PyData.canLay0]; exact i2, by simp only [view, PyData.depth]; omega⟩
    | fl xs =>
      obtain ⟨p, us, rfl, h1, h2⟩ := rx
      have e' : xs.all (dOk h n) = true := e
      obtain ⟨i1, i2, i3⟩ := all xs us e' h2
      exact ⟨.lst h1.sq i1, by simp only [view, PyData.canLay0]; exact i2, by simp only [view, PyData.depth]; omega⟩
    | pr xs => exact absurd e (by simp [view])
    | fd ks vs => exact absurd e (by simp [view])
    | sl xs => exact absurd e (by simp [view])
    | ref i =>
      cases g : h.get i with
      | none => simp [view, g] at e
      | some o =>
        cases o with
        | lst xs =>
          obtain ⟨p, us, rfl, _, h1, h2⟩ := q.lst rx g
          have e' : xs.all (dOk h n) = true := by simpa [view, g] using e
          obtain ⟨i1, i2, i3⟩ := all xs us e' h2
          simp only [view, g]
          exact ⟨.lst (SqL.of h1) i1, by simp only [PyData.canLay0]; exact i2, by simp only [PyData.depth]; omega⟩
        | _ => simp [view, g] at e
theorem shaped_of {n : Nat} {d : PyData} (h1 : d.canLay0 = true) (h2 : d.depth ≤ n) (h3 : n ≤ 64) : SeqAt.shaped d = true := by
  unfold SeqAt.shaped
  rw [h1, Bool.true_and, decide_eq_true_eq]
  omega
end
/-- ==, != -/
def vEq (a b : Va) : M Va := fun h => if dOk h 20 a = true then (if dOk h 20 b = true then .ok (.bl (vq h 20 a b)) h else .no) else .no
def vNe (a b : Va) : M Va := fun h => if dOk h 20 a = true then (if dOk h 20 b = true then .ok (.bl (!vq h 20 a b)) h else .no) else .no
section
variable {K : FW} {W : XW}
theorem s_eq : S2 K W vEq (rEqD K) := fun ρ h H a b x y Q q rx ry s => by
  unfold vEq at s
  by_cases e1 : dOk h 20 a = true
  · rw [if_pos e1] at s
    by_cases e2 : dOk h 20 b = true
    · rw [if_pos e2] at s
      obtain ⟨i1, i2, i3⟩ := dp_of q 20 a x e1 rx
      obtain ⟨j1, j2, j3⟩ := dp_of q 20 b y e2 ry
      exact ⟨_, _, i1, j1, shaped_of i2 i3 (by decide), shaped_of j2 j3 (by decide), by rw [← vq_eqv h 20 a b e1 e2]; exact s.val q rfl⟩
    · rw [if_neg e2] at s; exact False.elim s
  · rw [if_neg e1] at s; exact False.elim s
theorem s_ne : S2 K W vNe (rNeD K) := fun ρ h H a b x y Q q rx ry s => by
  unfold vNe at s
  by_cases e1 : dOk h 20 a = true
  · rw [if_pos e1] at s
    by_cases e2 : dOk h 20 b = true
    · rw [if_pos e2] at s
      obtain ⟨i1, i2, i3⟩ := dp_of q 20 a x e1 rx
      obtain ⟨j1, j2, j3⟩ := dp_of q 20 b y e2 ry
      exact ⟨_, _, i1, j1, shaped_of i2 i3 (by decide), shaped_of j2 j3 (by decide), by rw [← vq_eqv h 20 a b e1 e2]; exact s.val q rfl⟩
    · rw [if_neg e2] at s; exact False.elim s
  · rw [if_neg e1] at s; exact False.elim s
/-- is None, is not None -/
def vIs (a b : Va) : M Va := fun h => match b with
  | .non => match a with
    | .non => .ok (.bl true) h
    | _ => .ok (.bl false) h
  | _ => .no
def vIsNot (a b : Va) : M Va := fun h => match b with
  | .non => match a with
    | .non => .ok (.bl false) h
    | _ => .ok (.bl true) h
  | _ => .no
theorem RV.not_non {ρ : List Addr} {H : Hp} {a : Va} {x : V} (r : RV K ρ H a x) (n : a ≠ .non) : x ≠ .non := by
  cases a with
  | non => exact absurd rfl n
  | bl _ => cases r; simp
  | int _ => cases r; simp
  | str _ => cases r; simp
  | tup _ => obtain ⟨_, _, rfl, _⟩ := r; simp
  | fl _ => obtain ⟨_, _, rfl, _⟩ := r; simp
  | pr _ => obtain ⟨_, _, rfl, _⟩ := r; simp
  | fd _ _ => obtain ⟨_, _, _, rfl, _⟩ := r; simp
  | sl _ => obtain ⟨_, _, rfl, _⟩ := r; simp
  | ref _ => obtain ⟨_, rfl, _⟩ := r; simp
theorem s_is : S2 K W vIs (fun x y H Q => y = .non ∧ Q (.bl (decide (x = .non))) H) := fun ρ h H a b x y Q q rx ry s => by
  cases b with
  | non =>
    cases ry
    refine ⟨rfl, ?_⟩
    by_cases n : a = .non
    · subst n
      cases rx
      exact s.val q rfl
    · rw [decide_eq_false (rx.not_non n)]
      cases a with
      | non => exact absurd rfl n
      | _ => exact s.val q rfl
  | _ => exact False.elim s
theorem s_isNot : S2 K W vIsNot (fun x y H Q => y = .non ∧ Q (.bl (!decide (x = .non))) H) := fun ρ h H a b x y Q q rx ry s => by
  cases b with
  | non =>
    cases ry
    refine ⟨rfl, ?_⟩
    by_cases n : a = .non
    · subst n
      cases rx
      exact s.val q rfl
    · rw [decide_eq_false (rx.not_non n)]
      cases a with
      | non => exact absurd rfl n
      | _ => exact s.val q rfl
  | _ => exact False.elim s
end
/-! ### numbers, texts, lists, tuples -/
def sLine : Nat := 16777216
theorem sLine_eq : sLine = sizeLine := by rw [sizeLine_eq]; rfl
def vAdd (a b : Va) : M Va := fun h => match a with
  | .int i => match b with
    | .int j => .ok (.int (i + j)) h
    | .bl k => .ok (.int (i + b2i k)) h
    | _ => .no
  | .str s => match b with
    | .str t => if s.length + t.length ≤ sLine then .ok (.str (s ++ t)) h else .no
    | _ => .no
  | .tup xs => match b with
    | .tup ys => if xs.length + ys.length ≤ sLine then .ok (.tup (xs ++ ys)) h else .no
    | _ => .no
  | .ref i => match b with
    | .ref j => match h.get i with
      | some (.lst xs) => match h.get j with
        | some (.lst ys) => if xs.length + ys.length ≤ sLine then .ok (.ref h.n) (h.push (.lst (xs ++ ys))) else .no
        | _ => .no
      | _ => .no
    | _ => .no
  | _ => .no
def rAdd (K : FW) : R2 := fun x y H Q => (rI0 (fun i j => .int (i + j)) x y H Q ∨ (∃ i k, x = .int i ∧ y = .bl k ∧ Q (.int (i + b2i k)) H)) ∨
  ((∃ i j, x = .str i ∧ y = .str j ∧ i.length + j.length ≤ sizeLine ∧ Q (.str (i ++ j)) H) ∨ (rCatN K x y H Q ∨ rCat x y H Q))
theorem op_addA {X : Cx} : OpR X (binaryOp .Add) (rAdd X.fw) := (op_add.or op_add_ib).or (op_add_str.or (op_catN.or op_cat))
section
variable {K : FW} {W : XW}
theorem str_app (s t : List Nat) : (⟨s.toArray⟩ : Str) ++ ⟨t.toArray⟩ = ⟨(s ++ t).toArray⟩ := by
  show Str.append _ _ = _
  simp [Str.append]
theorem s_add : S2 K W vAdd (rAdd K) := fun ρ h H a b x y Q q rx ry s => by
  cases a with
  | int i =>
    cases rx
    cases b with
    | int j => cases ry; exact .inl (.inl ⟨i, j, rfl, rfl, s.val q rfl⟩)
    | bl k => cases ry; exact .inl (.inr ⟨i, k, rfl, rfl, s.val q rfl⟩)
    | _ => exact False.elim s
  | str z =>
    cases rx
    cases b with
    | str t =>
      cases ry
      have s' : sat K W ρ H (if z.length + t.length ≤ sLine then .ok (.str (z ++ t)) h else .no) (rv K Q) := s
      by_cases hz : z.length + t.length ≤ sLine
      · rw [if_pos hz] at s'
        refine .inr (.inl ⟨_, _, rfl, rfl, ?_, s'.val q ?_⟩)
        · rw [← sLine_eq]; show z.toArray.size + t.toArray.size ≤ _; simpa using hz
        · show V.str _ = V.str _
          rw [str_app]
      · rw [if_neg hz] at s'; exact False.elim s'
    | _ => exact False.elim s
  | tup xs =>
    obtain ⟨p, us, rfl, h1, h2⟩ := rx
    cases b with
    | tup ys =>
      obtain ⟨p', us', rfl, h1', h2'⟩ := ry
      have s' : sat K W ρ H (if xs.length + ys.length ≤ sLine then .ok (.tup (xs ++ ys)) h else .no) (rv K Q) := s
      by_cases hz : xs.length + ys.length ≤ sLine
      · rw [if_pos hz] at s'
        refine .inr (.inr (.inl ⟨p, p', us, us', rfl, rfl, h1.1, h1'.1, by rw [← sLine_eq, ← h2.length, ← h2'.length]; exact hz, fun e => ?_, fun _ e => ?_, fun _ _ => s'.newTup q (h2.append h2')⟩))
        · subst e
          have : xs = [] := by have := h2.length; exact List.eq_nil_of_length_eq_zero this
          subst this
          exact s'.val q ⟨p', us', rfl, h1', h2'⟩
        · subst e
          have : ys = [] := by have := h2'.length; exact List.eq_nil_of_length_eq_zero this
          subst this
          exact s'.val q ⟨p, us, rfl, h1, by rw [List.append_nil]; exact h2⟩
      · rw [if_neg hz] at s'; exact False.elim s'
    | _ => exact False.elim s
  | ref i =>
    cases b with
    | ref j =>
      cases g : h.get i with
      | none => simp only [vAdd, g] at s; exact False.elim s
      | some o =>
        cases o with
        | lst xs =>
          cases g2 : h.get j with
          | none => simp only [vAdd, g, g2] at s; exact False.elim s
          | some o2 =>
            cases o2 with
            | lst ys =>
              simp only [vAdd, g, g2] at s
              obtain ⟨p, us, rfl, _, h1, h2⟩ := q.lst rx g
              obtain ⟨p', us', rfl, _, h1', h2'⟩ := q.lst ry g2
              by_cases hz : xs.length + ys.length ≤ sLine
              · rw [if_pos hz] at s
                exact .inr (.inr (.inr ⟨p, p', us, us', rfl, rfl, h1, h1', by rw [← sLine_eq, ← h2.length, ← h2'.length]; exact hz, s.newLst q (h2.append h2')⟩))
              · rw [if_neg hz] at s; exact False.elim s
            | _ => simp only [vAdd, g, g2] at s; exact False.elim s
        | _ => simp only [vAdd, g] at s; exact False.elim s
    | _ => exact False.elim s
  | _ => exact False.elim s
def iop (F : Int → Int → Va) (a b : Va) : M Va := fun h => match a with
  | .int i => match b with
    | .int j => .ok (F i j) h
    | _ => .no
  | _ => .no
def iopC (C : Int → Int → Bool) (F : Int → Int → Va) (a b : Va) : M Va := fun h => match a with
  | .int i => match b with
    | .int j => if C i j = true then .ok (F i j) h else .no
    | _ => .no
  | _ => .no
theorem s_iop {F : Int → Int → Va} {G : Int → Int → V} (e : ∀ i j ρ H, RV K ρ H (F i j) (G i j)) : S2 K W (iop F) (rI0 G) := fun ρ h H a b x y Q q rx ry s => by
  cases a with
  | int i =>
    cases rx
    cases b with
    | int j => cases ry; exact ⟨i, j, rfl, rfl, s.val q (e i j ρ H)⟩
    | _ => exact False.elim s
  | _ => exact False.elim s
theorem s_iopC {C : Int → Int → Bool} {C' : Int → Int → Prop} {F : Int → Int → Va} {G : Int → Int → V} (hc : ∀ i j, C i j = true → C' i j) (e : ∀ i j ρ H, RV K ρ H (F i j) (G i j)) : S2 K W (iopC C F) (rI C' G) := fun ρ h H a b x y Q q rx ry s => by
  cases a with
  | int i =>
    cases rx
    cases b with
    | int j =>
      cases ry
      have s' : sat K W ρ H (if C i j = true then .ok (F i j) h else .no) (rv K Q) := s
      by_cases hz : C i j = true
      · rw [if_pos hz] at s'
        exact ⟨i, j, rfl, rfl, hc i j hz, s'.val q (e i j ρ H)⟩
      · rw [if_neg hz] at s'; exact False.elim s'
    | _ => exact False.elim s
  | _ => exact False.elim s
end
def vSub : Va → Va → M Va := iop fun i j => .int (i - j)
/-- // by a positive number -/
def vDiv : Va → Va → M Va := iopC (fun _ j => decide (0 < j) && decide (j < 1073741824)) fun i j => .int (i / j)
def vMod : Va → Va → M Va := iopC (fun _ j => decide (0 < j)) fun i j => .int (i % j)
def vPow : Va → Va → M Va := iopC (fun i j => decide (0 ≤ j) && (decide (j ≤ 1000000) && decide (i.natAbs < 18446744073709551616))) fun i j => .int (i ^ j.toNat)
def vLt : Va → Va → M Va := iop fun i j => .bl (decide (i < j))
def vLe : Va → Va → M Va := iop fun i j => .bl (decide (i ≤ j))
def vGt : Va → Va → M Va := iop fun i j => .bl (decide (j < i))
def vGe : Va → Va → M Va := iop fun i j => .bl (decide (j ≤ i))
section
variable {W : XW} {X : Cx} {a b : Expr} {A B : Ex} {pos : Pos}
theorem ex_add (ha : EX W X a A) (hb : EX W X b B) : EX W X (.BinOp a .Add b pos) (op2 vAdd A B) := ex_op op_addA s_add ha hb
theorem ex_sub (ha : EX W X a A) (hb : EX W X b B) : EX W X (.BinOp a .Sub b pos) (op2 vSub A B) := ex_op op_sub (s_iop fun _ _ _ _ => rfl) ha hb
theorem ex_div (ha : EX W X a A) (hb : EX W X b B) : EX W X (.BinOp a .FloorDiv b pos) (op2 vDiv A B) := ex_op op_fdiv (s_iopC (fun i j h => by
  simp only [Bool.and_eq_true, decide_eq_true_eq] at h; exact h) fun _ _ _ _ => rfl) ha hb
theorem ex_mod (ha : EX W X a A) (hb : EX W X b B) : EX W X (.BinOp a .Mod b pos) (op2 vMod A B) := ex_op op_mod (s_iopC (fun i j h => by
  simp only [decide_eq_true_eq] at h; exact h) fun _ _ _ _ => rfl) ha hb
theorem ex_pow (ha : EX W X a A) (hb : EX W X b B) : EX W X (.BinOp a .Pow b pos) (op2 vPow A B) := ex_op op_pow (s_iopC (fun i j h => by
  simp only [Bool.and_eq_true, decide_eq_true_eq] at h; exact h) fun _ _ _ _ => rfl) ha hb
def vNeg (a : Va) : M Va := fun h => match a with
  | .int i => .ok (.int (-i)) h
  | _ => .no
theorem ex_neg (ha : EX W X a A) : EX W X (.UnaryOp .USub a pos) (op1 vNeg A) := ex_un un_neg (fun ρ h H a x Q q rx s => by
  cases a with
  | int i => cases rx; exact ⟨i, rfl, s.val q rfl⟩
  | _ => exact False.elim s) ha
variable (hu : X.A.units + 65 < cLine)
include hu
theorem ex_eq (ha : EX W X a A) (hb : EX W X b B) : EX W X (.Compare a [.Eq] [b] pos) (op2 vEq A B) := ex_cmp (op_eqD (by omega)) s_eq ha hb (nomark _)
theorem ex_ne (ha : EX W X a A) (hb : EX W X b B) : EX W X (.Compare a [.NotEq] [b] pos) (op2 vNe A B) := ex_cmp (op_neD (by omega)) s_ne ha hb (nomark _)
theorem tx_eq (ha : EX W X a A) (hb : EX W X b B) : TX W X (.Compare a [.Eq] [b] pos) (isB (op2 vEq A B)) := tx_cmp (op_eqD (by omega)) s_eq ha hb (nomark _)
theorem tx_ne (ha : EX W X a A) (hb : EX W X b B) : TX W X (.Compare a [.NotEq] [b] pos) (isB (op2 vNe A B)) := tx_cmp (op_neD (by omega)) s_ne ha hb (nomark _)
omit hu
theorem ex_is (ha : EX W X a A) (hb : EX W X b B) : EX W X (.Compare a [.Is] [b] pos) (op2 vIs A B) := ex_cmp op_isN s_is ha hb (nomark _)
theorem ex_isNot (ha : EX W X a A) (hb : EX W X b B) : EX W X (.Compare a [.IsNot] [b] pos) (op2 vIsNot A B) := ex_cmp op_notN s_isNot ha hb (nomark _)
theorem tx_is (ha : EX W X a A) (hb : EX W X b B) : TX W X (.Compare a [.Is] [b] pos) (isB (op2 vIs A B)) := tx_cmp op_isN s_is ha hb (nomark _)
theorem tx_isNot (ha : EX W X a A) (hb : EX W X b B) : TX W X (.Compare a [.IsNot] [b] pos) (isB (op2 vIsNot A B)) := tx_cmp op_notN s_isNot ha hb (nomark _)
end
end Rf

/-! Rf: subscripts, slices, displays, calls of built-ins, methods. -/
namespace Rf
open PySem PySem.Spec PyProof.Rows L2

/-! ### subscripts by a number -/
def atV (xs : List Va) (i : Int) (h : Hea) : Rs Va := match atI xs i with
  | some v => .ok v h
  | none => .no
def vIx (a b : Va) : M Va := fun h => match b with
  | .int i => match a with
    | .tup xs => atV xs i h
    | .fl xs => atV xs i h
    | .ref p => match h.get p with
      | some (.lst xs) => atV xs i h
      | _ => .no
    | .str s => if s.length ≤ sLine then (match atI s i with
      | some c => .ok (.str [c]) h
      | none => .no) else .no
    | _ => .no
  | _ => .no
section
variable {K : FW} {W : XW} {ρ : List Addr} {H : Hp} {h : Hea}
theorem atI_rel {xs : List Va} {us : List V} {i : Int} {v : Va} (r : RVs K ρ H xs us) (e : atI xs i = some v) : ∃ u, atI us i = some u ∧ RV K ρ H v u := by
  unfold atI at e ⊢
  rw [← r.length]
  cases q : ixN xs.length i with
  | none => rw [q] at e; cases e
  | some j =>
    rw [q] at e
    exact r.get (show xs[j]? = some v from e)
theorem sat.atV {xs : List Va} {us : List V} {i : Int} {Q : VK} (s : sat K W ρ H (atV xs i h) (rv K Q)) (q : HR K ρ h H) (r : RVs K ρ H xs us) : ∃ u, atI us i = some u ∧ Q u H := by
  unfold Rf.atV at s
  cases e : atI xs i with
  | none => rw [e] at s; exact False.elim s
  | some v =>
    rw [e] at s
    obtain ⟨u, h1, h2⟩ := atI_rel r e
    exact ⟨u, h1, s.val q h2⟩
theorem s_ix : S2 K W vIx (rIx K) := fun ρ h H a b x y Q q rx ry s => by
  cases b with
  | int i =>
    cases ry
    cases a with
    | tup xs =>
      obtain ⟨p, us, rfl, h1, h2⟩ := rx
      obtain ⟨u, e, q1⟩ := sat.atV (show sat K W ρ H (atV xs i h) (rv K Q) from s) q h2
      exact .inr (.inl ⟨p, us, i, u, rfl, rfl, h1.1, e, q1⟩)
    | fl xs =>
      obtain ⟨p, us, rfl, h1, h2⟩ := rx
      obtain ⟨u, e, q1⟩ := sat.atV (show sat K W ρ H (atV xs i h) (rv K Q) from s) q h2
      exact .inl ⟨p, us, i, u, rfl, rfl, h1.sq, e, q1⟩
    | ref j =>
      cases g : h.get j with
      | none => simp only [vIx, g] at s; exact False.elim s
      | some o =>
        cases o with
        | lst xs =>
          simp only [vIx, g] at s
          obtain ⟨p, us, rfl, _, h1, h2⟩ := q.lst rx g
          obtain ⟨u, e, q1⟩ := sat.atV s q h2
          exact .inl ⟨p, us, i, u, rfl, rfl, SqL.of h1, e, q1⟩
        | _ => simp only [vIx, g] at s; exact False.elim s
    | str z =>
      cases rx
      have s' : sat K W ρ H (if z.length ≤ sLine then (match atI z i with
        | some c => .ok (.str [c]) h
        | none => .no) else .no) (rv K Q) := s
      by_cases hz : z.length ≤ sLine
      · rw [if_pos hz] at s'
        cases e : atI z i with
        | none => rw [e] at s'; exact False.elim s'
        | some c =>
          rw [e] at s'
          refine .inr (.inr ⟨_, i, c, rfl, rfl, ?_, ?_, s'.val q rfl⟩)
          · rw [← sLine_eq]; show z.toArray.size ≤ _; simpa using hz
          · simpa using e
      · rw [if_neg hz] at s'; exact False.elim s'
    | _ => exact False.elim s
  | _ => exact False.elim s
end
section
variable {W : XW} {X : Cx} {a b e : Expr} {A B : Ex} {pos p2 : Pos}
theorem ex_ixS (ha : EX W X a A) (hb : EX W X b B) (hp : PlainIx b := by exact fun _ _ => rfl) : EX W X (.Subscript a b pos) (op2 vIx A B) := ex_ix ix_seq s_ix ha hb hp
end

/-! ### slices -/
abbrev Px := Lo → M (Option Int)
def noPart : Px := fun _ h => .ok none h
def aPart (A : Ex) : Px := fun l h => (A l h).bind fun a h1 => match a with
  | .int i => .ok (some i) h1
  | _ => .no
def cutL {α : Type} (xs : List α) (lo hi : Option Int) : List α := (xs.drop (HT.sIx xs.length 0 lo)).take (HT.sIx xs.length xs.length hi - HT.sIx xs.length 0 lo)
def vSl (a : Va) (lo hi : Option Int) : M Va := fun h => match a with
  | .tup xs => .ok (.tup (cutL xs lo hi)) h
  | .ref p => match h.get p with
    | some (.lst xs) => .ok (.ref h.n) (h.push (.lst (cutL xs lo hi)))
    | _ => .no
  | .str s => if s.length ≤ sLine then .ok (.str (cutL s lo hi)) h else .no
  | _ => .no
def slE (A : Ex) (B C : Px) : Ex := fun l h => (A l h).bind fun a h1 => (B l h1).bind fun lo h2 => (C l h2).bind fun hi h3 => vSl a lo hi h3
def tP (K : FW) (W : XW) (A : Px) : TO := fun σ H Q => ∃ ρ l h, LR K ρ H l σ ∧ HR K ρ h H ∧ sat K W ρ H (A l h) (fun o _ _ H' => Q o H')
structure PX (W : XW) (X : Cx) (e : Option Expr) (A : Px) : Prop where
  po : PO X e (tP X.fw W A)
theorem tP.go {K : FW} {W : XW} {A : Px} {ρ : List Addr} {l : Lo} {h : Hea} {σ : L2.St} {H : Hp} {β : Type} {f : Option Int → Hea → Rs β} {Q : β → Hea → List Addr → Hp → Prop} {R : Option Int → Hp → Prop}
    (L : LR K ρ H l σ) (r : HR K ρ h H) (s : sat K W ρ H ((A l h).bind f) Q)
    (k : ∀ a h1 ρ1 H1, Ext K ρ H ρ1 H1 → LR K ρ1 H1 l σ → HR K ρ1 h1 H1 → sat K W ρ1 H1 (f a h1) Q → R a H1) : tP K W A σ H R :=
  ⟨ρ, l, h, L, r, s.bind.mono fun a h1 ρ1 H1 e r1 s1 => k a h1 ρ1 H1 e (L.ext e) r1 s1⟩
section
variable {W : XW} {X : Cx} {a b e : Expr} {A : Ex} {B C : Px} {pos p2 : Pos} {lo hi : Option Expr}
theorem PO.weak {e : Option Expr} {t t' : TO} (h : PO X e t) (f : ∀ σ H Q, t' σ H Q → t σ H Q) : PO X e t' := ⟨fun pins s σ H Q I q => h.run pins s σ H Q I (f σ H Q q)⟩
theorem px_none : PX W X none noPart := ⟨PO.weak po_none fun σ H Q ⟨ρ, l, h, L, q, s⟩ => s.ok q⟩
theorem px_some (ha : EX W X a A) : PX W X (some a) (aPart A) := ⟨PO.weak (po_some ha.pe) fun σ H Q ⟨ρ, l, h, L, q, s⟩ => tE.go L q s fun a h1 ρ1 H1 x e1 L1 q1 rx s1 => by
  cases a with
  | int i => cases rx; exact ⟨i, rfl, s1.ok q1⟩
  | _ => exact False.elim s1⟩
theorem cutV_rel {K : FW} {ρ : List Addr} {H : Hp} {xs : List Va} {us : List V} (lo hi : Option Int) (r : RVs K ρ H xs us) : RVs K ρ H (cutL xs lo hi) (cutV us lo hi) := by
  unfold cutL cutV
  rw [← r.length]
  exact (r.drop _).take _
theorem ex_slice (ha : EX W X a A) (hl : PX W X lo B) (hh : PX W X hi C) : EX W X (.Subscript a (.Slice lo hi none p2) pos) (slE A B C) := by
  refine ⟨PE.weak (pe_slice ((sl_list (X := X)).or (sl_tupN.or sl_str)) ha.pe hl.po hh.po) fun σ H Q ⟨ρ, l, h, L, q, s⟩ => ?_⟩
  refine tE.go L q s fun a h1 ρ1 H1 x e1 L1 q1 rx s1 => tP.go L1 q1 s1 fun lo h2 ρ2 H2 e2 L2' q2 s2 => tP.go L2' q2 s2 fun hi h3 ρ3 H3 e3 L3 q3 s3 => ?_
  have rx := RV.ext (e2.trans e3) a rx
  cases a with
  | tup xs =>
    obtain ⟨p, us, rfl, g1, g2⟩ := rx
    have s' : sat X.fw W ρ3 H3 (.ok (.tup (cutL xs lo hi)) h3) (rv X.fw Q) := s3
    refine .inr (.inl ⟨p, us, rfl, g1.1, fun hw => ?_, fun _ => s'.newTup q3 (cutV_rel lo hi g2)⟩)
    refine s'.val q3 ⟨p, us, rfl, g1, ?_⟩
    have e := cutV_rel lo hi g2
    unfold cutV at e
    rw [hw.1, hw.2, List.drop_zero, Nat.sub_zero, List.take_length] at e
    exact e
  | ref j =>
    cases g : h3.get j with
    | none => simp only [vSl, g] at s3; exact False.elim s3
    | some o =>
      cases o with
      | lst xs =>
        simp only [vSl, g] at s3
        obtain ⟨p, us, rfl, _, g1, g2⟩ := q3.lst rx g
        exact .inl ⟨p, us, rfl, SqL.of g1, s3.newLst q3 (cutV_rel lo hi g2)⟩
      | _ => simp only [vSl, g] at s3; exact False.elim s3
  | str z =>
    cases rx
    have s' : sat X.fw W ρ3 H3 (if z.length ≤ sLine then .ok (.str (cutL z lo hi)) h3 else .no) (rv X.fw Q) := s3
    by_cases hz : z.length ≤ sLine
    · rw [if_pos hz] at s'
      refine .inr (.inr ⟨_, rfl, ?_, s'.val q3 ?_⟩)
      · rw [← sLine_eq]; show z.toArray.size ≤ _; simpa using hz
      · show V.str (cutS _ lo hi) = V.str _
        unfold cutS cutL
        have : (⟨z.toArray⟩ : Str).length = z.length := by show z.toArray.size = _; simp
        rw [this]
    · rw [if_neg hz] at s'; exact False.elim s'
  | _ => exact False.elim s3

/-! ### [::-1] -/
def tRevS (te : TE) : TE := fun σ H Q => te σ H fun x H1 => ∃ z, x = .str z ∧ z.length ≤ sizeLine ∧ Q (.str ⟨z.cps.toList.reverse.toArray⟩) H1
theorem sidx_rev (n : Nat) : Builtin.Str.strSliceIndices none none (-1) n = (List.range n).reverse := by
  have : Builtin.Str.strSliceIndices none none (-1) n = sliceRange ((n : Int) - 1) (-1) (-1) := by
    simp [Builtin.Str.strSliceIndices]
  rw [this, PySem.W.krv_sliceRange, PySem.W.krv_range]
theorem pe_revS {e : Expr} {te : TE} {k : Nat} {p1 p2 p3 pos : Pos} (he : PE X e te) : PE X (.Subscript e (.Slice none none (some (.UnaryOp .USub (.Constant (.int 1) k p1) p2)) p3) pos) (tRevS te) := by
  refine ⟨fun pins s σ H Q I h => ?_⟩
  refine Subscript_ (thn (he.run pins s σ H _ I h) fun v s1 ⟨x, H1, I1, r1, q1⟩ => ?_)
  obtain ⟨z, ex, hz, q⟩ := q1
  subst ex
  obtain ⟨t, rfl⟩ := r1
  have hst : PO X (some (.UnaryOp .USub (.Constant (.int 1) k p1) p2)) (tPart (tUn (rU fun i => .int (-i)) (tC (.int 1)))) := po_some (pe_un un_neg pe_int)
  refine wpAny_Slice (thn (po_none.run pins s1 σ H1 (fun o H2 => o = none ∧ H2 = H1) I1 ⟨rfl, rfl⟩) fun vl s2 ⟨l, H2, I2, pl, el, e2⟩ => ?_)
  subst el e2
  refine thn (po_none.run pins s2 σ H2 (fun o H3 => o = none ∧ H3 = H2) I2 ⟨rfl, rfl⟩) fun vu s3 ⟨u, H3, I3, pu, eu, e3⟩ => ?_
  subst eu e3
  refine thn (hst.run pins s3 σ H3 (fun o H4 => o = some (-1) ∧ H4 = H3) I3 ⟨1, rfl, -1, rfl, rfl, rfl⟩) fun vs s4 ⟨o, H4, I4, ps, eo, e4⟩ => ?_
  subst eo e4
  have I5 : Inv X pins σ H4 { s4 with heap := s4.heap.push { cls := .type "slice", data := .fields #[vl, vu, vs] } } := I4.kept (t' := s4.toks) fun b ob q => Heap.get?_push_of_some _ q
  show wpAny (model X.prog X.w) X.A (subscriptTail e (.Slice none none (some (.UnaryOp .USub (.Constant (.int 1) k p1) p2)) p3) (.str z t) (.ref s4.heap.objs.size)) (EP X pins σ Q) X.xe { s4 with heap := s4.heap.push { cls := .type "slice", data := .fields #[vl, vu, vs] } }
  refine tail_any (ops := [.ref s4.heap.objs.size, .str z t]) (typeIs_str _ z t) F.slot_str_getitem.lookup ?_ (by with_unfolding_all rfl)
  obtain ⟨l', rfl, e1⟩ := IsPart.raw pl
  obtain ⟨u', rfl, e2⟩ := IsPart.raw pu
  obtain ⟨st', rfl, e3⟩ := IsPart.raw ps
  have l0 : l' = none := by cases l' with | none => rfl | some _ => cases e1
  have u0 : u' = none := by cases u' with | none => rfl | some _ => cases e2
  subst l0 u0
  obtain ⟨i, ti, rfl⟩ : ∃ i ti, st' = some (i, ti) := by
    cases st' with
    | none => cases e3
    | some pr => exact ⟨pr.1, pr.2, rfl⟩
  have ei : i = -1 := by simpa using e3
  subst ei
  refine wpAny_getItem_str_slice (l := none) (u := none) (st := some (-1, ti)) ⟨_, Heap.get?_push_size _ rfl, rfl, rfl⟩ rfl ?_
  have e4 : sliceMade z t none none (some (-1, ti)) = .str ⟨z.cps.toList.reverse.toArray⟩ := by
    unfold sliceMade slicePicked
    simp only [Option.map_none, Option.map_some, Option.getD_some]
    rw [sidx_rev, if_neg (by simp)]
    congr 2
    rw [List.filterMap_reverse]
    have := PySem.W.krv_all z.cps
    rw [show z.length = z.cps.size from rfl, this]
  rw [e4]
  refine ⟨?_, .str _, H4, I5.tok _, ⟨_, rfl⟩, q⟩
  show (z.cps.toList.reverse.toArray).size ≤ sizeLine
  have : z.cps.size ≤ sizeLine := hz
  simpa using this
def vRev (a : Va) : M Va := fun h => match a with
  | .ref p => match h.get p with
    | some (.lst xs) => .ok (.ref h.n) (h.push (.lst xs.reverse))
    | _ => .no
  | .str s => if s.length ≤ sLine then .ok (.str s.reverse) h else .no
  | _ => .no
theorem pe_either {e : Expr} {t t' : TE} (h1 : PE X e t) (h2 : PE X e t') : PE X e (fun σ H Q => t σ H Q ∨ t' σ H Q) := ⟨fun pins s σ H Q I q => q.elim (h1.run pins s σ H Q I) (h2.run pins s σ H Q I)⟩
theorem ex_rev {k : Nat} {p1 p3 : Pos} (ha : EX W X a A) : EX W X (.Subscript a (.Slice none none (some (.UnaryOp .USub (.Constant (.int 1) k p1) p2)) p3) pos) (op1 vRev A) := by
  refine ⟨PE.weak (pe_either (pe_revL ha.pe) (pe_revS ha.pe)) fun σ H Q ⟨ρ, l, h, L, q, s⟩ => ?_⟩
  cases e : A l h with
  | no => simp only [op1, e, Rs.bind] at s; exact False.elim s
  | err c v h' =>
    simp only [op1, e, Rs.bind] at s
    exact .inl ⟨ρ, l, h, L, q, by rw [e]; exact s⟩
  | ok a h' =>
    simp only [op1, e, Rs.bind] at s
    cases a with
    | ref j =>
      refine .inl (tE.at L q e fun ρ1 H1 u x L1 q1 ru => ?_)
      have s := s.shift x
      cases g : h'.get j with
      | none => simp only [vRev, g] at s; exact False.elim s
      | some o =>
        cases o with
        | lst xs =>
          simp only [vRev, g] at s
          obtain ⟨p, us, rfl, _, g1, g2⟩ := q1.lst ru g
          exact ⟨p, us, rfl, SqL.of g1, s.newLst q1 g2.reverse⟩
        | _ => simp only [vRev, g] at s; exact False.elim s
    | str z =>
      refine .inr (tE.at L q e fun ρ1 H1 u x L1 q1 ru => ?_)
      have s' : sat X.fw W ρ H (if z.length ≤ sLine then .ok (.str z.reverse) h' else .no) (rv X.fw Q) := s
      have s := s'.shift x
      cases ru
      by_cases hz : z.length ≤ sLine
      · rw [if_pos hz] at s
        refine ⟨_, rfl, ?_, s.val q1 rfl⟩
        rw [← sLine_eq]; show z.toArray.size ≤ _; simpa using hz
      · rw [if_neg hz] at s; exact False.elim s
    | _ => exact False.elim s
end
end Rf

/-! Rf: displays, calls of built-ins, methods. -/
namespace Rf
open PySem PySem.Spec PyProof.Rows L2

/-! ### argument lists, displays -/
def aNil : Ax := fun _ h => .ok [] h
def aCons (A : Ex) (B : Ax) : Ax := fun l h => (A l h).bind fun a h1 => (B l h1).bind fun xs h2 => .ok (a :: xs) h2
def tupE (A : Ax) : Ex := fun l h => (A l h).bind fun xs h1 => if xs.length ≤ sLine then .ok (.tup xs) h1 else .no
def lstE (A : Ax) : Ex := fun l h => (A l h).bind fun xs h1 => if xs.length ≤ sLine then .ok (.ref h1.n) (h1.push (.lst xs)) else .no
section
variable {W : XW} {X : Cx} {e : Expr} {es : List Expr} {A : Ex} {B : Ax} {pos : Pos}
theorem ax_nil : AX W X [] aNil := ⟨PA.weak pa_nil fun σ H Q ⟨ρ, l, h, L, q, s⟩ => s.ok q [] rfl⟩
theorem ax_cons (ha : EX W X e A) (hb : AX W X es B) (hs : starEach (e :: es) X.env = (false, eval e X.env) :: starEach es X.env := by rfl) : AX W X (e :: es) (aCons A B) :=
  ⟨PA.weak (pa_cons ha.pe hb.pa hs) fun σ H Q ⟨ρ, l, h, L, q, s⟩ => tE.go L q s fun a h1 ρ1 H1 x e1 L1 q1 rx s1 => tA.go L1 q1 s1 fun xs h2 ρ2 H2 us e2 L2 q2 rs s2 => s2.ok q2 (x :: us) ⟨x, us, rfl, RV.ext e2 a rx, rs⟩⟩
theorem ex_tup {x1} (ha : AX W X es B) : EX W X (.Tuple es x1 pos) (tupE B) :=
  ⟨PE.weak (pe_tupN ha.pa) fun σ H Q ⟨ρ, l, h, L, q, s⟩ => tA.go L q s fun xs h2 ρ2 H2 us e2 L2 q2 rs s2 => by
    by_cases hz : xs.length ≤ sLine
    · rw [if_pos hz] at s2
      exact ⟨by rw [← rs.length, ← sLine_eq]; exact hz, s2.newTup q2 rs⟩
    · rw [if_neg hz] at s2; exact False.elim s2⟩
theorem ex_lst (ha : AX W X es B) : EX W X (.List es pos) (lstE B) :=
  ⟨PE.weak (pe_lst ha.pa) fun σ H Q ⟨ρ, l, h, L, q, s⟩ => tA.go L q s fun xs h2 ρ2 H2 us e2 L2 q2 rs s2 => by
    by_cases hz : xs.length ≤ sLine
    · rw [if_pos hz] at s2
      exact ⟨by rw [← rs.length, ← sLine_eq]; exact hz, s2.newLst q2 rs⟩
    · rw [if_neg hz] at s2; exact False.elim s2⟩
end

/-! ### calls of built-ins by name -/
abbrev Fn := List Va → M Va
def callE (F : Fn) (A : Ax) : Ex := fun l h => (A l h).bind fun xs h1 => F xs h1
def SC (K : FW) (W : XW) (F : Fn) (r : List V → Hp → VK → Prop) : Prop := ∀ ρ h H xs us Q, HR K ρ h H → RVs K ρ H xs us → sat K W ρ H (F xs h) (rv K Q) → r us H Q
/-- of one value -/
def fn1 (F : Va → M Va) : Fn := fun xs h => match xs with
  | [a] => F a h
  | _ => .no
section
variable {W : XW} {X : Cx} {e : Expr} {es : List Expr} {A : Ax} {pos p : Pos} {x : Str} {id T : String} {F : Fn} {r : List V → Hp → VK → Prop}
theorem tA.call {K : FW} (hs : SC K W F r) : ∀ σ H Q, tE K W (callE F A) σ H Q → tCB r (tA K W A) σ H Q := fun σ H Q ⟨ρ, l, h, L, q, s⟩ =>
  tA.go L q s fun xs h1 ρ1 H1 us e1 L1 q1 rs s1 => hs ρ1 h1 H1 xs us Q q1 rs s1
theorem ex_callB (hc : CallR X (.builtin id) r) (hs : SC X.fw W F r) (hg : Gl X x) (hm : X.mg x = none) (hv : bootBuiltins x = some (.builtin id)) (ha : AX W X (e :: es) A) (hn : x ≠ "__name__" := by decide) (hdb : (x == ("__debug__" : Str)) = false := by decide)
    (he : starEach (e :: es) X.env = (false, eval e X.env) :: starEach es X.env := by rfl) (hpl : (backTo pos (starEach es X.env)).any (·.1) = false := by rfl) : EX W X (.Call (.Name x p) (e :: es) [] pos) (callE F A) :=
  ⟨PE.weak (pe_callB hc hg hm hv ha.pa hn hdb he hpl) (tA.call hs)⟩
theorem ex_callTy (hc : CallR X (.type T) r) (hs : SC X.fw W F r) (hg : Gl X x) (hm : X.mg x = none) (hv : bootBuiltins x = some (.type T)) (ha : AX W X (e :: es) A) (hn : x ≠ "__name__" := by decide) (hdb : (x == ("__debug__" : Str)) = false := by decide)
    (he : starEach (e :: es) X.env = (false, eval e X.env) :: starEach es X.env := by rfl) (hpl : (backTo pos (starEach es X.env)).any (·.1) = false := by rfl) : EX W X (.Call (.Name x p) (e :: es) [] pos) (callE F A) :=
  ⟨PE.weak (pe_callTy hc hg hm hv ha.pa hn hdb he hpl) (tA.call hs)⟩
end
theorem RVs.nil_of {K : FW} {ρ : List Addr} {H : Hp} {us : List V} (r : RVs K ρ H [] us) : us = [] := r
/-- a sequence of values: a list, a tuple -/
def seqV (h : Hea) : Va → Option (List Va)
  | .tup xs => some xs
  | .pr xs => some xs
  | .fl xs => some xs
  | .sl xs => some xs
  | .ref i => match h.get i with
    | some (.lst xs) => some xs
    | _ => none
  | _ => none
/-- a list alone -/
def lstV (h : Hea) : Va → Option (List Va)
  | .fl xs => some xs
  | .ref i => match h.get i with
    | some (.lst xs) => some xs
    | _ => none
  | _ => none
section
variable {K : FW} {W : XW} {ρ : List Addr} {H : Hp} {h : Hea}
theorem seqV_ok {a : Va} {x : V} {xs : List Va} (q : HR K ρ h H) (rx : RV K ρ H a x) (e : seqV h a = some xs) : ∃ p us, x = .ref p ∧ (SqL K H p us ∨ SqT K H p us) ∧ RVs K ρ H xs us := by
  cases a with
  | tup ys => cases e; obtain ⟨p, us, rfl, h1, h2⟩ := rx; exact ⟨p, us, rfl, .inr h1.1, h2⟩
  | pr ys => cases e; obtain ⟨p, us, rfl, h1, h2⟩ := rx; exact ⟨p, us, rfl, .inr h1, h2⟩
  | fl ys => cases e; obtain ⟨p, us, rfl, h1, h2⟩ := rx; exact ⟨p, us, rfl, .inl h1.sq, h2⟩
  | sl ys => cases e; obtain ⟨p, us, rfl, h1, h2⟩ := rx; exact ⟨p, us, rfl, .inl h1.sq, h2⟩
  | ref i =>
    have e' : (match h.get i with
      | some (.lst xs) => some xs
      | _ => none) = some xs := e
    split at e'
    · rename_i ys g
      cases e'
      obtain ⟨p, us, rfl, _, h1, h2⟩ := q.lst rx g
      exact ⟨p, us, rfl, .inl (SqL.of h1), h2⟩
    · cases e'
  | _ => cases e
theorem lstV_ok {a : Va} {x : V} {xs : List Va} (q : HR K ρ h H) (rx : RV K ρ H a x) (e : lstV h a = some xs) : ∃ p us, x = .ref p ∧ SqL K H p us ∧ RVs K ρ H xs us := by
  cases a with
  | fl ys => cases e; obtain ⟨p, us, rfl, h1, h2⟩ := rx; exact ⟨p, us, rfl, h1.sq, h2⟩
  | ref i =>
    have e' : (match h.get i with
      | some (.lst xs) => some xs
      | _ => none) = some xs := e
    split at e'
    · rename_i ys g
      cases e'
      obtain ⟨p, us, rfl, _, h1, h2⟩ := q.lst rx g
      exact ⟨p, us, rfl, SqL.of h1, h2⟩
    · cases e'
  | _ => cases e
theorem s_fn1 {F : Va → M Va} {r : V → Hp → VK → Prop} (hs : S1 K W F r) : SC K W (fn1 F) (fun us H Q => ∃ u, us = [u] ∧ r u H Q) := fun ρ h H xs us Q q rs s => by
  match xs, rs with
  | [a], ⟨u, t, e, r1, r2⟩ =>
    cases r2
    exact ⟨u, e, hs ρ h H a u Q q r1 s⟩
  | [], _ => exact False.elim s
  | _ :: _ :: _, _ => exact False.elim s
theorem callR_imp {X : Cx} {f : Value} {r r' : List V → Hp → VK → Prop} (h : CallR X f r) (i : ∀ us H Q, r' us H Q → r us H Q) : CallR X f r' := fun pins s σ H xs us Q I rv q => h pins s σ H xs us Q I rv (i xs H Q q)

/-! ### len -/
def vLen (a : Va) : M Va := fun h => match a with
  | .str s => if s.length ≤ sLine then .ok (.int s.length) h else .no
  | .ref i => match h.get i with
    | some (.lst xs) => .ok (.int xs.length) h
    | some (.dic kvs) => .ok (.int kvs.length) h
    | _ => .no
  | .tup xs => .ok (.int xs.length) h
  | .fl xs => .ok (.int xs.length) h
  | _ => .no
def rLen (K : FW) : V → Hp → VK → Prop := fun x H Q => (∃ n, LenV K x H n ∧ Q (.int n) H) ∨ ∃ d kvs, x = .ref d ∧ H d = some (.dK kvs) ∧ Q (.int kvs.length) H
end
section
variable {K : FW} {W : XW} {ρ : List Addr} {H : Hp} {h : Hea}
theorem s_len : S1 K W vLen (rLen K) := fun ρ h H a x Q q rx s => by
  cases a with
  | str z =>
    cases rx
    have s' : sat K W ρ H (if z.length ≤ sLine then .ok (.int z.length) h else .no) (rv K Q) := s
    by_cases hz : z.length ≤ sLine
    · rw [if_pos hz] at s'
      refine .inl ⟨z.length, ⟨?_, ?_⟩, s'.val q rfl⟩
      · rw [← sLine_eq]; show z.toArray.size ≤ _; simpa using hz
      · show z.length = z.toArray.size; simp
    · rw [if_neg hz] at s'; exact False.elim s'
  | tup xs =>
    obtain ⟨p, us, rfl, h1, h2⟩ := rx
    exact .inl ⟨xs.length, .inr ⟨us, h1.1, h2.length⟩, s.val q rfl⟩
  | fl xs =>
    obtain ⟨p, us, rfl, h1, h2⟩ := rx
    exact .inl ⟨xs.length, .inl ⟨us, h1.sq, h2.length⟩, s.val q rfl⟩
  | ref i =>
    have s' : sat K W ρ H (match h.get i with
      | some (.lst xs) => .ok (.int xs.length) h
      | some (.dic kvs) => .ok (.int kvs.length) h
      | _ => .no) (rv K Q) := s
    split at s'
    · rename_i xs g
      obtain ⟨p, us, rfl, _, h1, h2⟩ := q.lst rx g
      exact .inl ⟨xs.length, .inl ⟨us, SqL.of h1, h2.length⟩, s'.val q rfl⟩
    · rename_i xs g
      obtain ⟨p, rfl, _, us, h1, h2⟩ := q.at_ref rx g
      have := Paired.length h2
      exact .inr ⟨p, us, rfl, h1, s'.val q (by show V.int _ = V.int _; rw [this])⟩
    · exact False.elim s'
  | _ => exact False.elim s
theorem call_lenA {X : Cx} : CallR X (.builtin "len") (fun us H Q => ∃ u, us = [u] ∧ rLen X.fw u H Q) := callR_imp (call_len.or call_lenD) fun us H Q q => by
  obtain ⟨u, rfl, q⟩ := q
  rcases q with ⟨n, e, q⟩ | ⟨d, kvs, rfl, e, q⟩
  · exact .inl ⟨u, n, rfl, e, q⟩
  · exact .inr ⟨d, kvs, rfl, e, q⟩

/-! ### int, list, tuple -/
def vInt (a : Va) : M Va := fun h => match a with
  | .int i => .ok (.int i) h
  | .bl b => .ok (.int (if b then 1 else 0)) h
  | _ => .no
theorem s_int : SC K W (fn1 vInt) (fun xs H Q => (∃ i, xs = [.int i] ∧ Q (.int i) H) ∨ ∃ k, xs = [.bl k] ∧ Q (.int (if k then 1 else 0)) H) := fun ρ h H xs us Q q rs s => by
  match xs, rs with
  | [a], ⟨u, t, e, r1, r2⟩ =>
    cases r2
    subst e
    cases a with
    | int i => cases r1; exact .inl ⟨i, rfl, s.val q rfl⟩
    | bl i => cases r1; exact .inr ⟨i, rfl, s.val q rfl⟩
    | _ => exact False.elim s
  | [], _ => exact False.elim s
  | _ :: _ :: _, _ => exact False.elim s
def vList (a : Va) : M Va := fun h => match a with
  | .str s => if s.length ≤ sLine then .ok (.ref h.n) (h.push (.lst (s.map fun c => .str [c]))) else .no
  | a => match seqV h a with
    | some xs => .ok (.ref h.n) (h.push (.lst xs))
    | none => .no
theorem call_list_strV {X : Cx} (hc : X.calm = true) : CallR X (.type "list") (fun xs H Q => ∃ z : List Nat, xs = [.str ⟨z.toArray⟩] ∧ z.length ≤ sLine ∧ ∀ p, H p = none → Q (.ref p) (upd H p (.lst (z.map fun c => V.str ⟨#[c]⟩)))) := by
  intro pins s σ H xs us Q I r h
  obtain ⟨z, rfl, hz, q⟩ := h
  obtain ⟨u, rfl, t, rfl⟩ := vals1 r
  have hz2 : (⟨z.toArray⟩ : Str).cps.size ≤ sizeLine := by rw [← sLine_eq]; simpa using hz
  refine call_list_str (I.ok.hd hc) _ t (hn := hz2) fun h' tk acc' c' hk hS hacc => ?_
  have hn : H s.heap.objs.size = none := I.hok.fresh (Nat.le_refl _)
  have rel : Vals (z.map fun c => V.str ⟨#[c]⟩) acc'.toList := by
    have key : ∀ (n : Nat) (zs : List Nat) (vs : List Value), zs.length = vs.length → (∀ (j : Nat) (v : Value), vs[j]? = some v → ∃ (c : Nat) (u : Tok), zs[j]? = some c ∧ v = Value.str ⟨#[c]⟩ u) → Vals (zs.map fun c => V.str ⟨#[c]⟩) vs := by
      intro n zs
      induction zs with
      | nil => intro vs hl _; cases vs with
        | nil => exact .nil
        | cons _ _ => simp at hl
      | cons c r ih =>
        intro vs hl hv
        cases vs with
        | nil => simp at hl
        | cons v vs =>
          obtain ⟨c', u, h1, h2⟩ := hv 0 v rfl
          simp at h1
          subst h1
          refine .cons ⟨u, h2⟩ (ih vs (by simpa using hl) fun j w hw => ?_)
          obtain ⟨c2, u2, h3, h4⟩ := hv (j + 1) w (by simpa using hw)
          exact ⟨c2, u2, by simpa using h3, h4⟩
    have hl : z.length = acc'.toList.length := by
      have := hacc.1
      simp at this ⊢
      omega
    refine key 0 z acc'.toList hl fun j v hv => ?_
    obtain ⟨c, u, h1, h2⟩ := hacc.2 j v (by simpa using hv)
    exact ⟨c, u, by simpa using h1, h2⟩
  have new : ObjOk X.prog X.w (upd H s.heap.objs.size (.lst (z.map fun c => V.str ⟨#[c]⟩))) h' s.heap.objs.size (.lst (z.map fun c => V.str ⟨#[c]⟩)) :=
    ⟨by simpa using hz2, acc'.toList, c', rel, by simpa using hS⟩
  exact ⟨.ref s.heap.objs.size, _, I.laid (t' := tk) hk (Nat.le_refl _) new, rfl, q _ hn⟩
theorem RVs.signs : ∀ z : List Nat, RVs K ρ H (z.map fun c => Va.str [c]) (z.map fun c => V.str ⟨#[c]⟩)
  | [] => rfl
  | c :: z => ⟨_, _, rfl, rfl, RVs.signs z⟩
theorem s_list : SC K W (fn1 vList) (fun xs H Q => (∃ p ys, xs = [.ref p] ∧ (SqL K H p ys ∨ SqT K H p ys) ∧ ∀ l, H l = none → Q (.ref l) (upd H l (.lst ys))) ∨
    ∃ z : List Nat, xs = [.str ⟨z.toArray⟩] ∧ z.length ≤ sLine ∧ ∀ p, H p = none → Q (.ref p) (upd H p (.lst (z.map fun c => V.str ⟨#[c]⟩)))) := fun ρ h H xs us Q q rs s => by
  match xs, rs with
  | [a], ⟨u, t, e, r1, r2⟩ =>
    cases r2
    subst e
    have go : ∀ zs, seqV h a = some zs → sat K W ρ H (.ok (.ref h.n) (h.push (.lst zs))) (rv K Q) → ∃ p ys, [u] = [V.ref p] ∧ (SqL K H p ys ∨ SqT K H p ys) ∧ ∀ l, H l = none → Q (.ref l) (upd H l (.lst ys)) := fun zs e s => by
      obtain ⟨p, ws, rfl, h1, h2⟩ := seqV_ok q r1 e
      exact ⟨p, ws, rfl, h1, s.newLst q h2⟩
    cases a with
    | str z =>
      cases r1
      have s' : sat K W ρ H (if z.length ≤ sLine then .ok (.ref h.n) (h.push (.lst (z.map fun c => .str [c]))) else .no) (rv K Q) := s
      by_cases hz : z.length ≤ sLine
      · rw [if_pos hz] at s'
        exact .inr ⟨z, rfl, hz, s'.newLst q (RVs.signs z)⟩
      · rw [if_neg hz] at s'; exact False.elim s'
    | non => exact False.elim s
    | bl b => exact False.elim s
    | int b => exact False.elim s
    | tup ys => exact .inl (go ys rfl s)
    | fl ys => exact .inl (go ys rfl s)
    | pr ys => exact .inl (go ys rfl s)
    | fd ks vs => exact False.elim s
    | sl ys => exact .inl (go ys rfl s)
    | ref i =>
      have s' : sat K W ρ H (match seqV h (.ref i) with
        | some xs => .ok (.ref h.n) (h.push (.lst xs))
        | none => .no) (rv K Q) := s
      cases e : seqV h (.ref i) with
      | none => rw [e] at s'; exact False.elim s'
      | some zs => rw [e] at s'; exact .inl (go zs e s')
  | [], _ => exact False.elim s
  | _ :: _ :: _, _ => exact False.elim s
def vTuple (a : Va) : M Va := fun h => match a with
  | .tup xs => .ok (.tup xs) h
  | a => match lstV h a with
    | some xs => .ok (.tup xs) h
    | none => .no
theorem s_tuple : SC K W (fn1 vTuple) (rTupN K) := fun ρ h H xs us Q q rs s => by
  match xs, rs with
  | [a], ⟨u, t, e, r1, r2⟩ =>
    cases r2
    subst e
    have go : ∀ zs, lstV h a = some zs → sat K W ρ H (.ok (.tup zs) h) (rv K Q) → rTupN K [u] H Q := fun zs e s' => by
      obtain ⟨p, ws, rfl, h1, h2⟩ := lstV_ok q r1 e
      exact ⟨p, ws, rfl, .inl ⟨h1, s'.newTup q h2⟩⟩
    cases a with
    | tup zs =>
      obtain ⟨p, ws, rfl, h1, h2⟩ := r1
      exact ⟨p, ws, rfl, .inr ⟨h1.1, sat.val (show sat K W ρ H (.ok (.tup zs) h) (rv K Q) from s) q ⟨p, ws, rfl, h1, h2⟩⟩⟩
    | fl zs => exact go zs rfl s
    | ref i =>
      have s' : sat K W ρ H (match lstV h (.ref i) with
        | some xs => .ok (.tup xs) h
        | none => .no) (rv K Q) := s
      cases e : lstV h (.ref i) with
      | none => rw [e] at s'; exact False.elim s'
      | some zs => rw [e] at s'; exact go zs e s'
    | _ => exact False.elim s
  | [], _ => exact False.elim s
  | _ :: _ :: _, _ => exact False.elim s

/-! ### all, any, sum: of lists -/
def blsOf : List Va → Option (List Bool)
  | [] => some []
  | .bl b :: r => (blsOf r).map (b :: ·)
  | _ :: _ => none
def intsOf : List Va → Option (List Int)
  | [] => some []
  | .int b :: r => (intsOf r).map (b :: ·)
  | _ :: _ => none
theorem blsOf_ok : ∀ {xs : List Va} {us : List V} {bs : List Bool}, blsOf xs = some bs → RVs K ρ H xs us → us = bs.map V.bl
  | [], _, _, e, r => by cases e; cases r; rfl
  | .bl b :: xs, _, bs, e, ⟨u, t, e1, r1, r2⟩ => by
    unfold blsOf at e
    cases q : blsOf xs with
    | none => rw [q] at e; cases e
    | some cs =>
      rw [q] at e
      cases e
      cases r1
      rw [e1, blsOf_ok q r2]
      rfl
  | .non :: _, _, _, e, _ => by cases e
  | .int _ :: _, _, _, e, _ => by cases e
  | .str _ :: _, _, _, e, _ => by cases e
  | .tup _ :: _, _, _, e, _ => by cases e
  | .ref _ :: _, _, _, e, _ => by cases e
  | .fl _ :: _, _, _, e, _ => by cases e
theorem intsOf_ok : ∀ {xs : List Va} {us : List V} {bs : List Int}, intsOf xs = some bs → RVs K ρ H xs us → us = bs.map V.int
  | [], _, _, e, r => by cases e; cases r; rfl
  | .int b :: xs, _, bs, e, ⟨u, t, e1, r1, r2⟩ => by
    unfold intsOf at e
    cases q : intsOf xs with
    | none => rw [q] at e; cases e
    | some cs =>
      rw [q] at e
      cases e
      cases r1
      rw [e1, intsOf_ok q r2]
      rfl
  | .non :: _, _, _, e, _ => by cases e
  | .bl _ :: _, _, _, e, _ => by cases e
  | .str _ :: _, _, _, e, _ => by cases e
  | .tup _ :: _, _, _, e, _ => by cases e
  | .ref _ :: _, _, _, e, _ => by cases e
  | .fl _ :: _, _, _, e, _ => by cases e
def onBls (f : List Bool → Va) (a : Va) : M Va := fun h => match lstV h a with
  | some xs => match blsOf xs with
    | some bs => .ok (f bs) h
    | none => .no
  | none => .no
def onInts (f : List Int → Va) (a : Va) : M Va := fun h => match lstV h a with
  | some xs => match intsOf xs with
    | some bs => .ok (f bs) h
    | none => .no
  | none => .no
theorem s_bls {f : List Bool → Va} {g : List Bool → V} (e : ∀ bs ρ H, RV K ρ H (f bs) (g bs)) : S1 K W (onBls f) (fun x H Q => ∃ (a : Addr) (bs : List Bool), x = V.ref a ∧ SqL K H a (bs.map V.bl) ∧ Q (g bs) H) := fun ρ h H a x Q q rx s => by
  unfold onBls at s
  cases e1 : lstV h a with
  | none => rw [e1] at s; exact False.elim s
  | some xs =>
    rw [e1] at s
    cases e2 : blsOf xs with
    | none => simp only [e2] at s; exact False.elim s
    | some bs =>
      simp only [e2] at s
      obtain ⟨p, us, rfl, h1, h2⟩ := lstV_ok q rx e1
      rw [blsOf_ok e2 h2] at h1
      exact ⟨p, bs, rfl, h1, s.val q (e bs ρ H)⟩
theorem s_ints {f : List Int → Va} {g : List Int → V} (e : ∀ bs ρ H, RV K ρ H (f bs) (g bs)) : S1 K W (onInts f) (fun x H Q => ∃ (a : Addr) (bs : List Int), x = V.ref a ∧ SqL K H a (bs.map V.int) ∧ Q (g bs) H) := fun ρ h H a x Q q rx s => by
  unfold onInts at s
  cases e1 : lstV h a with
  | none => rw [e1] at s; exact False.elim s
  | some xs =>
    rw [e1] at s
    cases e2 : intsOf xs with
    | none => simp only [e2] at s; exact False.elim s
    | some bs =>
      simp only [e2] at s
      obtain ⟨p, us, rfl, h1, h2⟩ := lstV_ok q rx e1
      rw [intsOf_ok e2 h2] at h1
      exact ⟨p, bs, rfl, h1, s.val q (e bs ρ H)⟩
end
def vAll : Va → M Va := onBls fun bs => .bl (bs.all id)
def vAny : Va → M Va := onBls fun bs => .bl (bs.any id)
def vSum : Va → M Va := onInts fun bs => .int bs.sum
section
variable {W : XW} {X : Cx} {e : Expr} {A : Ex} {pos p : Pos}
theorem ex_len (hg : Gl X "len") (hm : X.mg "len" = none) (ha : EX W X e A) (hs : starEach [e] X.env = (false, eval e X.env) :: starEach [] X.env := by rfl) : EX W X (.Call (.Name "len" p) [e] [] pos) (callE (fn1 vLen) (aCons A aNil)) :=
  ex_callB call_lenA (s_fn1 s_len) hg hm PySem.boot_len (ax_cons ha ax_nil hs) (by decide) (by decide) hs
theorem ex_int1 (hg : Gl X "int") (hm : X.mg "int" = none) (ha : EX W X e A) (hs : starEach [e] X.env = (false, eval e X.env) :: starEach [] X.env := by rfl) : EX W X (.Call (.Name "int" p) [e] [] pos) (callE (fn1 vInt) (aCons A aNil)) :=
  ex_callTy call_int1 s_int hg hm (by decide +kernel) (ax_cons ha ax_nil hs) (by decide) (by decide) hs
theorem ex_list1 (hc : X.calm = true) (hg : Gl X "list") (hm : X.mg "list" = none) (ha : EX W X e A) (hs : starEach [e] X.env = (false, eval e X.env) :: starEach [] X.env := by rfl) : EX W X (.Call (.Name "list" p) [e] [] pos) (callE (fn1 vList) (aCons A aNil)) :=
  ex_callTy (call_list_of.or (call_list_strV hc)) s_list hg hm (by decide +kernel) (ax_cons ha ax_nil hs) (by decide) (by decide) hs
theorem ex_tuple1 (hg : Gl X "tuple") (hm : X.mg "tuple" = none) (ha : EX W X e A) (hs : starEach [e] X.env = (false, eval e X.env) :: starEach [] X.env := by rfl) : EX W X (.Call (.Name "tuple" p) [e] [] pos) (callE (fn1 vTuple) (aCons A aNil)) :=
  ex_callTy call_tupN s_tuple hg hm (by decide +kernel) (ax_cons ha ax_nil hs) (by decide) (by decide) hs
theorem ex_all (hc : X.calm = true) (hg : Gl X "all") (hm : X.mg "all" = none) (ha : EX W X e A) (hs : starEach [e] X.env = (false, eval e X.env) :: starEach [] X.env := by rfl) : EX W X (.Call (.Name "all" p) [e] [] pos) (callE (fn1 vAll) (aCons A aNil)) :=
  ex_callB (callR_imp (cr_all hc) (r' := fun us H Q => ∃ u, us = [u] ∧ ∃ (a : Addr) (bs : List Bool), u = V.ref a ∧ SqL X.fw H a (bs.map V.bl) ∧ Q (.bl (bs.all id)) H) fun us H Q q => by obtain ⟨u, rfl, a, bs, rfl, q⟩ := q; exact ⟨a, bs, rfl, q⟩) (s_fn1 (s_bls fun _ _ _ => rfl)) hg hm (by decide +kernel) (ax_cons ha ax_nil hs) (by decide) (by decide) hs
theorem ex_any (hc : X.calm = true) (hg : Gl X "any") (hm : X.mg "any" = none) (ha : EX W X e A) (hs : starEach [e] X.env = (false, eval e X.env) :: starEach [] X.env := by rfl) : EX W X (.Call (.Name "any" p) [e] [] pos) (callE (fn1 vAny) (aCons A aNil)) :=
  ex_callB (callR_imp (cr_any hc) (r' := fun us H Q => ∃ u, us = [u] ∧ ∃ (a : Addr) (bs : List Bool), u = V.ref a ∧ SqL X.fw H a (bs.map V.bl) ∧ Q (.bl (bs.any id)) H) fun us H Q q => by obtain ⟨u, rfl, a, bs, rfl, q⟩ := q; exact ⟨a, bs, rfl, q⟩) (s_fn1 (s_bls fun _ _ _ => rfl)) hg hm (by decide +kernel) (ax_cons ha ax_nil hs) (by decide) (by decide) hs
theorem ex_sum (hc : X.calm = true) (hg : Gl X "sum") (hm : X.mg "sum" = none) (ha : EX W X e A) (hs : starEach [e] X.env = (false, eval e X.env) :: starEach [] X.env := by rfl) : EX W X (.Call (.Name "sum" p) [e] [] pos) (callE (fn1 vSum) (aCons A aNil)) :=
  ex_callB (callR_imp (cr_sum hc) (r' := fun us H Q => ∃ u, us = [u] ∧ ∃ (a : Addr) (bs : List Int), u = V.ref a ∧ SqL X.fw H a (bs.map V.int) ∧ Q (.int bs.sum) H) fun us H Q q => by obtain ⟨u, rfl, a, bs, rfl, q⟩ := q; exact ⟨a, bs, rfl, q⟩) (s_fn1 (s_ints fun _ _ _ => rfl)) hg hm (by decide +kernel) (ax_cons ha ax_nil hs) (by decide) (by decide) hs
end

/-! ### isinstance of built-in types -/
inductive Ty where
  | non | bool | int | str | tuple | list | dict
  deriving DecidableEq
def Ty.name : Ty → String
  | .non => "NoneType"
  | .bool => "bool"
  | .int => "int"
  | .str => "str"
  | .tuple => "tuple"
  | .list => "list"
  | .dict => "dict"
def vTy (h : Hea) : Va → Option Ty
  | .non => some .non
  | .bl _ => some .bool
  | .int _ => some .int
  | .str _ => some .str
  | .tup _ => some .tuple
  | .fl _ => some .list
  | .pr _ => none
  | .fd _ _ => none
  | .sl _ => none
  | .ref i => match h.get i with
    | some (.lst _) => some .list
    | some (.dic _) => some .dict
    | _ => none
def isInst : Ty → Ty → Bool
  | .int, .int => true
  | .int, .bool => true
  | .bool, .bool => true
  | .str, .str => true
  | .tuple, .tuple => true
  | .list, .list => true
  | .dict, .dict => true
  | .non, .non => true
  | _, _ => false
theorem kit_inst (c t : Ty) : kitB t.name c.name = some (isInst c t) := by
  cases c <;> cases t <;> decide +kernel
section
variable {K : FW} {W : XW} {ρ : List Addr} {H : Hp} {h : Hea}
theorem vTy_ok {a : Va} {x : V} {t : Ty} (q : HR K ρ h H) (rx : RV K ρ H a x) (e : vTy h a = some t) : TyX K H x (.type t.name) := by
  cases a with
  | non => cases rx; cases e; exact .base .non
  | bl b => cases rx; cases e; exact .base (.bl b)
  | int b => cases rx; cases e; exact .base (.int b)
  | str b => cases rx; cases e; exact .base (.str _)
  | tup xs =>
    obtain ⟨p, us, rfl, h1, h2⟩ := rx
    cases e
    rcases h1.1 with (h1 | ⟨o, h1⟩) | ⟨o, its, n, h1, h2, _⟩
    · exact .base (.tup h1)
    · exact .fTuple h1
    · exact .kTuple h1 h2
  | pr xs => cases e
  | fd ks vs => cases e
  | sl xs => cases e
  | fl xs =>
    obtain ⟨p, us, rfl, h1, h2⟩ := rx
    cases e
    obtain ⟨o, h1⟩ := h1
    exact .base (.frz h1)
  | ref i =>
    have e' : (match h.get i with
      | some (.lst _) => some Ty.list
      | some (.dic _) => some Ty.dict
      | _ => none) = some t := e
    split at e'
    · rename_i xs g
      cases e'
      obtain ⟨p, us, rfl, _, h1, h2⟩ := q.lst rx g
      exact .base (.lst h1)
    · rename_i xs g
      cases e'
      obtain ⟨p, rfl, _, us, h1, h2⟩ := q.at_ref rx g
      exact .base (.dK h1)
    · cases e'
end
def instE (cs : List Ty) (A : Ex) : Ex := fun l h => (A l h).bind fun a h1 => match vTy h1 a with
  | some t => .ok (.bl (cs.any fun c => isInst c t)) h1
  | none => .no
section
variable {W : XW} {X : Cx} {e : Expr} {A : Ex} {pos p p2 p3 p4 : Pos} {n m : Str}
theorem ex_inst (c : Ty) (hg : Gl X "isinstance") (hm : X.mg "isinstance" = none) (ha : EX W X e A) (hg2 : Gl X n) (hm2 : X.mg n = none) (hv2 : bootBuiltins n = some (.type c.name)) (hn : n ≠ "__name__" := by decide) (hdb : (n == ("__debug__" : Str)) = false := by decide)
    (hs : starEach [e, .Name n p2] X.env = (false, eval e X.env) :: starEach [.Name n p2] X.env := by rfl) : EX W X (.Call (.Name "isinstance" p) [e, .Name n p2] [] pos) (instE [c] A) := by
  refine ⟨PE.weak (pe_callB call_isi hg hm (by decide +kernel) (pa_cons ha.pe (pa_cons (pe_bltn (v := .ty c.name) hg2 hm2 hv2 rfl hn hdb) pa_nil) hs) (by decide) (by decide) hs) fun σ H Q ⟨ρ, l, h, L, q, s⟩ => ?_⟩
  refine tE.go L q s fun a h1 ρ1 H1 x e1 L1 q1 rx s1 => ?_
  cases e : vTy h1 a with
  | none => simp only [e] at s1; exact False.elim s1
  | some t =>
    simp only [e] at s1
    exact ⟨x, .ty c.name, .type t.name, .type c.name, isInst c t, rfl, .ty _, vTy_ok q1 rx e, kit_ty (kit_inst c t), by have := s1.val q1 (u := .bl ([c].any fun c => isInst c t)) rfl; simpa using this⟩
theorem ex_inst2 (c d : Ty) {k : Nat} (hg : Gl X "isinstance") (hm : X.mg "isinstance" = none) (ha : EX W X e A) (hg2 : Gl X n) (hm2 : X.mg n = none) (hv2 : bootBuiltins n = some (.type c.name)) (hg3 : Gl X m) (hm3 : X.mg m = none) (hv3 : bootBuiltins m = some (.type d.name))
    (hn : n ≠ "__name__" := by decide) (hdb : (n == ("__debug__" : Str)) = false := by decide) (hn3 : m ≠ "__name__" := by decide) (hdb3 : (m == ("__debug__" : Str)) = false := by decide)
    (hs : starEach [e, .Tuple [.Name n p2, .Name m p3] k p4] X.env = (false, eval e X.env) :: starEach [.Tuple [.Name n p2, .Name m p3] k p4] X.env := by rfl) : EX W X (.Call (.Name "isinstance" p) [e, .Tuple [.Name n p2, .Name m p3] k p4] [] pos) (instE [c, d] A) := by
  refine ⟨PE.weak (pe_callB call_isiT hg hm (by decide +kernel) (pa_cons ha.pe (pa_cons (pe_tup (pa_cons (pe_bltn (v := .ty c.name) hg2 hm2 hv2 rfl hn hdb) (pa_cons (pe_bltn (v := .ty d.name) hg3 hm3 hv3 rfl hn3 hdb3) pa_nil))) pa_nil) hs) (by decide) (by decide) hs) fun σ H Q ⟨ρ, l, h, L, q, s⟩ => ?_⟩
  refine tE.go L q s fun a h1 ρ1 H1 x e1 L1 q1 rx s1 => ?_
  refine ⟨by show 2 ≤ sizeLine; decide, fun tp hn => ?_⟩
  have rx' : RV X.fw ρ1 (upd H1 tp (.tup [.ty c.name, .ty d.name])) a x := RV.ext (Ext.new hn) a rx
  have q2 := q1.new (o := .tup [.ty c.name, .ty d.name]) hn
  cases e : vTy h1 a with
  | none => simp only [e] at s1; exact False.elim s1
  | some t =>
    simp only [e] at s1
    refine ⟨x, tp, [.ty c.name, .ty d.name], .type t.name, [.type c.name, .type d.name], [c, d].any fun c => isInst c t, rfl, upd_same, .cons (.ty _) (.cons (.ty _) .nil), vTy_ok q2 rx' e, ?_, (s1.shift (Ext.new hn)).val q2 rfl⟩
    refine kitAny_cons (kit_ty (kit_inst c t)) (fun z => ?_) (fun z => by simp [z])
    refine kitAny_cons (kit_ty (kit_inst d t)) (fun z2 => ?_) (fun z2 => by simp [z2])
    rw [kitAny_nil]
    simp [z, z2]
end
end Rf

/-! Rf: methods, in, list * int. -/
namespace Rf
open PySem PySem.Spec PyProof.Rows L2

def methE (T : Ty) (F : Va → Fn) (A : Ex) (B : Ax) : Ex := fun l h => (A l h).bind fun a h1 => if vTy h1 a = some T then (B l h1).bind fun xs h2 => F a xs h2 else .no
def SM (K : FW) (W : XW) (F : Va → Fn) (r : V → List V → Hp → VK → Prop) : Prop := ∀ ρ h H a x xs us Q, HR K ρ h H → RV K ρ H a x → RVs K ρ H xs us → sat K W ρ H (F a xs h) (rv K Q) → r x us H Q
section
variable {K : FW} {W : XW} {ρ : List Addr} {H : Hp} {h : Hea}
theorem tyV_ok {a : Va} {x : V} {t : Ty} (q : HR K ρ h H) (rx : RV K ρ H a x) (e : vTy h a = some t) (ht : t = .str ∨ t = .list ∨ t = .dict) : tyV K t.name x H := by
  cases a with
  | str b => cases rx; cases e; exact rfl
  | fl xs =>
    obtain ⟨p, us, rfl, h1, h2⟩ := rx
    cases e
    exact .inl ⟨rfl, us, h1.sq⟩
  | ref i =>
    have e' : (match h.get i with
      | some (.lst _) => some Ty.list
      | some (.dic _) => some Ty.dict
      | _ => none) = some t := e
    split at e'
    · rename_i xs g
      cases e'
      obtain ⟨p, us, rfl, _, h1, h2⟩ := q.lst rx g
      exact .inl ⟨rfl, us, SqL.of h1⟩
    · rename_i xs g
      cases e'
      obtain ⟨p, rfl, _, us, h1, h2⟩ := q.at_ref rx g
      exact .inr (.inr (.inl ⟨rfl, .inl ⟨us, h1⟩⟩))
    · cases e'
  | _ => cases e <;> simp at ht
end
section
variable {W : XW} {X : Cx} {o e : Expr} {es : List Expr} {A : Ex} {B : Ax} {name : Str} {apos cpos : Pos} {id : String} {r : V → List V → Hp → VK → Prop} {F : Va → Fn}
theorem ex_bm0 (t : Ty) (ht : t = .str ∨ t = .list ∨ t = .dict) (pa : PlainAttrs t.name) (slot : Slot t.name name id) (hty : typeOf (.builtin id) = pure (.type "method_descriptor")) (hm : MtR X id r) (hs : SM X.fw W F r) (ho : EX W X o A)
    (hbase : attributeBase o name X.env (eval o X.env) = eval o X.env := by rfl) (hline : (apos.endLine == cpos.line) = true := by rfl) : EX W X (.Call (.Attribute o name apos) [] [] cpos) (methE t F A aNil) :=
  ⟨PE.weak (pe_bm0 pa slot hty hm ho.pe hbase hline) fun σ H Q ⟨ρ, l, h, L, q, s⟩ => tE.go L q s fun a h1 ρ1 H1 x e1 L1 q1 rx s1 => by
    by_cases e : vTy h1 a = some t
    · rw [if_pos e] at s1
      exact ⟨tyV_ok q1 rx e ht, hs ρ1 h1 H1 a x [] [] Q q1 rx rfl s1⟩
    · rw [if_neg e] at s1; exact False.elim s1⟩
theorem ex_bm (t : Ty) (ht : t = .str ∨ t = .list ∨ t = .dict) (pa : PlainAttrs t.name) (slot : Slot t.name name id) (hty : typeOf (.builtin id) = pure (.type "method_descriptor")) (hm : MtR X id r) (hs : SM X.fw W F r) (ho : EX W X o A) (ha : AX W X (e :: es) B)
    (hbase : attributeBase o name X.env (eval o X.env) = eval o X.env := by rfl)
    (hfew : ((backTo cpos (starEach (e :: es) X.env)).all (fun x => !x.1) && (backToKw cpos (keywordEach [] X.env)).all (fun x => x.1.isSome)
      && decide ((e :: es).length + ([] : List Keyword).length + (if ([] : List Keyword).isEmpty then 0 else 1) < 30)) = true := by rfl)
    (hline : (apos.endLine == cpos.line) = true := by rfl) (hs2 : starEach (e :: es) X.env = (false, eval e X.env) :: starEach es X.env := by rfl) (hplain : (backTo cpos (starEach es X.env)).any (·.1) = false := by rfl) :
    EX W X (.Call (.Attribute o name apos) (e :: es) [] cpos) (methE t F A B) :=
  ⟨PE.weak (pe_bm pa slot hty hm ho.pe ha.pa hbase hfew hline hs2 hplain) fun σ H Q ⟨ρ, l, h, L, q, s⟩ => tE.go L q s fun a h1 ρ1 H1 x e1 L1 q1 rx s1 => by
    by_cases e : vTy h1 a = some t
    · rw [if_pos e] at s1
      exact ⟨tyV_ok q1 rx e ht, tA.go L1 q1 s1 fun xs h2 ρ2 H2 us e2 L2 q2 rs s2 => hs ρ2 h2 H2 a x xs us Q q2 (RV.ext e2 a rx) rs s2⟩
    · rw [if_neg e] at s1; exact False.elim s1⟩
end

/-! ### texts: case -/
def sw1 (c : Nat) : Nat := if 97 ≤ c ∧ c ≤ 122 then c - 32 else if 65 ≤ c ∧ c ≤ 90 then c + 32 else c
def lowc (c : Nat) : Bool := decide (97 ≤ c) && decide (c ≤ 122)
def uppc (c : Nat) : Bool := decide (65 ≤ c) && decide (c ≤ 90)
theorem swap_ascii1 : ∀ c, c < 128 → (if Unicode.isUpper c then Unicode.lowerOf c else if Unicode.isLower c then Unicode.upperOf c else [c]) = [sw1 c] := by decide +kernel
theorem low_ascii1 : ∀ c, c < 128 → Unicode.isLower c = lowc c := by decide +kernel
theorem upp_ascii1 : ∀ c, c < 128 → Unicode.isUpper c = uppc c := by decide +kernel
theorem title_ascii1 : ∀ c, c < 128 → Unicode.isTitle c = false := by decide +kernel
def asc (s : List Nat) : Bool := s.all fun c => decide (c < 128)
theorem swap_S {a : List Nat} (h : asc a = true) : Txt.swapcase ⟨a.toArray⟩ = ⟨(a.map sw1).toArray⟩ := by
  unfold Txt.swapcase
  rw [placed_single _ _ sw1 fun i c hc => ?_]
  · simp
  · have hlt : c < 128 := of_decide_eq_true (List.all_eq_true.mp h c (by simpa using List.mem_of_getElem? hc))
    rw [← swap_ascii1 c hlt]
    by_cases hu : Unicode.isUpper c = true
    · rw [if_pos hu, if_pos hu]
      unfold Unicode.lowerAt
      have hc' : (a.toArray)[i]? = some c := by simpa using hc
      simp only [hc']
      have hne : (c == 0x3A3) = false := by rw [beq_eq_false_iff_ne]; omega
      simp only [hne, Bool.false_and, Bool.false_eq_true, if_false]
    · rw [if_neg hu, if_neg hu]
theorem any_congr {p q : Nat → Bool} : ∀ {a : List Nat}, (∀ c ∈ a, p c = q c) → a.any p = a.any q
  | [], _ => rfl
  | c :: r, h => by rw [List.any_cons, List.any_cons, h c List.mem_cons_self, any_congr fun d hd => h d (List.mem_cons_of_mem _ hd)]
theorem lowerS {a : List Nat} (h : asc a = true) : Txt.islower ⟨a.toArray⟩ = (a.any lowc && !a.any uppc) := by
  have al : ∀ c ∈ a, c < 128 := fun c hc => of_decide_eq_true (List.all_eq_true.mp h c hc)
  unfold Txt.islower
  simp only [List.any_toArray]
  rw [any_congr (p := Unicode.isLower) (q := lowc) fun c hc => low_ascii1 c (al c hc), any_congr (p := fun c => Unicode.isUpper c || Unicode.isTitle c) (q := uppc) fun c hc => by rw [upp_ascii1 c (al c hc), title_ascii1 c (al c hc), Bool.or_false]]
theorem upperS {a : List Nat} (h : asc a = true) : Txt.isupper ⟨a.toArray⟩ = (a.any uppc && !a.any lowc) := by
  have al : ∀ c ∈ a, c < 128 := fun c hc => of_decide_eq_true (List.all_eq_true.mp h c hc)
  unfold Txt.isupper
  simp only [List.any_toArray]
  rw [any_congr (p := Unicode.isUpper) (q := uppc) fun c hc => upp_ascii1 c (al c hc), any_congr (p := fun c => Unicode.isLower c || Unicode.isTitle c) (q := lowc) fun c hc => by rw [low_ascii1 c (al c hc), title_ascii1 c (al c hc), Bool.or_false]]
theorem mt_swapcase {X : Cx} : MtR X "str.swapcase" (fun x xs H Q => ∃ a, x = .str a ∧ xs = [] ∧ a.length ≤ 5592405 ∧ Q (.str (Txt.swapcase a)) H) :=
  mt0 (C := fun a => a.length ≤ 5592405) (g := fun a => .str (Txt.swapcase a)) fun a _ s _ hc h =>
    PySem.SC.swapcase (PyProof.Rows.short24 (by have h1 : a.length ≤ 5592405 := hc; have := PyProof.Rows.len_swapcase a; omega)) (h _ (s.toks + 1) ⟨_, rfl⟩)
/-- of a text of plain signs, without arguments -/
def ascF (f : List Nat → Va) (a : Va) : Fn := fun xs h => match a with
  | .str s => match xs with
    | [] => if asc s = true then (if s.length ≤ 5592405 then .ok (f s) h else .no) else .no
    | _ => .no
  | _ => .no
section
variable {K : FW} {W : XW}
theorem s_ascF {f : List Nat → Va} {C : Str → Prop} {g : Str → V} (hc : ∀ s : List Nat, s.length ≤ 5592405 → C ⟨s.toArray⟩) (e : ∀ (s : List Nat) (ρ : List Addr) (H : Hp), asc s = true → RV K ρ H (f s) (g ⟨s.toArray⟩)) :
    SM K W (ascF f) (fun x xs H Q => ∃ a, x = .str a ∧ xs = [] ∧ C a ∧ Q (g a) H) := fun ρ h H a x xs us Q q rx rs s => by
  cases a with
  | str z =>
    cases rx
    cases xs with
    | nil =>
      cases rs
      have s' : sat K W ρ H (if asc z = true then (if z.length ≤ 5592405 then .ok (f z) h else .no) else .no) (rv K Q) := s
      by_cases h1 : asc z = true
      · rw [if_pos h1] at s'
        by_cases h2 : z.length ≤ 5592405
        · rw [if_pos h2] at s'
          exact ⟨_, rfl, rfl, hc z h2, s'.val q (e z ρ H h1)⟩
        · rw [if_neg h2] at s'; exact False.elim s'
      · rw [if_neg h1] at s'; exact False.elim s'
    | cons _ _ => exact False.elim s
  | _ => exact False.elim s
end
def vSwap : Va → Fn := ascF fun s => .str (s.map sw1)
def vUpper : Va → Fn := ascF fun s => .str (s.map up1)
def vLower : Va → Fn := ascF fun s => .str (s.map lo1)
def vIsLower : Va → Fn := ascF fun s => .bl (s.any lowc && !s.any uppc)
def vIsUpper : Va → Fn := ascF fun s => .bl (s.any uppc && !s.any lowc)
theorem len_S (s : List Nat) : (⟨s.toArray⟩ : Str).length = s.length := by show s.toArray.size = _; simp
section
variable {W : XW} {X : Cx} {o e : Expr} {A : Ex} {apos cpos : Pos}
theorem ex_swapcase (ho : EX W X o A) (hbase : attributeBase o "swapcase" X.env (eval o X.env) = eval o X.env := by rfl) (hline : (apos.endLine == cpos.line) = true := by rfl) : EX W X (.Call (.Attribute o "swapcase" apos) [] [] cpos) (methE .str vSwap A aNil) :=
  ex_bm0 .str (.inl rfl) F.plainAttrs_str F.slot_str_swapcase F.type_str_swapcase mt_swapcase (s_ascF (g := fun a => .str (Txt.swapcase a)) (fun s h => by rw [len_S]; exact h) fun s ρ H h => by show V.str _ = V.str _; rw [swap_S h]) ho hbase hline
theorem ex_lower (ho : EX W X o A) (hbase : attributeBase o "lower" X.env (eval o X.env) = eval o X.env := by rfl) (hline : (apos.endLine == cpos.line) = true := by rfl) : EX W X (.Call (.Attribute o "lower" apos) [] [] cpos) (methE .str vLower A aNil) :=
  ex_bm0 .str (.inl rfl) F.plainAttrs_str F.slot_str_lower F.type_str_lower mt_lower (s_ascF (g := fun a => .str (Txt.lower a)) (fun s h => by rw [len_S]; exact h) fun s ρ H h => by show V.str _ = V.str _; rw [show Txt.lower ⟨s.toArray⟩ = _ from SX.lower_S h]) ho hbase hline
theorem ex_upper (ho : EX W X o A) (hbase : attributeBase o "upper" X.env (eval o X.env) = eval o X.env := by rfl) (hline : (apos.endLine == cpos.line) = true := by rfl) : EX W X (.Call (.Attribute o "upper" apos) [] [] cpos) (methE .str vUpper A aNil) :=
  ex_bm0 .str (.inl rfl) F.plainAttrs_str F.slot_str_upper F.type_str_upper mt_upper (s_ascF (g := fun a => .str (Txt.upper a)) (fun s h => by rw [len_S]; exact h) fun s ρ H h => by show V.str _ = V.str _; rw [show Txt.upper ⟨s.toArray⟩ = _ from SX.upper_S h]) ho hbase hline
theorem ex_islower (ho : EX W X o A) (hbase : attributeBase o "islower" X.env (eval o X.env) = eval o X.env := by rfl) (hline : (apos.endLine == cpos.line) = true := by rfl) : EX W X (.Call (.Attribute o "islower" apos) [] [] cpos) (methE .str vIsLower A aNil) :=
  ex_bm0 .str (.inl rfl) F.plainAttrs_str F.slot_str_islower F.type_str_islower mt_islower (s_ascF (C := fun _ => True) (g := fun a => .bl (Txt.islower a)) (fun _ _ => trivial) fun s ρ H h => by show V.bl _ = V.bl _; rw [lowerS h]) ho hbase hline
theorem ex_isupper (ho : EX W X o A) (hbase : attributeBase o "isupper" X.env (eval o X.env) = eval o X.env := by rfl) (hline : (apos.endLine == cpos.line) = true := by rfl) : EX W X (.Call (.Attribute o "isupper" apos) [] [] cpos) (methE .str vIsUpper A aNil) :=
  ex_bm0 .str (.inl rfl) F.plainAttrs_str F.slot_str_isupper F.type_str_isupper mt_isupper (s_ascF (C := fun _ => True) (g := fun a => .bl (Txt.isupper a)) (fun _ _ => trivial) fun s ρ H h => by show V.bl _ = V.bl _; rw [upperS h]) ho hbase hline
end

/-! ### lists: append, pop, join -/
def vAppend (a : Va) : Fn := fun xs h => match a with
  | .ref i => match xs with
    | [y] => match h.get i with
      | some (.lst zs) => if zs.length < sLine then .ok .non (h.set i (.lst (zs ++ [y]))) else .no
      | _ => .no
    | _ => .no
  | _ => .no
def vPop (a : Va) : Fn := fun xs h => match a with
  | .ref i => match xs with
    | [] => match h.get i with
      | some (.lst zs) => match zs[zs.length - 1]? with
        | some y => .ok y (h.set i (.lst zs.dropLast))
        | none => .no
      | _ => .no
    | [.int k] => match h.get i with
      | some (.lst zs) => match ixN zs.length k with
        | some j => match zs[j]? with
          | some y => if zs.length ≤ sLine then .ok y (h.set i (.lst (zs.eraseIdx j))) else .no
          | none => .no
        | none => .no
      | _ => .no
    | _ => .no
  | _ => .no
def vExtend (a : Va) : Fn := fun xs h => match a with
  | .ref i => match xs with
    | [.ref j] => match h.get i with
      | some (.lst zs) => match h.get j with
        | some (.lst ws) => if zs.length + ws.length ≤ sLine then .ok .non (h.set i (.lst (zs ++ ws))) else .no
        | _ => .no
      | _ => .no
    | _ => .no
  | _ => .no
section
variable {K : FW} {W : XW} {ρ : List Addr} {H : Hp}
theorem s_append : SM K W vAppend rAppend := fun ρ h H a x xs us Q q rx rs s => by
  cases a with
  | ref i =>
    match xs, rs with
    | [y], ⟨u, t, e, r1, r2⟩ =>
      cases r2
      subst e
      cases g : h.get i with
      | none => simp only [vAppend, g] at s; exact False.elim s
      | some o =>
        cases o with
        | lst zs =>
          simp only [vAppend, g] at s
          obtain ⟨p, us, rfl, hp, h1, h2⟩ := q.lst rx g
          by_cases hz : zs.length < sLine
          · rw [if_pos hz] at s
            exact ⟨p, us, u, rfl, rfl, h1, by rw [← h2.length, ← sLine_eq]; exact hz, s.setLst q hp g h1 (h2.append (RVs.one r1)) rfl⟩
          · rw [if_neg hz] at s; exact False.elim s
        | _ => simp only [vAppend, g] at s; exact False.elim s
    | [], _ => exact False.elim s
    | _ :: _ :: _, _ => exact False.elim s
  | _ => exact False.elim s
theorem s_extend : SM K W vExtend rExtend := fun ρ h H a x xs us Q q rx rs s => by
  cases a with
  | ref i =>
    match xs, rs with
    | [.ref j], ⟨u, t, e, r1, r2⟩ =>
      cases r2
      subst e
      cases g : h.get i with
      | none => simp only [vExtend, g] at s; exact False.elim s
      | some o =>
        cases o with
        | lst zs =>
          cases g2 : h.get j with
          | none => simp only [vExtend, g, g2] at s; exact False.elim s
          | some o2 =>
            cases o2 with
            | lst ws =>
              simp only [vExtend, g, g2] at s
              obtain ⟨p, us, rfl, hp, h1, h2⟩ := q.lst rx g
              obtain ⟨p', us', rfl, hp', h1', h2'⟩ := q.lst r1 g2
              by_cases hz : zs.length + ws.length ≤ sLine
              · rw [if_pos hz] at s
                exact ⟨p, p', us, us', rfl, rfl, h1, h1', by rw [← h2.length, ← h2'.length, ← sLine_eq]; exact hz, s.setLst q hp g h1 (h2.append h2') rfl⟩
              · rw [if_neg hz] at s; exact False.elim s
            | _ => simp only [vExtend, g, g2] at s; exact False.elim s
        | _ => simp only [vExtend, g] at s; exact False.elim s
    | [], _ => exact False.elim s
    | [.non], _ => exact False.elim s
    | [.bl _], _ => exact False.elim s
    | [.int _], _ => exact False.elim s
    | [.str _], _ => exact False.elim s
    | [.tup _], _ => exact False.elim s
    | [.fl _], _ => exact False.elim s
    | x1 :: _ :: _, _ => cases x1 <;> exact False.elim s
  | _ => exact False.elim s
theorem RVs.erase : ∀ {xs : List Va} {us : List V} (i : Nat), RVs K ρ H xs us → RVs K ρ H (xs.eraseIdx i) (us.eraseIdx i)
  | [], _, _, h => by cases h; rfl
  | _ :: _, _, 0, ⟨w, t, e, q, s⟩ => by subst e; exact s
  | _ :: _, _, i + 1, ⟨w, t, e, q, s⟩ => by subst e; exact ⟨w, _, rfl, q, RVs.erase i s⟩
theorem s_pop : SM K W vPop (fun x xs H Q => rPop x xs H Q ∨ rPopAt x xs H Q) := fun ρ h H a x xs us Q q rx rs s => by
  cases a with
  | ref i =>
    match xs, rs with
    | [], e =>
      cases e
      cases g : h.get i with
      | none => simp only [vPop, g] at s; exact False.elim s
      | some o =>
        cases o with
        | lst zs =>
          simp only [vPop, g] at s
          obtain ⟨p, us, rfl, hp, h1, h2⟩ := q.lst rx g
          cases e : zs[zs.length - 1]? with
          | none => simp only [e] at s; exact False.elim s
          | some y =>
            simp only [e] at s
            obtain ⟨u, hu, ru⟩ := h2.get e
            exact .inl ⟨p, us, u, rfl, rfl, h1, by rw [← h2.length]; exact hu, s.setLst q hp g h1 h2.dropLast ru⟩
        | _ => simp only [vPop, g] at s; exact False.elim s
    | [.int k], ⟨u, t, e, r1, r2⟩ =>
      cases r2
      cases r1
      subst e
      cases g : h.get i with
      | none => simp only [vPop, g] at s; exact False.elim s
      | some o =>
        cases o with
        | lst zs =>
          simp only [vPop, g] at s
          obtain ⟨p, us, rfl, hp, h1, h2⟩ := q.lst rx g
          cases e : ixN zs.length k with
          | none => simp only [e] at s; exact False.elim s
          | some j =>
            simp only [e] at s
            cases e2 : zs[j]? with
            | none => simp only [e2] at s; exact False.elim s
            | some y =>
              simp only [e2] at s
              obtain ⟨u, hu, ru⟩ := h2.get e2
              obtain ⟨f1, f2, f3, f4⟩ := ixN_seq e
              by_cases hz : zs.length ≤ sLine
              case neg => rw [if_neg hz] at s; exact False.elim s
              rw [if_pos hz] at s
              have hlt : zs.length ≤ 16777216 := hz
              exact .inr ⟨p, us, k, j, u, rfl, rfl, h1, by omega, by omega, by rw [← h2.length]; exact f1, hu, s.setLst q hp g h1 (h2.erase j) ru⟩
        | _ => simp only [vPop, g] at s; exact False.elim s
    | [.ref _], _ => exact False.elim s
    | [.non], _ => exact False.elim s
    | [.bl _], _ => exact False.elim s
    | [.str _], _ => exact False.elim s
    | [.tup _], _ => exact False.elim s
    | [.fl _], _ => exact False.elim s
    | x1 :: _ :: _, _ => cases x1 <;> exact False.elim s
  | _ => exact False.elim s
end
end Rf

/-! Rf: more methods, in, products. -/
namespace Rf
open PySem PySem.Spec PyProof.Rows L2

section
variable {W : XW} {X : Cx} {o e : Expr} {es : List Expr} {A : Ex} {B : Ax} {apos cpos : Pos}
theorem ex_append (ho : EX W X o A) (ha : AX W X (e :: es) B) (hbase : attributeBase o "append" X.env (eval o X.env) = eval o X.env := by rfl)
    (hfew : ((backTo cpos (starEach (e :: es) X.env)).all (fun x => !x.1) && (backToKw cpos (keywordEach [] X.env)).all (fun x => x.1.isSome)
      && decide ((e :: es).length + ([] : List Keyword).length + (if ([] : List Keyword).isEmpty then 0 else 1) < 30)) = true := by rfl)
    (hline : (apos.endLine == cpos.line) = true := by rfl) (hs2 : starEach (e :: es) X.env = (false, eval e X.env) :: starEach es X.env := by rfl) (hplain : (backTo cpos (starEach es X.env)).any (·.1) = false := by rfl) :
    EX W X (.Call (.Attribute o "append" apos) (e :: es) [] cpos) (methE .list vAppend A B) := ex_bm .list (.inr (.inl rfl)) F.plainAttrs_list F.slot_list_append F.type_list_append mt_append s_append ho ha hbase hfew hline hs2 hplain
theorem ex_extend (ho : EX W X o A) (ha : AX W X (e :: es) B) (hbase : attributeBase o "extend" X.env (eval o X.env) = eval o X.env := by rfl)
    (hfew : ((backTo cpos (starEach (e :: es) X.env)).all (fun x => !x.1) && (backToKw cpos (keywordEach [] X.env)).all (fun x => x.1.isSome)
      && decide ((e :: es).length + ([] : List Keyword).length + (if ([] : List Keyword).isEmpty then 0 else 1) < 30)) = true := by rfl)
    (hline : (apos.endLine == cpos.line) = true := by rfl) (hs2 : starEach (e :: es) X.env = (false, eval e X.env) :: starEach es X.env := by rfl) (hplain : (backTo cpos (starEach es X.env)).any (·.1) = false := by rfl) :
    EX W X (.Call (.Attribute o "extend" apos) (e :: es) [] cpos) (methE .list vExtend A B) := ex_bm .list (.inr (.inl rfl)) F.plainAttrs_list F.slot_list_extend F.type_list_extend mt_extend s_extend ho ha hbase hfew hline hs2 hplain
theorem mt_popA : MtR X "list.pop" (fun x xs H Q => rPop x xs H Q ∨ rPopAt x xs H Q) := MtR.or (X := X) mt_pop mt_popAt
theorem ex_pop0 (ho : EX W X o A) (hbase : attributeBase o "pop" X.env (eval o X.env) = eval o X.env := by rfl) (hline : (apos.endLine == cpos.line) = true := by rfl) : EX W X (.Call (.Attribute o "pop" apos) [] [] cpos) (methE .list vPop A aNil) :=
  ex_bm0 .list (.inr (.inl rfl)) F.plainAttrs_list F.slot_list_pop F.type_list_pop mt_popA s_pop ho hbase hline
theorem ex_pop1 (ho : EX W X o A) (ha : AX W X (e :: es) B) (hbase : attributeBase o "pop" X.env (eval o X.env) = eval o X.env := by rfl)
    (hfew : ((backTo cpos (starEach (e :: es) X.env)).all (fun x => !x.1) && (backToKw cpos (keywordEach [] X.env)).all (fun x => x.1.isSome)
      && decide ((e :: es).length + ([] : List Keyword).length + (if ([] : List Keyword).isEmpty then 0 else 1) < 30)) = true := by rfl)
    (hline : (apos.endLine == cpos.line) = true := by rfl) (hs2 : starEach (e :: es) X.env = (false, eval e X.env) :: starEach es X.env := by rfl) (hplain : (backTo cpos (starEach es X.env)).any (·.1) = false := by rfl) :
    EX W X (.Call (.Attribute o "pop" apos) (e :: es) [] cpos) (methE .list vPop A B) := ex_bm .list (.inr (.inl rfl)) F.plainAttrs_list F.slot_list_pop F.type_list_pop mt_popA s_pop ho ha hbase hfew hline hs2 hplain
end

/-! ### join -/
def strsOf : List Va → Option (List (List Nat))
  | [] => some []
  | .str b :: r => (strsOf r).map (b :: ·)
  | _ :: _ => none
theorem strsOf_ok {K : FW} {ρ : List Addr} {H : Hp} : ∀ {xs : List Va} {us : List V} {bs : List (List Nat)}, strsOf xs = some bs → RVs K ρ H xs us → us = (bs.map SX.S).map V.str
  | [], _, _, e, r => by cases e; cases r; rfl
  | .str b :: xs, _, bs, e, ⟨u, t, e1, r1, r2⟩ => by
    unfold strsOf at e
    cases q : strsOf xs with
    | none => rw [q] at e; cases e
    | some cs =>
      rw [q] at e
      cases e
      cases r1
      rw [e1, strsOf_ok q r2]
      rfl
  | .non :: _, _, _, e, _ => by cases e
  | .bl _ :: _, _, _, e, _ => by cases e
  | .int _ :: _, _, _, e, _ => by cases e
  | .tup _ :: _, _, _, e, _ => by cases e
  | .ref _ :: _, _, _, e, _ => by cases e
  | .fl _ :: _, _, _, e, _ => by cases e
def joinN (sep : List Nat) : List (List Nat) → List Nat
  | [] => []
  | [x] => x
  | x :: y :: r => x ++ sep ++ joinN sep (y :: r)
def vJoin (a : Va) : Fn := fun xs h => match a with
  | .str z => match xs with
    | [b] => match seqV h b with
      | some ys => match strsOf ys with
        | some ws => if (ws.map List.length).sum + ws.length * z.length ≤ sLine then .ok (.str (joinN z ws)) h else .no
        | none => .no
      | none => .no
    | _ => .no
  | _ => .no
theorem joinN_eq (sep : List Nat) : ∀ ws, TL.joinL sep ws = joinN sep ws
  | [] => rfl
  | [x] => by simp [joinN, TL.joinL]
  | x :: y :: r => by
    have ih := joinN_eq sep (y :: r)
    show TL.joinL sep (x :: y :: r) = x ++ sep ++ joinN sep (y :: r)
    rw [← ih]
    simp [TL.joinL]
section
variable {K : FW} {W : XW} {ρ : List Addr} {H : Hp}
theorem s_join : SM K W vJoin (fun x xs H Q => ∃ a p, ∃ ys : List Str, x = .str a ∧ xs = [.ref p] ∧ (SqL K H p (ys.map V.str) ∨ SqT K H p (ys.map V.str)) ∧ (ys.map (·.length)).sum + ys.length * a.length ≤ 16777216 ∧ Q (.str (Txt.join a ys)) H) := fun ρ h H a x xs us Q q rx rs s => by
  cases a with
  | str z =>
    cases rx
    match xs, rs with
    | [b], ⟨u, t, e, r1, r2⟩ =>
      cases r2
      subst e
      have s' : sat K W ρ H (match seqV h b with
        | some ys => match strsOf ys with
          | some ws => if (ws.map List.length).sum + ws.length * z.length ≤ sLine then .ok (.str (joinN z ws)) h else .no
          | none => .no
        | none => .no) (rv K Q) := s
      cases e1 : seqV h b with
      | none => rw [e1] at s'; exact False.elim s'
      | some ys =>
        simp only [e1] at s'
        cases e2 : strsOf ys with
        | none => simp only [e2] at s'; exact False.elim s'
        | some ws =>
          simp only [e2] at s'
          by_cases hz : (ws.map List.length).sum + ws.length * z.length ≤ sLine
          · rw [if_pos hz] at s'
            obtain ⟨p, us, rfl, h1, h2⟩ := seqV_ok q r1 e1
            rw [strsOf_ok e2 h2] at h1
            refine ⟨_, p, ws.map SX.S, rfl, rfl, h1, ?_, s'.val q ?_⟩
            · rw [SX.lens, List.length_map, len_S]; exact hz
            · show V.str _ = V.str _
              rw [show Txt.join ⟨z.toArray⟩ (ws.map SX.S) = SX.S (TL.joinL z ws) from SX.join_S z ws, joinN_eq]
          · rw [if_neg hz] at s'; exact False.elim s'
    | [], _ => exact False.elim s
    | _ :: _ :: _, _ => exact False.elim s
  | _ => exact False.elim s
end
section
variable {W : XW} {X : Cx} {o e : Expr} {es : List Expr} {A : Ex} {B : Ax} {apos cpos : Pos}
theorem ex_join (ho : EX W X o A) (ha : AX W X (e :: es) B) (hbase : attributeBase o "join" X.env (eval o X.env) = eval o X.env := by rfl)
    (hfew : ((backTo cpos (starEach (e :: es) X.env)).all (fun x => !x.1) && (backToKw cpos (keywordEach [] X.env)).all (fun x => x.1.isSome)
      && decide ((e :: es).length + ([] : List Keyword).length + (if ([] : List Keyword).isEmpty then 0 else 1) < 30)) = true := by rfl)
    (hline : (apos.endLine == cpos.line) = true := by rfl) (hs2 : starEach (e :: es) X.env = (false, eval e X.env) :: starEach es X.env := by rfl) (hplain : (backTo cpos (starEach es X.env)).any (·.1) = false := by rfl) :
    EX W X (.Call (.Attribute o "join" apos) (e :: es) [] cpos) (methE .str vJoin A B) := ex_bm .str (.inl rfl) F.plainAttrs_str F.slot_str_join F.type_str_join mt_join s_join ho ha hbase hfew hline hs2 hplain
end

/-! ### order of numbers and texts, chains -/
section
variable {W : XW} {X : Cx} {a b c : Expr} {A B C : Ex} {pos : Pos}
theorem ex_lt (ha : EX W X a A) (hb : EX W X b B) : EX W X (.Compare a [.Lt] [b] pos) (op2 vLt A B) := ex_cmp op_lt (s_iop fun _ _ _ _ => rfl) ha hb (nomark _)
theorem ex_le (ha : EX W X a A) (hb : EX W X b B) : EX W X (.Compare a [.LtE] [b] pos) (op2 vLe A B) := ex_cmp op_le (s_iop fun _ _ _ _ => rfl) ha hb (nomark _)
theorem ex_gt (ha : EX W X a A) (hb : EX W X b B) : EX W X (.Compare a [.Gt] [b] pos) (op2 vGt A B) := ex_cmp op_gt (s_iop fun _ _ _ _ => rfl) ha hb (nomark _)
theorem ex_ge (ha : EX W X a A) (hb : EX W X b B) : EX W X (.Compare a [.GtE] [b] pos) (op2 vGe A B) := ex_cmp op_ge (s_iop fun _ _ _ _ => rfl) ha hb (nomark _)
theorem tx_lt (ha : EX W X a A) (hb : EX W X b B) : TX W X (.Compare a [.Lt] [b] pos) (isB (op2 vLt A B)) := tx_cmp op_lt (s_iop fun _ _ _ _ => rfl) ha hb (nomark _)
theorem tx_le (ha : EX W X a A) (hb : EX W X b B) : TX W X (.Compare a [.LtE] [b] pos) (isB (op2 vLe A B)) := tx_cmp op_le (s_iop fun _ _ _ _ => rfl) ha hb (nomark _)
theorem tx_gt (ha : EX W X a A) (hb : EX W X b B) : TX W X (.Compare a [.Gt] [b] pos) (isB (op2 vGt A B)) := tx_cmp op_gt (s_iop fun _ _ _ _ => rfl) ha hb (nomark _)
theorem tx_ge (ha : EX W X a A) (hb : EX W X b B) : TX W X (.Compare a [.GtE] [b] pos) (isB (op2 vGe A B)) := tx_cmp op_ge (s_iop fun _ _ _ _ => rfl) ha hb (nomark _)
/-- a op b op' c -/
def chn (F G : Va → Va → M Va) (A B C : Ex) : Ex := fun l h => (A l h).bind fun a h1 => (B l h1).bind fun b h2 => (F a b h2).bind fun d h3 => match d with
  | .bl true => (C l h3).bind fun c h4 => G b c h4
  | .bl false => .ok (.bl false) h3
  | _ => .no
theorem tE.chain {K : FW} {F G : Va → Va → M Va} {r r' : R2} (hs : S2 K W F r) (hs' : S2 K W G r') : ∀ σ H Q, tE K W (chn F G A B C) σ H Q → tChain r r' (tE K W A) (tE K W B) (tE K W C) σ H Q := fun σ H Q ⟨ρ, l, h, L, q, s⟩ =>
  tE.go L q s fun a h1 ρ1 H1 x e1 L1 q1 rx s1 => tE.go L1 q1 s1 fun b h2 ρ2 H2 y e2 L2 q2 ry s2 => hs ρ2 h2 H2 a b x y _ q2 (RV.ext e2 a rx) ry (s2.bind.mono fun d h3 ρ3 H3 e3 q3 s3 z rz => by
    cases d with
    | bl k =>
      cases rz
      refine ⟨k, rfl, ?_⟩
      cases k with
      | true => exact iteT (tE.go (L2.ext e3) q3 s3 fun c h4 ρ4 H4 w e4 L4 q4 rw' s4 => hs' ρ4 h4 H4 b c y w Q q4 (RV.ext (e3.trans e4) b ry) rw' s4)
      | false => exact iteF (s3.val q3 rfl)
    | _ => exact False.elim s3)
theorem ex_leLe (ha : EX W X a A) (hb : EX W X b B) (hc : EX W X c C) (hm : lastMarks [.LtE, .LtE] [b, c] = false := by with_unfolding_all rfl) : EX W X (.Compare a [.LtE, .LtE] [b, c] pos) (chn vLe vLe A B C) :=
  ⟨PE.weak (pe_chain op_le op_le ha.pe hb.pe hc.pe hm) (tE.chain (s_iop fun _ _ _ _ => rfl) (s_iop fun _ _ _ _ => rfl))⟩
theorem ex_ltLt (ha : EX W X a A) (hb : EX W X b B) (hc : EX W X c C) (hm : lastMarks [.Lt, .Lt] [b, c] = false := by with_unfolding_all rfl) : EX W X (.Compare a [.Lt, .Lt] [b, c] pos) (chn vLt vLt A B C) :=
  ⟨PE.weak (pe_chain op_lt op_lt ha.pe hb.pe hc.pe hm) (tE.chain (s_iop fun _ _ _ _ => rfl) (s_iop fun _ _ _ _ => rfl))⟩
theorem tx_leLe (ha : EX W X a A) (hb : EX W X b B) (hc : EX W X c C) (hm : lastMarks [.LtE, .LtE] [b, c] = false := by with_unfolding_all rfl) : TX W X (.Compare a [.LtE, .LtE] [b, c] pos) (isB (chn vLe vLe A B C)) :=
  ⟨PT.weak (pt_chain op_le op_le ha.pe hb.pe hc.pe hm) (tT.tTest (tE.chain (s_iop fun _ _ _ _ => rfl) (s_iop fun _ _ _ _ => rfl)))⟩
theorem tx_ltLt (ha : EX W X a A) (hb : EX W X b B) (hc : EX W X c C) (hm : lastMarks [.Lt, .Lt] [b, c] = false := by with_unfolding_all rfl) : TX W X (.Compare a [.Lt, .Lt] [b, c] pos) (isB (chn vLt vLt A B C)) :=
  ⟨PT.weak (pt_chain op_lt op_lt ha.pe hb.pe hc.pe hm) (tT.tTest (tE.chain (s_iop fun _ _ _ _ => rfl) (s_iop fun _ _ _ _ => rfl)))⟩
end

/-! ### products -/
def mulOk (i j : Int) : Bool := (decide (-18446744073709551616 < i) && decide (i < 18446744073709551616)) || (decide (-18446744073709551616 < j) && decide (j < 18446744073709551616))
def repN {α : Type} (k : Int) (xs : List α) : List α := (List.replicate k.toNat xs).flatten
def vMul (a b : Va) : M Va := fun h => match b with
  | .int j => match a with
    | .int i => if mulOk i j = true then .ok (.int (i * j)) h else (if i.natAbs.log2 + j.natAbs.log2 < 1000000 then .ok (.int (i * j)) h else .no)
    | .ref p => match h.get p with
      | some (.lst xs) => if (decide (-1000000 ≤ j) && (decide (j ≤ 1000000) && decide (xs.length * j.toNat ≤ sLine))) = true then .ok (.ref h.n) (h.push (.lst (repN j xs))) else .no
      | _ => .no
    | .tup xs => if (decide (1 ≤ j) && (decide (j ≤ 1000) && (decide (xs.length ≤ 1000) && !xs.isEmpty))) = true then .ok (.tup (repN j xs)) h else .no
    | _ => .no
  | _ => .no
def rMul (K : FW) : R2 := fun x y H Q => (rI CMul (fun i j => .int (i * j)) x y H Q ∨ rI CMulW (fun i j => .int (i * j)) x y H Q) ∨ (rRep x y H Q ∨ rRepN K x y H Q)
theorem op_mulA {X : Cx} : OpR X (binaryOp .Mult) (rMul X.fw) := (op_mul.or op_mulW).or (op_rep.or op_repN)
theorem s_mul {K : FW} {W : XW} : S2 K W vMul (rMul K) := fun ρ h H a b x y Q q rx ry s => by
  cases b with
  | int j =>
    cases ry
    cases a with
    | int i =>
      cases rx
      have s' : sat K W ρ H (if mulOk i j = true then .ok (.int (i * j)) h else (if i.natAbs.log2 + j.natAbs.log2 < 1000000 then .ok (.int (i * j)) h else .no)) (rv K Q) := s
      by_cases h1 : mulOk i j = true
      · rw [if_pos h1] at s'
        unfold mulOk at h1
        simp only [Bool.or_eq_true, Bool.and_eq_true, decide_eq_true_eq] at h1
        exact .inl (.inl ⟨i, j, rfl, rfl, h1, s'.val q rfl⟩)
      · rw [if_neg h1] at s'
        by_cases h2 : i.natAbs.log2 + j.natAbs.log2 < 1000000
        · rw [if_pos h2] at s'
          exact .inl (.inr ⟨i, j, rfl, rfl, h2, s'.val q rfl⟩)
        · rw [if_neg h2] at s'; exact False.elim s'
    | ref p =>
      cases g : h.get p with
      | none => simp only [vMul, g] at s; exact False.elim s
      | some o =>
        cases o with
        | lst xs =>
          simp only [vMul, g] at s
          obtain ⟨p', us, rfl, _, g1, g2⟩ := q.lst rx g
          by_cases hz : (decide (-1000000 ≤ j) && (decide (j ≤ 1000000) && decide (xs.length * j.toNat ≤ sLine))) = true
          · rw [if_pos hz] at s
            simp only [Bool.and_eq_true, decide_eq_true_eq] at hz
            exact .inr (.inl ⟨p', j, us, rfl, rfl, g1, by omega, by omega, by rw [← g2.length, ← sLine_eq]; exact hz.2.2, s.newLst q (RVs.rep g2 _)⟩)
          · rw [if_neg hz] at s; exact False.elim s
        | _ => simp only [vMul, g] at s; exact False.elim s
    | tup xs =>
      obtain ⟨p, us, rfl, g1, g2⟩ := rx
      have s' : sat K W ρ H (if (decide (1 ≤ j) && (decide (j ≤ 1000) && (decide (xs.length ≤ 1000) && !xs.isEmpty))) = true then .ok (.tup (repN j xs)) h else .no) (rv K Q) := s
      by_cases hz : (decide (1 ≤ j) && (decide (j ≤ 1000) && (decide (xs.length ≤ 1000) && !xs.isEmpty))) = true
      · rw [if_pos hz] at s'
        simp only [Bool.and_eq_true, decide_eq_true_eq] at hz
        refine .inr (.inr ⟨p, j, us, rfl, rfl, g1.1, fun e => ?_, hz.1, hz.2.1, by rw [← g2.length]; exact hz.2.2.1, fun e1 => ?_, fun _ => s'.newTup q (RVs.rep g2 _)⟩)
        · subst e
          have := g2.length
          have e2 : xs = [] := List.eq_nil_of_length_eq_zero this
          rw [e2] at hz
          simp at hz
        · subst e1
          have e2 : repN 1 xs = xs := by unfold repN; simp
          exact s'.val q ⟨p, us, rfl, g1, by rw [e2]; exact g2⟩
      · rw [if_neg hz] at s'; exact False.elim s'
    | _ => exact False.elim s
  | _ => exact False.elim s
section
variable {W : XW} {X : Cx} {a b : Expr} {A B : Ex} {pos : Pos}
theorem ex_mul (ha : EX W X a A) (hb : EX W X b B) : EX W X (.BinOp a .Mult b pos) (op2 vMul A B) := ex_op op_mulA s_mul ha hb
end
end Rf

/-! Rf: targets, statements, loops. -/
namespace Rf
open PySem PySem.Spec PyProof.Rows L2

/-! ### targets: names, tuples of targets -/
inductive Tg where
  | nm (i : Nat) | tp (ts : List Tg)
mutual
def bnd (h : Hea) : Tg → Va → Option (List (Nat × Va))
  | .nm i, v => some [(i, v)]
  | .tp ts, v => match seqV h v with
    | some xs => bnds h ts xs
    | none => none
def bnds (h : Hea) : List Tg → List Va → Option (List (Nat × Va))
  | [], [] => some []
  | t :: ts, x :: xs => match bnd h t x with
    | some a => match bnds h ts xs with
      | some b => some (a ++ b)
      | none => none
    | none => none
  | _, _ => none
end
def setL (l : Lo) : List (Nat × Va) → Lo
  | [] => l
  | (i, v) :: r => setL (l.set i (some v)) r
def setU (σ : L2.St) : List (Nat × V) → L2.St
  | [] => σ
  | (i, v) :: r => setU (σ.set i (some v)) r
def Ups (K : FW) (ρ : List Addr) (H : Hp) (ups : List (Nat × Va)) (us : List (Nat × V)) : Prop := Paired (fun (p : Nat × Va) (q : Nat × V) => p.1 = q.1 ∧ RV K ρ H p.2 q.2) ups us
def tG (K : FW) (tg : Tg) : TG := fun v σ H Q => ∃ ρ h a ups, HR K ρ h H ∧ RV K ρ H a v ∧ bnd h tg a = some ups ∧ ∀ us, Ups K ρ H ups us → Q (setU σ us) H
def tGs (K : FW) (ts : List Tg) : TGs := fun vs σ H Q => ∃ ρ h as ups, HR K ρ h H ∧ RVs K ρ H as vs ∧ bnds h ts as = some ups ∧ ∀ us, Ups K ρ H ups us → Q (setU σ us) H
structure GX (X : Cx) (e : Expr) (tg : Tg) : Prop where
  pg : PG X e (tG X.fw tg)
structure GXs (X : Cx) (es : List Expr) (ts : List Tg) : Prop where
  pg : PGs X es (tGs X.fw ts)
theorem setU_append (σ : L2.St) : ∀ (a b : List (Nat × V)), setU σ (a ++ b) = setU (setU σ a) b := by
  intro a
  induction a generalizing σ with
  | nil => intro b; rfl
  | cons p r ih => intro b; exact ih (σ.set p.1 (some p.2)) b
theorem Paired.appendQ {α β : Type} {F : α → β → Prop} : ∀ {l₁ l₂ : List α} {m₁ m₂ : List β}, Paired F l₁ m₁ → Paired F l₂ m₂ → Paired F (l₁ ++ l₂) (m₁ ++ m₂)
  | _, _, _, _, .nil, s => s
  | _, _, _, _, .cons r t, s => .cons r (Paired.appendQ t s)
theorem LR.setL {K : FW} {ρ : List Addr} {H : Hp} : ∀ {ups : List (Nat × Va)} {us : List (Nat × V)} {l : Lo} {σ : L2.St}, LR K ρ H l σ → Ups K ρ H ups us → LR K ρ H (setL l ups) (setU σ us)
  | _, _, _, _, L, .nil => L
  | (i, v) :: r, (j, w) :: s, l, σ, L, .cons e t => by
    have e1 : i = j := e.1
    subst e1
    show LR K ρ H (Rf.setL (l.set i (some v)) r) (setU (σ.set i (some w)) s)
    exact LR.setL (L.set e.2) t
theorem PG.weak {X : Cx} {e : Expr} {t t' : TG} (h : PG X e t) (f : ∀ v σ H Q, t' v σ H Q → t v σ H Q) : PG X e t' := ⟨fun pins s σ H v u Q I r q => h.run pins s σ H v u Q I r (f v σ H Q q)⟩
theorem PGs.weak {X : Cx} {e : List Expr} {t t' : TGs} (h : PGs X e t) (f : ∀ v σ H Q, t' v σ H Q → t v σ H Q) : PGs X e t' := ⟨fun pins s σ H v u Q I r q => h.run pins s σ H v u Q I r (f v σ H Q q)⟩
theorem pg_either {X : Cx} {e : Expr} {t t' : TG} (h1 : PG X e t) (h2 : PG X e t') : PG X e (fun v σ H Q => t v σ H Q ∨ t' v σ H Q) := ⟨fun pins s σ H v u Q I r q => q.elim (h1.run pins s σ H v u Q I r) (h2.run pins s σ H v u Q I r)⟩
section
variable {X : Cx} {pos : Pos} {e : Expr} {es : List Expr} {tg : Tg} {ts : List Tg}
theorem gx_name (i : Nat) {x : Str} (p : PG X (.Name x pos) (gName i)) : GX X (.Name x pos) (.nm i) :=
  ⟨PG.weak p fun v σ H Q ⟨ρ, h, a, ups, q, r, e, k⟩ => by
    cases e
    exact k [(i, v)] (.cons ⟨rfl, r⟩ .nil)⟩
theorem gxs_nil : GXs X [] [] :=
  ⟨PGs.weak pgs_nil fun v σ H Q ⟨ρ, h, as, ups, q, r, e, k⟩ => by
    cases as with
    | nil => cases e; exact ⟨r, k [] .nil⟩
    | cons _ _ => cases e⟩
theorem gxs_cons (h1 : GX X e tg) (h2 : GXs X es ts) (hs : (assignEach (e :: es) X.env).map (·.2) = assign e X.env :: (assignEach es X.env).map (·.2) := by rfl) : GXs X (e :: es) (tg :: ts) :=
  ⟨PGs.weak (pgs_cons h1.pg h2.pg hs) fun v σ H Q ⟨ρ, h, as, ups, q, r, e, k⟩ => by
    cases as with
    | nil => unfold bnds at e; cases e
    | cons a as =>
      obtain ⟨u, t, rfl, r1, r2⟩ := r
      unfold bnds at e
      cases e1 : bnd h tg a with
      | none => rw [e1] at e; cases e
      | some x =>
        rw [e1] at e
        cases e2 : bnds h ts as with
        | none => simp only [e2] at e; cases e
        | some y =>
          simp only [e2] at e
          cases e
          exact ⟨u, t, rfl, ρ, h, a, x, q, r1, e1, fun us U => ⟨ρ, h, as, y, q, r2, e2, fun us2 U2 => by rw [← setU_append]; exact k _ (Paired.appendQ U U2)⟩⟩⟩
theorem gx_tup {kk : Nat} {n : Nat} (hc : X.calm = true) (h : GXs X es ts) (hn : (assignEach es X.env).length = n := by rfl) (hst : (assignEach es X.env).findIdx? (·.1) = none := by rfl) (hl : ts.length = n := by rfl) : GX X (.Tuple es kk pos) (.tp ts) :=
  ⟨PG.weak (pg_either (pg_tup hc h.pg hn hst) (pg_unl hc h.pg hn hst)) fun v σ H Q ⟨ρ, h, a, ups, q, r, e, k⟩ => by
    unfold bnd at e
    cases e1 : seqV h a with
    | none => simp only [e1] at e; cases e
    | some xs =>
      simp only [e1] at e
      have hlen : ∀ (ts : List Tg) (xs : List Va) ups, bnds h ts xs = some ups → xs.length = ts.length := by
        intro ts
        induction ts with
        | nil => intro xs ups e; cases xs with
          | nil => rfl
          | cons _ _ => unfold bnds at e; cases e
        | cons t ts ih =>
          intro xs ups e
          cases xs with
          | nil => unfold bnds at e; cases e
          | cons x xs =>
            unfold bnds at e
            cases e1 : bnd h t x with
            | none => rw [e1] at e; cases e
            | some y =>
              rw [e1] at e
              cases e2 : bnds h ts xs with
              | none => simp only [e2] at e; cases e
              | some z => rw [List.length_cons, List.length_cons, ih xs z e2]
      obtain ⟨p, us, rfl, h1, h2⟩ := seqV_ok q r e1
      have hl2 : us.length = n := by rw [← h2.length, hlen ts xs ups e]; exact hl
      rcases h1 with h1 | h1
      · exact .inr ⟨p, us, rfl, h1, hl2, ρ, h, xs, ups, q, h2, e, k⟩
      · exact .inl ⟨p, us, rfl, h1, hl2, ρ, h, xs, ups, q, h2, e, k⟩⟩
end

/-! ### statements -/
def sNil : Sx := fun l h => .ok (.nx l) h
def sSeq (A B : Sx) : Sx := fun l h => (A l h).bind fun o h1 => match o with
  | .nx l1 => B l1 h1
  | o => .ok o h1
def sDrop (A : Ex) : Sx := fun l h => (A l h).bind fun _ h1 => .ok (.nx l) h1
def sRet (A : Ex) : Sx := fun l h => (A l h).bind fun a h1 => .ok (.rt a) h1
def sRetN : Sx := fun _ h => .ok (.rt .non) h
def sIf (C : Tx) (A B : Sx) : Sx := fun l h => (C l h).bind fun b h1 => if b = true then A l h1 else B l h1
def sBreak : Sx := fun l h => .ok (.bk l) h
def sCont : Sx := fun l h => .ok (.ct l) h
def sNever : Sx := fun _ _ => .no
def sSet (i : Nat) (A : Ex) : Sx := fun l h => (A l h).bind fun a h1 => .ok (.nx (l.set i (some a))) h1
def sBind (tg : Tg) (A : Ex) : Sx := fun l h => (A l h).bind fun a h1 => match bnd h1 tg a with
  | some ups => .ok (.nx (setL l ups)) h1
  | none => .no
def sPar (is : List Nat) (A : Ax) : Sx := fun l h => (A l h).bind fun xs h1 => if xs.length = is.length then .ok (.nx (setL l (is.zip xs))) h1 else .no
section
variable {W : XW} {X : Cx} {pos : Pos} {e c : Expr} {st : Stmt} {rest a b : List Stmt} {A : Ex} {C : Tx} {S T : Sx}
theorem sxs_nil : SXs W X [] sNil := ⟨PSs.weak pss_nil fun D σ H ⟨ρ, l, h, L, q, s⟩ => s.ok q σ L⟩
theorem tS.seq {K : FW} : ∀ D σ H, tS K W (sSeq S T) D σ H → tSeq (tS K W S) (tS K W T) D σ H := fun D σ H ⟨ρ, l, h, L, q, s⟩ =>
  ⟨ρ, l, h, L, q, s.bind.mono fun o h1 ρ1 H1 e1 q1 s1 => by
    cases o with
    | nx l1 => exact fun σ' L' => ⟨ρ1, l1, h1, L', q1, s1⟩
    | rt v => exact s1.ok q1
    | bk l1 => exact s1.ok q1
    | ct l1 => exact s1.ok q1⟩
theorem sxs_cons (h1 : SX W X st S) (h2 : SXs W X rest T) : SXs W X (st :: rest) (sSeq S T) := ⟨PSs.weak (pss_cons h1.ps h2.ps) tS.seq⟩
theorem sxs_one (h1 : SX W X st S) : SXs W X [st] S := ⟨pss_one h1.ps⟩
theorem sx_pass : SX W X (.Pass pos) sNil := ⟨PS.weak ps_pass fun D σ H ⟨ρ, l, h, L, q, s⟩ => s.ok q σ L⟩
theorem sx_break : SX W X (.Break pos) sBreak := ⟨PS.weak ps_break fun D σ H ⟨ρ, l, h, L, q, s⟩ => s.ok q σ L⟩
theorem sx_continue : SX W X (.Continue pos) sCont := ⟨PS.weak ps_continue fun D σ H ⟨ρ, l, h, L, q, s⟩ => s.ok q σ L⟩
theorem sx_doc {x j pos'} : SX W X (.Expr (.Constant (.str x) j pos) pos') sNil := ⟨PS.weak ps_doc fun D σ H ⟨ρ, l, h, L, q, s⟩ => s.ok q σ L⟩
theorem sx_never : SX W X st sNever := ⟨PS.weak ps_never fun D σ H ⟨ρ, l, h, L, q, s⟩ => s⟩
theorem sx_expr (ha : EX W X e A) (hs : swapsWith e none pos.line X.env = pure false := by rfl) : SX W X (.Expr e pos) (sDrop A) :=
  ⟨PS.weak (ps_expr ha.pe hs) fun D σ H ⟨ρ, l, h, L, q, s⟩ => tE.go L q s fun a h1 ρ1 H1 x e1 L1 q1 rx s1 => s1.ok q1 σ L1⟩
theorem sx_ret (ha : EX W X e A) : SX W X (.Return (some e) pos) (sRet A) :=
  ⟨PS.weak (ps_ret ha.pe) fun D σ H ⟨ρ, l, h, L, q, s⟩ => tE.go L q s fun a h1 ρ1 H1 x e1 L1 q1 rx s1 => s1.ok q1 x rx⟩
theorem sx_retN : SX W X (.Return none pos) sRetN := ⟨PS.weak ps_retN fun D σ H ⟨ρ, l, h, L, q, s⟩ => s.ok q _ rfl⟩
theorem sx_if (hc : TX W X c C) (ha : SXs W X a S) (hb : SXs W X b T) : SX W X (.If c a b pos) (sIf C S T) :=
  ⟨PS.weak (ps_if hc.pt ha.ps hb.ps) fun D σ H ⟨ρ, l, h, L, q, s⟩ => tT.go L q s fun b h1 ρ1 H1 e1 L1 q1 s1 => by
    cases b with
    | true => exact iteT ⟨ρ1, l, h1, L1, q1, s1⟩
    | false => exact iteF ⟨ρ1, l, h1, L1, q1, s1⟩⟩
theorem sx_set (i : Nat) {x : Str} {pos' : Pos} (hp : ∀ te, PE X e te → PS X (.Assign [.Name x pos'] e pos) (tAsg te (gName i))) (ha : EX W X e A) : SX W X (.Assign [.Name x pos'] e pos) (sSet i A) :=
  ⟨PS.weak (hp _ ha.pe) fun D σ H ⟨ρ, l, h, L, q, s⟩ => tE.go L q s fun a h1 ρ1 H1 x e1 L1 q1 rx s1 => s1.ok q1 _ (L1.set rx)⟩
theorem sx_bind {tgx : Expr} {tg : Tg} (ha : EX W X e A) (hg : GX X tgx tg) (hs : swapsWithSole [tgx] e pos.line X.env = pure false := by rfl) (hw : swappedStores [tgx] e X.env = pure none := by rfl)
    (h1 : (assignEach [tgx] X.env).map (·.2) = [assign tgx X.env] := by rfl) : SX W X (.Assign [tgx] e pos) (sBind tg A) :=
  ⟨PS.weak (ps_asg ha.pe hg.pg hs hw h1) fun D σ H ⟨ρ, l, h, L, q, s⟩ => tE.go L q s fun a h1 ρ1 H1 x e1 L1 q1 rx s1 => by
    cases e : bnd h1 tg a with
    | none => simp only [e] at s1; exact False.elim s1
    | some ups =>
      simp only [e] at s1
      exact ⟨ρ1, h1, a, ups, q1, rx, e, fun us U => s1.ok q1 _ (L1.setL U)⟩⟩
theorem sx_par {i j : Nat} {x y : Str} {e1 e2 : Expr} {B : Ax} {px py pt : Pos} {kt k2 pt2} (hc : X.calm = true) (hN : X.N.Nodup) (hi : X.N[i]? = some x) (hj : X.N[j]? = some y) (hij : i ≠ j)
    (hx : X.env.scope.names.lookup x = some .local) (hy : X.env.scope.names.lookup y = some .local) (ha : AX W X [e1, e2] B)
    (hw : swappedStores [.Tuple [.Name x px, .Name y py] kt pt] (.Tuple [e1, e2] k2 pt2) X.env = pure (some [x, y]) := by rfl)
    (hs : swapsWithSole [.Tuple [.Name x px, .Name y py] kt pt] (.Tuple [e1, e2] k2 pt2) pos.line X.env = pure false := by rfl) :
    SX W X (.Assign [.Tuple [.Name x px, .Name y py] kt pt] (.Tuple [e1, e2] k2 pt2) pos) (sPar [i, j] B) :=
  ⟨PS.weak (ps_par hc hN hi hj hij hx hy ha.pa hw hs) fun D σ H ⟨ρ, l, h, L, q, s⟩ => tA.go L q s fun xs h1 ρ1 H1 us ex L1 q1 rs s1 => by
    match xs, rs with
    | [a, b], ⟨u, _, e1, r1, v, _, e2, r2, e3⟩ =>
      subst e3 e2 e1
      exact ⟨u, v, rfl, s1.ok q1 _ ((L1.set r1).set r2)⟩
    | [], _ => exact False.elim s1
    | [_], _ => exact False.elim s1
    | _ :: _ :: _ :: _, _ => exact False.elim s1⟩
theorem sx_par3 {i j k : Nat} {x y z : Str} {e1 e2 e3 : Expr} {B : Ax} {px py pz pt : Pos} {kt k2 pt2} (hc : X.calm = true) (hN : X.N.Nodup) (hi : X.N[i]? = some x) (hj : X.N[j]? = some y) (hk : X.N[k]? = some z) (hij : i ≠ j) (hik : i ≠ k) (hjk : j ≠ k)
    (hx : X.env.scope.names.lookup x = some .local) (hy : X.env.scope.names.lookup y = some .local) (hz : X.env.scope.names.lookup z = some .local) (ha : AX W X [e1, e2, e3] B)
    (hw : swappedStores [.Tuple [.Name x px, .Name y py, .Name z pz] kt pt] (.Tuple [e1, e2, e3] k2 pt2) X.env = pure (some [x, y, z]) := by rfl)
    (hs : swapsWithSole [.Tuple [.Name x px, .Name y py, .Name z pz] kt pt] (.Tuple [e1, e2, e3] k2 pt2) pos.line X.env = pure false := by rfl) :
    SX W X (.Assign [.Tuple [.Name x px, .Name y py, .Name z pz] kt pt] (.Tuple [e1, e2, e3] k2 pt2) pos) (sPar [i, j, k] B) :=
  ⟨PS.weak (ps_par3 hc hN hi hj hk hij hik hjk hx hy hz ha.pa hw hs) fun D σ H ⟨ρ, l, h, L, q, s⟩ => tA.go L q s fun xs h1 ρ1 H1 us ex L1 q1 rs s1 => by
    match xs, rs with
    | [a, b, c], ⟨u, _, e1, r1, v, _, e2, r2, w, _, e3, r3, e4⟩ =>
      subst e4 e3 e2 e1
      exact ⟨u, v, w, rfl, s1.ok q1 _ (((L1.set r1).set r2).set r3)⟩
    | [], _ => exact False.elim s1
    | [_], _ => exact False.elim s1
    | [_, _], _ => exact False.elim s1
    | _ :: _ :: _ :: _ :: _, _ => exact False.elim s1⟩
end

/-! ### while -/
def whileS (C : Tx) (B : Sx) : Nat → Sx
  | 0, _, _ => .no
  | f + 1, l, h => (C l h).bind fun b h1 => if b = true then (B l h1).bind fun o h2 => match o with
      | .nx l2 => whileS C B f l2 h2
      | .ct l2 => whileS C B f l2 h2
      | .bk l2 => .ok (.nx l2) h2
      | .rt v => .ok (.rt v) h2
    else .ok (.nx l) h1
def bigN : Nat := 1000000
section
variable {W : XW} {X : Cx} {pos : Pos} {c : Expr} {body : List Stmt} {C : Tx} {B : Sx}
theorem sx_while (hp : PassesOwn (model X.prog X.w) X.A X.env X.xe) (hc : TX W X c C) (hb : SXs W X body B) : SX W X (.While c body [] pos) (whileS C B bigN) :=
  ⟨PS.weak (ps_while hp hc.pt hb.ps) fun D σ H ⟨ρ, l, h, L, q, s⟩ => by
    refine ⟨fun m σ H => ∃ ρ l h, LR X.fw ρ H l σ ∧ HR X.fw ρ h H ∧ sat X.fw W ρ H (whileS C B m l h) (ouQ X.fw D), ⟨bigN, ρ, l, h, L, q, s⟩, fun m σ H ⟨ρ, l, h, L, q, s⟩ => ?_⟩
    cases m with
    | zero => exact False.elim s
    | succ m =>
      unfold whileS at s
      refine tT.go L q s fun b h1 ρ1 H1 e1 L1 q1 s1 => ?_
      cases b with
      | true =>
        refine iteT ⟨fun σ' H' => ∃ ρ l h, LR X.fw ρ H' l σ' ∧ HR X.fw ρ h H' ∧ sat X.fw W ρ H' (whileS C B m l h) (ouQ X.fw D), fun σ' H' z => ⟨m, Nat.lt_succ_self m, z⟩, ρ1, l, h1, L1, q1, ?_⟩
        rw [if_pos rfl] at s1
        refine s1.bind.mono fun o h2 ρ2 H2 e2 q2 s2 => ?_
        cases o with
        | nx l2 => exact fun σ' L' => ⟨ρ2, l2, h2, L', q2, s2⟩
        | ct l2 => exact fun σ' L' => ⟨ρ2, l2, h2, L', q2, s2⟩
        | bk l2 => exact fun σ' L' => s2.ok q2 σ' L'
        | rt v => exact fun u ru => s2.ok q2 u ru
      | false =>
        rw [if_neg (by decide)] at s1
        exact iteF (s1.ok q1 σ L1)⟩
end

/-! ### what is walked -/
inductive Sr where
  | vals (xs : List Va) | lst (i : Nat) | enl (i : Nat) | zpl (i j : Nat)
def stp (h : Hea) (k : Nat) : Sr → Option (Option Va)
  | .vals xs => some xs[k]?
  | .lst i => match h.get i with
    | some (.lst xs) => some xs[k]?
    | _ => none
  | .enl i => match h.get i with
    | some (.lst xs) => some (xs[k]?.map fun v => .pr [.int k, v])
    | _ => none
  | .zpl i j => match h.get i with
    | some (.lst xs) => match h.get j with
      | some (.lst ys) => match xs[k]? with
        | some x => match ys[k]? with
          | some y => some (some (.pr [x, y]))
          | none => some none
        | none => some none
      | _ => none
    | _ => none
/-- an iterator and what we say of it -/
structure Tie (K : FW) (J : It) (src : Sr) (C : List Addr → Hp → Prop) : Prop where
  ext : ∀ ρ H ρ' H', C ρ H → Ext K ρ H ρ' H' → C ρ' H'
  stop : ∀ k h ρ H, C ρ H → HR K ρ h H → stp h k src = some none → J.stop k H
  go : ∀ k h ρ H v, C ρ H → HR K ρ h H → stp h k src = some (some v) → J.go k H ∧ ∀ x H', J.yld k H x H' → Ext K ρ H ρ H' ∧ HR K ρ h H' ∧ RV K ρ H' v x
abbrev Ix := Lo → M Sr
def tI (K : FW) (W : XW) (A : Ix) : TI := fun σ H R => ∃ ρ l h, LR K ρ H l σ ∧ HR K ρ h H ∧ sat K W ρ H (A l h) (fun src h' ρ' H' => ∀ J C, Tie K J src C → C ρ' H' → R J H')
structure IX (W : XW) (X : Cx) (tg iter : Expr) (A : Ix) : Prop where
  pi : PI X tg iter (tI X.fw W A)
theorem PI.weak {X : Cx} {tg e : Expr} {t t' : TI} (h : PI X tg e t) (f : ∀ σ H R, t' σ H R → t σ H R) : PI X tg e t' := ⟨fun pins s σ H R I q => h.run pins s σ H R I (f σ H R q)⟩
theorem pi_either {X : Cx} {tg e : Expr} {t t' : TI} (h1 : PI X tg e t) (h2 : PI X tg e t') : PI X tg e (fun σ H R => t σ H R ∨ t' σ H R) := ⟨fun pins s σ H R I q => q.elim (h1.run pins s σ H R I) (h2.run pins s σ H R I)⟩

def forS (src : Sr) (tg : Tg) (B : Sx) : Nat → Nat → Sx
  | 0, _, _, _ => .no
  | f + 1, k, l, h => match stp h k src with
    | none => .no
    | some none => .ok (.nx l) h
    | some (some v) => match bnd h tg v with
      | none => .no
      | some ups => (B (setL l ups) h).bind fun o h2 => match o with
        | .nx l2 => forS src tg B f (k + 1) l2 h2
        | .ct l2 => forS src tg B f (k + 1) l2 h2
        | .bk l2 => .ok (.nx l2) h2
        | .rt v => .ok (.rt v) h2
def sFor (I : Ix) (tg : Tg) (B : Sx) : Sx := fun l h => (I l h).bind fun src h1 => forS src tg B bigN 0 l h1
section
variable {W : XW} {X : Cx} {pos : Pos} {tgx iter : Expr} {body : List Stmt} {I : Ix} {tg : Tg} {B : Sx}
theorem forS_sound {K : FW} {J : It} {src : Sr} {C : List Addr → Hp → Prop} {D : Ends} (T : Tie K J src C) {fuel : Nat} {ρ : List Addr} {l : Lo} {h : Hea} {σ : L2.St} {H : Hp}
    (L : LR K ρ H l σ) (q : HR K ρ h H) (c : C ρ H) (s : sat K W ρ H (forS src tg B fuel 0 l h) (ouQ K D)) :
    ∃ V : Nat → Nat → L2.St → Hp → Prop, (∃ m, V 0 m σ H) ∧ ∀ i m σ H, V i m σ H →
      (J.stop i H ∧ D.nx σ H) ∨ (J.go i H ∧ ∃ N : L2.St → Hp → Prop, (∀ σ' H', N σ' H' → ∃ m', m' < m ∧ V (i + 1) m' σ' H') ∧ ∀ x H', J.yld i H x H' → tG K tg x σ H' fun σ2 H2 => tS K W B { D with nx := N, ct := N, bk := D.nx } σ2 H2) := by
  refine ⟨fun i m σ H => ∃ ρ l h, LR K ρ H l σ ∧ HR K ρ h H ∧ C ρ H ∧ sat K W ρ H (forS src tg B m i l h) (ouQ K D), ⟨fuel, ρ, l, h, L, q, c, s⟩, fun i m σ H ⟨ρ, l, h, L, q, c, s⟩ => ?_⟩
  cases m with
  | zero => exact False.elim s
  | succ m =>
    unfold forS at s
    cases e : stp h i src with
    | none => simp only [e] at s; exact False.elim s
    | some o =>
      cases o with
      | none =>
        simp only [e] at s
        exact .inl ⟨T.stop i h ρ H c q e, s.ok q σ L⟩
      | some v =>
        simp only [e] at s
        obtain ⟨go, y⟩ := T.go i h ρ H v c q e
        refine .inr ⟨go, fun σ' H' => ∃ ρ l h, LR K ρ H' l σ' ∧ HR K ρ h H' ∧ C ρ H' ∧ sat K W ρ H' (forS src tg B m (i + 1) l h) (ouQ K D), fun σ' H' z => ⟨m, Nat.lt_succ_self m, z⟩, fun x H' yx => ?_⟩
        obtain ⟨ex, q1, rx⟩ := y x H' yx
        have s1 := s.shift ex
        cases e2 : bnd h tg v with
        | none => simp only [e2] at s1; exact False.elim s1
        | some ups =>
          simp only [e2] at s1
          refine ⟨ρ, h, v, ups, q1, rx, e2, fun us U => ⟨ρ, setL l ups, h, (L.ext ex).setL U, q1, s1.bind.mono fun o h2 ρ2 H2 e2 q2 s2 => ?_⟩⟩
          have c2 := T.ext _ _ _ _ (T.ext _ _ _ _ c ex) e2
          cases o with
          | nx l2 => exact fun σ' L' => ⟨ρ2, l2, h2, L', q2, c2, s2⟩
          | ct l2 => exact fun σ' L' => ⟨ρ2, l2, h2, L', q2, c2, s2⟩
          | bk l2 => exact fun σ' L' => s2.ok q2 σ' L'
          | rt v => exact fun u ru => s2.ok q2 u ru
theorem sx_for (hp : PassesOwn (model X.prog X.w) X.A X.env X.xe) (hc : X.calm = true) (hi : IX W X tgx iter I) (hg : GX X tgx tg) (hb : SXs W X body B)
    (hs : ∀ x, foldedSetIterable iter X.env x = pure x := by intro _; rfl) : SX W X (.For tgx iter body [] pos) (sFor I tg B) :=
  ⟨PS.weak (ps_for hp hc hi.pi hg.pg hb.ps hs) fun D σ H ⟨ρ, l, h, L, q, s⟩ => ⟨ρ, l, h, L, q, s.bind.mono fun src h1 ρ1 H1 e1 q1 s1 J C T c => forS_sound T (L.ext e1) q1 c s1⟩⟩
end

/-! ### ties -/
section
variable {K : FW}
theorem tie_list {i : Nat} {a : Addr} : Tie K (Itl K a) (.lst i) (fun ρ _ => ρ[i]? = some a) := by
  refine ⟨fun ρ H ρ' H' c e => e.at c, fun k h ρ H c q e => ?_, fun k h ρ H v c q e => ?_⟩
  · unfold stp at e
    simp only at e
    split at e
    · rename_i xs g
      obtain ⟨p, us, ep, hp, h1, h2⟩ := q.lst (x := .ref a) ⟨a, rfl, c⟩ g
      cases ep
      refine ⟨us, SqL.of h1, ?_⟩
      have := Option.some.inj e
      rw [← h2.length]
      exact List.getElem?_eq_none_iff.mp this
    · cases e
  · unfold stp at e
    simp only at e
    split at e
    · rename_i xs g
      obtain ⟨p, us, ep, hp, h1, h2⟩ := q.lst (x := .ref a) ⟨a, rfl, c⟩ g
      cases ep
      obtain ⟨u, hu, ru⟩ := h2.get (Option.some.inj e)
      refine ⟨⟨us, u, SqL.of h1, hu⟩, fun x H' y => ?_⟩
      obtain ⟨rfl, y⟩ := y
      have := (y us (SqL.of h1)).symm.trans hu
      cases this
      exact ⟨Ext.refl, q, ru⟩
    · cases e
theorem tie_tup {xs : List Va} {a : Addr} : Tie K (Itt K a) (.vals xs) (fun ρ H => ∃ us, SqT K H a us ∧ RVs K ρ H xs us) := by
  refine ⟨fun ρ H ρ' H' ⟨us, c1, c2⟩ e => ⟨us, e.tup _ _ c1, RVs.ext e _ c2⟩, fun k h ρ H ⟨us, c1, c2⟩ q e => ?_, fun k h ρ H v ⟨us, c1, c2⟩ q e => ?_⟩
  · refine ⟨us, c1, ?_⟩
    have := Option.some.inj e
    rw [← c2.length]
    exact List.getElem?_eq_none_iff.mp this
  · obtain ⟨u, hu, ru⟩ := c2.get (Option.some.inj e)
    refine ⟨⟨us, u, c1, hu⟩, fun x H' y => ?_⟩
    obtain ⟨rfl, y⟩ := y
    have := (y us c1).symm.trans hu
    cases this
    exact ⟨Ext.refl, q, ru⟩
theorem tie_fl {xs : List Va} {a : Addr} : Tie K (Itl K a) (.vals xs) (fun ρ H => ∃ us, FzL K H a us ∧ RVs K ρ H xs us) := by
  refine ⟨fun ρ H ρ' H' ⟨us, c1, c2⟩ e => ⟨us, c1.elim (fun ⟨o, z⟩ => .inl ⟨o, e.fz _ _ _ z⟩) .inr, RVs.ext e _ c2⟩, fun k h ρ H ⟨us, c1, c2⟩ q e => ?_, fun k h ρ H v ⟨us, c1, c2⟩ q e => ?_⟩
  · refine ⟨us, c1.sq, ?_⟩
    have := Option.some.inj e
    rw [← c2.length]
    exact List.getElem?_eq_none_iff.mp this
  · obtain ⟨u, hu, ru⟩ := c2.get (Option.some.inj e)
    refine ⟨⟨us, u, c1.sq, hu⟩, fun x H' y => ?_⟩
    obtain ⟨rfl, y⟩ := y
    have := (y us c1.sq).symm.trans hu
    cases this
    exact ⟨Ext.refl, q, ru⟩
theorem tie_str {z : List Nat} : Tie K (Its ⟨z.toArray⟩) (.vals (z.map fun c => .str [c])) (fun _ _ => True) := by
  refine ⟨fun _ _ _ _ _ _ => trivial, fun k h ρ H c q e => ?_, fun k h ρ H v c q e => ?_⟩
  · have := List.getElem?_eq_none_iff.mp (Option.some.inj e)
    show z.toArray.size ≤ k
    simpa using this
  · have h1 := Option.some.inj e
    rw [List.getElem?_map] at h1
    cases g : z[k]? with
    | none => rw [g] at h1; cases h1
    | some c0 =>
      rw [g] at h1
      cases h1
      refine ⟨by show k < z.toArray.size; simpa using (List.getElem?_eq_some_iff.mp g).1, fun x H' y => ?_⟩
      obtain ⟨rfl, c2, h2, rfl⟩ := y
      have : c2 = c0 := by
        have h3 : z[k]? = some c2 := by simpa using h2
        rw [g] at h3
        cases h3
        rfl
      subst this
      exact ⟨Ext.refl, q, rfl⟩
def rangeV (lo : Int) (n : Nat) : List Va := (List.range n).map fun (i : Nat) => .int (lo + (i : Int))
theorem tie_range {lo : Int} {n : Nat} : Tie K (Itr lo n) (.vals (rangeV lo n)) (fun _ _ => True) := by
  refine ⟨fun _ _ _ _ _ _ => trivial, fun k h ρ H c q e => ?_, fun k h ρ H v c q e => ?_⟩
  · have := List.getElem?_eq_none_iff.mp (Option.some.inj e)
    show n ≤ k
    simpa [rangeV] using this
  · have h1 := Option.some.inj e
    unfold rangeV at h1
    rw [List.getElem?_map] at h1
    cases g : (List.range n)[k]? with
    | none => rw [g] at h1; cases h1
    | some c0 =>
      rw [g] at h1
      cases h1
      have g2 := List.getElem?_eq_some_iff.mp g
      obtain ⟨g3, g4⟩ := g2
      have e2 : c0 = k := by rw [← g4, List.getElem_range]
      subst e2
      refine ⟨by show c0 < n; simpa using g3, fun x H' y => ?_⟩
      obtain ⟨rfl, rfl⟩ := y
      exact ⟨Ext.refl, q, rfl⟩
end
/-- over a value: a list (as it stands at each turn), a tuple, a text -/
def iVal (A : Ex) : Ix := fun l h => (A l h).bind fun a h1 => match a with
  | .ref i => match h1.get i with
    | some (.lst _) => .ok (.lst i) h1
    | _ => .no
  | .tup xs => .ok (.vals xs) h1
  | .fl xs => .ok (.vals xs) h1
  | .str s => .ok (.vals (s.map fun c => .str [c])) h1
  | _ => .no
def iRange1 (A : Ax) : Ix := fun l h => (A l h).bind fun xs h1 => match xs with
  | [.int j] => if (decide (-1000000 < j) && decide (j < 1000000)) = true then .ok (.vals (rangeV 0 j.toNat)) h1 else .no
  | _ => .no
def iRange2 (A : Ax) : Ix := fun l h => (A l h).bind fun xs h1 => match xs with
  | [.int i, .int j] => if (decide (-1000000 < i) && (decide (i < 1000000) && (decide (-1000000 < j) && decide (j < 1000000)))) = true then .ok (.vals (rangeV i (j - i).toNat)) h1 else .no
  | _ => .no
section
variable {W : XW} {X : Cx} {tg e : Expr} {A : Ex} {B : Ax} {pos p : Pos}
theorem ix_val (ha : EX W X e A) : IX W X tg e (iVal A) := by
  refine ⟨PI.weak (pi_either (pi_list ha.pe) (pi_either (pi_tup ha.pe) (pi_str ha.pe))) fun σ H R ⟨ρ, l, h, L, q, s⟩ => ?_⟩
  cases e : A l h with
  | no => simp only [iVal, e, Rs.bind] at s; exact False.elim s
  | err c v h' => simp only [iVal, e, Rs.bind] at s; exact .inl ⟨ρ, l, h, L, q, by rw [e]; exact s⟩
  | ok a h' =>
    simp only [iVal, e, Rs.bind] at s
    cases a with
    | ref i =>
      refine .inl (tE.at L q e fun ρ1 H1 u x L1 q1 ru => ?_)
      cases g : h'.get i with
      | none => simp only [g] at s; exact False.elim s
      | some o =>
        cases o with
        | lst xs =>
          simp only [g] at s
          have s1 := (s.shift x).ok q1
          obtain ⟨p, us, rfl, hp, h1, h2⟩ := q1.lst ru g
          exact ⟨p, rfl, ⟨us, SqL.of h1⟩, s1 _ _ tie_list hp⟩
        | _ => simp only [g] at s; exact False.elim s
    | tup xs =>
      refine .inr (.inl (tE.at L q e fun ρ1 H1 u x L1 q1 ru => ?_))
      have s1 := (s.shift x).ok q1
      obtain ⟨p, us, rfl, h1, h2⟩ := ru
      exact ⟨p, rfl, ⟨us, h1.1⟩, s1 _ _ tie_tup ⟨us, h1.1, h2⟩⟩
    | fl xs =>
      refine .inl (tE.at L q e fun ρ1 H1 u x L1 q1 ru => ?_)
      have s1 := (s.shift x).ok q1
      obtain ⟨p, us, rfl, h1, h2⟩ := ru
      exact ⟨p, rfl, ⟨us, h1.sq (K := X.fw)⟩, s1 _ _ tie_fl ⟨us, .inl h1, h2⟩⟩
    | str z =>
      refine .inr (.inr (tE.at L q e fun ρ1 H1 u x L1 q1 ru => ?_))
      have s1 := (s.shift x).ok q1
      cases ru
      exact ⟨_, rfl, s1 _ _ tie_str trivial⟩
    | _ => exact False.elim s
theorem ix_range1 (hg : Gl X "range") (hm : X.mg "range" = none) (ha : AX W X [e] B) (hs : starEach [e] X.env = [(false, eval e X.env)] := by rfl) : IX W X tg (.Call (.Name "range" p) [e] [] pos) (iRange1 B) :=
  ⟨PI.weak (pi_range1 hg hm ha.pa hs) fun σ H R ⟨ρ, l, h, L, q, s⟩ => tA.go L q s fun xs h1 ρ1 H1 us e1 L1 q1 rs s1 => by
    match xs, rs with
    | [.int j], ⟨u, t, e1, r1, r2⟩ =>
      cases r2
      cases r1
      subst e1
      have s2 : sat X.fw W ρ1 H1 (if (decide (-1000000 < j) && decide (j < 1000000)) = true then .ok (.vals (rangeV 0 j.toNat)) h1 else .no) (fun src h' ρ' H' => ∀ J C, Tie X.fw J src C → C ρ' H' → R J H') := s1
      by_cases hz : (decide (-1000000 < j) && decide (j < 1000000)) = true
      · rw [if_pos hz] at s2
        simp only [Bool.and_eq_true, decide_eq_true_eq] at hz
        exact ⟨j, rfl, by omega, by omega, s2.ok q1 _ _ tie_range trivial⟩
      · rw [if_neg hz] at s2; exact False.elim s2
    | [], _ => exact False.elim s1
    | [.non], _ => exact False.elim s1
    | [.bl _], _ => exact False.elim s1
    | [.str _], _ => exact False.elim s1
    | [.tup _], _ => exact False.elim s1
    | [.ref _], _ => exact False.elim s1
    | [.fl _], _ => exact False.elim s1
    | [.pr _], _ => exact False.elim s1
    | x1 :: _ :: _, _ => cases x1 <;> exact False.elim s1⟩
theorem ix_range2 {e2 : Expr} (hg : Gl X "range") (hm : X.mg "range" = none) (ha : AX W X [e, e2] B) (hs : starEach [e, e2] X.env = [(false, eval e X.env), (false, eval e2 X.env)] := by rfl) (hs2 : starEach [e2] X.env = [(false, eval e2 X.env)] := by rfl) : IX W X tg (.Call (.Name "range" p) [e, e2] [] pos) (iRange2 B) :=
  ⟨PI.weak (pi_range2 hg hm ha.pa hs hs2) fun σ H R ⟨ρ, l, h, L, q, s⟩ => tA.go L q s fun xs h1 ρ1 H1 us e1 L1 q1 rs s1 => by
    have key : ∀ i j, xs = [.int i, .int j] → ∃ i j : Int, us = [.int i, .int j] ∧ (-(2 ^ 62) ≤ i ∧ i < 2 ^ 62 ∧ -(2 ^ 62) ≤ j ∧ j < 2 ^ 62) ∧ R (Itr i (j - i).toNat) H1 := fun i j ex => by
      subst ex
      obtain ⟨u, _, e1, r1, v, _, e2, r2, e3⟩ := rs
      subst e3 e2 e1
      cases r1
      cases r2
      have s2 : sat X.fw W ρ1 H1 (if (decide (-1000000 < i) && (decide (i < 1000000) && (decide (-1000000 < j) && decide (j < 1000000)))) = true then .ok (.vals (rangeV i (j - i).toNat)) h1 else .no) (fun src h' ρ' H' => ∀ J C, Tie X.fw J src C → C ρ' H' → R J H') := s1
      by_cases hz : (decide (-1000000 < i) && (decide (i < 1000000) && (decide (-1000000 < j) && decide (j < 1000000)))) = true
      · rw [if_pos hz] at s2
        simp only [Bool.and_eq_true, decide_eq_true_eq] at hz
        exact ⟨i, j, rfl, ⟨by omega, by omega, by omega, by omega⟩, s2.ok q1 _ _ tie_range trivial⟩
      · rw [if_neg hz] at s2; exact False.elim s2
    cases xs with
    | nil => exact False.elim s1
    | cons x1 r =>
      cases r with
      | nil => cases x1 <;> exact False.elim s1
      | cons x2 r =>
        cases x1 with
        | int i =>
          cases r with
          | nil =>
            cases x2 with
            | int j => exact key i j rfl
            | _ => exact False.elim s1
          | cons _ _ => cases x2 <;> exact False.elim s1
        | _ => exact False.elim s1⟩
end
end Rf

/-! Rf: comprehensions, stores, calls of defs, defs. -/
namespace Rf
open PySem PySem.Spec PyProof.Rows L2

/-! ### comprehensions -/
def Rs.solid {α : Type} : Rs α → Rs α
  | .ok a h => .ok a h
  | _ => .no
theorem sat.solid {K : FW} {W : XW} {ρ : List Addr} {H : Hp} {α β : Type} {r : Rs α} {f : α → Hea → Rs β} {Q : β → Hea → List Addr → Hp → Prop} (s : sat K W ρ H (r.solid.bind f) Q) : sat K XF ρ H r (fun a h1 ρ1 H1 => sat K W ρ1 H1 (f a h1) Q) := by
  cases r with
  | ok a h => exact fun ρ' H' e q => sat.shift e s
  | err c v h => exact False.elim s
  | no => exact False.elim s
theorem tE.goF {K : FW} {W : XW} {A : Ex} {ρ : List Addr} {l : Lo} {h : Hea} {σ : L2.St} {H : Hp} {β : Type} {f : Va → Hea → Rs β} {Q : β → Hea → List Addr → Hp → Prop} {R : VK}
    (L : LR K ρ H l σ) (r : HR K ρ h H) (s : sat K W ρ H ((A l h).solid.bind f) Q)
    (k : ∀ a h1 ρ1 H1 u, Ext K ρ H ρ1 H1 → LR K ρ1 H1 l σ → HR K ρ1 h1 H1 → RV K ρ1 H1 a u → sat K W ρ1 H1 (f a h1) Q → R u H1) : tE K XF A σ H R :=
  ⟨ρ, l, h, L, r, s.solid.mono fun a h1 ρ1 H1 e r1 s1 u ru => k a h1 ρ1 H1 u e (L.ext e) r1 ru s1⟩
theorem tT.goF {K : FW} {W : XW} {A : Tx} {ρ : List Addr} {l : Lo} {h : Hea} {σ : L2.St} {H : Hp} {β : Type} {f : Bool → Hea → Rs β} {Q : β → Hea → List Addr → Hp → Prop} {R : Bool → Hp → Prop}
    (L : LR K ρ H l σ) (r : HR K ρ h H) (s : sat K W ρ H ((A l h).solid.bind f) Q)
    (k : ∀ a h1 ρ1 H1, Ext K ρ H ρ1 H1 → LR K ρ1 H1 l σ → HR K ρ1 h1 H1 → sat K W ρ1 H1 (f a h1) Q → R a H1) : tT K XF A σ H R :=
  ⟨ρ, l, h, L, r, s.solid.mono fun a h1 ρ1 H1 e r1 s1 => k a h1 ρ1 H1 e (L.ext e) r1 s1⟩
def wipeL (l : Lo) : List Nat → Lo
  | [] => l
  | v :: vs => (wipeL l vs).set v none
theorem LR.wp {K : FW} {ρ : List Addr} {H : Hp} {l : Lo} {σ : L2.St} (L : LR K ρ H l σ) : ∀ vs : List Nat, LR K ρ H (wipeL l vs) (wipe σ vs)
  | [] => L
  | v :: vs => by
    have ih := LR.wp L vs
    refine ⟨by show ((wipeL l vs).set v none).length = ((wipe σ vs).set v none).length; rw [List.length_set, List.length_set]; exact ih.1, fun i a e => ?_⟩
    have e : ((wipeL l vs).set v none)[i]? = some (some a) := e
    show ∃ u, ((wipe σ vs).set v none)[i]? = some (some u) ∧ RV K ρ H a u
    by_cases h : v = i
    · subst h
      by_cases hl : v < (wipeL l vs).length
      · rw [List.getElem?_set_self hl] at e; cases e
      · rw [List.getElem?_eq_none (by simpa using hl)] at e; cases e
    · rw [List.getElem?_set_ne h] at e ⊢
      exact ih.2 i a e
mutual
def Tg.slots : Tg → List Nat
  | .nm i => [i]
  | .tp ts => Tg.slotss ts
def Tg.slotss : List Tg → List Nat
  | [] => []
  | t :: ts => t.slots ++ Tg.slotss ts
end
mutual
theorem bnd_slots {h : Hea} : ∀ (tg : Tg) (v : Va) (ups : List (Nat × Va)), bnd h tg v = some ups → ups.map (·.1) = tg.slots
  | .nm i, v, ups, e => by unfold bnd at e; cases e; rfl
  | .tp ts, v, ups, e => by
    unfold bnd at e
    cases q : seqV h v with
    | none => simp only [q] at e; cases e
    | some xs => simp only [q] at e; unfold Tg.slots; exact bnds_slots ts xs ups e
theorem bnds_slots {h : Hea} : ∀ (ts : List Tg) (xs : List Va) (ups : List (Nat × Va)), bnds h ts xs = some ups → ups.map (·.1) = Tg.slotss ts
  | [], [], ups, e => by unfold bnds at e; cases e; rfl
  | [], _ :: _, ups, e => by unfold bnds at e; cases e
  | _ :: _, [], ups, e => by unfold bnds at e; cases e
  | t :: ts, x :: xs, ups, e => by
    unfold bnds at e
    cases q : bnd h t x with
    | none => simp only [q] at e; cases e
    | some a =>
      simp only [q] at e
      cases q2 : bnds h ts xs with
      | none => simp only [q2] at e; cases e
      | some b =>
        simp only [q2] at e
        cases e
        rw [List.map_append, bnd_slots t x a q, bnds_slots ts xs b q2]
        rfl
end
theorem wipe_at (σ : L2.St) (j : Nat) : ∀ vs : List Nat, (wipe σ vs)[j]? = if j ∈ vs then σ[j]?.map (fun _ => none) else σ[j]?
  | [] => by simp [wipe]
  | v :: vs => by
    show ((wipe σ vs).set v none)[j]? = _
    rw [List.getElem?_set]
    by_cases e : v = j
    · subst e
      rw [if_pos rfl, if_pos List.mem_cons_self, wipe_length]
      by_cases hl : v < σ.length
      · rw [if_pos hl, List.getElem?_eq_getElem hl]; rfl
      · rw [if_neg hl, List.getElem?_eq_none (by simpa using hl)]; rfl
    · rw [if_neg e, wipe_at σ j vs]
      simp [Ne.symm e]
theorem wipe_set {σ : L2.St} {i : Nat} {x : Option V} {vs : List Nat} (h : i ∈ vs) : wipe (σ.set i x) vs = wipe σ vs := by
  refine List.ext_getElem? fun j => ?_
  rw [wipe_at, wipe_at]
  by_cases hj : j ∈ vs
  · rw [if_pos hj, if_pos hj, List.getElem?_set]
    by_cases e : i = j
    · subst e
      rw [if_pos rfl]
      by_cases hl : i < σ.length
      · rw [if_pos hl, List.getElem?_eq_getElem hl]; rfl
      · rw [if_neg hl, List.getElem?_eq_none (by simpa using hl)]
    · rw [if_neg e]
  · rw [if_neg hj, if_neg hj, List.getElem?_set_ne (fun e => hj (by rw [← e]; exact h))]
theorem wipe_setU {vs : List Nat} : ∀ {us : List (Nat × V)} {σ : L2.St}, (∀ p ∈ us, p.1 ∈ vs) → wipe (setU σ us) vs = wipe σ vs
  | [], _, _ => rfl
  | p :: r, σ, h => by
    show wipe (setU (σ.set p.1 (some p.2)) r) vs = _
    rw [wipe_setU fun q hq => h q (List.mem_cons_of_mem _ hq), wipe_set (h p List.mem_cons_self)]
theorem wipe_wipe (σ : L2.St) (vs : List Nat) : wipe (wipe σ vs) vs = wipe σ vs := by
  refine List.ext_getElem? fun j => ?_
  rw [wipe_at, wipe_at]
  by_cases hj : j ∈ vs
  · rw [if_pos hj, if_pos hj]
    cases σ[j]? <;> rfl
  · rw [if_neg hj, if_neg hj]
theorem ups_slots {K : FW} {ρ : List Addr} {H : Hp} : ∀ {ups : List (Nat × Va)} {us : List (Nat × V)}, Ups K ρ H ups us → us.map (·.1) = ups.map (·.1)
  | _, _, .nil => rfl
  | _, _, .cons e t => by rw [List.map_cons, List.map_cons, e.1, ups_slots t]
def tTrue : Tx := fun _ h => .ok true h
structure TSX (X : Cx) (ifs : List Expr) (T : Tx) : Prop where
  pt : PTs X ifs (tT X.fw XF T)
theorem PTs.weak {X : Cx} {e : List Expr} {t t' : TT} (h : PTs X e t) (f : ∀ σ H Q, t' σ H Q → t σ H Q) : PTs X e t' := ⟨fun pins s σ H Q I q => h.run pins s σ H Q I (f σ H Q q)⟩
theorem tsx_nil {X : Cx} : TSX X [] tTrue := ⟨PTs.weak pts_nil fun σ H Q ⟨ρ, l, h, L, q, s⟩ => s.ok q⟩
theorem tsx_one {X : Cx} {c : Expr} {T : Tx} (h : TX XF X c T) : TSX X [c] T := ⟨pts_one h.pt⟩
def lcS (src : Sr) (tg : Tg) (l0 : Lo) (T : Tx) (E : Ex) (d : Nat) : Nat → Nat → M Va
  | 0, _, _ => .no
  | f + 1, k, h => match stp h k src with
    | none => .no
    | some none => .ok (.ref d) h
    | some (some v) => match bnd h tg v with
      | none => .no
      | some ups => (T (setL l0 ups) h).solid.bind fun b h1 => if b = true then (E (setL l0 ups) h1).solid.bind fun y h2 => match h2.get d with
          | some (.lst acc) => if acc.length < sLine then lcS src tg l0 T E d f (k + 1) (h2.set d (.lst (acc ++ [y]))) else .no
          | _ => .no
        else lcS src tg l0 T E d f (k + 1) h1
def lcE (I : Ix) (tg : Tg) (vs : List Nat) (T : Tx) (E : Ex) : Ex := fun l h => (I l h).bind fun src h1 => lcS src tg (wipeL l vs) T E h1.n bigN 0 (h1.push (.lst []))
section
variable {K : FW} {W : XW} {tg : Tg} {T : Tx} {E : Ex} {vs : List Nat} {Q : VK}
theorem tE.lc {I : Ix} (hsl : (tg.slots.all fun i => vs.contains i) = true) : ∀ σ H Q, tE K W (lcE I tg vs T E) σ H Q → tLc (tI K W I) (tG K tg) (tT K XF T) (tE K XF E) vs σ H Q := fun σ H Q ⟨ρ, l, h, L, q, s⟩ => by
  refine ⟨ρ, l, h, L, q, s.bind.mono fun src h1 ρ1 H1 e1 q1 s1 J C Ti c D nD => ?_⟩
  have q2 : HR K (ρ1 ++ [D]) (h1.push (.lst [])) (upd H1 D (.lst [])) := q1.push nD ⟨[], upd_same, rfl⟩
  have s2 := s1.shift (Ext.newAt (o := .lst []) nD)
  have c2 := Ti.ext _ _ _ _ c (Ext.newAt (o := .lst []) nD)
  refine ⟨fun i m H => ∃ ρ h, ρ[h1.n]? = some D ∧ LR K ρ H (wipeL l vs) (wipe σ vs) ∧ HR K ρ h H ∧ C ρ H ∧ sat K W ρ H (lcS src tg (wipeL l vs) T E h1.n m i h) (rv K Q),
    ⟨bigN, ρ1 ++ [D], h1.push (.lst []), q1.atN, ((L.ext e1).ext (Ext.newAt nD)).wp vs, q2, c2, s2⟩, fun i m H ⟨ρ, h, hd, L, q, c, s⟩ => ?_⟩
  cases m with
  | zero => exact False.elim s
  | succ m =>
    unfold lcS at s
    cases e : stp h i src with
    | none => simp only [e] at s; exact False.elim s
    | some o =>
      cases o with
      | none =>
        simp only [e] at s
        exact .inl ⟨Ti.stop i h ρ H c q e, s.val q ⟨D, rfl, hd⟩⟩
      | some v =>
        simp only [e] at s
        obtain ⟨go, y⟩ := Ti.go i h ρ H v c q e
        refine .inr ⟨go, fun H' => ∃ ρ h, ρ[h1.n]? = some D ∧ LR K ρ H' (wipeL l vs) (wipe σ vs) ∧ HR K ρ h H' ∧ C ρ H' ∧ sat K W ρ H' (lcS src tg (wipeL l vs) T E h1.n m (i + 1) h) (rv K Q), fun H' z => ⟨m, Nat.lt_succ_self m, z⟩, fun x H' yx => ?_⟩
        obtain ⟨ex, q1, rx⟩ := y x H' yx
        have s1 := s.shift ex
        cases e2 : bnd h tg v with
        | none => simp only [e2] at s1; exact False.elim s1
        | some ups =>
          simp only [e2] at s1
          refine ⟨ρ, h, v, ups, q1, rx, e2, fun us U => ⟨?_, ?_⟩⟩
          · rw [wipe_setU fun p hp => ?_, wipe_wipe]
            have h3 : us.map (·.1) = tg.slots := (ups_slots U).trans (bnd_slots tg v ups e2)
            have h4 : p.1 ∈ tg.slots := h3 ▸ List.mem_map_of_mem hp
            have h5 := List.all_eq_true.mp hsl p.1 h4
            simpa using h5
          · refine tT.goF ((L.ext ex).setL U) q1 s1 fun b h2 ρ2 H2 e2 L2 q2 s2 => ?_
            have c2 := Ti.ext _ _ _ _ (Ti.ext _ _ _ _ c ex) e2
            have hd2 := e2.at (ex.at hd)
            cases b with
            | false =>
              rw [if_neg (by decide)] at s2
              exact iteF ⟨ρ2, h2, hd2, (L.ext ex).ext e2, q2, c2, s2⟩
            | true =>
              rw [if_pos rfl] at s2
              refine iteT (tE.goF L2 q2 s2 fun y h3 ρ3 H3 u e3 L3 q3 ru s3 => ?_)
              cases g : h3.get h1.n with
              | none => simp only [g] at s3; exact False.elim s3
              | some o =>
                cases o with
                | lst acc =>
                  simp only [g] at s3
                  by_cases hz : acc.length < sLine
                  · rw [if_pos hz] at s3
                    obtain ⟨p, ws, ep, hp, g1, g2⟩ := q3.lst (x := .ref D) ⟨D, rfl, e3.at hd2⟩ g
                    cases ep
                    have mu : Mut (H3 D) := by rw [g1]; trivial
                    have ew : Ext K ρ3 H3 ρ3 (upd H3 D (.lst (ws ++ [u]))) := Ext.write hp mu
                    refine ⟨ws, g1, by rw [← g2.length, ← sLine_eq]; exact hz, ρ3, h3.set h1.n (.lst (acc ++ [y])), hp, (((L.ext ex).ext e2).ext e3).ext ew, q3.write hp g mu ⟨ws ++ [u], upd_same, RVs.ext ew _ (g2.append (RVs.one ru))⟩, Ti.ext _ _ _ _ (Ti.ext _ _ _ _ c2 e3) ew, s3.shift ew⟩
                  · rw [if_neg hz] at s3; exact False.elim s3
                | _ => simp only [g] at s3; exact False.elim s3
end
section
variable {W : XW} {X : Cx} {pos : Pos} {elt tgx iter : Expr} {ifs : List Expr} {scope : Scope} {own : List (Str × Nat)} {I : Ix} {tg : Tg} {T : Tx} {E : Ex}
theorem ex_lc (vs : List Nat) (hv : own.map (·.2) = vs) (hc : X.calm = true) (hN : X.N.Nodup) (hi : IX W X tgx iter I) (ok : BlkOk X.N X.env.scope scope own) (hsl : (tg.slots.all fun i => vs.contains i) = true)
    (hg : ∀ (s : Shared) (H : Hp) (C : Addr) (cl : List (Str × Addr)) (fp : List Addr), GX (X.blk s H scope (compEnvC scope cl C X.env) fp) tgx tg) (ht : ∀ (s : Shared) (H : Hp) (C : Addr) (cl : List (Str × Addr)) (fp : List Addr), TSX (X.blk s H scope (compEnvC scope cl C X.env) fp) ifs T)
    (he : ∀ (s : Shared) (H : Hp) (C : Addr) (cl : List (Str × Addr)) (fp : List Addr), EX XF (X.blk s H scope (compEnvC scope cl C X.env) fp) elt E) (hs : ∀ x, foldedSetIterable iter X.env x = pure x := by intro _; rfl) :
    EX W X (.ListComp elt [⟨tgx, iter, ifs, 0⟩] scope pos) (lcE I tg vs T E) := by
  subst hv
  exact ⟨PE.weak (pe_lc hc hN hi.pi ok (fun s H C cl fp => (hg s H C cl fp).pg) (fun s H C cl fp => (ht s H C cl fp).pt) (fun s H C cl fp => (he s H C cl fp).pe) hs) (tE.lc hsl)⟩
theorem sx_setLc (i : Nat) {y : Str} {py spos : Pos} (vs : List Nat) (hv : own.map (·.2) = vs) (hc : X.calm = true) (hN : X.N.Nodup) (hy : X.N[i]? = some y) (hyl : X.env.scope.names.lookup y = some .local)
    (hsw : swapsWith (.ListComp elt [⟨tgx, iter, ifs, 0⟩] scope pos) (some (.Name y py)) spos.line X.env = pure true) (hi : IX W X tgx iter I) (ok : BlkOk X.N X.env.scope scope own) (hsl : (tg.slots.all fun i => vs.contains i) = true)
    (hg : ∀ (s : Shared) (H : Hp) (C : Addr) (cl : List (Str × Addr)) (fp : List Addr), GX (X.blk s H scope (compEnvC scope cl C X.env) fp) tgx tg) (ht : ∀ (s : Shared) (H : Hp) (C : Addr) (cl : List (Str × Addr)) (fp : List Addr), TSX (X.blk s H scope (compEnvC scope cl C X.env) fp) ifs T)
    (he : ∀ (s : Shared) (H : Hp) (C : Addr) (cl : List (Str × Addr)) (fp : List Addr), EX XF (X.blk s H scope (compEnvC scope cl C X.env) fp) elt E) (hs : ∀ x, foldedSetIterable iter X.env x = pure x := by intro _; rfl) :
    SX W X (.Assign [.Name y py] (.ListComp elt [⟨tgx, iter, ifs, 0⟩] scope pos) spos) (sSet i (lcE I tg vs T E)) := by
  subst hv
  refine ⟨PS.weak (ps_setLc hc hN hy hyl hsw hi.pi ok (fun s H C cl fp => (hg s H C cl fp).pg) (fun s H C cl fp => (ht s H C cl fp).pt) (fun s H C cl fp => (he s H C cl fp).pe) hs) fun D σ H ⟨ρ, l, h, L, q, s⟩ => tE.lc hsl σ H _ ?_⟩
  exact tE.go L q s fun a h1 ρ1 H1 x e1 L1 q1 rx s1 => s1.ok q1 _ (L1.set rx)
end

/-! ### stores to a list's place -/
def stL (A B : Ex) (V : Ex) : Sx := fun l h => (V l h).bind fun v h1 => (A l h1).bind fun a h2 => (B l h2).bind fun i h3 => match a with
  | .ref p => match i with
    | .int k => match h3.get p with
      | some (.lst xs) => match ixN xs.length k with
        | some j => .ok (.nx l) (h3.set p (.lst (xs.set j v)))
        | none => .no
      | _ => .no
    | _ => .no
  | _ => .no
section
variable {W : XW} {X : Cx} {pos spos : Pos} {o i e : Expr} {A B V : Ex}
theorem sx_stL (ha : EX W X o A) (hb : EX W X i B) (hv : EX W X e V) (hs : swapsWithSole [.Subscript o i spos] e pos.line X.env = pure false := by rfl) (hw : swappedStores [.Subscript o i spos] e X.env = pure none := by rfl)
    (h1 : (assignEach [.Subscript o i spos] X.env).map (·.2) = [assign (.Subscript o i spos) X.env] := by rfl)
    (hx : ∀ v, assign (.Subscript o i spos) X.env v = (do
      let ov ← holding [v] (eval o X.env)
      let iv ← holding [v, ov] (eval i X.env)
      standAt spos
      holding [v, ov, iv] (setItem ov iv v)
      release [v, ov, iv] []) := by intro _; rfl) : SX W X (.Assign [.Subscript o i spos] e pos) (stL A B V) :=
  ⟨PS.weak (ps_asg hv.pe (pg_sub ha.pe hb.pe set_list hx) hs hw h1) fun D σ H ⟨ρ, l, h, L, q, s⟩ => tE.go L q s fun v h1 ρ1 H1 u e1 L1 q1 ru s1 => tE.go L1 q1 s1 fun a h2 ρ2 H2 x e2 L2 q2 rx s2 => tE.go L2 q2 s2 fun i h3 ρ3 H3 y e3 L3 q3 ry s3 => by
    have rx := RV.ext e3 a rx
    have ru := RV.ext (e2.trans e3) v ru
    cases a with
    | ref p =>
      cases i with
      | int k =>
        cases ry
        cases g : h3.get p with
        | none => simp only [g] at s3; exact False.elim s3
        | some o =>
          cases o with
          | lst xs =>
            simp only [g] at s3
            cases e : ixN xs.length k with
            | none => simp only [e] at s3; exact False.elim s3
            | some j =>
              simp only [e] at s3
              obtain ⟨p', us, rfl, hp, g1, g2⟩ := q3.lst rx g
              have mu : Mut (H3 p') := by rw [g1]; trivial
              exact ⟨p', us, k, j, rfl, rfl, g1, by rw [← g2.length]; exact e, s3 _ _ (Ext.write hp mu) (q3.write hp g mu ⟨us.set j u, upd_same, RVs.ext (Ext.write hp mu) _ (RVs.set ru j g2)⟩) σ (L3.ext (Ext.write hp mu))⟩
          | _ => simp only [g] at s3; exact False.elim s3
      | _ => exact False.elim s3
    | _ => exact False.elim s3⟩
end

/-! ### name op= e -/
def sAug (i : Nat) (F : Va → Va → M Va) (A : Ex) : Sx := fun l h => match l[i]? with
  | some (some x) => (A l h).bind fun y h1 => (F x y h1).bind fun z h2 => .ok (.nx (l.set i (some z))) h2
  | _ => .no
section
variable {W : XW} {X : Cx} {pos pos' : Pos} {e : Expr} {A : Ex} {F : Va → Va → M Va} {r : TIp} {op : Operator} {x : Str}
theorem sx_aug (i : Nat) (hp : ∀ te, PE X e te → PS X (.AugAssign (.Name x pos') op e pos) (tAug i te r)) (hs : S2 X.fw W F r) (ha : EX W X e A) : SX W X (.AugAssign (.Name x pos') op e pos) (sAug i F A) :=
  ⟨PS.weak (hp _ ha.pe) fun D σ H ⟨ρ, l, h, L, q, s⟩ => by
    unfold sAug at s
    split at s
    · rename_i v e
      obtain ⟨u, h1, h2⟩ := L.2 i v e
      exact ⟨u, h1, tE.go L q s fun y h1 ρ1 H1 w e1 L1 q1 rw' s1 => hs ρ1 h1 H1 v y u w _ q1 (RV.ext e1 v h2) rw' (s1.bind.mono fun z h2 ρ2 H2 e2 q2 s2 t rt => s2.ok q2 _ ((L1.ext e2).set rt))⟩
    · exact False.elim s⟩
end
def rIAdd : R2 := fun x y H Q => rI0 (fun i j => .int (i + j)) x y H Q ∨ (∃ i j, x = .str i ∧ y = .str j ∧ i.length + j.length ≤ sizeLine ∧ Q (.str (i ++ j)) H)
theorem ip_addA {X : Cx} : PIp X .Add rIAdd := iop_add.or iop_add_str
def vIAdd (a b : Va) : M Va := fun h => match a with
  | .int i => match b with
    | .int j => .ok (.int (i + j)) h
    | _ => .no
  | .str s => match b with
    | .str t => if s.length + t.length ≤ sLine then .ok (.str (s ++ t)) h else .no
    | _ => .no
  | _ => .no
theorem s_iadd {K : FW} {W : XW} : S2 K W vIAdd rIAdd := fun ρ h H a b x y Q q rx ry s => by
  cases a with
  | int i =>
    cases rx
    cases b with
    | int j => cases ry; exact .inl ⟨i, j, rfl, rfl, s.val q rfl⟩
    | _ => exact False.elim s
  | str z =>
    cases rx
    cases b with
    | str t =>
      cases ry
      have s' : sat K W ρ H (if z.length + t.length ≤ sLine then .ok (.str (z ++ t)) h else .no) (rv K Q) := s
      by_cases hz : z.length + t.length ≤ sLine
      · rw [if_pos hz] at s'
        refine .inr ⟨_, _, rfl, rfl, ?_, s'.val q ?_⟩
        · rw [← sLine_eq, len_S, len_S]; exact hz
        · show V.str _ = V.str _
          rw [str_app]
      · rw [if_neg hz] at s'; exact False.elim s'
    | _ => exact False.elim s
  | _ => exact False.elim s
def vISub : Va → Va → M Va := iop fun i j => .int (i - j)

/-! ### xs[i] op= e -/
/-- o[i], by values: a list, a place from 0 on -/
def rGetL (K : FW) : V → V → Hp → VK → Prop := fun o i H Q => ∃ p xs k v, o = .ref p ∧ i = .int k ∧ SqL K H p xs ∧ 0 ≤ k ∧ k < 1000000000 ∧ xs[k.toNat]? = some v ∧ Q v H
theorem get_listP {X : Cx} : PGet X (rGetL X.fw) := by
  intro pins s σ H o i ov iv Q I ro ri h
  obtain ⟨p, xs, k, v, rfl, rfl, hx, h0, h1, e, q⟩ := h
  cases ro
  obtain ⟨t, rfl⟩ := ri
  obtain ⟨its, rv, pl, hz⟩ := I.list hx
  obtain ⟨u, hu, ru⟩ := rv.get e
  exact wpAny_getItem_list pl.isList h0 (by omega) (by simpa using hu) ⟨v, H, I, ru, q⟩
/-- xs[i] op= e -/
def augL (A B : Ex) (F : Va → Va → M Va) (V : Ex) : Sx := fun l h => (A l h).bind fun a h1 => (B l h1).bind fun i h2 => match a with
  | .ref p => match i with
    | .int k => match h2.get p with
      | some (.lst xs) => if (decide (0 ≤ k) && decide (k < 1000000000)) = true then (match xs[k.toNat]? with
        | some old => (V l h2).bind fun v h3 => (F old v h3).bind fun new h4 => match h4.get p with
          | some (.lst ys) => match ixN ys.length k with
            | some j => .ok (.nx l) (h4.set p (.lst (ys.set j new)))
            | none => .no
          | _ => .no
        | none => .no) else .no
      | _ => .no
    | _ => .no
  | _ => .no
section
variable {W : XW} {X : Cx} {pos tpos : Pos} {o i e : Expr} {A B V : Ex} {F : Va → Va → M Va} {r : TIp} {op : Operator}
theorem sx_augL (hp : PIp X op r) (hs : S2 X.fw W F r) (ha : EX W X o A) (hb : EX W X i B) (hv : EX W X e V)
    (hx : ∀ ov iv new, augStore i ov iv new = (do holding [new, ov, iv] (setItem ov iv new); release [new, ov, iv] []; pure .next) := by intros; rfl) : SX W X (.AugAssign (.Subscript o i tpos) op e pos) (augL A B F V) :=
  ⟨PS.weak (ps_augS ha.pe hb.pe get_listP hv.pe hp set_list hx) fun D σ H ⟨ρ, l, h, L, q, s⟩ => tE.go L q s fun a h1 ρ1 H1 x e1 L1 q1 rx s1 => tE.go L1 q1 s1 fun i h2 ρ2 H2 y e2 L2 q2 ry s2 => by
    have rx := RV.ext e2 a rx
    cases a with
    | ref p =>
      cases i with
      | int k =>
        cases ry
        cases g : h2.get p with
        | none => simp only [g] at s2; exact False.elim s2
        | some ob =>
          cases ob with
          | lst xs =>
            simp only [g] at s2
            by_cases hz : (decide (0 ≤ k) && decide (k < 1000000000)) = true
            · rw [if_pos hz] at s2
              simp only [Bool.and_eq_true, decide_eq_true_eq] at hz
              cases e : xs[k.toNat]? with
              | none => simp only [e] at s2; exact False.elim s2
              | some old =>
                simp only [e] at s2
                obtain ⟨p', us, rfl, hp, g1, g2⟩ := q2.lst rx g
                obtain ⟨u, hu, ru⟩ := g2.get e
                refine ⟨p', us, k, u, rfl, rfl, SqL.of g1, hz.1, hz.2, hu, tE.go L2 q2 s2 fun v h3 ρ3 H3 w e3 L3 q3 rw' s3 => hs ρ3 h3 H3 old v u w _ q3 (RV.ext e3 old ru) rw' (s3.bind.mono fun new h4 ρ4 H4 e4 q4 s4 t rt => ?_)⟩
                have rx4 := RV.ext (e3.trans e4) _ rx
                cases g' : h4.get p with
                | none => simp only [g'] at s4; exact False.elim s4
                | some ob =>
                  cases ob with
                  | lst ys =>
                    simp only [g'] at s4
                    cases ej : ixN ys.length k with
                    | none => simp only [ej] at s4; exact False.elim s4
                    | some j =>
                      simp only [ej] at s4
                      obtain ⟨p2, us2, ep, hp2, g3, g4⟩ := q4.lst rx4 g'
                      cases ep
                      have mu : Mut (H4 p') := by rw [g3]; trivial
                      exact ⟨p', us2, k, j, rfl, rfl, g3, by rw [← g4.length]; exact ej, s4 _ _ (Ext.write hp2 mu) (q4.write hp2 g' mu ⟨us2.set j t, upd_same, RVs.ext (Ext.write hp2 mu) _ (RVs.set rt j g4)⟩) σ ((L3.ext e4).ext (Ext.write hp2 mu))⟩
                  | _ => simp only [g'] at s4; exact False.elim s4
            · rw [if_neg hz] at s2; exact False.elim s2
          | _ => simp only [g] at s2; exact False.elim s2
      | _ => exact False.elim s2
    | _ => exact False.elim s2⟩
end

/-! ### defs and their calls -/
/-- a def by its body: n slots -/
def fnM (n : Nat) (B : Sx) : Fn := fun args h => (B (args.map some ++ List.replicate (n - args.length) none) h).bind fun o h1 => match o with
  | .rt v => .ok v h1
  | .nx _ => .ok .non h1
  | _ => .no
/-- what a def promises: what our function comes to -/
def spM (K : FW) (n : Nat) (m : Fn) : Sp := fun vs H Q _ => ∃ ρ h args, HR K ρ h H ∧ RVs K ρ H args vs ∧ args.length = n ∧ sat K XF ρ H (m args h) (rv K Q)
def pick {α : Type} (perm : List Nat) (ws : List α) : List α := perm.filterMap (ws[·]?)
structure Callee (P : Program) (w : World) (K : PySem.W.Frag) (mg : Str → Option Value) (base : Heap) (x : Str) (st : Stmt) (ps : List Str) (k : Nat) (m : Fn) : Prop where
  ex : ∃ (f : Addr) (fd : FuncData), mg x = some (.ref f) ∧ FnOk P w K mg base CX0 k f fd ps (spM ⟨K, P, w⟩ ps.length m) ∧ Fun K x x st f fd
  bind : ∀ (kV doc pm : Value) (an : Option Addr) (cdv ct : Value) (us : List Value), us.length = ps.length → bindArgs (PySem.W.fnOf x x (defArgs st) (defBody st) (defScope st) .none kV doc pm an cdv ct) ⟨us, []⟩ = pure (ps.zip us)
theorem start_rel {K : FW} {ρ : List Addr} {H : Hp} {args : List Va} {vs : List V} {N : List Str} {n : Nat} (hn : N.length = n) (hl : args.length ≤ n) (r : RVs K ρ H args vs) : LR K ρ H (args.map some ++ List.replicate (n - args.length) none) (L2.start N vs) := by
  subst hn
  have el := r.length
  refine ⟨?_, fun i a e => ?_⟩
  · unfold L2.start
    rw [List.length_append, List.length_append, List.length_map, List.length_map, List.length_replicate, List.length_replicate, el]
  · unfold L2.start
    by_cases hi : i < args.length
    · rw [List.getElem?_append_left (by simpa using hi), List.getElem?_map] at e
      rw [List.getElem?_append_left (by simpa [← el] using hi), List.getElem?_map]
      cases q : args[i]? with
      | none => rw [q] at e; cases e
      | some b =>
        rw [q] at e
        cases e
        obtain ⟨u, hu, ru⟩ := r.get q
        exact ⟨u, by rw [hu]; rfl, ru⟩
    · rw [List.getElem?_append_right (by simpa using hi), List.getElem?_replicate] at e
      split at e <;> cases e
theorem Callee.mk' {P : Program} {w : World} {K : PySem.W.Frag} {mg : Str → Option Value} {base : Heap} {x : Str} {st : Stmt} {f : Addr} {fd : FuncData} {N ps : List Str} {k n : Nat} {B : Sx} (F : Fun K x x st f fd) (hm : mg x = some (.ref f)) (S : FnScope N ps (defScope st)) (hn : N.length = n) (hps : ps.length ≤ n)
    (hb : ∀ (kV doc pm : Value) (an : Option Addr) (cdv ct : Value) (us : List Value), us.length = ps.length → bindArgs (PySem.W.fnOf x x (defArgs st) (defBody st) (defScope st) .none kV doc pm an cdv ct) ⟨us, []⟩ = pure (ps.zip us))
    (body : ∀ (cdv : Value) (A : Around) (outer : List Env) (s : Shared) (H : Hp) (E : XK), Room k (A.deeper (envOfC x (defScope st) s.heap.objs.size f cdv)) → SXs XF (cxOf CX0 P w K mg base N x (defScope st) f cdv A outer s H E).nox (defBody st) B) :
    Callee P w K mg base x st ps (k + 1) (fnM n B) := by
  refine ⟨⟨f, fd, hm, F.ok S (fun vs H Q E ⟨ρ, h, args, q, r, hl, s⟩ => r.length.symm.trans hl) (fun cdv A outer s H vs Q E hr ⟨ρ, h, args, q, r, hl, sa⟩ => ⟨_, (body cdv A outer s H E hr).ps, ρ, _, h, start_rel hn (by omega) r, q, ?_⟩), F⟩, hb⟩
  have sa : sat ⟨K, P, w⟩ XF ρ H ((B (args.map some ++ List.replicate (n - args.length) none) h).bind fun o h1 => match o with
    | .rt v => .ok v h1
    | .nx _ => .ok .non h1
    | _ => .no) (rv ⟨K, P, w⟩ Q) := sa
  refine sa.bind.mono fun o h1 ρ1 H1 e1 q1 s1 => ?_
  cases o with
  | rt v => exact fun u ru => s1.ok q1 u ru
  | nx l => exact fun σ' _ => s1.ok q1 _ rfl
  | bk l => exact False.elim s1
  | ct l => exact False.elim s1
def callF (n : Nat) (m : Fn) (B : Ax) : Ex := fun l h => (B l h).bind fun xs h1 => if xs.length = n then (m xs h1).solid else .no
/-- with keywords: their values by the parameters' order -/
def callK (n j : Nat) (perm : List Nat) (m : Fn) (B C : Ax) : Ex := fun l h => (B l h).bind fun xs h1 => (C l h1).bind fun ys h2 => if xs.length = j then (if ys.length = perm.length then (if (xs ++ pick perm ys).length = n then (m (xs ++ pick perm ys) h2).solid else .no) else .no) else .no
section
variable {X : Cx} {x : Str} {p pos : Pos} {st : Stmt} {ps ks : List Str} {k : Nat} {m : Fn} {e : Expr} {es : List Expr} {kws : List Keyword} {B : Ax}
theorem ex_call {W : XW} (c : Callee X.prog X.w X.fw X.mg X.base x st ps k m) (hr : Room k X.A) (hg : Gl X x) (ha : AX W X (e :: es) B) {n : Nat} (hn : ps.length = n := by rfl) (hdb : (x == ("__debug__" : Str)) = false := by decide)
    (he : starEach (e :: es) X.env = (false, eval e X.env) :: starEach es X.env := by rfl) (hpl : (backTo pos (starEach es X.env)).any (·.1) = false := by rfl) : EX W X (.Call (.Name x p) (e :: es) [] pos) (callF n m B) := by
  subst hn
  obtain ⟨f, fd, hm, F, Fu⟩ := c.ex
  refine ⟨PE.weak (pe_call F hr hg hm Fu.kp (Fu.binds c.bind) .nil pass0 ha.pa hdb he hpl) fun σ H Q ⟨ρ, l, h, L, q, s⟩ => tA.go L q s fun xs h1 ρ1 H1 us e1 L1 q1 rs s1 => ?_⟩
  by_cases hz : xs.length = ps.length
  · rw [if_pos hz] at s1
    refine ⟨ρ1, h1, xs, q1, by rw [List.append_nil]; exact rs, hz, ?_⟩
    cases e : m xs h1 with
    | ok a h' => rw [e] at s1; exact s1
    | err c v h' => rw [e] at s1; exact False.elim s1
    | no => rw [e] at s1; exact False.elim s1
  · rw [if_neg hz] at s1; exact False.elim s1
theorem RVs.pick {K : FW} {ρ : List Addr} {H : Hp} {ys : List Va} {us : List V} (r : RVs K ρ H ys us) : ∀ perm : List Nat, RVs K ρ H (Rf.pick perm ys) (Rf.pick perm us)
  | [] => rfl
  | j :: perm => by
    have ih := RVs.pick r perm
    unfold Rf.pick at ih ⊢
    rw [List.filterMap_cons, List.filterMap_cons]
    cases e : ys[j]? with
    | none =>
      have := r.none_of e
      simp only [this]
      exact ih
    | some y =>
      obtain ⟨u, hu, ru⟩ := r.get e
      simp only [hu]
      exact ⟨u, _, rfl, ru, ih⟩
theorem Vals.pick {vs : List V} {us : List Value} (r : Vals vs us) : ∀ perm : List Nat, Vals (Rf.pick perm vs) (Rf.pick perm us)
  | [] => .nil
  | j :: perm => by
    have ih := Vals.pick r perm
    unfold Rf.pick at ih ⊢
    rw [List.filterMap_cons, List.filterMap_cons]
    cases e : vs[j]? with
    | none =>
      have := Vals.none_of r e
      simp only [this]
      exact ih
    | some y =>
      obtain ⟨u, hu, ru⟩ := L2.Vals.get r e
      simp only [hu]
      exact .cons ru ih
theorem kbn_of {K : FW} {f : Addr} {fd : FuncData} {j : Nat} {perm : List Nat} (F : Fun K x x st f fd) (hp : ks.length = perm.length)
    (h : ∀ (kV doc pm : Value) (an : Option Addr) (cdv ct : Value) (us ws : List Value), us.length = j → ws.length = perm.length → bindArgs (PySem.W.fnOf x x (defArgs st) (defBody st) (defScope st) .none kV doc pm an cdv ct) ⟨us, ks.zip ws⟩ = pure (ps.zip (us ++ pick perm ws))) :
    KBn K fd ps j ks (fun us ws => us ++ pick perm ws) (fun vs zs => vs ++ pick perm zs) := by
  obtain ⟨oc, od, kV, doc, pm, an, cdv, ct, osl, rfl, lk, hcd⟩ := F.ex
  exact ⟨fun s us ws _ h1 h2 => .of_eq (h kV doc pm an cdv ct us ws h1 (h2.trans hp)), fun r1 r2 => r1.append (Vals.pick r2 perm)⟩
structure KX (W : XW) (X : Cx) (kws : List Keyword) (A : Ax) : Prop where
  pk : PK X kws (tA X.fw W A)
theorem PK.weak {X : Cx} {e : List Keyword} {t t' : TA} (h : PK X e t) (f : ∀ σ H Q, t' σ H Q → t σ H Q) : PK X e t' := ⟨fun p pins s σ H Q I q => h.run p pins s σ H Q I (f σ H Q q)⟩
theorem kx_nil {W : XW} : KX W X [] aNil := ⟨PK.weak pk_nil fun σ H Q ⟨ρ, l, h, L, q, s⟩ => s.ok q [] rfl⟩
theorem kx_cons {W : XW} {nm : Option Str} {kpos : Pos} {A : Ex} (ha : EX W X e A) (hb : KX W X kws B) : KX W X (⟨nm, e, kpos⟩ :: kws) (aCons A B) :=
  ⟨PK.weak (pk_cons ha.pe hb.pk) fun σ H Q ⟨ρ, l, h, L, q, s⟩ => tE.go L q s fun a h1 ρ1 H1 x e1 L1 q1 rx s1 => tA.go L1 q1 s1 fun xs h2 ρ2 H2 us e2 L2 q2 rs s2 => s2.ok q2 (x :: us) ⟨x, us, rfl, RV.ext e2 a rx, rs⟩⟩
theorem pe_callN0 {CX : CXT} {f : Addr} {fd : FuncData} {sp : Sp} {E : XK} {tk : TA} {g : List Value → List Value → List Value} {gV : List V → List V → List V} (F : FnOk X.prog X.w X.fw X.mg X.base CX k f fd ps sp) (hr : Room k X.A) (hg : Gl X x) (hm : X.mg x = some (.ref f)) (hk : PySem.W.keepIn X.fw (.ref f) = true) (hb : KBn X.fw fd ps 0 ks g gV) (hx : Passes CX X E)
    (hkw : PK X kws tk) (hall : (backToKw pos (keywordEach kws X.env)).all (·.1.isSome) = true := by rfl) (hks : (backToKw pos (keywordEach kws X.env)).filterMap (·.1) = ks := by rfl)
    (hdb : (x == ("__debug__" : Str)) = false := by decide)
    (hpl : ((backTo pos (starEach [] X.env)).any (·.1) || (backToKw pos (keywordEach kws X.env)).any (·.1.isNone)) = false := by rfl) :
    PE X (.Call (.Name x p) [] kws pos) (tCallN 0 ks.length sp gV E tNil tk) := by
  refine ⟨fun pins s σ H Q I h => ?_⟩
  refine wpAny_Call_Name_kw (ld_glob I hg hm ?_ hdb)
  refine PySem.W.callWith_KW0 (h₀ := X.base) I.ok.mod.kin hk hall ?_ hpl
  refine thn (hkw.run pos pins s σ H _ I h) fun ws s2 ⟨zs, H2, I2, rz, l1, l2, q2⟩ => ⟨I2.kIn, ?_⟩
  rw [hks]
  exact run_fnN (us := []) (vs := []) F hr hb hx I2 .nil rz rfl l2 q2
theorem callK_go {W : XW} {σ : L2.St} {H : Hp} {Q : VK} {K : FW} {n j : Nat} {perm : List Nat} {C : Ax} {ρ : List Addr} {h2 : Hea} {xs ys : List Va} {vs zs : List V} (q : HR K ρ h2 H) (rx : RVs K ρ H xs vs) (ry : RVs K ρ H ys zs)
    (s : sat K W ρ H (if xs.length = j then (if ys.length = perm.length then (if (xs ++ pick perm ys).length = n then (m (xs ++ pick perm ys) h2).solid else .no) else .no) else .no) (rv K Q)) : vs.length = j ∧ zs.length = perm.length ∧ spM K n m (vs ++ pick perm zs) H Q E0 := by
  by_cases h1 : xs.length = j
  · rw [if_pos h1] at s
    by_cases h3 : ys.length = perm.length
    · rw [if_pos h3] at s
      by_cases h4 : (xs ++ pick perm ys).length = n
      · rw [if_pos h4] at s
        refine ⟨rx.length.symm.trans h1, ry.length.symm.trans h3, ρ, h2, xs ++ pick perm ys, q, rx.append (ry.pick perm), h4, ?_⟩
        cases e : m (xs ++ pick perm ys) h2 with
        | ok a h' => rw [e] at s; exact s
        | err c v h' => rw [e] at s; exact False.elim s
        | no => rw [e] at s; exact False.elim s
      · rw [if_neg h4] at s; exact False.elim s
    · rw [if_neg h3] at s; exact False.elim s
  · rw [if_neg h1] at s; exact False.elim s
theorem ex_callK0 {W : XW} {C : Ax} (perm : List Nat) (c : Callee X.prog X.w X.fw X.mg X.base x st ps k m) (hr : Room k X.A) (hg : Gl X x) (hkw : KX W X kws C) (hp : ks.length = perm.length)
    (h : ∀ (kV doc pm : Value) (an : Option Addr) (cdv ct : Value) (us ws : List Value), us.length = 0 → ws.length = perm.length → bindArgs (PySem.W.fnOf x x (defArgs st) (defBody st) (defScope st) .none kV doc pm an cdv ct) ⟨us, ks.zip ws⟩ = pure (ps.zip (us ++ pick perm ws)))
    (hall : (backToKw pos (keywordEach kws X.env)).all (·.1.isSome) = true := by rfl) (hks : (backToKw pos (keywordEach kws X.env)).filterMap (·.1) = ks := by rfl) (hdb : (x == ("__debug__" : Str)) = false := by decide)
    (hpl : ((backTo pos (starEach [] X.env)).any (·.1) || (backToKw pos (keywordEach kws X.env)).any (·.1.isNone)) = false := by rfl) {n : Nat} (hn : ps.length = n := by rfl) : EX W X (.Call (.Name x p) [] kws pos) (callK n 0 perm m aNil C) := by
  subst hn
  obtain ⟨f, fd, hm, F, Fu⟩ := c.ex
  refine ⟨PE.weak (pe_callN0 F hr hg hm Fu.kp (kbn_of Fu hp h) pass0 hkw.pk hall hks hdb hpl) fun σ H Q ⟨ρ, l, h, L, q, s⟩ => tA.go L q s fun ys h2 ρ2 H2 us e2 L2 q2 ry s2 => ?_⟩
  have := callK_go (σ := σ) (C := C) q2 (xs := []) (vs := []) rfl ry s2
  exact ⟨rfl, this.2.1.trans hp.symm, this.2.2⟩
theorem ex_callK {W : XW} {C : Ax} (j : Nat) (perm : List Nat) (c : Callee X.prog X.w X.fw X.mg X.base x st ps k m) (hr : Room k X.A) (hg : Gl X x) (ha : AX W X (e :: es) B) (hkw : KX W X kws C) (hp : ks.length = perm.length)
    (h : ∀ (kV doc pm : Value) (an : Option Addr) (cdv ct : Value) (us ws : List Value), us.length = j → ws.length = perm.length → bindArgs (PySem.W.fnOf x x (defArgs st) (defBody st) (defScope st) .none kV doc pm an cdv ct) ⟨us, ks.zip ws⟩ = pure (ps.zip (us ++ pick perm ws)))
    (hall : (backToKw pos (keywordEach kws X.env)).all (·.1.isSome) = true := by rfl) (hks : (backToKw pos (keywordEach kws X.env)).filterMap (·.1) = ks := by rfl)
    (hdb : (x == ("__debug__" : Str)) = false := by decide) (he : starEach (e :: es) X.env = (false, eval e X.env) :: starEach es X.env := by rfl)
    (hpl : ((backTo pos (starEach (e :: es) X.env)).any (·.1) || (backToKw pos (keywordEach kws X.env)).any (·.1.isNone)) = false := by rfl) {n : Nat} (hn : ps.length = n := by rfl) : EX W X (.Call (.Name x p) (e :: es) kws pos) (callK n j perm m B C) := by
  subst hn
  obtain ⟨f, fd, hm, F, Fu⟩ := c.ex
  refine ⟨PE.weak (pe_callN F hr hg hm Fu.kp (kbn_of Fu hp h) pass0 ha.pa hkw.pk hall hks hdb he hpl) fun σ H Q ⟨ρ, l, h, L, q, s⟩ => tA.go L q s fun xs h1 ρ1 H1 vs e1 L1 q1 rx s1 => tA.go L1 q1 s1 fun ys h2 ρ2 H2 us e2 L2 q2 ry s2 => ?_⟩
  have := callK_go (σ := σ) (C := C) q2 (RVs.ext e2 _ rx) ry s2
  exact ⟨this.1, this.2.1.trans hp.symm, this.2.2⟩
end

/-! ### the law's own promise -/
def spLaw (K : FW) (m : Fn) : Sp := spM K 1 m
theorem spLaw_ok {m : Fn} (hm : ∀ ns : List Int, ns.length ≤ 63 → ∃ h', m [.sl (ns.map Va.int)] ⟨0, []⟩ = .ok (.bl true) h') {K : FW} {H : Hp} {a : Addr} {ns : List Int} (hl : ns.length ≤ 63) (hO : Only H) (hS : SqL K H a (ns.map V.int)) :
    spLaw K m [.ref a] H (fun v _ => v = .bl true) fun _ _ _ => False := by
  obtain ⟨h', e⟩ := hm ns hl
  have fz : FzL K H a (ns.map V.int) := by
    rcases hS with (h | ⟨o, h⟩) | h
    · rcases hO a with z | ⟨o, xs, z⟩
      · rw [h] at z; cases z
      · rw [h] at z; cases z
    · exact .inl ⟨o, h⟩
    · exact .inr h
  have rs : RVs K [] H (ns.map Va.int) (ns.map V.int) := by
    have : ∀ ns : List Int, RVs K [] H (ns.map Va.int) (ns.map V.int) := by
      intro ns
      induction ns with
      | nil => rfl
      | cons n r ih => exact ⟨_, _, rfl, rfl, ih⟩
    exact this ns
  refine ⟨[], ⟨0, []⟩, [.sl (ns.map Va.int)], ⟨rfl, List.nodup_nil, fun i a e => by simp at e, fun i o e => ?_⟩, ⟨_, [], rfl, ⟨a, _, rfl, fz, rs⟩, rfl⟩, rfl, ?_⟩
  · have := Hea.get_lt e
    exact absurd this (Nat.not_lt_zero _)
  · rw [e]
    exact fun ρ' H' _ _ u ru => ru
end Rf
namespace Rf
open PySem PySem.Spec PyProof.Rows L2
theorem hu65 {k : Nat} {A : Around} (r : Room k A) : A.units + 65 < cLine := by have := r.un; omega
theorem Callee.zero {P : Program} {w : World} {K : PySem.W.Frag} {mg : Str → Option Value} {base : Heap} {x : Str} {st : Stmt} {f : Addr} {fd : FuncData} {ps : List Str} {k : Nat} (F : Fun K x x st f fd) (hm : mg x = some (.ref f))
    (hb : ∀ (kV doc pm : Value) (an : Option Addr) (cdv ct : Value) (us : List Value), us.length = ps.length → bindArgs (PySem.W.fnOf x x (defArgs st) (defBody st) (defScope st) .none kV doc pm an cdv ct) ⟨us, []⟩ = pure (ps.zip us)) :
    Callee P w K mg base x st ps k (fun _ _ => .no) :=
  ⟨⟨f, fd, hm, ⟨fun vs H Q E ⟨ρ, h, args, q, r, hl, s⟩ => False.elim s, fun A outer s H args us vs Q E hr he hb r ⟨ρ, h, args', q, r', hl, s⟩ => False.elim s⟩, F⟩, hb⟩
end Rf
namespace Rf
open PySem PySem.Spec PyProof.Rows L2
section
variable {P : Program} {w : World} {K : PySem.W.Frag} {mg : Str → Option Value} {base : Heap} {x : Str} {st : Stmt} {f : Addr} {fd : FuncData} {ps : List Str} {k : Nat} {m : Fn}
theorem Fun.same {f' : Addr} {fd' : FuncData} (F : Fun K x x st f fd) (F' : Fun K x x st f' fd') (e : f' = f) : fd' = fd := by
  subst e
  obtain ⟨oc, od, kV, doc, pm, an, cdv, ct, osl, e1, lk, hcd⟩ := F.ex
  obtain ⟨oc', od', kV', doc', pm', an', cdv', ct', osl', e1', lk', hcd'⟩ := F'.ex
  rw [lk] at lk'
  injection lk' with q
  injection q with _ _ q2 _
  injection q2 with q3
  exact q3.symm
theorem Callee.fnOk (c : Callee P w K mg base x st ps k m) (F : Fun K x x st f fd) (hm : mg x = some (.ref f)) : FnOk P w K mg base CX0 k f fd ps (spM ⟨K, P, w⟩ ps.length m) := by
  obtain ⟨f', fd', hm', F', Fu'⟩ := c.ex
  have e : f' = f := by rw [hm] at hm'; injection hm' with q; injection q with q; exact q.symm
  have e2 := Fun.same F Fu' e
  subst e e2
  exact F'
theorem Fun.bindsTo (F : Fun K x x st f fd) (hb : ∀ (kV doc pm : Value) (an : Option Addr) (cdv ct : Value) (us : List Value), us.length = ps.length → bindArgs (PySem.W.fnOf x x (defArgs st) (defBody st) (defScope st) .none kV doc pm an cdv ct) ⟨us, []⟩ = pure (ps.zip us)) (s : Shared) (us : List Value) (h : us.length = ps.length) : BindsTo s fd ⟨us, []⟩ (ps.zip us) := by
  obtain ⟨oc, od, kV, doc, pm, an, cdv, ct, osl, rfl, lk, hcd⟩ := F.ex
  exact .of_eq (hb kV doc pm an cdv ct us h)
end
end Rf

/-! Rf: a loop whose turns leave no objects; what is asked of a computation. -/
namespace Rf
open PySem PySem.Spec PyProof.Rows L2

/-! ### a for whose turns' own objects are forgotten -/
mutual
def okV (n : Nat) : Va → Bool
  | .ref i => decide (i < n)
  | .tup xs => okVs n xs
  | .fl xs => okVs n xs
  | .pr xs => okVs n xs
  | .fd _ vs => okVs n vs
  | .sl xs => okVs n xs
  | _ => true
def okVs (n : Nat) : List Va → Bool
  | [] => true
  | x :: xs => okV n x && okVs n xs
end
def okK {κ : Type} (n : Nat) : List (κ × Va) → Bool
  | [] => true
  | p :: r => okV n p.2 && okK n r
def okN (n : Nat) : List (Va × Va) → Bool
  | [] => true
  | p :: r => okV n p.1 && (okV n p.2 && okN n r)
def okO (n : Nat) : Ob → Bool
  | .lst xs => okVs n xs
  | .dic kvs => okK n kvs
  | .dlk kvs => okK n kvs
  | .dit kvs => okN n kvs
  | .st _ => true
def truncH (n : Nat) (h : Hea) : Option Hea := if n ≤ h.n then (if ((h.l.drop (h.n - n)).all (okO n)) = true then some ⟨n, h.l.drop (h.n - n)⟩ else none) else none
def cutLo (n : Nat) (l : Lo) : Lo := l.map fun x => match x with
  | some v => if okV n v = true then some v else none
  | none => none
section
variable {K : FW} {ρ more : List Addr} {H : Hp} {n : Nat}
mutual
theorem RV.cut (hn : ρ.length = n) : ∀ (a : Va) {u : V}, okV n a = true → RV K (ρ ++ more) H a u → RV K ρ H a u
  | .non, _, _, h => h
  | .bl _, _, _, h => h
  | .int _, _, _, h => h
  | .str _, _, _, h => h
  | .tup xs, _, o, ⟨a, us, e1, q, r⟩ => ⟨a, us, e1, q, RVs.cut hn xs (by unfold okV at o; exact o) r⟩
  | .pr xs, _, o, ⟨a, us, e1, q, r⟩ => ⟨a, us, e1, q, RVs.cut hn xs (by unfold okV at o; exact o) r⟩
  | .ref i, _, o, ⟨a, e1, q⟩ => ⟨a, e1, by
    unfold okV at o
    have hi : i < n := of_decide_eq_true o
    rw [List.getElem?_append_left (by omega)] at q
    exact q⟩
  | .fl xs, _, o, ⟨a, us, e1, q, r⟩ => ⟨a, us, e1, q, RVs.cut hn xs (by unfold okV at o; exact o) r⟩
  | .sl xs, _, o, ⟨a, us, e1, q, r⟩ => ⟨a, us, e1, q, RVs.cut hn xs (by unfold okV at o; exact o) r⟩
  | .fd ks vs, _, o, ⟨a, od, ws, e1, q, k, r⟩ => ⟨a, od, ws, e1, ⟨fun z => q.1 (List.mem_append_left _ z), q.2⟩, k, RVs.cut hn vs (by unfold okV at o; exact o) r⟩
theorem RVs.cut (hn : ρ.length = n) : ∀ (xs : List Va) {us : List V}, okVs n xs = true → RVs K (ρ ++ more) H xs us → RVs K ρ H xs us
  | [], _, _, h => h
  | x :: xs, _, o, ⟨u, r, e1, q, s⟩ => by
    unfold okVs at o
    rw [Bool.and_eq_true] at o
    exact ⟨u, r, e1, RV.cut hn x o.1 q, RVs.cut hn xs o.2 s⟩
end
theorem okK_cut {κ κ' : Type} {F : κ → κ' → Prop} (hn : ρ.length = n) : ∀ {kvs : List (κ × Va)} {ws : List (κ' × V)}, okK n kvs = true → Paired (fun (p : κ × Va) (q : κ' × V) => F p.1 q.1 ∧ RV K (ρ ++ more) H p.2 q.2) kvs ws → Paired (fun (p : κ × Va) (q : κ' × V) => F p.1 q.1 ∧ RV K ρ H p.2 q.2) kvs ws
  | _, _, _, .nil => .nil
  | _, _, o, .cons r t => by
    unfold okK at o
    rw [Bool.and_eq_true] at o
    exact .cons ⟨r.1, RV.cut hn _ o.1 r.2⟩ (okK_cut hn o.2 t)
theorem okN_cut (hn : ρ.length = n) : ∀ {kvs : List (Va × Va)} {xs : List (NestedKey × Addr × Value)}, okN n kvs = true → RN K (ρ ++ more) H kvs xs → RN K ρ H kvs xs
  | _, _, _, .nil => .nil
  | _, _, o, .cons r t => by
    unfold okN at o
    rw [Bool.and_eq_true, Bool.and_eq_true] at o
    obtain ⟨⟨r1, r2, r3⟩, y, r4, r5⟩ := r
    exact .cons ⟨⟨r1, r2, RV.cut hn _ o.1 r3⟩, y, RV.cut hn _ o.2.1 r4, r5⟩ (okN_cut hn o.2.2 t)
theorem RO.cut {a : Addr} {o : Ob} (hn : ρ.length = n) (k : okO n o = true) (h : RO K (ρ ++ more) H a o) : RO K ρ H a o := by
  cases o with
  | lst xs => obtain ⟨us, q, r⟩ := h; exact ⟨us, q, RVs.cut hn xs k r⟩
  | dic kvs => obtain ⟨us, q, r⟩ := h; exact ⟨us, q, okK_cut (F := fun (p : Ke) (q : Key) => q = p.key) hn k r⟩
  | dlk kvs => obtain ⟨o, us, q, r⟩ := h; exact ⟨o, us, q, okK_cut (F := fun (p : Ke) (q : Key) => q = p.key) hn k r⟩
  | st ns => exact h
  | dit kvs => obtain ⟨us, q, r⟩ := h; exact ⟨us, q, okN_cut hn k r⟩
theorem HR.trunc {h h' : Hea} (r : HR K (ρ ++ more) h H) (hn : ρ.length = n) (e : truncH n h = some h') : HR K ρ h' H := by
  unfold truncH at e
  by_cases h1 : n ≤ h.n
  · rw [if_pos h1] at e
    by_cases h2 : ((h.l.drop (h.n - n)).all (okO n)) = true
    · rw [if_pos h2] at e
      cases e
      refine ⟨hn, (List.nodup_append.mp r.nd).1, fun i a q => r.tr i a ?_, fun i o q => ?_⟩
      · rw [List.getElem?_append_left (List.getElem?_eq_some_iff.mp q).1]; exact q
      · have hi := Hea.get_lt q
        have hi : i < n := hi
        unfold Hea.get at q
        simp only [if_pos hi] at q
        have q2 : h.get i = some o := by
          unfold Hea.get
          rw [if_pos (by omega)]
          rw [List.getElem?_drop] at q
          have : h.n - n + (n - 1 - i) = h.n - 1 - i := by omega
          rw [this] at q
          exact q
        obtain ⟨a, ha, ro⟩ := r.ob i o q2
        rw [List.getElem?_append_left (by omega)] at ha
        refine ⟨a, ha, RO.cut hn ?_ ro⟩
        exact List.all_eq_true.mp h2 o (List.mem_of_getElem? q)
    · rw [if_neg h2] at e; cases e
  · rw [if_neg h1] at e; cases e
theorem LR.cut {l : Lo} {σ : L2.St} (L : LR K (ρ ++ more) H l σ) (hn : ρ.length = n) : LR K ρ H (cutLo n l) σ := by
  refine ⟨by unfold cutLo; rw [List.length_map]; exact L.1, fun i a e => ?_⟩
  unfold cutLo at e
  rw [List.getElem?_map] at e
  cases q : l[i]? with
  | none => rw [q] at e; cases e
  | some x =>
    rw [q] at e
    cases x with
    | none => cases e
    | some v =>
      have e' : some (if okV n v = true then some v else none) = some (some a) := e
      by_cases hv : okV n v = true
      · rw [if_pos hv] at e'
        have e2 : v = a := Option.some.inj (Option.some.inj e')
        obtain ⟨u, h1, h2⟩ := L.2 i v q
        rw [← e2]
        exact ⟨u, h1, RV.cut hn v hv h2⟩
      · rw [if_neg hv] at e'; cases e'
end
def forG (src : Sr) (tg : Tg) (B : Sx) (n : Nat) : Nat → Nat → Sx
  | 0, _, _, _ => .no
  | f + 1, k, l, h => match stp h k src with
    | none => .no
    | some none => .ok (.nx l) h
    | some (some v) => match bnd h tg v with
      | none => .no
      | some ups => (B (setL l ups) h).bind fun o h2 => match o with
        | .nx l2 => match truncH n h2 with
          | some h3 => forG src tg B n f (k + 1) (cutLo n l2) h3
          | none => .no
        | .ct l2 => match truncH n h2 with
          | some h3 => forG src tg B n f (k + 1) (cutLo n l2) h3
          | none => .no
        | .bk l2 => .ok (.nx l2) h2
        | .rt v => .ok (.rt v) h2
def sForG (I : Ix) (tg : Tg) (B : Sx) : Sx := fun l h => (I l h).bind fun src h1 => forG src tg B h1.n bigN 0 l h1
section
variable {W : XW} {X : Cx} {pos : Pos} {tgx iter : Expr} {body : List Stmt} {I : Ix} {tg : Tg} {B : Sx}
theorem Ext.back {K : FW} {ρ ρ2 : List Addr} {H H2 : Hp} (e : Ext K ρ H ρ2 H2) : Ext K ρ H ρ H2 := ⟨⟨[], by simp, by simp⟩, e.tup, e.fz, e.nod, e.there, e.keep⟩
theorem forG_sound {K : FW} {J : It} {src : Sr} {C : List Addr → Hp → Prop} {D : Ends} (T : Tie K J src C) {fuel : Nat} {ρ : List Addr} {l : Lo} {h : Hea} {σ : L2.St} {H : Hp}
    (L : LR K ρ H l σ) (q : HR K ρ h H) (c : C ρ H) (s : sat K W ρ H (forG src tg B h.n fuel 0 l h) (ouQ K D)) :
    ∃ V : Nat → Nat → L2.St → Hp → Prop, (∃ m, V 0 m σ H) ∧ ∀ i m σ H, V i m σ H →
      (J.stop i H ∧ D.nx σ H) ∨ (J.go i H ∧ ∃ N : L2.St → Hp → Prop, (∀ σ' H', N σ' H' → ∃ m', m' < m ∧ V (i + 1) m' σ' H') ∧ ∀ x H', J.yld i H x H' → tG K tg x σ H' fun σ2 H2 => tS K W B { D with nx := N, ct := N, bk := D.nx } σ2 H2) := by
  have hn : ρ.length = h.n := q.len
  generalize h.n = n at s hn
  refine ⟨fun i m σ H => ∃ l h, LR K ρ H l σ ∧ HR K ρ h H ∧ C ρ H ∧ sat K W ρ H (forG src tg B n m i l h) (ouQ K D), ⟨fuel, l, h, L, q, c, s⟩, fun i m σ H ⟨l, h, L, q, c, s⟩ => ?_⟩
  cases m with
  | zero => exact False.elim s
  | succ m =>
    unfold forG at s
    cases e : stp h i src with
    | none => simp only [e] at s; exact False.elim s
    | some o =>
      cases o with
      | none =>
        simp only [e] at s
        exact .inl ⟨T.stop i h ρ H c q e, s.ok q σ L⟩
      | some v =>
        simp only [e] at s
        obtain ⟨go, y⟩ := T.go i h ρ H v c q e
        refine .inr ⟨go, fun σ' H' => ∃ l h, LR K ρ H' l σ' ∧ HR K ρ h H' ∧ C ρ H' ∧ sat K W ρ H' (forG src tg B n m (i + 1) l h) (ouQ K D), fun σ' H' z => ⟨m, Nat.lt_succ_self m, z⟩, fun x H' yx => ?_⟩
        obtain ⟨ex, q1, rx⟩ := y x H' yx
        have s1 := s.shift ex
        cases e2 : bnd h tg v with
        | none => simp only [e2] at s1; exact False.elim s1
        | some ups =>
          simp only [e2] at s1
          refine ⟨ρ, h, v, ups, q1, rx, e2, fun us U => ⟨ρ, setL l ups, h, (L.ext ex).setL U, q1, ?_⟩⟩
          cases eB : B (setL l ups) h with
          | no => rw [eB] at s1; exact False.elim s1
          | err c v h' => rw [eB] at s1; exact s1
          | ok o h2 =>
            rw [eB] at s1
            simp only [Rs.bind] at s1
            refine fun ρ2 H2 e2 q2 => ?_
            obtain ⟨more, em, _⟩ := e2.pre
            subst em
            have c2 : C ρ H2 := T.ext _ _ _ _ (T.ext _ _ _ _ c ex) e2.back
            have nxt : ∀ l2, sat K W ρ H' (match truncH n h2 with
                | some h3 => forG src tg B n m (i + 1) (cutLo n l2) h3
                | none => .no) (ouQ K D) → ∀ σ', LR K (ρ ++ more) H2 l2 σ' → ∃ l h, LR K ρ H2 l σ' ∧ HR K ρ h H2 ∧ C ρ H2 ∧ sat K W ρ H2 (forG src tg B n m (i + 1) l h) (ouQ K D) := fun l2 s2 σ' L' => by
              cases e3 : truncH n h2 with
              | none => rw [e3] at s2; exact False.elim s2
              | some h3 =>
                rw [e3] at s2
                exact ⟨cutLo n l2, h3, L'.cut hn, q2.trunc hn e3, c2, s2.shift e2.back⟩
            cases o with
            | nx l2 => exact nxt l2 s1
            | ct l2 => exact nxt l2 s1
            | bk l2 => exact fun σ' L' => (s1.shift e2).ok q2 σ' L'
            | rt v => exact fun u ru => (s1.shift e2).ok q2 u ru
theorem sx_forG (hp : PassesOwn (model X.prog X.w) X.A X.env X.xe) (hc : X.calm = true) (hi : IX W X tgx iter I) (hg : GX X tgx tg) (hb : SXs W X body B)
    (hs : ∀ x, foldedSetIterable iter X.env x = pure x := by intro _; rfl) : SX W X (.For tgx iter body [] pos) (sForG I tg B) :=
  ⟨PS.weak (ps_for hp hc hi.pi hg.pg hb.ps hs) fun D σ H ⟨ρ, l, h, L, q, s⟩ => ⟨ρ, l, h, L, q, s.bind.mono fun src h1 ρ1 H1 e1 q1 s1 J C T c => forG_sound T (L.ext e1) q1 c s1⟩⟩
end

/-! ### what is asked of a computation -/
def Ret {α : Type} (r : Rs α) (Q : α → Hea → Prop) : Prop := match r with
  | .ok a h => Q a h
  | _ => False
theorem Ret.bind {α β : Type} {r : Rs α} {f : α → Hea → Rs β} {Q : β → Hea → Prop} (h : Ret r fun a h1 => Ret (f a h1) Q) : Ret (r.bind f) Q := by
  cases r with
  | ok a h1 => exact h
  | err c v h1 => exact h
  | no => exact h
theorem Ret.mono {α : Type} {r : Rs α} {Q Q' : α → Hea → Prop} (h : Ret r Q) (i : ∀ a h, Q a h → Q' a h) : Ret r Q' := by
  cases r with
  | ok a h1 => exact i a h1 h
  | err c v h1 => exact h
  | no => exact h
theorem Ret.ex {α : Type} {r : Rs α} {Q : α → Hea → Prop} (h : Ret r Q) : ∃ a h1, r = .ok a h1 ∧ Q a h1 := by
  cases r with
  | ok a h1 => exact ⟨a, h1, rfl, h⟩
  | err c v h1 => exact False.elim h
  | no => exact False.elim h
theorem Hea.set_set (h : Hea) (i : Nat) (o o' : Ob) : (h.set i o).set i o' = h.set i o' := by
  unfold Hea.set
  simp only [List.set_set]
end Rf

/-! Rf: steps of a computation; the drawing of numbers. -/
namespace Rf
open PySem PySem.Spec PyProof.Rows L2
theorem sSeq_nx {A B : Sx} {l l1 : Lo} {h h1 : Hea} (e : A l h = .ok (.nx l1) h1) : sSeq A B l h = B l1 h1 := by
  unfold sSeq; rw [e]; rfl
theorem sSeq_rt {A B : Sx} {l : Lo} {h h1 : Hea} {v : Va} (e : A l h = .ok (.rt v) h1) : sSeq A B l h = .ok (.rt v) h1 := by
  unfold sSeq; rw [e]; rfl
theorem fnM_rt {n : Nat} {B : Sx} {args : List Va} {h h1 : Hea} {v : Va} (e : B (args.map some ++ List.replicate (n - args.length) none) h = .ok (.rt v) h1) : fnM n B args h = .ok v h1 := by
  unfold fnM; rw [e]; rfl
theorem isB_ok {A : Ex} {l : Lo} {h h1 : Hea} {b : Bool} (e : A l h = .ok (.bl b) h1) : isB A l h = .ok b h1 := by
  unfold isB; rw [e]; rfl
theorem sIf_t {C : Tx} {A B : Sx} {l : Lo} {h h1 : Hea} (e : C l h = .ok true h1) : sIf C A B l h = A l h1 := by
  unfold sIf; rw [e]; rfl
theorem sIf_f {C : Tx} {A B : Sx} {l : Lo} {h h1 : Hea} (e : C l h = .ok false h1) : sIf C A B l h = B l h1 := by
  unfold sIf; rw [e]; rfl
theorem sIf_b {C : Tx} {A B : Sx} {l : Lo} {h h1 : Hea} {b : Bool} (e : C l h = .ok b h1) : sIf C A B l h = if b = true then A l h1 else B l h1 := by
  unfold sIf; rw [e]; rfl
theorem sSet_ok {i : Nat} {A : Ex} {l : Lo} {h h1 : Hea} {a : Va} (e : A l h = .ok a h1) : sSet i A l h = .ok (.nx (l.set i (some a))) h1 := by
  unfold sSet; rw [e]; rfl
theorem sRet_ok {A : Ex} {l : Lo} {h h1 : Hea} {a : Va} (e : A l h = .ok a h1) : sRet A l h = .ok (.rt a) h1 := by
  unfold sRet; rw [e]; rfl
theorem op2_ok {F : Va → Va → M Va} {A B : Ex} {l : Lo} {h h1 h2 : Hea} {a b : Va} (eA : A l h = .ok a h1) (eB : B l h1 = .ok b h2) : op2 F A B l h = F a b h2 := by
  unfold op2; rw [eA]; simp only [Rs.bind]; rw [eB]
/-- a place of a list that is told by a literal -/
theorem ix_lit {A : Ex} {i : Int} {l : Lo} {h : Hea} {p : Nat} {xs : List Va} {v : Va} (eA : A l h = .ok (.ref p) h) (hp : h.get p = some (.lst xs)) (e : atI xs i = some v) : op2 vIx A (cV (.int i)) l h = .ok v h := by
  rw [op2_ok eA rfl]
  unfold vIx
  simp only [hp, atV, e]
theorem iop_ok {F : Int → Int → Va} {A B : Ex} {l : Lo} {h : Hea} {i j : Int} (eA : A l h = .ok (.int i) h) (eB : B l h = .ok (.int j) h) : op2 (iop F) A B l h = .ok (F i j) h := by
  rw [op2_ok eA eB]; rfl
theorem iopC_ok {C : Int → Int → Bool} {F : Int → Int → Va} {A B : Ex} {l : Lo} {h : Hea} {i j : Int} (eA : A l h = .ok (.int i) h) (eB : B l h = .ok (.int j) h) (c : C i j = true) : op2 (iopC C F) A B l h = .ok (F i j) h := by
  rw [op2_ok eA eB]; unfold iopC; simp only [c, if_true]
theorem eq_ok {A B : Ex} {l : Lo} {h : Hea} {i j : Int} (eA : A l h = .ok (.int i) h) (eB : B l h = .ok (.int j) h) : op2 vEq A B l h = .ok (.bl (decide (i = j))) h := by
  rw [op2_ok eA eB]
  have e : vq h 20 (.int i) (.int j) = decide (i = j) := by
    unfold vq view PyData.eqv
    first | rfl | (simp; done) | (by_cases q : i = j <;> simp [q])
  unfold vEq
  rw [e]
  rfl
theorem add_ok {A B : Ex} {l : Lo} {h : Hea} {i j : Int} (eA : A l h = .ok (.int i) h) (eB : B l h = .ok (.int j) h) : op2 vAdd A B l h = .ok (.int (i + j)) h := by
  rw [op2_ok eA eB]; rfl
theorem mul_ok {A B : Ex} {l : Lo} {h : Hea} {i j : Int} (eA : A l h = .ok (.int i) h) (eB : B l h = .ok (.int j) h) (hi : -18446744073709551616 < j ∧ j < 18446744073709551616) : op2 vMul A B l h = .ok (.int (i * j)) h := by
  rw [op2_ok eA eB]
  have e : mulOk i j = true := by
    unfold mulOk
    rw [Bool.or_eq_true]
    right
    rw [Bool.and_eq_true]
    exact ⟨decide_eq_true hi.1, decide_eq_true hi.2⟩
  unfold vMul
  simp only [e, if_true]
theorem mul_ok' {A B : Ex} {l : Lo} {h : Hea} {i j : Int} (eA : A l h = .ok (.int i) h) (eB : B l h = .ok (.int j) h) (hi : -18446744073709551616 < i ∧ i < 18446744073709551616) : op2 vMul A B l h = .ok (.int (i * j)) h := by
  rw [op2_ok eA eB]
  have e : mulOk i j = true := by
    unfold mulOk
    rw [Bool.or_eq_true]
    left
    rw [Bool.and_eq_true]
    exact ⟨decide_eq_true hi.1, decide_eq_true hi.2⟩
  unfold vMul
  simp only [e, if_true]
theorem int_ok {A : Ex} {l : Lo} {h : Hea} {i : Int} (eA : A l h = .ok (.int i) h) : callE (fn1 vInt) (aCons A aNil) l h = .ok (.int i) h := by
  unfold callE aCons aNil; rw [eA]; rfl
theorem len_ok {A : Ex} {l : Lo} {h : Hea} {p : Nat} {xs : List Va} (eA : A l h = .ok (.ref p) h) (hp : h.get p = some (.lst xs)) : callE (fn1 vLen) (aCons A aNil) l h = .ok (.int xs.length) h := by
  unfold callE aCons aNil; rw [eA]
  simp only [Rs.bind, fn1, vLen, hp]
theorem stL_ok {A V : Ex} {i : Int} {l : Lo} {h : Hea} {p j : Nat} {xs : List Va} {v : Va} (eA : A l h = .ok (.ref p) h) (eV : V l h = .ok v h) (hp : h.get p = some (.lst xs)) (e : ixN xs.length i = some j) : stL A (cV (.int i)) V l h = .ok (.nx l) (h.set p (.lst (xs.set j v))) := by
  unfold stL
  rw [eV]
  simp only [Rs.bind]
  rw [eA]
  simp only [cV, hp, e]
theorem augL_ok {A V : Ex} {i k : Int} {l : Lo} {h : Hea} {p j : Nat} {xs : List Va} {old v : Int} (eA : A l h = .ok (.ref p) h) (eV : V l h = .ok (.int v) h) (hp : h.get p = some (.lst xs)) (e : ixN xs.length i = some j) (h0 : 0 ≤ i ∧ i < 1000000000) (eo : xs[i.toNat]? = some (.int old)) : augL A (cV (.int i)) vIAdd V l h = .ok (.nx l) (h.set p (.lst (xs.set j (.int (old + v))))) := by
  unfold augL
  rw [eA]
  have c : (decide (0 ≤ i) && decide (i < 1000000000)) = true := by
    rw [Bool.and_eq_true]; exact ⟨decide_eq_true h0.1, decide_eq_true h0.2⟩
  simp only [Rs.bind, cV, hp, c, if_true, eo, eV, vIAdd, e]
theorem tAnd_t {A B : Tx} {l : Lo} {h h1 : Hea} (e : A l h = .ok true h1) : tAnd A B l h = B l h1 := by
  unfold tAnd; rw [e]; rfl
theorem tAnd_f {A B : Tx} {l : Lo} {h h1 : Hea} (e : A l h = .ok false h1) : tAnd A B l h = .ok false h1 := by
  unfold tAnd; rw [e]; rfl
theorem vr_ok {l : Lo} {i : Nat} {v : Va} {h : Hea} (e : l[i]? = some (some v)) : vr i l h = .ok v h := by
  unfold vr; rw [e]

/-! ### own, and what drawing makes of it -/
abbrev ownO (a b c d : Int) (q : Nat) : Ob := .lst [.int a, .int b, .int c, .int d, .ref q]
def nxA : Sx := augL (vr 0) (cV (.int 2)) vIAdd (cV (.int 1))
def nxC : Tx := tAnd (isB (op2 vEq (op2 vIx (vr 0) (cV (.int 0))) (cV (.int 0)))) (isB (op2 vLt (op2 vIx (vr 0) (cV (.int 3))) (callE (fn1 vLen) (aCons (op2 vIx (vr 0) (cV (.int 4))) aNil))))
def nxD : Sx := sSeq (sSet 3 (op2 vMod (callE (fn1 vInt) (aCons (vr 2) aNil)) (cV (.int 1000000007))))
  (stL (vr 0) (cV (.int 1)) (op2 vMod (callE (fn1 vInt) (aCons (op2 vAdd (op2 vAdd (op2 vAdd (op2 vMul (op2 vIx (vr 0) (cV (.int 1))) (cV (.int 30269))) (op2 vMul (vr 3) (vr 3))) (op2 vMul (cV (.int 11)) (vr 3))) (op2 vMul (cV (.int 5)) (op2 vIx (vr 0) (cV (.int 3))))) aNil)) (cV (.int 2147483563))))
def nxE : Sx := sSeq (sSet 2 (op2 vIx (op2 vIx (vr 0) (cV (.int 4))) (op2 vIx (vr 0) (cV (.int 3)))))
  (sSeq (augL (vr 0) (cV (.int 3)) vIAdd (cV (.int 1)))
  (sIf (isB (op2 vGe (vr 2) (op2 vPow (cV (.int 10)) (cV (.int 18))))) (stL (vr 0) (cV (.int 0)) (op2 vSub (vr 2) (op2 vPow (cV (.int 10)) (cV (.int 18))))) nxD))
def nxF : Sx := sSeq (sSet 4 (op2 vMod (callE (fn1 vInt) (aCons (op2 vIx (vr 0) (cV (.int 0))) aNil)) (vr 1)))
  (sSeq (stL (vr 0) (cV (.int 0)) (op2 vDiv (op2 vIx (vr 0) (cV (.int 0))) (vr 1)))
  (sRet (vr 4)))
def nxG : Sx := sSeq (stL (vr 0) (cV (.int 1)) (op2 vMod (callE (fn1 vInt) (aCons (op2 vAdd (op2 vAdd (op2 vMul (op2 vIx (vr 0) (cV (.int 1))) (op2 vIx (vr 0) (cV (.int 1)))) (op2 vMul (cV (.int 40014)) (op2 vIx (vr 0) (cV (.int 2))))) (cV (.int 37))) aNil)) (cV (.int 2147483563))))
  (sRet (op2 vMod (callE (fn1 vInt) (aCons (op2 vAdd (op2 vDiv (op2 vIx (vr 0) (cV (.int 1))) (cV (.int 8))) (op2 vMul (op2 vMul (cV (.int 3)) (op2 vIx (vr 0) (cV (.int 2)))) (op2 vIx (vr 0) (cV (.int 2))))) aNil)) (vr 1)))
def bdNext : Sx := sSeq nxA (sSeq (sIf nxC nxE sNil) (sSeq (sIf (isB (op2 vGt (op2 vIx (vr 0) (cV (.int 0))) (cV (.int 0)))) nxF sNil) nxG))
def mNext : Fn := fnM 5 bdNext
section
variable {h : Hea} {p q : Nat} {a b c d many : Int} {ns : List Int}
theorem own_ne (hp : h.get p = some (ownO a b c d q)) (hq : h.get q = some (.lst (ns.map .int))) : p ≠ q := by
  intro e
  subst e
  rw [hp] at hq
  have := Option.some.inj hq
  cases ns with
  | nil => simp at this
  | cons n r =>
    simp at this
    obtain ⟨_, h2⟩ := this
    match r, h2 with
    | [_, _, _, _], h2 => simp at h2
theorem nxG_ok {x2 x3 x4 : Option Va} (hp : h.get p = some (ownO a b c d q)) (hm : 0 < many ∧ many < 1000000000) (hb : 0 ≤ b ∧ b < 2147483563) (hc : 0 ≤ c ∧ c < 1000000000000) :
    ∃ r b', nxG [some (.ref p), some (.int many), x2, x3, x4] h = .ok (.rt (.int r)) (h.set p (ownO a b' c d q)) ∧ 0 ≤ r ∧ r < many ∧ 0 ≤ b' ∧ b' < 2147483563 := by
  have v0 : ∀ h', vr 0 [some (.ref p), some (.int many), x2, x3, x4] h' = .ok (.ref p) h' := fun h' => vr_ok rfl
  have v1 : ∀ h', vr 1 [some (.ref p), some (.int many), x2, x3, x4] h' = .ok (.int many) h' := fun h' => vr_ok rfl
  refine ⟨((b * b + 40014 * c + 37) % 2147483563 / 8 + 3 * c * c) % many, (b * b + 40014 * c + 37) % 2147483563, (sSeq_nx (stL_ok (v0 h) (iopC_ok (int_ok (add_ok (add_ok (mul_ok (ix_lit (v0 h) hp rfl) (ix_lit (v0 h) hp rfl) (by omega)) (mul_ok' rfl (ix_lit (v0 h) hp rfl) (by omega))) rfl)) rfl rfl) hp rfl)).trans ?_, ?_⟩
  · have hp1 := Hea.get_set_self hp (o' := ownO a ((b * b + 40014 * c + 37) % 2147483563) c d q)
    exact sRet_ok (iopC_ok (int_ok (add_ok (iopC_ok (ix_lit (v0 _) hp1 rfl) rfl rfl) (mul_ok (mul_ok' rfl (ix_lit (v0 _) hp1 rfl) (by omega)) (ix_lit (v0 _) hp1 rfl) (by omega)))) (v1 _) (decide_eq_true hm.1))
  · exact ⟨Int.emod_nonneg _ (by omega), Int.emod_lt_of_pos _ hm.1, Int.emod_nonneg _ (by omega), Int.emod_lt_of_pos _ (by omega)⟩
theorem nxF_ok {x2 x3 x4 : Option Va} (hp : h.get p = some (ownO a b c d q)) (hm : 0 < many ∧ many < 1000000000) (ha : 0 ≤ a) :
    ∃ r a', nxF [some (.ref p), some (.int many), x2, x3, x4] h = .ok (.rt (.int r)) (h.set p (ownO a' b c d q)) ∧ 0 ≤ r ∧ r < many ∧ 0 ≤ a' := by
  have v0 : ∀ h' y4, vr 0 [some (.ref p), some (.int many), x2, x3, y4] h' = .ok (.ref p) h' := fun h' _ => vr_ok rfl
  have v1 : ∀ h' y4, vr 1 [some (.ref p), some (.int many), x2, x3, y4] h' = .ok (.int many) h' := fun h' _ => vr_ok rfl
  refine ⟨a % many, a / many, (sSeq_nx (sSet_ok (iopC_ok (int_ok (ix_lit (v0 h _) hp rfl)) (v1 h _) (decide_eq_true hm.1)))).trans ((sSeq_nx (stL_ok (v0 h _) (iopC_ok (ix_lit (v0 h _) hp rfl) (v1 h _) ?_) hp rfl)).trans (sRet_ok (vr_ok rfl))), Int.emod_nonneg _ (by omega), Int.emod_lt_of_pos _ hm.1, Int.ediv_nonneg ha (by omega)⟩
  rw [Bool.and_eq_true]
  exact ⟨decide_eq_true hm.1, decide_eq_true (by omega)⟩
theorem nxD_ok {n : Int} {x3 x4 : Option Va} (hp : h.get p = some (ownO a b c d q)) (hb : 0 ≤ b ∧ b < 2147483563) (hd : 0 ≤ d ∧ d ≤ 1000) :
    ∃ b' y3, nxD [some (.ref p), some (.int many), some (.int n), x3, x4] h = .ok (.nx [some (.ref p), some (.int many), some (.int n), y3, x4]) (h.set p (ownO a b' c d q)) ∧ 0 ≤ b' ∧ b' < 2147483563 := by
  have v0 : ∀ h' y3, vr 0 [some (.ref p), some (.int many), some (.int n), y3, x4] h' = .ok (.ref p) h' := fun h' _ => vr_ok rfl
  have s0 : 0 ≤ n % 1000000007 := Int.emod_nonneg _ (by omega)
  have s1 : n % 1000000007 < 1000000007 := Int.emod_lt_of_pos _ (by omega)
  have e3 : nxD [some (.ref p), some (.int many), some (.int n), x3, x4] h = stL (vr 0) (cV (.int 1)) (op2 vMod (callE (fn1 vInt) (aCons (op2 vAdd (op2 vAdd (op2 vAdd (op2 vMul (op2 vIx (vr 0) (cV (.int 1))) (cV (.int 30269))) (op2 vMul (vr 3) (vr 3))) (op2 vMul (cV (.int 11)) (vr 3))) (op2 vMul (cV (.int 5)) (op2 vIx (vr 0) (cV (.int 3))))) aNil)) (cV (.int 2147483563))) [some (.ref p), some (.int many), some (.int n), some (.int (n % 1000000007)), x4] h := sSeq_nx (sSet_ok (iopC_ok (int_ok (vr_ok rfl)) rfl rfl))
  generalize n % 1000000007 = m at s0 s1 e3
  have v3 : vr 3 [some (.ref p), some (.int many), some (.int n), some (.int m), x4] h = .ok (.int m) h := vr_ok rfl
  have w := v0 h (some (.int m))
  generalize hL : [some (.ref p), some (.int many), some (.int n), some (.int m), x4] = L at v3 w
  have f1 : op2 vMul (op2 vIx (vr 0) (cV (.int 1))) (cV (.int 30269)) L h = .ok (.int (b * 30269)) h := mul_ok (ix_lit w hp rfl) rfl (by omega)
  have f2 : op2 vMul (vr 3) (vr 3) L h = .ok (.int (m * m)) h := mul_ok v3 v3 (by omega)
  have f3 : op2 vMul (cV (.int 11)) (vr 3) L h = .ok (.int (11 * m)) h := mul_ok' rfl v3 (by omega)
  have f4 : op2 vMul (cV (.int 5)) (op2 vIx (vr 0) (cV (.int 3))) L h = .ok (.int (5 * d)) h := mul_ok' rfl (ix_lit w hp rfl) (by omega)
  have f5 : op2 vMod (callE (fn1 vInt) (aCons (op2 vAdd (op2 vAdd (op2 vAdd (op2 vMul (op2 vIx (vr 0) (cV (.int 1))) (cV (.int 30269))) (op2 vMul (vr 3) (vr 3))) (op2 vMul (cV (.int 11)) (vr 3))) (op2 vMul (cV (.int 5)) (op2 vIx (vr 0) (cV (.int 3))))) aNil)) (cV (.int 2147483563)) L h = .ok (.int ((b * 30269 + m * m + 11 * m + 5 * d) % 2147483563)) h := iopC_ok (int_ok (add_ok (add_ok (add_ok f1 f2) f3) f4)) rfl rfl
  have f6 := stL_ok (i := 1) (j := 1) w f5 hp rfl
  subst hL
  exact ⟨(b * 30269 + m * m + 11 * m + 5 * d) % 2147483563, some (.int m), e3.trans f6, Int.emod_nonneg _ (by omega), Int.emod_lt_of_pos _ (by omega)⟩
theorem nxE_ok {x2 x3 x4 : Option Va} (hp : h.get p = some (ownO a b c d q)) (hq : h.get q = some (.lst (ns.map .int))) (ha : 0 ≤ a) (hb : 0 ≤ b ∧ b < 2147483563) (hd : 0 ≤ d ∧ d < ns.length) (hl : ns.length ≤ 999) :
    ∃ a' b' d' y2 y3, nxE [some (.ref p), some (.int many), x2, x3, x4] h = .ok (.nx [some (.ref p), some (.int many), y2, y3, x4]) (h.set p (ownO a' b' c d' q)) ∧ 0 ≤ a' ∧ (0 ≤ b' ∧ b' < 2147483563) ∧ (0 ≤ d' ∧ d' ≤ ns.length) := by
  have pq := own_ne hp hq
  have v0 : ∀ h' y2, vr 0 [some (.ref p), some (.int many), y2, x3, x4] h' = .ok (.ref p) h' := fun h' _ => vr_ok rfl
  have hdn : d.toNat < ns.length := by omega
  have e4 : ∀ y2, op2 vIx (op2 vIx (vr 0) (cV (.int 4))) (op2 vIx (vr 0) (cV (.int 3))) [some (.ref p), some (.int many), y2, x3, x4] h = .ok (.int ns[d.toNat]) h := fun y2 => by
    rw [op2_ok (ix_lit (v0 h _) hp rfl) (ix_lit (v0 h _) hp rfl)]
    have e : atI (ns.map Va.int) d = some (.int ns[d.toNat]) := by
      have e1 : ixN (ns.map Va.int).length d = some d.toNat := by
        unfold ixN
        rw [List.length_map]
        split <;> first | rfl | (exfalso; omega) | (split <;> first | rfl | (exfalso; omega))
      unfold atI
      rw [e1]
      show (ns.map Va.int)[d.toNat]? = _
      rw [List.getElem?_map, List.getElem?_eq_getElem hdn]
      rfl
    unfold vIx
    simp only [hq, atV, e]
  have hp1 := Hea.get_set_self hp (o' := ownO a b c (d + 1) q)
  have st1 : nxE [some (.ref p), some (.int many), x2, x3, x4] h = sIf (isB (op2 vGe (vr 2) (op2 vPow (cV (.int 10)) (cV (.int 18))))) (stL (vr 0) (cV (.int 0)) (op2 vSub (vr 2) (op2 vPow (cV (.int 10)) (cV (.int 18))))) nxD [some (.ref p), some (.int many), some (.int ns[d.toNat]), x3, x4] (h.set p (ownO a b c (d + 1) q)) :=
    (sSeq_nx (sSet_ok (e4 x2))).trans (sSeq_nx (augL_ok (k := 0) (i := 3) (v := 1) (old := d) (j := 3) (v0 h _) rfl hp rfl (by omega) rfl))
  rw [st1]
  generalize ns[d.toNat] = n
  have e18 : ∀ h', op2 vPow (cV (.int 10)) (cV (.int 18)) [some (.ref p), some (.int many), some (.int n), x3, x4] h' = .ok (.int 1000000000000000000) h' := fun h' => (iopC_ok rfl rfl (by decide)).trans (by rfl)
  have eC : isB (op2 vGe (vr 2) (op2 vPow (cV (.int 10)) (cV (.int 18)))) [some (.ref p), some (.int many), some (.int n), x3, x4] (h.set p (ownO a b c (d + 1) q)) = .ok (decide (1000000000000000000 ≤ n)) (h.set p (ownO a b c (d + 1) q)) := isB_ok (iop_ok (vr_ok rfl) (e18 _))
  rw [sIf_b eC]
  by_cases hn : 1000000000000000000 ≤ n
  · rw [if_pos (decide_eq_true hn)]
    refine ⟨n - 1000000000000000000, b, d + 1, some (.int n), x3, (stL_ok (v0 _ _) (iop_ok (vr_ok rfl) (e18 _)) hp1 rfl).trans ?_, ?_⟩
    · rw [Hea.set_set]; rfl
    · exact ⟨by omega, hb, by omega⟩
  · rw [if_neg (by rw [decide_eq_true_eq]; exact hn)]
    obtain ⟨b', y3, e, hb'⟩ := nxD_ok (many := many) (n := n) (x3 := x3) (x4 := x4) hp1 hb (by omega)
    refine ⟨a, b', d + 1, some (.int n), y3, e.trans ?_, ?_⟩
    · rw [Hea.set_set]
    · exact ⟨ha, hb', by omega⟩
theorem next_spec (hp : h.get p = some (ownO a b c d q)) (hq : h.get q = some (.lst (ns.map .int)))
    (hm : 0 < many ∧ many < 1000000000) (ha : 0 ≤ a) (hb : 0 ≤ b ∧ b < 2147483563) (hc : 0 ≤ c ∧ c < 999999999999) (hd : 0 ≤ d ∧ d ≤ ns.length) (hl : ns.length ≤ 999) :
    ∃ r a' b' d', mNext [.ref p, .int many] h = .ok (.int r) (h.set p (ownO a' b' (c + 1) d' q)) ∧ 0 ≤ r ∧ r < many ∧ 0 ≤ a' ∧ (0 ≤ b' ∧ b' < 2147483563) ∧ (0 ≤ d' ∧ d' ≤ ns.length) := by
  have pq := own_ne hp hq
  have pn := Hea.get_lt hp
  have hp1 := Hea.get_set_self hp (o' := ownO a b (c + 1) d q)
  have hq1 : (h.set p (ownO a b (c + 1) d q)).get q = some (.lst (ns.map .int)) := by rw [Hea.get_set_ne pn pq]; exact hq
  have s1 : bdNext [some (.ref p), some (.int many), none, none, none] h = _ := sSeq_nx (augL_ok (k := 0) (vr_ok rfl) rfl hp rfl (by omega) rfl)
  have hs : ∀ o, (h.set p (ownO a b (c + 1) d q)).set p o = h.set p o := fun o => Hea.set_set h p _ o
  have s2 : ∀ r h2, (sSeq (sIf nxC nxE sNil) (sSeq (sIf (isB (op2 vGt (op2 vIx (vr 0) (cV (.int 0))) (cV (.int 0)))) nxF sNil) nxG)) [some (.ref p), some (.int many), none, none, none] (h.set p (ownO a b (c + 1) d q)) = .ok (.rt (.int r)) h2 → mNext [.ref p, .int many] h = .ok (.int r) h2 := fun r h2 e => fnM_rt (s1.trans e)
  have key : ∃ a' b' d' y2 y3, sIf nxC nxE sNil [some (.ref p), some (.int many), none, none, none] (h.set p (ownO a b (c + 1) d q)) = .ok (.nx [some (.ref p), some (.int many), y2, y3, none]) (h.set p (ownO a' b' (c + 1) d' q)) ∧ 0 ≤ a' ∧ (0 ≤ b' ∧ b' < 2147483563) ∧ (0 ≤ d' ∧ d' ≤ ns.length) := by
    have triv : ∃ a' b' d' y2 y3, (Rs.ok (Ou.nx [some (.ref p), some (.int many), none, none, none]) (h.set p (ownO a b (c + 1) d q)) : Rs Ou) = .ok (.nx [some (.ref p), some (.int many), y2, y3, none]) (h.set p (ownO a' b' (c + 1) d' q)) ∧ 0 ≤ a' ∧ (0 ≤ b' ∧ b' < 2147483563) ∧ (0 ≤ d' ∧ d' ≤ ns.length) := ⟨a, b, d, none, none, rfl, ha, hb, hd⟩
    generalize h.set p (ownO a b (c + 1) d q) = h1 at hp1 hq1 hs triv
    have e1 : isB (op2 vEq (op2 vIx (vr 0) (cV (.int 0))) (cV (.int 0))) [some (.ref p), some (.int many), none, none, none] h1 = .ok (decide (a = 0)) h1 := isB_ok (eq_ok (ix_lit (vr_ok rfl) hp1 rfl) rfl)
    have e2 : isB (op2 vLt (op2 vIx (vr 0) (cV (.int 3))) (callE (fn1 vLen) (aCons (op2 vIx (vr 0) (cV (.int 4))) aNil))) [some (.ref p), some (.int many), none, none, none] h1 = .ok (decide (d < ((ns.map Va.int).length : Int))) h1 := isB_ok (iop_ok (ix_lit (vr_ok rfl) hp1 rfl) (len_ok (ix_lit (vr_ok rfl) hp1 rfl) hq1))
    rw [List.length_map] at e2
    unfold nxC
    by_cases h0 : a = 0
    · rw [decide_eq_true h0] at e1
      by_cases h3 : d < (ns.length : Int)
      · rw [decide_eq_true h3] at e2
        rw [sIf_t ((tAnd_t e1).trans e2)]
        obtain ⟨a', b', d', y2, y3, e, r⟩ := nxE_ok (many := many) (x2 := none) (x3 := none) (x4 := none) hp1 hq1 ha hb ⟨hd.1, h3⟩ hl
        exact ⟨a', b', d', y2, y3, by rw [e, hs], r⟩
      · rw [decide_eq_false h3] at e2
        rw [sIf_f ((tAnd_t e1).trans e2)]
        exact triv
    · rw [decide_eq_false h0] at e1
      rw [sIf_f (tAnd_f e1)]
      exact triv
  obtain ⟨a', b', d', y2, y3, e, ha', hb', hd'⟩ := key
  have hp2 := Hea.get_set_self hp (o' := ownO a' b' (c + 1) d' q)
  have hs2 : ∀ o, (h.set p (ownO a' b' (c + 1) d' q)).set p o = h.set p o := fun o => Hea.set_set h p _ o
  have e5 : isB (op2 vGt (op2 vIx (vr 0) (cV (.int 0))) (cV (.int 0))) [some (.ref p), some (.int many), y2, y3, none] (h.set p (ownO a' b' (c + 1) d' q)) = .ok (decide (0 < a')) (h.set p (ownO a' b' (c + 1) d' q)) := isB_ok (iop_ok (ix_lit (vr_ok rfl) hp2 rfl) rfl)
  by_cases h6 : 0 < a'
  · rw [decide_eq_true h6] at e5
    obtain ⟨r, a2, e6, r0, r1, r2⟩ := nxF_ok (x2 := y2) (x3 := y3) (x4 := none) hp2 hm ha'
    refine ⟨r, a2, b', d', s2 r _ ((sSeq_nx e).trans (sSeq_rt ((sIf_t e5).trans e6))|>.trans (by rw [hs2])), r0, r1, r2, hb', hd'⟩
  · rw [decide_eq_false h6] at e5
    obtain ⟨r, b2, e6, r0, r1, r2⟩ := nxG_ok (x2 := y2) (x3 := y3) (x4 := none) hp2 hm hb' (by omega)
    refine ⟨r, a', b2, d', s2 r _ ((sSeq_nx e).trans ((sSeq_nx (sIf_f e5)).trans e6)|>.trans (by rw [hs2])), r0, r1, ha', r2, hd'⟩
end

/-! ### turns of a law -/
structure OwnOk (ns : List Int) (k : Int) (h : Hea) : Prop where
  it : ∃ a b c d, h = ⟨2, [ownO a b c d 0, .lst (ns.map .int)]⟩ ∧ 0 ≤ a ∧ (0 ≤ b ∧ b < 2147483563) ∧ (0 ≤ c ∧ c ≤ k) ∧ (0 ≤ d ∧ d ≤ ns.length)
theorem OwnOk.next {ns : List Int} {k : Int} {h : Hea} {many : Int} (o : OwnOk ns k h) (hl : ns.length ≤ 999) (hk : k < 100000000000) (hm : 0 < many ∧ many < 1000000000) :
    ∃ r h', mNext [.ref 1, .int many] h = .ok (.int r) h' ∧ 0 ≤ r ∧ r < many ∧ OwnOk ns (k + 1) h' := by
  obtain ⟨a, b, c, d, rfl, ha, hb, hc, hd⟩ := o.it
  obtain ⟨r, a', b', d', e, r0, r1, ha', hb', hd'⟩ := next_spec (h := ⟨2, [ownO a b c d 0, .lst (ns.map .int)]⟩) (p := 1) (q := 0) (ns := ns) rfl rfl hm ha hb (by omega) hd hl
  exact ⟨r, _, e, r0, r1, ⟨⟨a', b', c + 1, d', rfl, ha', hb', by omega, hd'⟩⟩⟩
theorem OwnOk.mono {ns : List Int} {k k' : Int} {h : Hea} (o : OwnOk ns k h) (hk : k ≤ k') : OwnOk ns k' h := by
  obtain ⟨a, b, c, d, rfl, ha, hb, hc, hd⟩ := o.it
  exact ⟨⟨a, b, c, d, rfl, ha, hb, by omega, hd⟩⟩
/-- what a turn leaves: goes on, the two lowest objects, the first two slots, how many slots -/
def dig (r : Rs Ou) : Bool × List Ob × Lo × Nat := match r with
  | .ok (.nx l) h => (Nat.ble 2 h.n, h.l.drop (h.n - 2), l.take 2, l.length)
  | .ok (.ct l) h => (Nat.ble 2 h.n, h.l.drop (h.n - 2), l.take 2, l.length)
  | _ => (false, [], [], 0)
theorem okVs_ints (n : Nat) : ∀ ns : List Int, okVs n (ns.map .int) = true
  | [] => rfl
  | x :: r => by
    show (okV n (.int x) && okVs n (r.map .int)) = true
    rw [okVs_ints n r]; rfl
def Turned (n : Nat) (r : Rs Ou) (I : Lo → Hea → Prop) : Prop := ∃ l2 h2 h3, (r = .ok (.nx l2) h2 ∨ r = .ok (.ct l2) h2) ∧ truncH n h2 = some h3 ∧ I (cutLo n l2) h3
structure LwI (ns : List Int) (m : Nat) (k : Int) (l : Lo) (h : Hea) : Prop where
  own : OwnOk ns k h
  two : l.take 2 = [some (.sl (ns.map .int)), some (.ref 1)]
  len : l.length = m
theorem turn_ok {r : Rs Ou} {ns : List Int} {m : Nat} {k : Int} {h : Hea} (o : OwnOk ns k h) (e : dig r = (true, h.l, [some (.sl (ns.map .int)), some (.ref 1)], m)) : Turned 2 r (LwI ns m k) := by
  obtain ⟨a, b, c, d, eh, ha, hb, hc, hd⟩ := o.it
  have key : ∀ l2 h2, (r = .ok (.nx l2) h2 ∨ r = .ok (.ct l2) h2) → (Nat.ble 2 h2.n, h2.l.drop (h2.n - 2), l2.take 2, l2.length) = (true, h.l, ([some (.sl (ns.map .int)), some (.ref 1)] : Lo), m) → Turned 2 r (LwI ns m k) := by
    intro l2 h2 er e
    injection e with e1 e
    injection e with e2 e
    injection e with e3 e4
    refine ⟨l2, h2, h, er, ?_, ⟨o, ?_, by unfold cutLo; rw [List.length_map]; exact e4⟩⟩
    · unfold truncH
      rw [if_pos (Nat.le_of_ble_eq_true e1), e2]
      subst eh
      have : ([ownO a b c d 0, .lst (ns.map .int)].all (okO 2)) = true := by
        show (okO 2 (ownO a b c d 0) && (okO 2 (.lst (ns.map .int)) && true)) = true
        have h1 : okO 2 (ownO a b c d 0) = true := rfl
        have h2 : okO 2 (.lst (ns.map .int)) = true := okVs_ints 2 ns
        rw [h1, h2]; rfl
      rw [if_pos this]
    · unfold cutLo
      rw [← List.map_take, e3]
      have h1 : okV 2 (.sl (ns.map .int)) = true := by unfold okV; exact okVs_ints 2 ns
      have h2 : okV 2 (.ref 1) = true := rfl
      simp only [List.map_cons, List.map_nil, h1, h2, if_true]
  match r, e, key with
  | .ok (.nx l2) h2, e, key => exact key l2 h2 (.inl rfl) e
  | .ok (.ct l2) h2, e, key => exact key l2 h2 (.inr rfl) e
  | .ok (.bk l2) h2, e, key => injection e with e1 _; cases e1
  | .ok (.rt l2) h2, e, key => injection e with e1 _; cases e1
  | .err .., e, key => injection e with e1 _; cases e1
  | .no, e, key => injection e with e1 _; cases e1
theorem forG_inv {src : Sr} {tg : Tg} {B : Sx} {n : Nat} (I : Nat → Lo → Hea → Prop) (N : Nat)
    (hs : ∀ k, k < N → ∀ l h, I k l h → ∃ v ups, stp h k src = some (some v) ∧ bnd h tg v = some ups ∧ Turned n (B (setL l ups) h) (I (k + 1)))
    (he : ∀ l h, I N l h → stp h N src = some none) :
    ∀ (m k : Nat), k + m = N → ∀ fuel, m < fuel → ∀ l h, I k l h → ∃ l' h', forG src tg B n fuel k l h = .ok (.nx l') h' ∧ I N l' h'
  | 0, k, e, f + 1, _, l, h, i => by
    have e : k = N := e
    subst e
    refine ⟨l, h, ?_, i⟩
    unfold forG
    rw [he l h i]
  | m + 1, k, e, f + 1, hf, l, h, i => by
    obtain ⟨v, ups, e1, e2, l2, h2, h3, e3, e4, i2⟩ := hs k (by omega) l h i
    obtain ⟨l', h', e5, i3⟩ := forG_inv I N hs he m (k + 1) (by omega) f (by omega) _ _ i2
    refine ⟨l', h', ?_, i3⟩
    unfold forG
    simp only [e1, e2]
    rcases e3 with e3 | e3
    · rw [e3]; simp only [Rs.bind, e4, e5]
    · rw [e3]; simp only [Rs.bind, e4, e5]
theorem stp_range (N k : Nat) (h : Hea) : stp h k (.vals (rangeV 0 N)) = some (if k < N then some (.int k) else none) := by
  show some (rangeV 0 N)[k]? = _
  unfold rangeV
  rw [List.getElem?_map]
  by_cases q : k < N
  · rw [if_pos q, List.getElem?_eq_getElem (by simpa using q), List.getElem_range]
    simp
  · rw [if_neg q, List.getElem?_eq_none (by simpa using q)]
    rfl
theorem forG_range {B : Sx} {ns : List Int} {m N : Nat} {step : Int} {l : Lo} {h : Hea} (i : LwI ns m (step * (0 : Nat)) l h) (h0 : 0 ≤ step)
    (hs : ∀ (k : Nat) (c : Int) (l : Lo) (h : Hea), 0 ≤ c → c ≤ step * N → LwI ns m c l h → k < N → Turned 2 (B (l.set 2 (some (.int k))) h) (LwI ns m (c + step))) (F : Nat) (hF : N < F) :
    ∃ l' h', forG (.vals (rangeV 0 N)) (.nm 2) B 2 F 0 l h = .ok (.nx l') h' ∧ LwI ns m (step * N) l' h' :=
  forG_inv (src := .vals (rangeV 0 N)) (tg := .nm 2) (B := B) (n := 2) (fun k l h => LwI ns m (step * (k : Nat)) l h) N (fun k hk l h i => ⟨.int k, [(2, .int k)], by rw [stp_range, if_pos hk], rfl, by
    have t := hs k (step * k) l h (Int.mul_nonneg h0 (by omega)) (Int.mul_le_mul_of_nonneg_left (by omega) h0) i hk
    have e : step * ((k + 1 : Nat) : Int) = step * k + step := by rw [Int.natCast_add, Int.mul_add]; simp
    rw [e]
    exact t⟩) (fun l h _ => by rw [stp_range, if_neg (by omega)]) N 0 (by omega) F hF l h i
theorem LwI.zero {ns : List Int} {m : Nat} {step : Int} {l : Lo} {h : Hea} (i : LwI ns m 0 l h) : LwI ns m (step * (0 : Nat)) l h := by
  have : step * ((0 : Nat) : Int) = 0 := by simp
  rw [this]; exact i
theorem iRange1_ok {A : Ex} {l : Lo} {h : Hea} {j : Int} (e : A l h = .ok (.int j) h) (h0 : -1000000 < j) (h1 : j < 1000000) : iRange1 (aCons A aNil) l h = .ok (.vals (rangeV 0 j.toNat)) h := by
  have c : (decide (-1000000 < j) && decide (j < 1000000)) = true := by rw [Bool.and_eq_true]; exact ⟨decide_eq_true h0, decide_eq_true h1⟩
  unfold iRange1 aCons aNil
  rw [e]
  simp only [Rs.bind]
  rw [if_pos c]
theorem bigN_le : 100000 ≤ bigN := by decide +kernel
/-- a law of turns: each turn goes on -/
theorem law_turns {B T : Sx} {ns : List Int} {m N : Nat} {step : Int} (j : Int) (hj : (N : Int) = j) (hN : N < 100000) (l : Lo) (h : Hea) (i : LwI ns m 0 l h) (h0 : 0 ≤ step)
    (hs : ∀ (k : Nat) (c : Int) (l : Lo) (h : Hea), 0 ≤ c → c ≤ step * N → LwI ns m c l h → k < N → Turned 2 (B (l.set 2 (some (.int k))) h) (LwI ns m (c + step))) :
    ∃ l' h', sForG (iRange1 (aCons (cV (.int j)) aNil)) (.nm 2) B l h = .ok (.nx l') h' ∧ LwI ns m (step * N) l' h' := by
  obtain ⟨a, b, c, d, eh, ha, hb, hc, hd⟩ := i.own.it
  have en : h.n = 2 := by rw [eh]
  subst hj
  have e1 : iRange1 (aCons (cV (.int (N : Int))) aNil) l h = .ok (.vals (rangeV 0 N)) h := by
    have := iRange1_ok (A := cV (.int (N : Int))) (l := l) (h := h) rfl (by omega) (by omega)
    rw [Int.toNat_natCast] at this
    exact this
  have hB : 100000 ≤ bigN := bigN_le
  obtain ⟨l', h', e, q⟩ := forG_range i.zero h0 hs bigN (Nat.lt_of_lt_of_le hN hB)
  refine ⟨l', h', ?_, q⟩
  have e2 : sForG (iRange1 (aCons (cV (.int (N : Int))) aNil)) (.nm 2) B l h = (iRange1 (aCons (cV (.int (N : Int))) aNil) l h).bind fun src h1 => forG src (.nm 2) B h1.n bigN 0 l h1 := by unfold sForG; rfl
  rw [e2, e1]
  rw [← e, ← en]
  unfold Rs.bind
  with_reducible rfl
theorem callF_ok {n : Nat} {m : Fn} {B : Ax} {l : Lo} {h h1 h2 : Hea} {xs : List Va} {v : Va} (e : B l h = .ok xs h1) (hn : xs.length = n) (e2 : m xs h1 = .ok v h2) : callF n m B l h = .ok v h2 := by
  unfold callF
  rw [e]
  simp only [Rs.bind]
  rw [if_pos hn, e2]
  rfl
/-- a draw below a number -/
theorem draw_ok {A : Ex} {l : Lo} {h : Hea} {j : Int} {r : Int} {h' : Hea} (hv : l[1]? = some (some (.ref 1))) (eA : A l h = .ok (.int j) h) (e : mNext [.ref 1, .int j] h = .ok (.int r) h') : callF 2 mNext (aCons (vr 1) (aCons A aNil)) l h = .ok (.int r) h' :=
  callF_ok (xs := [.ref 1, .int j]) (h1 := h) (by unfold aCons; rw [vr_ok hv]; simp only [Rs.bind]; rw [eA]; rfl) rfl e
end Rf

/-! Rf: dicts. -/
namespace Rf
open PySem PySem.Spec PyProof.Rows L2

/-! ### keys -/
def strq : List Nat → List Nat → Bool
  | [], [] => true
  | a :: r, b :: t => match Nat.beq a b with
    | true => strq r t
    | false => false
  | _, _ => false
theorem strq_eq : ∀ a b : List Nat, strq a b = decide (a = b)
  | [], [] => rfl
  | [], _ :: _ => rfl
  | _ :: _, [] => rfl
  | a :: r, b :: t => by
    unfold strq
    cases h : Nat.beq a b with
    | true =>
      have e := Nat.eq_of_beq_eq_true h
      subst e
      rw [strq_eq r t]
      by_cases q : r = t
      · rw [decide_eq_true q, decide_eq_true (by rw [q])]
      · rw [decide_eq_false q, decide_eq_false (by intro e; exact q (List.cons.inj e).2)]
    | false =>
      have e := Nat.ne_of_beq_eq_false h
      rw [decide_eq_false (by intro q; exact e (List.cons.inj q).1)]
theorem arr_inj {a b : List Nat} : ((⟨a.toArray⟩ : Str) = ⟨b.toArray⟩) ↔ a = b := by
  constructor
  · intro e
    have : a.toArray = b.toArray := by injection e
    simpa using this
  · intro e; rw [e]
def keV : Va → Option Ke
  | .int i => some (.i i)
  | .str s => some (.s s)
  | _ => none
def keq : Ke → Ke → Bool
  | .i a, .i b => decide (a = b)
  | .s a, .s b => strq a b
  | _, _ => false
theorem keq_eq : ∀ a b : Ke, keq a b = decide (a.key = b.key)
  | .i a, .i b => by
    show decide (a = b) = decide ((Sum.inl a : Key) = Sum.inl b)
    by_cases q : a = b
    · rw [decide_eq_true q, decide_eq_true (by rw [q])]
    · rw [decide_eq_false q, decide_eq_false (by intro e; exact q (Sum.inl.inj e))]
  | .s a, .s b => by
    show strq a b = decide ((Sum.inr _ : Key) = Sum.inr _)
    rw [strq_eq]
    by_cases q : a = b
    · rw [decide_eq_true q, decide_eq_true (by rw [q])]
    · rw [decide_eq_false q, decide_eq_false (by intro e; exact q (arr_inj.mp (Sum.inr.inj e)))]
  | .i a, .s b => (decide_eq_false (by intro e; cases e)).symm
  | .s a, .i b => (decide_eq_false (by intro e; cases e)).symm
theorem keV_rel {K : FW} {ρ : List Addr} {H : Hp} {a : Va} {k : Ke} {y : V} (e : keV a = some k) (r : RV K ρ H a y) : y = kV k.key := by
  cases a with
  | int i => cases e; exact r
  | str s => cases e; exact r
  | _ => cases e
mutual
def kq : Va → Va → Bool
  | .non, .non => true
  | .int i, .int j => decide (i = j)
  | .int i, .bl b => decide (i = if b then 1 else 0)
  | .bl b, .int i => decide ((if b then (1 : Int) else 0) = i)
  | .bl a, .bl b => decide ((if a then (1 : Int) else 0) = if b then 1 else 0)
  | .str s, .str t => strq s t
  | .tup xs, .tup ys => kqs xs ys
  | _, _ => false
def kqs : List Va → List Va → Bool
  | [], [] => true
  | x :: r, y :: t => match kq x y with
    | true => kqs r t
    | false => false
  | _, _ => false
end
theorem dec_num (i j : Int) : decide (i = j) = decide (NestedKey.num i = NestedKey.num j) := by
  by_cases q : i = j
  · rw [decide_eq_true q, decide_eq_true (by rw [q])]
  · rw [decide_eq_false q, decide_eq_false (by intro e; injection e with e; exact q e)]
mutual
theorem kq_eq : ∀ (a b : Va) {x y : NestedKey}, nkOf a = some x → nkOf b = some y → kq a b = decide (x = y)
  | .tup xs, b, x, y, h1, h2 => by
    unfold nkOf at h1
    cases e : nksOf xs with
    | none => rw [e] at h1; cases h1
    | some ks =>
      rw [e] at h1
      cases h1
      cases b with
      | tup ys =>
        unfold nkOf at h2
        cases e2 : nksOf ys with
        | none => rw [e2] at h2; cases h2
        | some js =>
          rw [e2] at h2
          cases h2
          show kqs xs ys = _
          rw [kqs_eq xs ys e e2]
          by_cases q : ks = js
          · rw [decide_eq_true q, decide_eq_true (by rw [q])]
          · rw [decide_eq_false q, decide_eq_false (by intro e; injection e with e; exact q e)]
      | non => cases h2; exact (decide_eq_false (by intro e; cases e)).symm
      | bl _ => cases h2; exact (decide_eq_false (by intro e; cases e)).symm
      | int _ => cases h2; exact (decide_eq_false (by intro e; cases e)).symm
      | str _ => cases h2; exact (decide_eq_false (by intro e; cases e)).symm
      | ref _ => cases h2
      | fl _ => cases h2
      | pr _ => cases h2
      | fd _ _ => cases h2
      | sl _ => cases h2
  | .non, b, x, y, h1, h2 => by
    cases h1
    cases b with
    | non => cases h2; rfl
    | tup ys =>
      unfold nkOf at h2
      cases e2 : nksOf ys with
      | none => rw [e2] at h2; cases h2
      | some js => rw [e2] at h2; cases h2; exact (decide_eq_false (by intro e; cases e)).symm
    | ref _ => cases h2
    | fl _ => cases h2
    | pr _ => cases h2
    | fd _ _ => cases h2
    | sl _ => cases h2
    | bl _ => cases h2; exact (decide_eq_false (by intro e; cases e)).symm
    | int _ => cases h2; exact (decide_eq_false (by intro e; cases e)).symm
    | str _ => cases h2; exact (decide_eq_false (by intro e; cases e)).symm
  | .int i, b, x, y, h1, h2 => by
    cases h1
    cases b with
    | int j => cases h2; exact dec_num _ _
    | bl j => cases h2; exact dec_num _ _
    | tup ys =>
      unfold nkOf at h2
      cases e2 : nksOf ys with
      | none => rw [e2] at h2; cases h2
      | some js => rw [e2] at h2; cases h2; exact (decide_eq_false (by intro e; cases e)).symm
    | ref _ => cases h2
    | fl _ => cases h2
    | pr _ => cases h2
    | fd _ _ => cases h2
    | sl _ => cases h2
    | non => cases h2; exact (decide_eq_false (by intro e; cases e)).symm
    | str _ => cases h2; exact (decide_eq_false (by intro e; cases e)).symm
  | .bl i, b, x, y, h1, h2 => by
    cases h1
    cases b with
    | int j => cases h2; exact dec_num _ _
    | bl j => cases h2; exact dec_num _ _
    | tup ys =>
      unfold nkOf at h2
      cases e2 : nksOf ys with
      | none => rw [e2] at h2; cases h2
      | some js => rw [e2] at h2; cases h2; exact (decide_eq_false (by intro e; cases e)).symm
    | ref _ => cases h2
    | fl _ => cases h2
    | pr _ => cases h2
    | fd _ _ => cases h2
    | sl _ => cases h2
    | non => cases h2; exact (decide_eq_false (by intro e; cases e)).symm
    | str _ => cases h2; exact (decide_eq_false (by intro e; cases e)).symm
  | .str s, b, x, y, h1, h2 => by
    cases h1
    cases b with
    | str t =>
      cases h2
      show strq s t = _
      rw [strq_eq]
      by_cases q : s = t
      · rw [decide_eq_true q, decide_eq_true (by rw [q])]
      · rw [decide_eq_false q, decide_eq_false (by intro e; injection e with e; exact q (arr_inj.mp e))]
    | tup ys =>
      unfold nkOf at h2
      cases e2 : nksOf ys with
      | none => rw [e2] at h2; cases h2
      | some js => rw [e2] at h2; cases h2; exact (decide_eq_false (by intro e; cases e)).symm
    | ref _ => cases h2
    | fl _ => cases h2
    | pr _ => cases h2
    | fd _ _ => cases h2
    | sl _ => cases h2
    | non => cases h2; exact (decide_eq_false (by intro e; cases e)).symm
    | int _ => cases h2; exact (decide_eq_false (by intro e; cases e)).symm
    | bl _ => cases h2; exact (decide_eq_false (by intro e; cases e)).symm
  | .ref _, _, _, _, h1, _ => by cases h1
  | .fl _, _, _, _, h1, _ => by cases h1
  | .pr _, _, _, _, h1, _ => by cases h1
  | .fd _ _, _, _, _, h1, _ => by cases h1
  | .sl _, _, _, _, h1, _ => by cases h1
theorem kqs_eq : ∀ (a b : List Va) {x y : List NestedKey}, nksOf a = some x → nksOf b = some y → kqs a b = decide (x = y)
  | [], [], x, y, h1, h2 => by cases h1; cases h2; rfl
  | [], c :: r, x, y, h1, h2 => by
    cases h1
    unfold nksOf at h2
    cases e1 : nkOf c with
    | none => rw [e1] at h2; cases h2
    | some k =>
      rw [e1] at h2
      cases e2 : nksOf r with
      | none => rw [e2] at h2; cases h2
      | some ks => rw [e2] at h2; cases h2; exact (decide_eq_false (by intro e; cases e)).symm
  | c :: r, [], x, y, h2, h1 => by
    cases h1
    unfold nksOf at h2
    cases e1 : nkOf c with
    | none => rw [e1] at h2; cases h2
    | some k =>
      rw [e1] at h2
      cases e2 : nksOf r with
      | none => rw [e2] at h2; cases h2
      | some ks => rw [e2] at h2; cases h2; exact (decide_eq_false (by intro e; cases e)).symm
  | c :: r, d :: t, x, y, h1, h2 => by
    unfold nksOf at h1 h2
    cases e1 : nkOf c with
    | none => rw [e1] at h1; cases h1
    | some k =>
      rw [e1] at h1
      cases e2 : nksOf r with
      | none => rw [e2] at h1; cases h1
      | some ks =>
        rw [e2] at h1
        cases h1
        cases e3 : nkOf d with
        | none => rw [e3] at h2; cases h2
        | some j =>
          rw [e3] at h2
          cases e4 : nksOf t with
          | none => rw [e4] at h2; cases h2
          | some js =>
            rw [e4] at h2
            cases h2
            unfold kqs
            rw [kq_eq c d e1 e3]
            by_cases q : k = j
            · rw [decide_eq_true q]
              show kqs r t = _
              rw [kqs_eq r t e2 e4]
              by_cases q2 : ks = js
              · rw [decide_eq_true q2, decide_eq_true (by rw [q, q2])]
              · rw [decide_eq_false q2, decide_eq_false (by intro e; exact q2 (List.cons.inj e).2)]
            · rw [decide_eq_false q]
              exact (decide_eq_false (by intro e; exact q (List.cons.inj e).1)).symm
end
section
variable {X : Cx} {pins : List (Addr × Obj)} {σ : L2.St} {H : Hp} {s : Shared} {ρ : List Addr}
set_option maxHeartbeats 4000000 in
mutual
theorem nest_is (I : Inv X pins σ H s) : ∀ (a : Va) {x : V} {k : NestedKey} {u : Value}, RV X.fw ρ H a x → nkOf a = some k → RelV x u → NestedIs s.heap k u
  | .non, _, _, _, r, e, t => by cases r; cases e; cases t; exact .none
  | .bl b, _, _, _, r, e, t => by cases r; cases e; cases t; exact .bool rfl
  | .int i, _, _, _, r, e, t => by cases r; cases e; obtain ⟨t, rfl⟩ := t; exact .int _ _
  | .str i, _, _, _, r, e, t => by cases r; cases e; obtain ⟨t, rfl⟩ := t; exact .text _ _
  | .ref _, _, _, _, _, e, _ => by cases e
  | .fl _, _, _, _, _, e, _ => by cases e
  | .pr _, _, _, _, _, e, _ => by cases e
  | .fd _ _, _, _, _, _, e, _ => by cases e
  | .sl _, _, _, _, _, e, _ => by cases e
  | .tup xs, _, _, _, ⟨a, us, e1, h1, h2⟩, e, t => by
    unfold nkOf at e
    cases q : nksOf xs with
    | none => rw [q] at e; cases e
    | some ks =>
      rw [q] at e
      cases e
      subst e1
      cases t
      obtain ⟨its, vl, ho, _⟩ := I.tuple h1.1
      obtain ⟨o, h3, h4, n, h5⟩ := ho
      exact .tup h3 h4 h5 (nests_is I xs h2 q vl)
theorem nests_is (I : Inv X pins σ H s) : ∀ (xs : List Va) {us : List V} {ks : List NestedKey} {vs : List Value}, RVs X.fw ρ H xs us → nksOf xs = some ks → Vals us vs → NestedAll s.heap ks vs
  | [], _, _, _, r, e, t => by cases r; cases e; cases t; exact .nil
  | x :: xs, _, _, _, ⟨u, w, e1, r1, r2⟩, e, t => by
    subst e1
    unfold nksOf at e
    cases q1 : nkOf x with
    | none => rw [q1] at e; cases e
    | some k =>
      rw [q1] at e
      cases q2 : nksOf xs with
      | none => rw [q2] at e; cases e
      | some ks =>
        rw [q2] at e
        cases e
        cases t with
        | cons t1 t2 => exact .cons (nest_is I x r1 q1 t1) (nests_is I xs r2 q2 t2)
end
end
end Rf

/-! Rf: what stands in a dict; its operations. -/
namespace Rf
open PySem PySem.Spec PyProof.Rows L2

/-! ### lookups and stores -/
def lkK : List (Ke × Va) → Ke → Option Va
  | [], _ => none
  | p :: r, k => match keq p.1 k with
    | true => some p.2
    | false => lkK r k
def mpK : List (Ke × Va) → Ke → Va → List (Ke × Va)
  | [], _, _ => []
  | p :: r, k, v => (match keq p.1 k with
    | true => (p.1, v)
    | false => p) :: mpK r k v
def ptK (kvs : List (Ke × Va)) (k : Ke) (v : Va) : List (Ke × Va) := match lkK kvs k with
  | some _ => mpK kvs k v
  | none => kvs ++ [(k, v)]
def drK : List (Ke × Va) → Ke → List (Ke × Va)
  | [], _ => []
  | p :: r, k => match keq p.1 k with
    | true => drK r k
    | false => p :: drK r k
def lkN : List (Va × Va) → Va → Option Va
  | [], _ => none
  | p :: r, k => match kq p.1 k with
    | true => some p.2
    | false => lkN r k
def mpN : List (Va × Va) → Va → Va → List (Va × Va)
  | [], _, _ => []
  | p :: r, k, v => (match kq p.1 k with
    | true => (p.1, v)
    | false => p) :: mpN r k v
def ptN (kvs : List (Va × Va)) (k : Va) (v : Va) : List (Va × Va) := match lkN kvs k with
  | some _ => mpN kvs k v
  | none => kvs ++ [(k, v)]
section
variable {K : FW} {ρ : List Addr} {H : Hp}
theorem lkK_rel {k : Ke} : ∀ {kvs : List (Ke × Va)} {ws : List (Key × V)}, RKV K ρ H kvs ws → (∀ v, lkK kvs k = some v → ∃ z, valV ws k.key = some z ∧ RV K ρ H v z) ∧ (lkK kvs k = none → valV ws k.key = none)
  | _, _, .nil => ⟨fun v e => (nomatch e), fun _ => rfl⟩
  | _, _, .cons (a := p) (b := q) (l₁ := kvs) (l₂ := ws) r t => by
    have ih := lkK_rel (k := k) (kvs := kvs) (ws := ws) t
    have eq : keq p.1 k = decide (q.1 = k.key) := by rw [keq_eq, r.1]
    by_cases h : q.1 = k.key
    · rw [decide_eq_true h] at eq
      have e1 : lkK (p :: kvs) k = some p.2 := by unfold lkK; rw [eq]
      rw [e1, valV_pos h]
      exact ⟨fun v e => (by cases e; exact ⟨_, rfl, r.2⟩), fun e => (nomatch e)⟩
    · rw [decide_eq_false h] at eq
      have e1 : lkK (p :: kvs) k = lkK kvs k := by conv => lhs; unfold lkK; rw [eq]
      rw [e1, valV_neg h]
      exact ih
theorem lkK_any {k : Ke} {kvs : List (Ke × Va)} {ws : List (Key × V)} (r : RKV K ρ H kvs ws) : (ws.any fun kv => decide (kv.1 = k.key)) = (lkK kvs k).isSome := by
  rw [valV_any]
  obtain ⟨h1, h2⟩ := lkK_rel (k := k) r
  cases e : lkK kvs k with
  | none => rw [h2 e]; rfl
  | some v => obtain ⟨z, e2, _⟩ := h1 v e; rw [e2]; rfl
theorem mpK_rel {k : Ke} {v : Va} {z : V} (rz : RV K ρ H v z) : ∀ {kvs : List (Ke × Va)} {ws : List (Key × V)}, RKV K ρ H kvs ws → RKV K ρ H (mpK kvs k v) (ws.map fun kv => if kv.1 = k.key then (kv.1, z) else kv)
  | _, _, .nil => .nil
  | _, _, .cons (a := p) (b := q) (l₁ := kvs) (l₂ := ws) r t => by
    have eq : keq p.1 k = decide (q.1 = k.key) := by rw [keq_eq, r.1]
    unfold mpK
    rw [List.map_cons]
    refine .cons ?_ (mpK_rel rz t)
    by_cases h : q.1 = k.key
    · rw [decide_eq_true h] at eq
      rw [eq, if_pos h]; exact ⟨r.1, rz⟩
    · rw [decide_eq_false h] at eq
      rw [eq, if_neg h]; exact r
theorem Paired.app {α β : Type} {F : α → β → Prop} : ∀ {l₁ : List α} {l₂ : List β} {a : α} {b : β}, Paired F l₁ l₂ → F a b → Paired F (l₁ ++ [a]) (l₂ ++ [b])
  | _, _, _, _, .nil, h => .cons h .nil
  | _, _, _, _, .cons r t, h => .cons r (Paired.app t h)
theorem ptK_rel {k : Ke} {v : Va} {z : V} (rz : RV K ρ H v z) {kvs : List (Ke × Va)} {ws : List (Key × V)} (r : RKV K ρ H kvs ws) : RKV K ρ H (ptK kvs k v) (putK ws k.key z) := by
  unfold ptK putK
  rw [lkK_any r]
  cases e : lkK kvs k with
  | some _ => simp only [Option.isSome_some, if_true]; exact mpK_rel rz r
  | none => simp only [Option.isSome_none]; exact Paired.app r ⟨rfl, rz⟩
theorem drK_rel {k : Ke} : ∀ {kvs : List (Ke × Va)} {ws : List (Key × V)}, RKV K ρ H kvs ws → RKV K ρ H (drK kvs k) (dropK ws k.key)
  | _, _, .nil => .nil
  | _, _, .cons (a := p) (b := q) (l₁ := kvs) (l₂ := ws) r t => by
    have eq : keq p.1 k = decide (q.1 = k.key) := by rw [keq_eq, r.1]
    unfold drK dropK
    rw [List.filter_cons]
    by_cases h : q.1 = k.key
    · rw [decide_eq_true h] at eq
      rw [eq, if_neg (by simp [h])]; exact drK_rel t
    · rw [decide_eq_false h] at eq
      rw [eq, if_pos (by simp [h])]; exact .cons r (drK_rel t)
theorem lkN_rel {k : Va} {kk : NestedKey} (nk : nkOf k = some kk) : ∀ {kvs : List (Va × Va)} {xs : List (NestedKey × Addr × Value)}, RN K ρ H kvs xs → (∀ v, lkN kvs k = some v → ∃ p z, atKey xs kk = some p ∧ RV K ρ H v z ∧ RelV z p.2) ∧ (lkN kvs k = none → atKey xs kk = none)
  | _, _, .nil => ⟨fun v e => (nomatch e), fun _ => rfl⟩
  | _, _, .cons (a := p) (b := q) (l₁ := kvs) (l₂ := ws) r t => by
    have ih := lkN_rel (k := k) nk (kvs := kvs) (xs := ws) t
    have eq : kq p.1 k = decide (q.1 = kk) := kq_eq _ _ r.1.1 nk
    by_cases h : q.1 = kk
    · rw [decide_eq_true h] at eq
      have e1 : lkN (p :: kvs) k = some p.2 := by unfold lkN; rw [eq]
      have e2 : atKey (q :: ws) kk = some q.2 := by unfold atKey; rw [List.find?_cons, decide_eq_true h]; rfl
      rw [e1, e2]
      obtain ⟨z, r1, r2⟩ := r.2
      exact ⟨fun v e => (by cases e; exact ⟨_, z, rfl, r1, r2⟩), fun e => (nomatch e)⟩
    · rw [decide_eq_false h] at eq
      have e1 : lkN (p :: kvs) k = lkN kvs k := by conv => lhs; unfold lkN; rw [eq]
      have e2 : atKey (q :: ws) kk = atKey ws kk := by unfold atKey; rw [List.find?_cons, decide_eq_false h]
      rw [e1, e2]
      exact ih
theorem mpN_rel {k : Va} {kk : NestedKey} {v : Va} {z : V} {r : Value} (nk : nkOf k = some kk) (rz : RV K ρ H v z) (rr : RelV z r) : ∀ {kvs : List (Va × Va)} {xs : List (NestedKey × Addr × Value)}, RN K ρ H kvs xs → RN K ρ H (mpN kvs k v) (xs.map (putAt kk r))
  | _, _, .nil => .nil
  | _, _, .cons (a := p) (b := q) (l₁ := kvs) (l₂ := ws) r t => by
    have eq : kq p.1 k = decide (q.1 = kk) := kq_eq _ _ r.1.1 nk
    unfold mpN
    rw [List.map_cons]
    refine .cons ?_ (mpN_rel nk rz rr t)
    unfold putAt
    by_cases h : q.1 = kk
    · rw [decide_eq_true h] at eq
      rw [eq, if_pos h]; exact ⟨r.1, z, rz, rr⟩
    · rw [decide_eq_false h] at eq
      rw [eq, if_neg h]; exact r
theorem ptN_rel {k : Va} {kk : NestedKey} {v : Va} {z : V} {r : Value} {b : Addr} (nk : nkOf k = some kk) (dp : kk.depth ≤ 8) (rk : RV K ρ H k (.ref b)) (rz : RV K ρ H v z) (rr : RelV z r) {kvs : List (Va × Va)} {xs : List (NestedKey × Addr × Value)} (q : RN K ρ H kvs xs) : RN K ρ H (ptN kvs k v) (storedH xs kk b r) := by
  unfold ptN storedH
  obtain ⟨h1, h2⟩ := lkN_rel nk q
  cases e : lkN kvs k with
  | some w =>
    obtain ⟨p, z', e2, _⟩ := h1 w e
    simp only [e2, Option.isSome_some, if_true]; exact mpN_rel nk rz rr q
  | none =>
    simp only [h2 e, Option.isSome_none]; exact Paired.app q ⟨⟨nk, dp, rk⟩, z, rz, rr⟩
theorem mpK_len : ∀ (kvs : List (Ke × Va)) (k : Ke) (v : Va), (mpK kvs k v).length = kvs.length
  | [], _, _ => rfl
  | p :: r, k, v => by show _ + 1 = _ + 1; rw [mpK_len r k v]
theorem storedH_len (xs : List (NestedKey × Addr × Value)) (k : NestedKey) (b : Addr) (r : Value) : (storedH xs k b r).length ≤ xs.length + 1 := by
  unfold storedH
  split
  · rw [List.length_map]; omega
  · rw [List.length_append]; exact Nat.le_refl _
end
/-- a tree that is a key of a dict with tuple keys -/
def tkOf (k : Va) : Option NestedKey := match k with
  | .tup _ => match nkOf k with
    | some kk => if kk.depth ≤ 8 then some kk else none
    | none => none
  | _ => none
/-- what the dict at place i holds at k: not told; not there; there -/
def dAt (h : Hea) (i : Nat) (k : Va) : Option (Option Va) := match h.get i with
  | some (.dic kvs) => match keV k with
    | some ke => some (lkK kvs ke)
    | none => none
  | some (.dlk kvs) => match keV k with
    | some ke => some (lkK kvs ke)
    | none => none
  | some (.dit kvs) => match tkOf k with
    | some _ => some (lkN kvs k)
    | none => none
  | _ => none
/-- the heap behind a store at k -/
def dPut (h : Hea) (i : Nat) (k v : Va) : Option Hea := match h.get i with
  | some (.dic kvs) => match keV k with
    | some ke => if kvs.length < sLine then some (h.set i (.dic (ptK kvs ke v))) else none
    | none => none
  | some (.dit kvs) => match tkOf k with
    | some _ => if kvs.length < sLine then some (h.set i (.dit (ptN kvs k v))) else none
    | none => none
  | _ => none
section
variable {X : Cx} {pins : List (Addr × Obj)} {σ : L2.St} {H : Hp} {s : Shared} {ρ : List Addr} {h : Hea} {i : Nat} {k v : Va} {x y z : V} {u r : Value} {A : Around} {E : Value → Shared → Prop}
theorem tk_ref {K : FW} {kk : NestedKey} (e : tkOf k = some kk) (rk : RV K ρ H k y) : ∃ b, y = .ref b ∧ nkOf k = some kk ∧ kk.depth ≤ 8 := by
  cases k with
  | tup xs =>
    obtain ⟨a, us, h1, h2, h3⟩ := rk
    unfold tkOf at e
    cases q : nkOf (.tup xs) with
    | none => simp only [q] at e; cases e
    | some k2 =>
      simp only [q] at e
      by_cases hd : k2.depth ≤ 8
      · rw [if_pos hd] at e; cases e; exact ⟨a, h1, rfl, hd⟩
      · rw [if_neg hd] at e; cases e
  | _ => cases e
theorem dit_at (I : Inv X pins σ H s) (q : HR X.fw ρ h H) (rx : RV X.fw ρ H (.ref i) x) {kvs : List (Va × Va)} (g : h.get i = some (.dit kvs)) : ∃ (a : Addr) (xs : List (NestedKey × Addr × Value)), x = .ref a ∧ ρ[i]? = some a ∧ H a = some (.ext (DN X.fw a xs)) ∧ RN X.fw ρ H kvs xs ∧ (a == sysModules) = false ∧ xs.length ≤ sizeLine ∧ s.heap.DictOfH (nestedKind X.prog X.w) a xs := by
  obtain ⟨a, rfl, hp, xs, h1, h2⟩ := q.at_ref rx g
  obtain ⟨⟨l1, hm, o, es, ep, ho, hx, hd, he, nd⟩, _⟩ := I.hok a _ h1
  refine ⟨a, xs, rfl, hp, h1, h2, hm, l1, o, es, ep, ho, hx, hd, he, fun y hy => ?_, nd⟩
  have key : ∀ {kvs : List (Va × Va)} {xs : List (NestedKey × Addr × Value)}, RN X.fw ρ H kvs xs → ∀ y ∈ xs, (nestedKind X.prog X.w).is s.heap y.1 y.2.1 := by
    intro kvs xs r
    unfold RN at r
    induction r with
    | nil => intro y hy; cases hy
    | cons r t ih =>
      intro y hy
      rcases List.mem_cons.mp hy with rfl | hy
      · exact ⟨nest_is I _ r.1.2.2 r.1.1 rfl, r.1.2.1⟩
      · exact ih y hy
  exact key h2 y hy
/-- what dAt says of the abstract heap -/
def RelW (K : FW) (ρ : List Addr) (H : Hp) : Option Va → Option V → Prop
  | some w, some z => RV K ρ H w z
  | none, none => True
  | _, _ => False
theorem dAt_cases {o : Option Va} (I : Inv X pins σ H s) (q : HR X.fw ρ h H) (rx : RV X.fw ρ H (.ref i) x) (rk : RV X.fw ρ H k y) (e : dAt h i k = some o) :
    (∃ a o', x = .ref a ∧ DGet H a y o' ∧ RelW X.fw ρ H o o') ∨
    ∃ a b xs kk, x = .ref a ∧ y = .ref b ∧ (nestedKind X.prog X.w).is s.heap kk b ∧ (a == sysModules) = false ∧ xs.length ≤ sizeLine ∧ s.heap.DictOfH (nestedKind X.prog X.w) a xs ∧
      (∀ w, o = some w → ∃ p z, atKey xs kk = some p ∧ RV X.fw ρ H w z ∧ RelV z p.2) ∧ (o = none → atKey xs kk = none) := by
  have kCase : ∀ (kvs : List (Ke × Va)) (ke : Ke) (a : Addr) (ws : List (Key × V)), keV k = some ke → Rd H a (.dK ws) → RKV X.fw ρ H kvs ws → lkK kvs ke = o → ∃ o', DGet H a y o' ∧ RelW X.fw ρ H o o' := by
    intro kvs ke a ws hk hr rel el
    refine ⟨valV ws ke.key, .inl ⟨ws, ke.key, hr, keV_rel hk rk, rfl⟩, ?_⟩
    obtain ⟨l1, l2⟩ := lkK_rel (k := ke) rel
    cases o with
    | none => rw [l2 el]; trivial
    | some w => obtain ⟨z, hz, rz⟩ := l1 w el; rw [hz]; exact rz
  unfold dAt at e
  cases g : h.get i with
  | none => simp only [g] at e; cases e
  | some ob =>
    cases ob with
    | lst xs => simp only [g] at e; cases e
    | st xs => simp only [g] at e; cases e
    | dic kvs =>
      simp only [g] at e
      obtain ⟨a, rfl, hp, ws, h1, h2⟩ := q.at_ref rx g
      cases hk : keV k with
      | none => simp only [hk] at e; cases e
      | some ke => simp only [hk] at e; obtain ⟨o', r1, r2⟩ := kCase kvs ke a ws hk (.inl h1) h2 (Option.some.inj e); exact .inl ⟨a, o', rfl, r1, r2⟩
    | dlk kvs =>
      simp only [g] at e
      obtain ⟨a, rfl, hp, oo, ws, h1, h2⟩ := q.at_ref rx g
      cases hk : keV k with
      | none => simp only [hk] at e; cases e
      | some ke => simp only [hk] at e; obtain ⟨o', r1, r2⟩ := kCase kvs ke a ws hk (.inr ⟨oo, h1⟩) h2 (Option.some.inj e); exact .inl ⟨a, o', rfl, r1, r2⟩
    | dit kvs =>
      simp only [g] at e
      cases hk : tkOf k with
      | none => simp only [hk] at e; cases e
      | some kk =>
        simp only [hk] at e
        obtain ⟨b, rfl, nk, dp⟩ := tk_ref hk rk
        obtain ⟨a, xs, rfl, hp, h1, h2, hm, hl, dd⟩ := dit_at I q rx g
        obtain ⟨l1, l2⟩ := lkN_rel nk h2
        refine .inr ⟨a, b, xs, kk, rfl, rfl, ⟨nest_is I k rk nk rfl, dp⟩, hm, hl, dd, fun w ew => ?_, fun en => l2 ((Option.some.inj e).trans en)⟩
        exact l1 w ((Option.some.inj e).trans ew)
theorem RelW.isSome {K : FW} {ρ : List Addr} {H : Hp} {o : Option Va} {o' : Option V} (r : RelW K ρ H o o') : o'.isSome = o.isSome := by
  cases o <;> cases o' <;> first | rfl | exact False.elim r
theorem atKey_isSome {o : Option Va} {xs : List (NestedKey × Addr × Value)} {kk : NestedKey} (l1 : ∀ w, o = some w → ∃ p z, atKey xs kk = some p ∧ RV X.fw ρ H w z ∧ RelV z p.2) (l2 : o = none → atKey xs kk = none) : (atKey xs kk).isSome = o.isSome := by
  cases o with
  | none => rw [l2 rfl]; rfl
  | some w => obtain ⟨p, z, e, _⟩ := l1 w rfl; rw [e]; rfl
theorem dGet_run {w : Va} {Q : Value → Shared → Prop} (hu : A.units + 65 < cLine) (I : Inv X pins σ H s) (q : HR X.fw ρ h H) (rx : RV X.fw ρ H (.ref i) x) (rk : RV X.fw ρ H k y) (ru : RelV y u) (e : dAt h i k = some (some w))
    (c : ∀ z w' s', Inv X pins σ H s' → RV X.fw ρ H w z → RelV z w' → Q w' s') : ∃ a, x = .ref a ∧ s.TypeIs (.ref a) "dict" ∧ wpAny (model X.prog X.w) A (getItem (.ref a) u) Q E s := by
  rcases dAt_cases I q rx rk e with ⟨a, o', rfl, g, r⟩ | ⟨a, b, xs, kk, rfl, rfl, hk, hm, hl, dd, l1, l2⟩
  · cases o' with
    | none => exact False.elim r
    | some z => exact ⟨a, rfl, dict_typeIs I g, d_getItem (by omega) I g ru fun w' s' I' rw' => c z w' s' I' r rw'⟩
  · cases ru
    obtain ⟨p, z, e2, r1, r2⟩ := l1 w rfl
    exact ⟨a, rfl, dd.typeIs, wpAny_getItem_heap (knd := nestedKind X.prog X.w) (show A.units + 1 + 8 < cLine by omega) hk dd e2 (c z _ _ (I.tok _) r1 r2)⟩
theorem dIn_run {o : Option Va} {Q : Value → Shared → Prop} (hu : A.units + 65 < cLine) (I : Inv X pins σ H s) (q : HR X.fw ρ h H) (rx : RV X.fw ρ H (.ref i) x) (rv : RelV x r) (rk : RV X.fw ρ H k y) (ru : RelV y u) (e : dAt h i k = some o)
    (c : ∀ s', Inv X pins σ H s' → Q (.bool o.isSome) s') : wpAny (model X.prog X.w) A (compareOp .In u r) Q E s := by
  rcases dAt_cases I q rx rk e with ⟨a, o', rfl, g, rel⟩ | ⟨a, b, xs, kk, rfl, rfl, hk, hm, hl, dd, l1, l2⟩
  · cases rv
    exact d_in (by omega) I g ru fun s' I' => by rw [rel.isSome]; exact c s' I'
  · cases ru
    cases rv
    refine wpAny_in_heap (knd := nestedKind X.prog X.w) (show A.units + 1 + 8 < cLine by omega) hk hm dd ?_
    rw [atKey_isSome l1 l2]
    exact c _ (I.tok _)
theorem dNotIn_run {o : Option Va} {Q : Value → Shared → Prop} (hu : A.units + 65 < cLine) (I : Inv X pins σ H s) (q : HR X.fw ρ h H) (rx : RV X.fw ρ H (.ref i) x) (rv : RelV x r) (rk : RV X.fw ρ H k y) (ru : RelV y u) (e : dAt h i k = some o)
    (c : ∀ s', Inv X pins σ H s' → Q (.bool (!o.isSome)) s') : wpAny (model X.prog X.w) A (compareOp .NotIn u r) Q E s := by
  rcases dAt_cases I q rx rk e with ⟨a, o', rfl, g, rel⟩ | ⟨a, b, xs, kk, rfl, rfl, hk, hm, hl, dd, l1, l2⟩
  · cases rv
    exact d_notIn (by omega) I g ru fun s' I' => by rw [rel.isSome]; exact c s' I'
  · cases ru
    cases rv
    refine wpAny_notIn_heap (knd := nestedKind X.prog X.w) (show A.units + 1 + 8 < cLine by omega) hk hm dd ?_
    rw [atKey_isSome l1 l2]
    exact c _ (I.tok _)
/-- d.get(k) -/
theorem dGet1_run {o : Option Va} {Q : Value → Shared → Prop} (hu : A.units + 65 < cLine) (I : Inv X pins σ H s) (q : HR X.fw ρ h H) (rx : RV X.fw ρ H (.ref i) x) (rv : RelV x r) (rk : RV X.fw ρ H k y) (ru : RelV y u) (e : dAt h i k = some o)
    (c : ∀ z w' s', Inv X pins σ H s' → RV X.fw ρ H (o.getD .non) z → RelV z w' → Q w' s') : wpAny (model X.prog X.w) A (call (.builtin "dict.get") [r, u]) Q E s := by
  rcases dAt_cases I q rx rk e with ⟨a, o', rfl, g, rel⟩ | ⟨a, b, xs, kk, rfl, rfl, hk, hm, hl, dd, l1, l2⟩
  · cases rv
    refine d_get1 (by omega) I g ru fun w' s' I' rw' => c _ w' s' I' ?_ rw'
    cases o <;> cases o' <;> first | exact rel | exact False.elim rel | rfl
  · cases ru
    cases rv
    refine call_meetsIn PySem.F.slot_dict_get dd.typeIs PySem.F.entry_dict_get (PySem.F.args_dict_get_2 _ _) (meetsH_dict_get (nestedKind X.prog X.w) a b hm) ⟨show A.units + 1 + 8 < cLine by omega, kk, xs, hk, dd, ?_⟩
    cases o with
    | none => rw [l2 rfl]; exact c .non _ _ (I.tok _) rfl rfl
    | some w => obtain ⟨p, z, e, r1, r2⟩ := l1 w rfl; rw [e]; exact c z _ _ (I.tok _) r1 r2
theorem dGet2_run {d : Va} {zd : V} {ud : Value} {o : Option Va} {Q : Value → Shared → Prop} (hu : A.units + 65 < cLine) (I : Inv X pins σ H s) (q : HR X.fw ρ h H) (rx : RV X.fw ρ H (.ref i) x) (rv : RelV x r) (rk : RV X.fw ρ H k y) (ru : RelV y u) (rd : RV X.fw ρ H d zd) (rdu : RelV zd ud) (e : dAt h i k = some o)
    (c : ∀ z w' s', Inv X pins σ H s' → RV X.fw ρ H (o.getD d) z → RelV z w' → Q w' s') : wpAny (model X.prog X.w) A (call (.builtin "dict.get") [r, u, ud]) Q E s := by
  rcases dAt_cases I q rx rk e with ⟨a, o', rfl, g, rel⟩ | ⟨a, b, xs, kk, rfl, rfl, hk, hm, hl, dd, l1, l2⟩
  · cases rv
    refine d_get2 (by omega) I g ru rdu fun w' s' I' rw' => c _ w' s' I' ?_ rw'
    cases o <;> cases o' <;> first | exact rel | exact False.elim rel | exact rd
  · cases ru
    cases rv
    refine call_meetsIn PySem.F.slot_dict_get dd.typeIs PySem.F.entry_dict_get (PySem.F.args_dict_get_3 _ _ _) (meetsH_dict_get_default (nestedKind X.prog X.w) a b hm ud) ⟨show A.units + 1 + 8 < cLine by omega, kk, xs, hk, dd, ?_⟩
    cases o with
    | none => rw [l2 rfl]; exact c zd _ _ (I.tok _) rd rdu
    | some w => obtain ⟨p, z, e, r1, r2⟩ := l1 w rfl; rw [e]; exact c z _ _ (I.tok _) r1 r2
theorem dn_new {a : Addr} {xs : List (NestedKey × Addr × Value)} {h' : Heap} {H' : Hp} (hl : xs.length ≤ sizeLine) (hm : (a == sysModules) = false) (dd : h'.DictOfH (nestedKind X.prog X.w) a xs) : ObjOk X.prog X.w H' h' a (.ext (DN X.fw a xs)) := by
  obtain ⟨o, es, ep, ho, hx, hd, he, _, nd⟩ := dd
  exact ⟨⟨hl, hm, o, es, ep, ho, hx, hd, he, nd⟩, ⟨o, ho⟩, fun h1 h2 ⟨l1, m1, o1, es1, ep1, ho1, hx1, hd1, he1, nd1⟩ kp => ⟨l1, m1, o1, es1, ep1, kp o1 ho1, hx1, hd1, he1, nd1⟩⟩
/-- the heap's side of a store -/
theorem dPut_H {w : Va} {z : V} {h' : Hea} {Q : Hp → Prop} (q : HR X.fw ρ h H) (rx : RV X.fw ρ H (.ref i) x) (rk : RV X.fw ρ H k y) (rz : RV X.fw ρ H w z) {kvs : List (Ke × Va)} {ke : Ke} (g : h.get i = some (.dic kvs)) (hk : keV k = some ke) :
    ∃ a ws, x = .ref a ∧ H a = some (.dK ws) ∧ RKV X.fw ρ H kvs ws ∧ kvs.length = ws.length ∧ Ext X.fw ρ H ρ (upd H a (.dK (putK ws ke.key z))) ∧ HR X.fw ρ (h.set i (.dic (ptK kvs ke w))) (upd H a (.dK (putK ws ke.key z))) := by
  obtain ⟨a, rfl, hp, ws, h1, h2⟩ := q.at_ref rx g
  have mu : Mut (H a) := by rw [h1]; trivial
  have r := ptK_rel (k := ke) rz h2
  exact ⟨a, ws, rfl, h1, h2, Paired.length h2, Ext.write hp mu, q.write hp g mu ⟨_, upd_same, Paired.mapQ r fun _ _ t => ⟨t.1, RV.ext (Ext.write hp mu) _ t.2⟩⟩⟩
theorem RN.ext {ρ1 : List Addr} {H1 : Hp} {kvs : List (Va × Va)} {xs : List (NestedKey × Addr × Value)} (e : Ext X.fw ρ H ρ1 H1) (r : RN X.fw ρ H kvs xs) : RN X.fw ρ1 H1 kvs xs :=
  Paired.mapQ r fun _ _ ⟨⟨z1, z2, z3⟩, y, z4, z5⟩ => ⟨⟨z1, z2, RV.ext e _ z3⟩, y, RV.ext e _ z4, z5⟩
/-- d[k] = w -/
theorem dSet_run {w : Va} {z : V} {uz : Value} {h' : Hea} {Q : Unit → Shared → Prop} (hu : A.units + 65 < cLine) (I : Inv X pins σ H s) (q : HR X.fw ρ h H) (rx : RV X.fw ρ H (.ref i) x) (rv : RelV x r) (rk : RV X.fw ρ H k y) (ru : RelV y u) (rz : RV X.fw ρ H w z) (rzu : RelV z uz) (e : dPut h i k w = some h')
    (c : ∀ H' s', Inv X pins σ H' s' → Ext X.fw ρ H ρ H' → HR X.fw ρ h' H' → Q () s') : wpAny (model X.prog X.w) A (setItem r u uz) Q E s := by
  unfold dPut at e
  cases g : h.get i with
  | none => simp only [g] at e; cases e
  | some ob =>
    cases ob with
    | lst xs => simp only [g] at e; cases e
    | st xs => simp only [g] at e; cases e
    | dlk xs => simp only [g] at e; cases e
    | dic kvs =>
      simp only [g] at e
      cases hk : keV k with
      | none => simp only [hk] at e; cases e
      | some ke =>
        simp only [hk] at e
        by_cases hl : kvs.length < sLine
        · rw [if_pos hl] at e
          cases e
          obtain ⟨a, ws, rfl, h1, h2, el, ex, qn⟩ := dPut_H (h' := h) (Q := fun _ => True) q rx rk rz g hk
          cases rv
          exact d_setItem (by omega) I (.inl ⟨ws, ke.key, h1, keV_rel hk rk, by rw [← el, ← sLine_eq]; exact hl, rfl⟩) ru rzu fun s' I' => c _ s' I' ex qn
        · rw [if_neg hl] at e; cases e
    | dit kvs =>
      simp only [g] at e
      cases hk : tkOf k with
      | none => simp only [hk] at e; cases e
      | some kk =>
        simp only [hk] at e
        by_cases hl : kvs.length < sLine
        · rw [if_pos hl] at e
          cases e
          obtain ⟨b, rfl, nk, dp⟩ := tk_ref hk rk
          cases ru
          obtain ⟨a, xs, rfl, hp, h1, h2, hm, hl2, dd⟩ := dit_at I q rx g
          cases rv
          have hlx : xs.length < sizeLine := by rw [← Paired.length h2, ← sLine_eq]; exact hl
          refine wpAny_setItem_heap (hsz := hl2) (knd := nestedKind X.prog X.w) (show A.units + 1 + 8 < cLine by omega) ⟨nest_is I k rk nk rfl, dp⟩ dd fun h' dd' hs => ?_
          have mu : Mut (H a) := by rw [h1]; trivial
          have he : ∃ q, h'.get? a = some q := let ⟨q, _, _, hq, _⟩ := dd'; ⟨q, hq⟩
          have hl3 : (storedH xs kk b uz).length ≤ sizeLine := by have := storedH_len xs kk b uz; omega
          exact c _ _ (d_write I mu hs he (dn_new hl3 hm dd')) (Ext.write hp mu) (q.write hp g mu ⟨_, upd_same, (ptN_rel nk dp rk rz rzu h2).ext (Ext.write hp mu)⟩)
        · rw [if_neg hl] at e; cases e
/-- d.setdefault(k, w) -/
theorem dSetd_run {w : Va} {z : V} {uz : Value} {Q : Value → Shared → Prop} (hu : A.units + 65 < cLine) (I : Inv X pins σ H s) (q : HR X.fw ρ h H) (rx : RV X.fw ρ H (.ref i) x) (rv : RelV x r) (rk : RV X.fw ρ H k y) (ru : RelV y u) (rz : RV X.fw ρ H w z) (rzu : RelV z uz) {o : Option Va} {h' : Hea} (e : dAt h i k = some o) (ep : dPut h i k w = some h')
    (c1 : ∀ w1 z1 w' s', o = some w1 → Inv X pins σ H s' → RV X.fw ρ H w1 z1 → RelV z1 w' → Q w' s')
    (c2 : ∀ H' u' s', o = none → Inv X pins σ H' s' → Ext X.fw ρ H ρ H' → HR X.fw ρ h' H' → RelV z u' → Q u' s') : wpAny (model X.prog X.w) A (call (.builtin "dict.setdefault") [r, u, uz]) Q E s := by
  unfold dPut at ep
  cases g : h.get i with
  | none => simp only [g] at ep; cases ep
  | some ob =>
    cases ob with
    | lst xs => simp only [g] at ep; cases ep
    | st xs => simp only [g] at ep; cases ep
    | dlk xs => simp only [g] at ep; cases ep
    | dic kvs =>
      simp only [g] at ep
      cases hk : keV k with
      | none => simp only [hk] at ep; cases ep
      | some ke =>
        simp only [hk] at ep
        by_cases hl : kvs.length < sLine
        · rw [if_pos hl] at ep
          cases ep
          have eo : lkK kvs ke = o := by unfold dAt at e; simp only [g, hk] at e; exact Option.some.inj e
          obtain ⟨a, ws, rfl, h1, h2, el, ex, qn⟩ := dPut_H (h' := h) (Q := fun _ => True) q rx rk rz g hk
          obtain ⟨l1, l2⟩ := lkK_rel (k := ke) h2
          cases rv
          have ey := keV_rel hk rk
          subst ey
          refine d_setd I h1 ru rzu (by rw [← el, ← sLine_eq]; exact hl) (fun v hv w' s' I' rw' => ?_) (fun hn w' s' I' rw' => ?_)
          · cases o with
            | none => rw [l2 eo] at hv; cases hv
            | some w1 => obtain ⟨z1, e2, r2⟩ := l1 w1 eo; rw [e2] at hv; cases hv; exact c1 w1 _ w' s' rfl I' r2 rw'
          · cases o with
            | some w1 => obtain ⟨z1, e2, r2⟩ := l1 w1 eo; rw [e2] at hn; cases hn
            | none => exact c2 _ w' s' rfl I' ex qn rw'
        · rw [if_neg hl] at ep; cases ep
    | dit kvs =>
      simp only [g] at ep
      cases hk : tkOf k with
      | none => simp only [hk] at ep; cases ep
      | some kk =>
        simp only [hk] at ep
        by_cases hl : kvs.length < sLine
        · rw [if_pos hl] at ep
          cases ep
          have eo : lkN kvs k = o := by unfold dAt at e; simp only [g, hk] at e; exact Option.some.inj e
          obtain ⟨b, rfl, nk, dp⟩ := tk_ref hk rk
          cases ru
          obtain ⟨a, xs, rfl, hp, h1, h2, hm, hl2, dd⟩ := dit_at I q rx g
          cases rv
          obtain ⟨l1, l2⟩ := lkN_rel nk h2
          have hlx : xs.length < sizeLine := by rw [← Paired.length h2, ← sLine_eq]; exact hl
          refine call_setdefault_heap (hsz := hl2) (knd := nestedKind X.prog X.w) (show A.units + 1 + 8 < cLine by omega) ⟨nest_is I k rk nk rfl, dp⟩ hm dd (fun p hp' => ?_) (fun hn h' dd' hs => ?_)
          · cases o with
            | none => rw [l2 eo] at hp'; cases hp'
            | some w1 => obtain ⟨p1, z1, e2, r1, r2⟩ := l1 w1 eo; rw [e2] at hp'; cases hp'; exact c1 w1 z1 _ _ rfl (I.tok _) r1 r2
          · cases o with
            | some w1 => obtain ⟨p1, z1, e2, r1, r2⟩ := l1 w1 eo; rw [e2] at hn; cases hn
            | none =>
              have mu : Mut (H a) := by rw [h1]; trivial
              have he : ∃ q, h'.get? a = some q := let ⟨q, _, _, hq, _⟩ := dd'; ⟨q, hq⟩
              have hl3 : (storedH xs kk b uz).length ≤ sizeLine := by have := storedH_len xs kk b uz; omega
              exact c2 _ _ _ rfl (d_write I mu hs he (dn_new hl3 hm dd')) (Ext.write hp mu) (q.write hp g mu ⟨_, upd_same, (ptN_rel nk dp rk rz rzu h2).ext (Ext.write hp mu)⟩) rzu
        · rw [if_neg hl] at ep; cases ep
end
end Rf

/-! Rf: rules of dicts: subscripts, in, methods, stores. -/
namespace Rf
open PySem PySem.Spec PyProof.Rows L2

/-! ### an operation told by its mirror -/
def rM2 (K : FW) (W : XW) (F : Va → Va → M Va) : R2 := fun x y H Q => ∃ ρ h a b, HR K ρ h H ∧ RV K ρ H a x ∧ RV K ρ H b y ∧ sat K W ρ H (F a b h) (rv K Q)
theorem s_rM2 {K : FW} {W : XW} {F : Va → Va → M Va} : S2 K W F (rM2 K W F) := fun ρ h H a b x y Q q rx ry s => ⟨ρ, h, a, b, q, rx, ry, s⟩
def rMC (K : FW) (W : XW) (F : Fn) : List V → Hp → VK → Prop := fun us H Q => ∃ ρ h xs, HR K ρ h H ∧ RVs K ρ H xs us ∧ sat K W ρ H (F xs h) (rv K Q)
theorem s_rMC {K : FW} {W : XW} {F : Fn} : SC K W F (rMC K W F) := fun ρ h H xs us Q q rs s => ⟨ρ, h, xs, q, rs, s⟩
def rMM (K : FW) (W : XW) (F : Va → Fn) : V → List V → Hp → VK → Prop := fun x us H Q => ∃ ρ h a xs, HR K ρ h H ∧ RV K ρ H a x ∧ RVs K ρ H xs us ∧ sat K W ρ H (F a xs h) (rv K Q)
theorem s_rMM {K : FW} {W : XW} {F : Va → Fn} : SM K W F (rMM K W F) := fun ρ h H a x xs us Q q rx rs s => ⟨ρ, h, a, xs, q, rx, rs, s⟩

/-! ### in -/
def inSq (h : Hea) (a : Va) (xs : List Va) : Option Bool := if (dOk h 19 a && xs.all (dOk h 19)) = true then some (xs.any fun z => vq h 19 z a) else none
def inB (a c : Va) (h : Hea) : Option Bool := match c with
  | .ref i => match h.get i with
    | some (.lst xs) => inSq h a xs
    | some _ => match dAt h i a with
      | some o => some o.isSome
      | none => none
    | none => none
  | .tup xs => inSq h a xs
  | .fl xs => inSq h a xs
  | .str t => match a with
    | .str s => match s with
      | [c] => some (t.any fun d => Nat.beq c d)
      | _ => none
    | _ => none
  | _ => none
def vIn (a c : Va) : M Va := fun h => match inB a c h with
  | some b => .ok (.bl b) h
  | none => .no
def vNotIn (a c : Va) : M Va := fun h => match inB a c h with
  | some b => .ok (.bl (!b)) h
  | none => .no
section
variable {X : Cx} {W : XW} {pins : List (Addr × Obj)} {σ : L2.St} {H : Hp} {s : Shared} {ρ : List Addr} {h : Hea} {a c : Va} {x y : V} {u v : Value}
theorem inSq_any {xs : List Va} {b : Bool} (e : inSq h a xs = some b) : dOk h 19 a = true ∧ xs.all (dOk h 19) = true ∧ ((xs.map (toD h 19)).any fun z => PyData.eqv z (toD h 19 a)) = b := by
  unfold inSq at e
  by_cases c : (dOk h 19 a && xs.all (dOk h 19)) = true
  · rw [if_pos c] at e
    rw [Bool.and_eq_true] at c
    refine ⟨c.1, c.2, ?_⟩
    rw [← Option.some.inj e]
    have hx := c.2
    have ha := c.1
    clear e c
    induction xs with
    | nil => rfl
    | cons z r ih =>
      rw [List.all_cons, Bool.and_eq_true] at hx
      rw [List.map_cons, List.any_cons, List.any_cons, ih hx.2, vq_eqv h 19 z a hx.1 ha]
  · rw [if_neg c] at e; cases e
theorem any_beq (c : Nat) : ∀ t : List Nat, (t.any fun d => Nat.beq c d) = decide (c ∈ t)
  | [] => rfl
  | d :: r => by
    rw [List.any_cons, any_beq c r]
    cases q : Nat.beq c d with
    | true => have := Nat.eq_of_beq_eq_true q; subst this; simp
    | false => have := Nat.ne_of_beq_eq_false q; simp [this]
theorem in_run (hu : X.A.units + 65 < cLine) (I : L2.Inv X pins σ H s) (q : HR X.fw ρ h H) (ra : RV X.fw ρ H a x) (rc : RV X.fw ρ H c y) (rx : RelV x v) (ry : RelV y u) {b : Bool} (e : inB a c h = some b) {Q : Value → Shared → Prop} :
    ((∀ s', L2.Inv X pins σ H s' → Q (.bool b) s') → wpAny (model X.prog X.w) X.A (compareOp .In v u) Q X.xe s) ∧ ((∀ s', L2.Inv X pins σ H s' → Q (.bool !b) s') → wpAny (model X.prog X.w) X.A (compareOp .NotIn v u) Q X.xe s) := by
  have lstC : ∀ xs, inSq h a xs = some b → dOk h 20 c = true → toD h 20 c = .list (xs.map (toD h 19)) → ((∀ s', L2.Inv X pins σ H s' → Q (.bool b) s') → wpAny (model X.prog X.w) X.A (compareOp .In v u) Q X.xe s) ∧ ((∀ s', L2.Inv X pins σ H s' → Q (.bool !b) s') → wpAny (model X.prog X.w) X.A (compareOp .NotIn v u) Q X.xe s) := by
    intro xs e0 k1 k2
    obtain ⟨h1, h2, h3⟩ := inSq_any e0
    obtain ⟨i1, i2, i3⟩ := dp_of q 19 a x h1 ra
    obtain ⟨j1, j2, j3⟩ := dp_of q 20 c y k1 rc
    rw [k2] at j1 j2 j3
    obtain ⟨as, r1⟩ := Dp.reads I _ x v i1 rx
    obtain ⟨bs, r2⟩ := Dp.reads I _ y u j1 ry
    have hd : X.A.units + 1 + min (PyData.depthAll (xs.map (toD h 19))) (toD h 19 a).depth < cLine := by
      have : min (PyData.depthAll (xs.map (toD h 19))) (toD h 19 a).depth ≤ 19 := Nat.le_trans (Nat.min_le_right _ _) i3
      omega
    exact ⟨fun c => SeqAt.in_list_reads r2 r1 (by simpa [PyData.canLay0] using j2) i2 hd (by rw [h3]; exact c _ I), fun c => SeqAt.notIn_list_reads r2 r1 (by simpa [PyData.canLay0] using j2) i2 hd (by rw [h3]; exact c _ I)⟩
  cases c with
  | ref i =>
    cases g : h.get i with
    | none => simp only [inB, g] at e; cases e
    | some o =>
      have dic : (∀ xs, o ≠ .lst xs) → ∃ ov, dAt h i a = some ov ∧ ov.isSome = b := by
        intro ho
        cases o with
        | lst xs => exact absurd rfl (ho xs)
        | _ =>
          simp only [inB, g] at e
          cases d : dAt h i a with
          | none => rw [d] at e; cases e
          | some ov => rw [d] at e; exact ⟨ov, rfl, Option.some.inj e⟩
      by_cases ho : ∃ xs, o = .lst xs
      · obtain ⟨xs, rfl⟩ := ho
        simp only [inB, g] at e
        obtain ⟨h1, h2, h3⟩ := inSq_any e
        exact lstC xs e (by unfold dOk; simp only [view, g]; exact h2) (by conv => lhs; unfold toD; simp only [view, g])
      · obtain ⟨ov, d, eb⟩ := dic (fun xs e => ho ⟨xs, e⟩)
        exact ⟨fun c => dIn_run hu I q rc ry ra rx d fun s' I' => by rw [eb]; exact c s' I', fun c => dNotIn_run hu I q rc ry ra rx d fun s' I' => by rw [eb]; exact c s' I'⟩
  | fl xs =>
    have e : inSq h a xs = some b := e
    obtain ⟨h1, h2, h3⟩ := inSq_any e
    exact lstC xs e (by unfold dOk; exact h2) rfl
  | tup xs =>
    have e : inSq h a xs = some b := e
    obtain ⟨h1, h2, h3⟩ := inSq_any e
    obtain ⟨i1, i2, i3⟩ := dp_of q 19 a x h1 ra
    obtain ⟨j1, j2, j3⟩ := dp_of q 20 (.tup xs) y (by unfold dOk; exact h2) rc
    have k2 : toD h 20 (.tup xs) = .tuple (xs.map (toD h 19)) := rfl
    rw [k2] at j1 j2 j3
    obtain ⟨as, r1⟩ := Dp.reads I _ x v i1 rx
    obtain ⟨bs, r2⟩ := Dp.reads I _ y u j1 ry
    have hd : X.A.units + 1 + min (PyData.depthAll (xs.map (toD h 19))) (toD h 19 a).depth < cLine := by
      have : min (PyData.depthAll (xs.map (toD h 19))) (toD h 19 a).depth ≤ 19 := Nat.le_trans (Nat.min_le_right _ _) i3
      omega
    exact ⟨fun c => SeqAt.in_tuple_reads r2 r1 (by simpa [PyData.canLay0] using j2) i2 hd (by rw [h3]; exact c _ I), fun c => SeqAt.notIn_tuple_reads r2 r1 (by simpa [PyData.canLay0] using j2) i2 hd (by rw [h3]; exact c _ I)⟩
  | str t =>
    cases a with
    | str z =>
      match z, e with
      | [k], e =>
        cases ra
        cases rc
        obtain ⟨t1, rfl⟩ := rx
        obtain ⟨t2, rfl⟩ := ry
        have e : some (t.any fun d => Nat.beq k d) = some b := e
        have eb := Option.some.inj e
        rw [any_beq] at eb
        constructor
        · intro c
          refine thn (op_in_sign (X := X) pins s σ H (.str ⟨#[k]⟩) (.str ⟨t.toArray⟩) (.str ⟨#[k]⟩ t1) (.str ⟨t.toArray⟩ t2) (fun z H' => z = .bl b ∧ H' = H) I ⟨t1, rfl⟩ ⟨t2, rfl⟩ ⟨k, _, rfl, rfl, by simpa using eb, rfl⟩) fun r s' ⟨z, H', I', rz, ez, eH⟩ => ?_
          subst ez eH; cases rz; exact c s' I'
        · intro c
          refine thn (op_notIn_sign (X := X) pins s σ H (.str ⟨#[k]⟩) (.str ⟨t.toArray⟩) (.str ⟨#[k]⟩ t1) (.str ⟨t.toArray⟩ t2) (fun z H' => z = .bl (!b) ∧ H' = H) I ⟨t1, rfl⟩ ⟨t2, rfl⟩ ⟨k, _, rfl, rfl, by rw [← eb], rfl⟩) fun r s' ⟨z, H', I', rz, ez, eH⟩ => ?_
          subst ez eH; cases rz; exact c s' I'
      | [], e => cases e
      | _ :: _ :: _, e => cases e
    | _ => cases e
  | _ => cases e
theorem op_inM (hu : X.A.units + 65 < cLine) : OpR X (compareOp .In) (rM2 X.fw W vIn) := by
  intro pins s σ H x y v u Q I rx ry ⟨ρ, h, a, c, q, ra, rc, sa⟩
  unfold vIn at sa
  cases e : inB a c h with
  | none => simp only [e] at sa; exact False.elim sa
  | some b =>
    simp only [e] at sa
    exact (in_run hu I q ra rc rx ry e).1 fun s' I' => ⟨.bl b, H, I', rfl, sa.val q rfl⟩
theorem op_notInM (hu : X.A.units + 65 < cLine) : OpR X (compareOp .NotIn) (rM2 X.fw W vNotIn) := by
  intro pins s σ H x y v u Q I rx ry ⟨ρ, h, a, c, q, ra, rc, sa⟩
  unfold vNotIn at sa
  cases e : inB a c h with
  | none => simp only [e] at sa; exact False.elim sa
  | some b =>
    simp only [e] at sa
    exact (in_run hu I q ra rc rx ry e).2 fun s' I' => ⟨.bl (!b), H, I', rfl, sa.val q rfl⟩
end
section
variable {W : XW} {X : Cx} {a b : Expr} {A B : Ex} {pos : Pos}
theorem ex_in (hu : X.A.units + 65 < cLine) (ha : EX W X a A) (hb : EX W X b B) (hm : behindInMarks .In b = false := by rfl) : EX W X (.Compare a [.In] [b] pos) (op2 vIn A B) := ex_cmp (op_inM (W := W) hu) s_rM2 ha hb hm
theorem ex_notIn (hu : X.A.units + 65 < cLine) (ha : EX W X a A) (hb : EX W X b B) (hm : behindInMarks .NotIn b = false := by rfl) : EX W X (.Compare a [.NotIn] [b] pos) (op2 vNotIn A B) := ex_cmp (op_notInM (W := W) hu) s_rM2 ha hb hm
theorem tx_in (hu : X.A.units + 65 < cLine) (ha : EX W X a A) (hb : EX W X b B) (hm : behindInMarks .In b = false := by rfl) : TX W X (.Compare a [.In] [b] pos) (isB (op2 vIn A B)) := tx_cmp (op_inM (W := W) hu) s_rM2 ha hb hm
theorem tx_notIn (hu : X.A.units + 65 < cLine) (ha : EX W X a A) (hb : EX W X b B) (hm : behindInMarks .NotIn b = false := by rfl) : TX W X (.Compare a [.NotIn] [b] pos) (isB (op2 vNotIn A B)) := tx_cmp (op_notInM (W := W) hu) s_rM2 ha hb hm
end

/-! ### d[k], beside xs[i] -/
def isD (h : Hea) : Va → Bool
  | .ref i => match h.get i with
    | some (.dic _) => true
    | some (.dlk _) => true
    | some (.dit _) => true
    | _ => false
  | _ => false
def vDix (a b : Va) : M Va := fun h => match a with
  | .ref i => match dAt h i b with
    | some (some v) => .ok v h
    | _ => .no
  | _ => .no
def vIxA (a b : Va) : M Va := fun h => match isD h a with
  | true => vDix a b h
  | false => vIx a b h
section
variable {X : Cx} {W : XW} {a b : Expr} {A B : Ex} {pos : Pos}
theorem ex_dix (hu : X.A.units + 65 < cLine) (ha : EX W X a A) (hb : EX W X b B) (hs : NoSl b := by intro _ _; rfl) : EX W X (.Subscript a b pos) (op2 vDix A B) := by
  refine ⟨⟨fun pins s σ H Q I h => ?_⟩⟩
  refine subD_of PySem.F.slot_dict_getitem.lookup hs (thn (ha.pe.run pins s σ H _ I (tE.two (s_rM2 (F := vDix)) σ H Q h)) fun u s1 ⟨x, H1, I1, rx, q1⟩ => thn (hb.pe.run pins s1 σ H1 _ I1 q1) fun iv s2 ⟨y, H2, I2, ry, ρ, h, va, vb, q, ra, rb, sa⟩ => ?_)
  cases va with
  | ref i =>
    cases e : dAt h i vb with
    | none => simp only [vDix, e] at sa; exact False.elim sa
    | some o =>
      cases o with
      | none => simp only [vDix, e] at sa; exact False.elim sa
      | some w =>
        simp only [vDix, e] at sa
        obtain ⟨d, rfl, ty, run⟩ := dGet_run (E := X.xe) (Q := EP X pins σ Q) hu I2 q ra rb ry e fun z w' s' I' r1 r2 => ⟨z, H2, I', r2, sa.val q r1⟩
        cases rx
        exact ⟨ty, run⟩
  | _ => exact False.elim sa
theorem ex_ixA (hu : X.A.units + 65 < cLine) (ha : EX W X a A) (hb : EX W X b B) (hp : PlainIx b := by exact fun _ _ => rfl) (hs : NoSl b := by intro _ _; rfl) : EX W X (.Subscript a b pos) (op2 vIxA A B) :=
  ⟨PE.weak (pe_either (ex_ixS (pos := pos) ha hb hp).pe (ex_dix (pos := pos) hu ha hb hs).pe) fun σ H Q ⟨ρ, l, h, L, q, s⟩ => by
    cases e : A l h with
    | no => exact .inl ⟨ρ, l, h, L, q, by unfold op2 at s ⊢; rw [e] at s ⊢; exact s⟩
    | err c v h1 => exact .inl ⟨ρ, l, h, L, q, by unfold op2 at s ⊢; rw [e] at s ⊢; exact s⟩
    | ok va h1 =>
      cases e2 : B l h1 with
      | no => exact .inl ⟨ρ, l, h, L, q, by unfold op2 at s ⊢; rw [e] at s ⊢; simp only [Rs.bind, e2] at s ⊢; exact s⟩
      | err c v h2 => exact .inl ⟨ρ, l, h, L, q, by unfold op2 at s ⊢; rw [e] at s ⊢; simp only [Rs.bind, e2] at s ⊢; exact s⟩
      | ok vb h2 =>
        cases d : isD h2 va with
        | true => exact .inr ⟨ρ, l, h, L, q, by unfold op2 at s ⊢; rw [e] at s ⊢; simp only [Rs.bind, e2, vIxA, d] at s ⊢; exact s⟩
        | false => exact .inl ⟨ρ, l, h, L, q, by unfold op2 at s ⊢; rw [e] at s ⊢; simp only [Rs.bind, e2, vIxA, d] at s ⊢; exact s⟩⟩
end

/-! ### methods of dicts -/
section
variable {X : Cx} {W : XW} {pins : List (Addr × Obj)} {σ : L2.St} {H : Hp} {s : Shared} {ρ : List Addr} {h : Hea} {a : Va} {x : V}
/-- a dict stands there -/
def IsDR (K : FW) (x : V) (H : Hp) : Prop := ∃ ρ h a, HR K ρ h H ∧ RV K ρ H a x ∧ isD h a = true
theorem isDR_at (I : L2.Inv X pins σ H s) (d : IsDR X.fw x H) : ∃ p, x = .ref p ∧ s.TypeIs (.ref p) "dict" ∧ (∀ b, Value.ref p = .ref b → ∃ ob, s.heap.get? b = some ob ∧ ob.dict = none) ∧ (p == sysModules) = false := by
  obtain ⟨ρ, h, a, q, ra, d⟩ := d
  cases a with
  | ref i =>
    unfold isD at d
    cases g : h.get i with
    | none => simp only [g] at d; cases d
    | some o =>
      cases o with
      | lst xs => simp only [g] at d; cases d
      | st xs => simp only [g] at d; cases d
      | dic kvs =>
        obtain ⟨p, rfl, hp, ws, h1, h2⟩ := q.at_ref ra g
        exact ⟨p, rfl, isD_at I (.inl ⟨ws, .inl h1⟩)⟩
      | dlk kvs =>
        obtain ⟨p, rfl, hp, o, ws, h1, h2⟩ := q.at_ref ra g
        exact ⟨p, rfl, isD_at I (.inl ⟨ws, .inr ⟨o, h1⟩⟩)⟩
      | dit kvs =>
        obtain ⟨p, xs, rfl, hp, h1, h2, hm, hl, dd⟩ := dit_at I q ra g
        refine ⟨p, rfl, dd.typeIs, fun b e => ?_, hm⟩
        cases e
        obtain ⟨ob, _, _, g1, g2, _⟩ := dd
        exact ⟨ob, g1, g2.2.1⟩
  | _ => cases d
def dmE (F : Va → Fn) (A : Ex) (B : Ax) : Ex := fun l h => (A l h).bind fun a h1 => match isD h1 a with
  | true => (B l h1).bind fun xs h2 => F a xs h2
  | false => .no
def tDM (K : FW) (r : V → List V → Hp → VK → Prop) (td : TE) (ta : TA) : TE := fun σ H Q => td σ H fun x H1 => IsDR K x H1 ∧ ta σ H1 fun us H2 => r x us H2 Q
theorem tE.dm {K : FW} {F : Va → Fn} {A : Ex} {B : Ax} : ∀ σ H Q, tE K W (dmE F A B) σ H Q → tDM K (rMM K W F) (tE K W A) (tA K W B) σ H Q := fun σ H Q ⟨ρ, l, h, L, q, s⟩ =>
  tE.go L q s fun a h1 ρ1 H1 x e1 L1 q1 rx s1 => by
    cases d : isD h1 a with
    | false => simp only [d] at s1; exact False.elim s1
    | true =>
      simp only [d] at s1
      exact ⟨⟨ρ1, h1, a, q1, rx, d⟩, tA.go L1 q1 s1 fun xs h2 ρ2 H2 us e2 L2 q2 rs s2 => ⟨ρ2, h2, a, xs, q2, RV.ext e2 a rx, rs, s2⟩⟩
theorem pe_dm {o e : Expr} {es : List Expr} {td : TE} {ta : TA} {name : Str} {id : String} {apos cpos : Pos} {r : V → List V → Hp → VK → Prop} (pa : PlainAttrs "dict") (slot : Slot "dict" name id) (hty : typeOf (.builtin id) = pure (.type "method_descriptor")) (hm : MtR X id r) (ho : PE X o td) (ha : PA X (e :: es) ta)
    (hbase : attributeBase o name X.env (eval o X.env) = eval o X.env)
    (hfew : ((backTo cpos (starEach (e :: es) X.env)).all (fun x => !x.1) && (backToKw cpos (keywordEach [] X.env)).all (fun x => x.1.isSome)
      && decide ((e :: es).length + ([] : List Keyword).length + (if ([] : List Keyword).isEmpty then 0 else 1) < 30)) = true)
    (hline : (apos.endLine == cpos.line) = true) (hs : starEach (e :: es) X.env = (false, eval e X.env) :: starEach es X.env) (hplain : (backTo cpos (starEach es X.env)).any (·.1) = false) : PE X (.Call (.Attribute o name apos) (e :: es) [] cpos) (tDM X.fw r td ta) := by
  refine ⟨fun pins s σ H Q I h => ?_⟩
  refine wpAny_Call_method_late hbase hfew hline rfl (thn (ho.run pins s σ H _ I h) fun v s1 ⟨x, H1, I1, r1, ty, q1⟩ => ?_)
  obtain ⟨p, rfl, h1, h2, _⟩ := isDR_at I1 ty
  obtain rfl : v = Value.ref p := r1
  refine ⟨"dict", id, pa, slot, hty, h1, h2, ?_⟩
  have hA := ha.run cpos pins s1 σ H1 _ I1 q1
  rw [hs] at hA ⊢
  refine Calls.callWith_builtin (by show (false || (backTo cpos (starEach es X.env)).any (·.1)) = false; rw [hplain] <;> rfl) (Calls.evalArgs_plain ?_)
  exact thn hA fun us s2 ⟨vs, H2, I2, r2, q2⟩ => hm pins s2 σ H2 (.ref p) vs (.ref p) us Q I2 rfl r2 q2
theorem ex_dm {o e : Expr} {es : List Expr} {A : Ex} {B : Ax} {F : Va → Fn} {name : Str} {id : String} {apos cpos : Pos} (pa : PlainAttrs "dict") (slot : Slot "dict" name id) (hty : typeOf (.builtin id) = pure (.type "method_descriptor")) (hm : MtR X id (rMM X.fw W F)) (ho : EX W X o A) (ha : AX W X (e :: es) B)
    (hbase : attributeBase o name X.env (eval o X.env) = eval o X.env)
    (hfew : ((backTo cpos (starEach (e :: es) X.env)).all (fun x => !x.1) && (backToKw cpos (keywordEach [] X.env)).all (fun x => x.1.isSome)
      && decide ((e :: es).length + ([] : List Keyword).length + (if ([] : List Keyword).isEmpty then 0 else 1) < 30)) = true)
    (hline : (apos.endLine == cpos.line) = true) (hs : starEach (e :: es) X.env = (false, eval e X.env) :: starEach es X.env) (hplain : (backTo cpos (starEach es X.env)).any (·.1) = false) : EX W X (.Call (.Attribute o name apos) (e :: es) [] cpos) (dmE F A B) :=
  ⟨PE.weak (pe_dm pa slot hty hm ho.pe ha.pa hbase hfew hline hs hplain) tE.dm⟩
end
def vDget (a : Va) : Fn := fun xs h => match a with
  | .ref i => match xs with
    | [k] => match dAt h i k with
      | some o => .ok (o.getD .non) h
      | none => .no
    | [k, d] => match dAt h i k with
      | some o => .ok (o.getD d) h
      | none => .no
    | _ => .no
  | _ => .no
def vDsetd (a : Va) : Fn := fun xs h => match a with
  | .ref i => match xs with
    | [k, w] => match dPut h i k w with
      | some h' => match dAt h i k with
        | some (some v) => .ok v h
        | some none => .ok w h'
        | none => .no
      | none => .no
    | _ => .no
  | _ => .no
def vDpop (a : Va) : Fn := fun xs h => match a with
  | .ref i => match xs with
    | [k] => match h.get i with
      | some (.dic kvs) => match keV k with
        | some ke => match lkK kvs ke with
          | some v => .ok v (h.set i (.dic (drK kvs ke)))
          | none => .no
        | none => .no
      | _ => .no
    | _ => .no
  | _ => .no
section
variable {X : Cx} {W : XW}
theorem mt_dget (hu : X.A.units + 65 < cLine) : MtR X "dict.get" (rMM X.fw W vDget) := by
  intro pins s σ H x xs v us Q I rx rxs ⟨ρ, h, a, ys, q, ra, ry, sa⟩
  cases a with
  | ref i =>
    match ys, ry with
    | [k], ⟨y, t, e1, r1, r2⟩ =>
      cases r2
      subst e1
      cases rxs with
      | cons ru rt =>
        cases rt
        cases e : dAt h i k with
        | none => simp only [vDget, e] at sa; exact False.elim sa
        | some o =>
          simp only [vDget, e] at sa
          exact dGet1_run hu I q ra rx r1 ru e fun z w' s' I' rz rw' => ⟨z, H, I', rw', sa.val q rz⟩
    | [k, d], ⟨y, t, e1, r1, y2, t2, e2, r2, r3⟩ =>
      cases r3
      subst e2
      subst e1
      cases rxs with
      | cons ru rt =>
        cases rt with
        | cons ru2 rt =>
          cases rt
          cases e : dAt h i k with
          | none => simp only [vDget, e] at sa; exact False.elim sa
          | some o =>
            simp only [vDget, e] at sa
            exact dGet2_run hu I q ra rx r1 ru r2 ru2 e fun z w' s' I' rz rw' => ⟨z, H, I', rw', sa.val q rz⟩
    | [], _ => exact False.elim sa
    | _ :: _ :: _ :: _, _ => exact False.elim sa
  | _ => exact False.elim sa
theorem mt_dsetd (hu : X.A.units + 65 < cLine) : MtR X "dict.setdefault" (rMM X.fw W vDsetd) := by
  intro pins s σ H x xs v us Q I rx rxs ⟨ρ, h, a, ys, q, ra, ry, sa⟩
  cases a with
  | ref i =>
    match ys, ry with
    | [k, d], ⟨y, t, e1, r1, y2, t2, e2, r2, r3⟩ =>
      cases r3
      subst e2
      subst e1
      cases rxs with
      | cons ru rt =>
        cases rt with
        | cons ru2 rt =>
          cases rt
          cases ep : dPut h i k d with
          | none => simp only [vDsetd, ep] at sa; exact False.elim sa
          | some h' =>
            cases e : dAt h i k with
            | none => simp only [vDsetd, ep, e] at sa; exact False.elim sa
            | some o =>
              refine dSetd_run hu I q ra rx r1 ru r2 ru2 e ep (fun w1 z1 w' s' eo I' rz rw' => ?_) (fun H' u' s' eo I' ex qn ru' => ?_)
              · subst eo
                simp only [vDsetd, ep, e] at sa
                exact ⟨z1, H, I', rw', sa.val q rz⟩
              · subst eo
                simp only [vDsetd, ep, e] at sa
                exact ⟨y2, H', I', ru', sa ρ H' ex qn y2 (RV.ext ex d r2)⟩
    | [], _ => exact False.elim sa
    | [_], _ => exact False.elim sa
    | _ :: _ :: _ :: _, _ => exact False.elim sa
  | _ => exact False.elim sa
theorem mt_dpop : MtR X "dict.pop" (rMM X.fw W vDpop) := by
  intro pins s σ H x xs v us Q I rx rxs ⟨ρ, h, a, ys, q, ra, ry, sa⟩
  cases a with
  | ref i =>
    match ys, ry with
    | [k], ⟨y, t, e1, r1, r2⟩ =>
      cases r2
      subst e1
      cases rxs with
      | cons ru rt =>
        cases rt
        cases g : h.get i with
        | none => simp only [vDpop, g] at sa; exact False.elim sa
        | some o =>
          cases o with
          | dic kvs =>
            simp only [vDpop, g] at sa
            cases hk : keV k with
            | none => simp only [hk] at sa; exact False.elim sa
            | some ke =>
              simp only [hk] at sa
              cases el : lkK kvs ke with
              | none => simp only [el] at sa; exact False.elim sa
              | some w =>
                simp only [el] at sa
                obtain ⟨p, rfl, hp, ws, h1, h2⟩ := q.at_ref ra g
                cases rx
                have ey := keV_rel hk r1
                subst ey
                obtain ⟨z, hz, rz⟩ := (lkK_rel h2).1 w el
                have mu : Mut (H p) := by rw [h1]; trivial
                refine d_pop I h1 ru hz (.inl rfl) fun w' s' I' rw' => ⟨z, _, I', rw', sa ρ _ (Ext.write hp mu) (q.write hp g mu ⟨_, upd_same, Paired.mapQ (drK_rel h2) fun _ _ t => ⟨t.1, RV.ext (Ext.write hp mu) _ t.2⟩⟩) z (RV.ext (Ext.write hp mu) w rz)⟩
          | _ => simp only [vDpop, g] at sa; exact False.elim sa
    | [], _ => exact False.elim sa
    | _ :: _ :: _, _ => exact False.elim sa
  | _ => exact False.elim sa
variable {o e : Expr} {es : List Expr} {A : Ex} {B : Ax} {apos cpos : Pos}
theorem ex_dget (hu : X.A.units + 65 < cLine) (ho : EX W X o A) (ha : AX W X (e :: es) B) (hbase : attributeBase o "get" X.env (eval o X.env) = eval o X.env := by rfl)
    (hfew : ((backTo cpos (starEach (e :: es) X.env)).all (fun x => !x.1) && (backToKw cpos (keywordEach [] X.env)).all (fun x => x.1.isSome)
      && decide ((e :: es).length + ([] : List Keyword).length + (if ([] : List Keyword).isEmpty then 0 else 1) < 30)) = true := by rfl)
    (hline : (apos.endLine == cpos.line) = true := by rfl) (hs : starEach (e :: es) X.env = (false, eval e X.env) :: starEach es X.env := by rfl) (hplain : (backTo cpos (starEach es X.env)).any (·.1) = false := by rfl) : EX W X (.Call (.Attribute o "get" apos) (e :: es) [] cpos) (dmE vDget A B) :=
  ex_dm PySem.F.plainAttrs_dict PySem.F.slot_dict_get PySem.F.type_dict_get (mt_dget hu) ho ha hbase hfew hline hs hplain
theorem ex_dsetd (hu : X.A.units + 65 < cLine) (ho : EX W X o A) (ha : AX W X (e :: es) B) (hbase : attributeBase o "setdefault" X.env (eval o X.env) = eval o X.env := by rfl)
    (hfew : ((backTo cpos (starEach (e :: es) X.env)).all (fun x => !x.1) && (backToKw cpos (keywordEach [] X.env)).all (fun x => x.1.isSome)
      && decide ((e :: es).length + ([] : List Keyword).length + (if ([] : List Keyword).isEmpty then 0 else 1) < 30)) = true := by rfl)
    (hline : (apos.endLine == cpos.line) = true := by rfl) (hs : starEach (e :: es) X.env = (false, eval e X.env) :: starEach es X.env := by rfl) (hplain : (backTo cpos (starEach es X.env)).any (·.1) = false := by rfl) : EX W X (.Call (.Attribute o "setdefault" apos) (e :: es) [] cpos) (dmE vDsetd A B) :=
  ex_dm PySem.F.plainAttrs_dict PySem.F.slot_dict_setdefault PySem.F.type_dict_setdefault (mt_dsetd hu) ho ha hbase hfew hline hs hplain
theorem ex_dpop (ho : EX W X o A) (ha : AX W X (e :: es) B) (hbase : attributeBase o "pop" X.env (eval o X.env) = eval o X.env := by rfl)
    (hfew : ((backTo cpos (starEach (e :: es) X.env)).all (fun x => !x.1) && (backToKw cpos (keywordEach [] X.env)).all (fun x => x.1.isSome)
      && decide ((e :: es).length + ([] : List Keyword).length + (if ([] : List Keyword).isEmpty then 0 else 1) < 30)) = true := by rfl)
    (hline : (apos.endLine == cpos.line) = true := by rfl) (hs : starEach (e :: es) X.env = (false, eval e X.env) :: starEach es X.env := by rfl) (hplain : (backTo cpos (starEach es X.env)).any (·.1) = false := by rfl) : EX W X (.Call (.Attribute o "pop" apos) (e :: es) [] cpos) (dmE vDpop A B) :=
  ex_dm PySem.F.plainAttrs_dict PySem.F.slot_dict_pop PySem.F.type_dict_pop mt_dpop ho ha hbase hfew hline hs hplain
end

/-! ### stores: a list's place, a dict's key -/
def setA (h : Hea) (a i v : Va) : Option Hea := match a with
  | .ref p => match h.get p with
    | some (.lst xs) => match i with
      | .int k => match ixN xs.length k with
        | some j => some (h.set p (.lst (xs.set j v)))
        | none => none
      | _ => none
    | some _ => dPut h p i v
    | none => none
  | _ => none
def rSetA (K : FW) : TSet := fun o i v H Q => ∃ ρ h a b w h', HR K ρ h H ∧ RV K ρ H a o ∧ RV K ρ H b i ∧ RV K ρ H w v ∧ setA h a b w = some h' ∧ ∀ H', Ext K ρ H ρ H' → HR K ρ h' H' → Q H'
theorem set_any {X : Cx} (hu : X.A.units + 65 < cLine) : PSet X (rSetA X.fw) := by
  intro pins s σ H o i v ov iv u Q I ro ri rv ⟨ρ, h, a, b, w, h', q, ra, rb, rw', e, c⟩
  cases a with
  | ref p =>
    cases g : h.get p with
    | none => simp only [setA, g] at e; cases e
    | some ob =>
      cases ob with
      | lst xs =>
        simp only [setA, g] at e
        cases b with
        | int k =>
          simp only at e
          cases ej : ixN xs.length k with
          | none => simp only [ej] at e; cases e
          | some j =>
            simp only [ej] at e
            cases e
            obtain ⟨p', us, rfl, hp, g1, g2⟩ := q.lst ra g
            have mu : Mut (H p') := by rw [g1]; trivial
            cases rb
            exact set_list pins s σ H (.ref p') (.int k) v ov iv u Q I ro ri rv ⟨p', us, k, j, rfl, rfl, g1, by rw [← g2.length]; exact ej, c _ (Ext.write hp mu) (q.write hp g mu ⟨us.set j v, upd_same, RVs.ext (Ext.write hp mu) _ (RVs.set rw' j g2)⟩)⟩
        | _ => cases e
      | dic kvs =>
        simp only [setA, g] at e
        exact dSet_run hu I q ra ro rb ri rw' rv e fun H' s' I' ex qn => ⟨H', I', c H' ex qn⟩
      | st ns =>
        simp only [setA, g] at e
        exact dSet_run hu I q ra ro rb ri rw' rv e fun H' s' I' ex qn => ⟨H', I', c H' ex qn⟩
      | dlk kvs =>
        simp only [setA, g] at e
        exact dSet_run hu I q ra ro rb ri rw' rv e fun H' s' I' ex qn => ⟨H', I', c H' ex qn⟩
      | dit kvs =>
        simp only [setA, g] at e
        exact dSet_run hu I q ra ro rb ri rw' rv e fun H' s' I' ex qn => ⟨H', I', c H' ex qn⟩
  | _ => cases e
/-- o[i] = e -/
def stA (A B : Ex) (V : Ex) : Sx := fun l h => (V l h).bind fun v h1 => (A l h1).bind fun a h2 => (B l h2).bind fun i h3 => match setA h3 a i v with
  | some h4 => .ok (.nx l) h4
  | none => .no
/-- what o[i] reads, for an augmented store -/
def getA (h : Hea) (a i : Va) : Option Va := match a with
  | .ref p => match h.get p with
    | some (.lst xs) => match i with
      | .int k => if (decide (0 ≤ k) && decide (k < 1000000000)) = true then xs[k.toNat]? else none
      | _ => none
    | some _ => match dAt h p i with
      | some (some v) => some v
      | _ => none
    | none => none
  | _ => none
def rGetA (K : FW) : V → V → Hp → VK → Prop := fun o i H Q => ∃ ρ h a b v, HR K ρ h H ∧ RV K ρ H a o ∧ RV K ρ H b i ∧ getA h a b = some v ∧ ∀ z, RV K ρ H v z → Q z H
theorem get_any {X : Cx} (hu : X.A.units + 65 < cLine) : PGet X (rGetA X.fw) := by
  intro pins s σ H o i ov iv Q I ro ri ⟨ρ, h, a, b, v, q, ra, rb, e, c⟩
  have dic : ∀ p, a = .ref p → dAt h p b = some (some v) → wpAny (model X.prog X.w) X.A (getItem ov iv) (EP X pins σ Q) X.xe s := by
    intro p ea ed
    subst ea
    obtain ⟨d, rfl, _, run⟩ := dGet_run (E := X.xe) (Q := EP X pins σ Q) hu I q ra rb ri ed fun z w' s' I' r1 r2 => ⟨z, H, I', r2, c z r1⟩
    cases ro
    exact run
  cases a with
  | ref p =>
    have dic2 : (match dAt h p b with
      | some (some v) => some v
      | _ => none) = some v → wpAny (model X.prog X.w) X.A (getItem ov iv) (EP X pins σ Q) X.xe s := by
      intro e
      split at e
      · rename_i w d; cases e; exact dic p rfl d
      · cases e
    cases g : h.get p with
    | none => simp only [getA, g] at e; cases e
    | some ob =>
      cases ob with
      | lst xs =>
        simp only [getA, g] at e
        cases b with
        | int k =>
          simp only at e
          by_cases hz : (decide (0 ≤ k) && decide (k < 1000000000)) = true
          · rw [if_pos hz] at e
            simp only [Bool.and_eq_true, decide_eq_true_eq] at hz
            obtain ⟨p', us, rfl, hp, g1, g2⟩ := q.lst ra g
            obtain ⟨z, hz2, rz⟩ := g2.get e
            cases rb
            exact get_listP pins s σ H _ _ ov iv Q I ro ri ⟨p', us, k, z, rfl, rfl, SqL.of g1, hz.1, hz.2, hz2, c z rz⟩
          · rw [if_neg hz] at e; cases e
        | _ => cases e
      | dic kvs => simp only [getA, g] at e; exact dic2 e
      | dlk kvs => simp only [getA, g] at e; exact dic2 e
      | st kvs => simp only [getA, g] at e; exact dic2 e
      | dit kvs => simp only [getA, g] at e; exact dic2 e
  | _ => cases e
/-- o[i] op= e -/
def augA (A B : Ex) (F : Va → Va → M Va) (V : Ex) : Sx := fun l h => (A l h).bind fun a h1 => (B l h1).bind fun i h2 => match getA h2 a i with
  | some old => (V l h2).bind fun v h3 => (F old v h3).bind fun new h4 => match setA h4 a i new with
    | some h5 => .ok (.nx l) h5
    | none => .no
  | none => .no
section
variable {W : XW} {X : Cx} {pos spos tpos : Pos} {o i e : Expr} {A B V : Ex} {F : Va → Va → M Va} {r : TIp} {op : Operator}
theorem sx_stA (hu : X.A.units + 65 < cLine) (ha : EX W X o A) (hb : EX W X i B) (hv : EX W X e V) (hs : swapsWithSole [.Subscript o i spos] e pos.line X.env = pure false := by rfl) (hw : swappedStores [.Subscript o i spos] e X.env = pure none := by rfl)
    (h1 : (assignEach [.Subscript o i spos] X.env).map (·.2) = [assign (.Subscript o i spos) X.env] := by rfl)
    (hx : ∀ v, assign (.Subscript o i spos) X.env v = (do
      let ov ← holding [v] (eval o X.env)
      let iv ← holding [v, ov] (eval i X.env)
      standAt spos
      holding [v, ov, iv] (setItem ov iv v)
      release [v, ov, iv] []) := by intro _; rfl) : SX W X (.Assign [.Subscript o i spos] e pos) (stA A B V) :=
  ⟨PS.weak (ps_asg hv.pe (pg_sub ha.pe hb.pe (set_any hu) hx) hs hw h1) fun D σ H ⟨ρ, l, h, L, q, s⟩ => tE.go L q s fun v h1 ρ1 H1 u e1 L1 q1 ru s1 => tE.go L1 q1 s1 fun a h2 ρ2 H2 x e2 L2 q2 rx s2 => tE.go L2 q2 s2 fun i h3 ρ3 H3 y e3 L3 q3 ry s3 => by
    cases e4 : setA h3 a i v with
    | none => simp only [e4] at s3; exact False.elim s3
    | some h4 =>
      simp only [e4] at s3
      exact ⟨ρ3, h3, a, i, v, h4, q3, RV.ext e3 a rx, ry, RV.ext (e2.trans e3) v ru, e4, fun H' ex qn => s3 ρ3 H' ex qn σ (L3.ext ex)⟩⟩
theorem sx_augA (hu : X.A.units + 65 < cLine) (hp : PIp X op r) (hs : S2 X.fw W F r) (ha : EX W X o A) (hb : EX W X i B) (hv : EX W X e V)
    (hx : ∀ ov iv new, augStore i ov iv new = (do holding [new, ov, iv] (setItem ov iv new); release [new, ov, iv] []; pure .next) := by intros; rfl) : SX W X (.AugAssign (.Subscript o i tpos) op e pos) (augA A B F V) :=
  ⟨PS.weak (ps_augS ha.pe hb.pe (get_any hu) hv.pe hp (set_any hu) hx) fun D σ H ⟨ρ, l, h, L, q, s⟩ => tE.go L q s fun a h1 ρ1 H1 x e1 L1 q1 rx s1 => tE.go L1 q1 s1 fun i h2 ρ2 H2 y e2 L2 q2 ry s2 => by
    have rx := RV.ext e2 a rx
    cases e : getA h2 a i with
    | none => simp only [e] at s2; exact False.elim s2
    | some old =>
      simp only [e] at s2
      refine ⟨ρ2, h2, a, i, old, q2, rx, ry, e, fun u ru => tE.go L2 q2 s2 fun v h3 ρ3 H3 w e3 L3 q3 rw' s3 => hs ρ3 h3 H3 old v u w _ q3 (RV.ext e3 old ru) rw' (s3.bind.mono fun new h4 ρ4 H4 e4 q4 s4 t rt => ?_)⟩
      cases e5 : setA h4 a i new with
      | none => simp only [e5] at s4; exact False.elim s4
      | some h5 =>
        simp only [e5] at s4
        have e34 := e3.trans e4
        exact ⟨ρ4, h4, a, i, new, h5, q4, RV.ext e34 a rx, RV.ext e34 i ry, rt, e5, fun H' ex qn => s4 ρ4 H' ex qn σ ((L3.ext e4).ext ex)⟩⟩
end
end Rf

/-! Rf: enumerate and zip over tuples and texts. -/
namespace Rf
open PySem PySem.Spec PyProof.Rows L2

/-! ### pairs that are told beforehand -/
def ItP (src : Hp → Prop) (ps : List (List V)) : It :=
  ⟨fun i H => src H ∧ i < ps.length, fun i H v H' => ∃ T us, ps[i]? = some us ∧ v = .ref T ∧ H T = none ∧ H' = upd H T (.tup us), fun i H => src H ∧ ps.length ≤ i⟩
theorem turn_walks {P : Program} {w : World} {K : PySem.W.Frag} {elts : List Expr} {kk : Nat} {tpos : Pos} {wr : List Addr} {it : Addr} {Sx : Nat → Heap → Prop} {src : Hp → Prop} {ps : List (List V)}
    (mem : it ∈ wr) (obj : ∀ i h, Sx i h → ∀ b ∈ wr, ∃ o, h.get? b = some o ∧ ∀ v, o.data ≠ .cell v) (keep : ∀ i h h', Sx i h → (∀ b ∈ wr, ∀ o, h.get? b = some o → h'.get? b = some o) → Sx i h')
    (self : ∀ (A : Around) (i : Nat) (s : Shared) (Q : Value → Shared → Prop) (E : Value → Shared → Prop), Sx i s.heap → Q (.ref it) s → wpAny (model P w) A (pyIter (.ref it)) Q E s)
    (big : ∀ us ∈ ps, us.length ≤ sizeLine)
    (at_ : ∀ (X : Cx), X.prog = P → X.w = w → X.K = K → X.calm = true → ∀ (i : Nat) (pins : List (Addr × Obj)) (s : Shared) (σ : L2.St) (H : Hp), L2.Inv X pins σ H s → (∀ b ∈ wr, FpOk X pins H b) → Sx i s.heap → src H →
      ∃ wr' fp Pt St Mid, (∀ b ∈ wr', b ∈ wr) ∧ WalksT P w X.A it fp wr' ps.length Pt St Mid ∧ St i s.heap ∧ (∀ i h, St i h → Sx i h) ∧ ∀ (i : Nat) (vals : Array Value) (us : List V), Pt i vals → ps[i]? = some us → Vals us vals.toList) :
    Turn P w K (.Tuple elts kk tpos) (ItP src ps) wr it (fun i h => i ≤ ps.length ∧ Sx i h) where
  mem := mem
  obj := fun i h st => obj i h st.2
  keep := fun i h h' st k => ⟨st.1, keep i h h' st.2 k⟩
  item := by
    intro X hP hw hK hc i pins s σ H E I hf ⟨hi, st⟩ ⟨hsrc, hlt⟩
    obtain ⟨wr', fp, Pt, St, Mid, sb, W, hst, down, vals⟩ := at_ X hP hw hK hc i pins s σ H I hf st hsrc
    subst hP hw hK
    obtain ⟨us, hus⟩ : ∃ us, ps[i]? = some us := ⟨ps[i], List.getElem?_eq_getElem hlt⟩
    refine W.item i s _ E hlt hst fun T vs h' tk hpt hT hTup hmid hk => ?_
    refine ⟨.ref T, rfl, W.go elts kk tpos i T { s with heap := h', toks := tk } _ E hmid fun h'' st'' hk2 => ?_⟩
    have hTw := W.apart i T h' hmid
    obtain ⟨oT, hoT, hcT, nT, hdT⟩ := hTup
    have new : ObjOk X.prog X.w (upd H T (.tup us)) h'' T (.tup us) := ⟨big us (List.mem_of_getElem? hus), vs.toList, vals i vs us hpt hus, oT, hk2 T oT hTw hoT, hcT, nT, by simpa using hdT⟩
    have I1 : L2.Inv X pins σ (upd H T (.tup us)) { s with heap := h'', toks := tk } := I.turnedNew (t' := tk) (ch := wr) (fun b o hb e => hk2 b o (fun z => hb (sb b z)) (hk b o (fun z => hb (sb b z)) e)) hf hT new
    refine ⟨.ref T, upd H T (.tup us), I1, rfl, ⟨T, us, hus, rfl, I.hok.fresh hT, rfl⟩, ⟨hlt, down _ _ st''⟩, fun b hb => ?_⟩
    obtain ⟨o, ho, _⟩ := obj i _ st b hb
    have hlb : b < s.heap.objs.size := Heap.lt_size ho
    rw [upd_ne (Nat.ne_of_lt (Nat.lt_of_lt_of_le hlb hT))]
    exact (hf b hb).1
  done := by
    intro X hP hw hK hc i pins s σ H E I hf ⟨hi, st⟩ ⟨hsrc, hge⟩
    obtain ⟨wr', fp, Pt, St, Mid, sb, W, hst, down, vals⟩ := at_ X hP hw hK hc i pins s σ H I hf st hsrc
    subst hP hw hK
    have ei : i = ps.length := by omega
    subst ei
    exact W.done s _ E hst fun h' tk hk => ⟨rfl, I.turnedL (t' := tk) (ch := wr) (fun b o hb e => hk b o (fun z => hb (sb b z)) e) hf⟩
  self := fun A i s Q E st h => self A i s Q E st.2 h

/-! ### what is walked that never changes: a tuple, a text -/
inductive Sc where
  | tup (a : Addr) | txt (x : Str) (t : Tok)
def Sc.val : Sc → Value
  | .tup a => .ref a
  | .txt x t => .str x t
def Sc.pos (it : Addr) (i : Nat) (h : Heap) : Sc → Prop
  | .tup a => h.IsTupleIter it a i
  | .txt x t => h.IsStrIter it (strIterType x) x t i
def signsV (x : Str) : List V := x.cps.toList.map fun c => V.str ⟨#[c]⟩
def Sc.src (K : PySem.W.Frag) (ws : List V) (H : Hp) : Sc → Prop
  | .tup a => SqT K H a ws
  | .txt x _ => ws = signsV x
def Sc.obj : Sc → Obj
  | .tup a => { cls := .type "tuple_iterator", data := .fields #[.ref a, .int 0 0] }
  | .txt x t => { cls := .type (strIterType x), data := .fields #[.str x t, .int 0 0] }
def Sc.off (b : Addr) : Sc → Prop
  | .tup a => b ≠ a
  | .txt _ _ => True
theorem Sc.pos_obj {sc : Sc} {it : Addr} {i : Nat} {h : Heap} (p : sc.pos it i h) : ∃ o, h.get? it = some o ∧ ∀ v, o.data ≠ .cell v := by
  cases sc with
  | tup a => obtain ⟨o, ho, _, hd⟩ := p; exact ⟨o, ho, fun v e => by rw [hd] at e; cases e⟩
  | txt x t => obtain ⟨o, ho, _, hd⟩ := p; exact ⟨o, ho, fun v e => by rw [hd] at e; cases e⟩
theorem Sc.pos_keep {sc : Sc} {it : Addr} {i : Nat} {h h' : Heap} (p : sc.pos it i h) (k : ∀ o, h.get? it = some o → h'.get? it = some o) : sc.pos it i h' := by
  cases sc with
  | tup a => exact Heap.IsTupleIter.at p k
  | txt x t => obtain ⟨o, ho, r⟩ := p; exact ⟨o, k o ho, r⟩
theorem Sc.pos_new {sc : Sc} {it : Addr} {h : Heap} (e : h.get? it = some sc.obj) : sc.pos it 0 h := by
  cases sc with
  | tup a => exact ⟨_, e, rfl, rfl⟩
  | txt x t => exact ⟨_, e, rfl, rfl⟩
section
variable {X : Cx} {pins : List (Addr × Obj)} {σ : L2.St} {H : Hp} {s : Shared} {ws : List V}
theorem Sc.begins (sc : Sc) (I : L2.Inv X pins σ H s) (hs : sc.src X.K ws H) : ∃ HH, Begins sc.val sc.obj HH ∧ HH s.heap := by
  cases sc with
  | tup a => obtain ⟨its, rv, p, _⟩ := I.tuple hs; exact ⟨_, begins_tuple a its.toArray, p⟩
  | txt x t => exact ⟨_, begins_text x t, trivial⟩
theorem Sc.off_new (sc : Sc) (I : L2.Inv X pins σ H s) (hs : sc.src X.K ws H) {b : Addr} (hb : s.heap.objs.size ≤ b) : sc.off b := by
  cases sc with
  | tup a => obtain ⟨its, rv, ⟨o, ho, _⟩, _⟩ := I.tuple hs; exact Nat.ne_of_gt (Nat.lt_of_lt_of_le (Heap.lt_size ho) hb)
  | txt x t => trivial
theorem Sc.draw {A : Around} {it : Addr} {i : Nat} (hh : A.handled = none) (sc : Sc) (I : L2.Inv X pins σ H s) (hs : sc.src X.K ws H) (hp : sc.pos it i s.heap) (ho : sc.off it) :
    ∃ fp Pv St, Draws X.prog X.w A it fp ws.length Pv St ∧ St i s.heap ∧ (∀ i h, St i h → sc.pos it i h) ∧ it ∈ fp ∧ (∀ b ∈ fp, b = it ∨ ¬ sc.off b) ∧ ∀ (i : Nat) (v : Value) (u : V), Pv i v → ws[i]? = some u → RelV u v := by
  cases sc with
  | tup a =>
    obtain ⟨its, rv, p, _⟩ := I.tuple hs
    have el : its.toArray.size = ws.length := by rw [List.size_toArray]; exact rv.length.symm
    refine ⟨_, _, _, el ▸ Draws.tuple hh it a (Ne.symm ho) its.toArray, ⟨hp, p⟩, fun i h st => st.1, by simp, fun b hb => ?_, fun i v u hv hu => ?_⟩
    · simp at hb
      rcases hb with rfl | rfl
      · exact .inl rfl
      · exact .inr fun z => z rfl
    · obtain ⟨v', h1, h2⟩ := rv.get hu
      have : its[i]? = some v := by simpa using hv
      rw [h1] at this
      cases this
      exact h2
  | txt x t =>
    have hs : ws = signsV x := hs
    subst hs
    have el : x.cps.size = (signsV x).length := by unfold signsV; simp
    refine ⟨_, _, _, el ▸ Draws.text hh it x t, hp, fun i h st => st, by simp, fun b hb => .inl (by simpa using hb), fun i v u hv hu => ?_⟩
    obtain ⟨c, t', hc, rfl⟩ := hv
    unfold signsV at hu
    rw [List.getElem?_map] at hu
    have hc2 : x.cps.toList[i]? = some c := by simpa using hc
    rw [hc2] at hu
    cases hu
    exact ⟨t', rfl⟩
end

/-! ### enumerate -/
def enumP : Nat → List V → List (List V)
  | _, [] => []
  | k, u :: r => [.int (k : Nat), u] :: enumP (k + 1) r
theorem enumP_get : ∀ {ws : List V} {k i : Nat} {us : List V}, (enumP k ws)[i]? = some us → ∃ u, ws[i]? = some u ∧ us = [.int ((k + i : Nat) : Int), u]
  | [], _, _, _, e => by cases e
  | u :: r, k, 0, us, e => by cases e; exact ⟨u, rfl, rfl⟩
  | u :: r, k, i + 1, us, e => by
    obtain ⟨v, h1, h2⟩ := enumP_get (ws := r) (k := k + 1) (i := i) e
    have e3 : k + 1 + i = k + (i + 1) := by omega
    exact ⟨v, h1, by rw [h2, e3]⟩
theorem enumP_len : ∀ (k : Nat) (ws : List V), (enumP k ws).length = ws.length
  | _, [] => rfl
  | k, u :: r => by show _ + 1 = _ + 1; rw [enumP_len (k + 1) r]
theorem turn_enumS {P : Program} {w : World} {K : PySem.W.Frag} {elts : List Expr} {kk : Nat} {tpos : Pos} {sc : Sc} {ws : List V} {e it : Addr} {src : Hp → Prop} (hei : e ≠ it) (oe : sc.off e) (oi : sc.off it) (hsrc : ∀ H, src H → sc.src K ws H) :
    Turn P w K (.Tuple elts kk tpos) (ItP src (enumP 0 ws)) [e, it] e (fun i h => i ≤ (enumP 0 ws).length ∧ (∃ old, IsEnum h e it ((i : Nat) : Int) old) ∧ sc.pos it i h) :=
  turn_walks (by simp) (fun i h ⟨⟨old, he⟩, hp⟩ b hb => by
      simp at hb
      rcases hb with rfl | rfl
      · exact ⟨_, he, fun v q => nomatch q⟩
      · exact Sc.pos_obj hp)
    (fun i h h' ⟨⟨old, he⟩, hp⟩ k => ⟨⟨old, k e (by simp) _ he⟩, Sc.pos_keep hp (k it (by simp))⟩)
    (fun A i s Q E ⟨⟨old, he⟩, hp⟩ hq => wpAny_pyIter_enum he hq)
    (fun us hus => by
      obtain ⟨i, hi⟩ := List.getElem?_of_mem hus
      obtain ⟨u, _, rfl⟩ := enumP_get hi
      show 2 ≤ sizeLine
      decide)
    (fun X hP hw hK hc i pins s σ H I hf ⟨he, hp⟩ hs => by
      subst hP hw hK
      obtain ⟨fp, Pv, St, D, st, down, mem, ap, vals⟩ := sc.draw (A := X.A.in1) (I.ok.hd hc) I (hsrc H hs) hp oi
      have hef : e ∉ fp := fun z => (ap e z).elim hei fun q => q oe
      rw [enumP_len]
      refine ⟨_, _, _, _, _, fun b hb => hb, WalksT.enumerateD D e hei hef mem, ⟨he, st⟩, fun i h z => ⟨z.1, down i h z.2⟩, fun i vs us ⟨t, x, hx, ev⟩ hu => ?_⟩
      obtain ⟨u, hu1, rfl⟩ := enumP_get hu
      subst ev
      refine .cons ⟨t, ?_⟩ (.cons (vals i x u hx hu1) .nil)
      rw [Nat.zero_add])
set_option maxHeartbeats 1000000 in
theorem meets_enum1 {v : Value} {o : Obj} {H : Heap → Prop} (B : Begins v o H) :
    Meets (Builtin.«enumerate.__new__» ⟨[.type "enumerate", v], []⟩) (fun _ R s => H s.heap ∧
      R (.ok (.ret (.ref (s.heap.push o).objs.size))) { s with heap := (s.heap.push o).push { cls := .type "enumerate", data := .fields #[.none, .bool false, .ref s.heap.objs.size, rawInt 0, .none, .none] } }) :=
  .of_wp fun prog w A R s h => by
    obtain ⟨hp, g, d, tk, os⟩ := s; obtain ⟨h1, h⟩ := h
    have hsub := sub_enumerate
    have q1 : ∀ {A' : Around} {E : Value → Shared → Prop} {Q : Value → Shared → Prop}, Q (.ref hp.objs.size) ⟨hp.push o, g, d, tk, os⟩ → wpAny (model prog w) A' (pyIter v) Q E ⟨hp, g, d, tk, os⟩ :=
      fun q => B.iter prog w _ _ ⟨hp, g, d, tk, os⟩ _ h1 q
    wp_walk using q1
    refine wpAny_stack_any fun st => wpAny_pure ?_
    split
    · rename_i c _ _ _ _ _
      cases (c == Value.type "enumerate")
      · wp_walk using q1
        exact ⟨_, rfl, h⟩
      · wp_walk using q1
        exact ⟨_, rfl, h⟩
    · wp_walk using q1
      exact ⟨_, rfl, h⟩
theorem call_enum1 {prog : Program} {w : World} {A : Around} {E : Value → Shared → Prop} {s : Shared} {v : Value} {o : Obj} {H : Heap → Prop} {Q : Value → Shared → Prop} (B : Begins v o H) (h1 : H s.heap)
    (h : ∀ h', IsEnum h' (s.heap.objs.size + 1) s.heap.objs.size 0 .none → h'.get? s.heap.objs.size = some o → h'.objs.size = s.heap.objs.size + 2 →
      (∀ b o, s.heap.get? b = some o → h'.get? b = some o) → Q (.ref (s.heap.objs.size + 1)) { s with heap := h' }) :
    wpAny (model prog w) A (call (.type "enumerate") [v]) Q E s := by
  refine callType_new F.called_enumerate (by decide) (F.typeCall_enumerate_1 _) (F.newCall_enumerate_1 _) (fun obj => F.args_object_init_2 obj _) F.entry_enumerate_new
    (meets_enum1 B) ⟨h1, ?_⟩
  have hz : (s.heap.push o).objs.size = s.heap.objs.size + 1 := Heap.size_push ..
  show _ ∧ _
  rw [hz]
  have he : IsEnum ((s.heap.push o).push { cls := .type "enumerate", data := .fields #[.none, .bool false, .ref s.heap.objs.size, rawInt 0, .none, .none] }) (s.heap.objs.size + 1) s.heap.objs.size 0 .none := by
    have := Heap.get?_push_size (s.heap.push o) (o := { cls := .type "enumerate", data := .fields #[.none, .bool false, .ref s.heap.objs.size, rawInt 0, .none, .none] }) rfl
    rw [hz] at this; exact this
  exact ⟨⟨_, he, rfl⟩, h _ he (Heap.get?_push_of_some _ (Heap.get?_push_size _ B.free)) (by rw [Heap.size_push, hz]) fun b o x => Heap.get?_push_of_some _ (Heap.get?_push_of_some _ x)⟩
/-- what a source is at the level of values -/
def SrcV (K : PySem.W.Frag) (H : Hp) (y : V) (ws : List V) : Prop := (∃ a, y = .ref a ∧ SqT K H a ws) ∨ ∃ x, y = .str x ∧ ws = signsV x
theorem SrcV.sc {K : PySem.W.Frag} {H : Hp} {y : V} {ws : List V} {u : Value} (h : SrcV K H y ws) (r : RelV y u) : ∃ sc : Sc, u = sc.val ∧ sc.src K ws H := by
  rcases h with ⟨a, rfl, h⟩ | ⟨x, rfl, h⟩
  · cases r; exact ⟨.tup a, rfl, h⟩
  · obtain ⟨t, rfl⟩ := r; exact ⟨.txt x t, rfl, h⟩
theorem SrcV.sc' {K : PySem.W.Frag} {H : Hp} {y : V} {ws : List V} {u : Value} (h : SrcV K H y ws) (r : RelV y u) : ∃ sc : Sc, u = sc.val ∧ ∀ H', SrcV K H' y ws → sc.src K ws H' := by
  rcases h with ⟨a, rfl, h⟩ | ⟨x, rfl, h⟩
  · cases r
    refine ⟨.tup a, rfl, fun H' h' => ?_⟩
    rcases h' with ⟨a', e, h'⟩ | ⟨x, e, _⟩
    · cases e; exact h'
    · cases e
  · obtain ⟨t, rfl⟩ := r
    exact ⟨.txt x t, rfl, fun _ _ => h⟩
def iEnumS (K : PySem.W.Frag) (ta : TA) : TI := fun σ H R => ta σ H fun vs H1 => ∃ y ws, vs = [y] ∧ SrcV K H1 y ws ∧ R (ItP (fun H => SrcV K H y ws) (enumP 0 ws)) H1
theorem pi_enumS {X : Cx} {e : Expr} {ta : TA} {p pos tpos : Pos} {elts : List Expr} {kk : Nat} (hg : Gl X "enumerate") (hm : X.mg "enumerate" = none) (ha : PA X [e] ta) (hs : starEach [e] X.env = [(false, eval e X.env)] := by rfl) :
    PI X (.Tuple elts kk tpos) (.Call (.Name "enumerate" p) [e] [] pos) (iEnumS X.K ta) := by
  refine ⟨fun pins s σ H R I h => ?_⟩
  refine Call_ (ld_blt I hg hm boot_enumerate (PyProof.Rows.callWith_type1 (thn (ha.run pos pins s σ H _ I h) fun us s1 ⟨vs, H1, I1, r1, q1⟩ => ?_) hs rfl))
  obtain ⟨y, ws, ex, hq, q⟩ := q1
  subst ex
  cases r1 with
  | cons r rr =>
    cases rr
    obtain ⟨sc, rfl, hsc⟩ := hq.sc' r
    obtain ⟨HH, B, h1⟩ := sc.begins I1 (hsc H1 hq)
    refine call_enum1 B h1 fun h' he ho hsz hk => wpAny_pyIter_enum he ?_
    have I2 : L2.Inv X pins σ H1 { s1 with heap := h' } := I1.kept (t' := s1.toks) hk
    refine ⟨s1.heap.objs.size + 1, [s1.heap.objs.size + 1, s1.heap.objs.size], _, _, H1, rfl, I2, turn_enumS (sc := sc) (ws := ws) (e := s1.heap.objs.size + 1) (it := s1.heap.objs.size) (Nat.succ_ne_self _) (sc.off_new I1 (hsc H1 hq) (Nat.le_succ _)) (sc.off_new I1 (hsc H1 hq) (Nat.le_refl _)) hsc, ⟨Nat.zero_le _, ⟨.none, he⟩, sc.pos_new ho⟩, fun b hb => ?_, q⟩
    have e' : b = s1.heap.objs.size + 1 ∨ b = s1.heap.objs.size := by simpa using hb
    have hle : s1.heap.objs.size ≤ b := by
      rcases e' with z | z
      · rw [z]; exact Nat.le_add_right _ _
      · rw [z]; exact Nat.le_refl _
    exact I1.fpOk hle (I1.hok.fresh hle)

/-! ### zip -/
def zipP : List V → List V → List (List V)
  | u :: r, v :: t => [u, v] :: zipP r t
  | _, _ => []
theorem zipP_get : ∀ {ws vs : List V} {i : Nat} {us : List V}, (zipP ws vs)[i]? = some us → ∃ u v, ws[i]? = some u ∧ vs[i]? = some v ∧ us = [u, v]
  | [], _, _, _, e => by cases e
  | _ :: _, [], _, _, e => by cases e
  | u :: r, v :: t, 0, us, e => by cases e; exact ⟨u, v, rfl, rfl, rfl⟩
  | u :: r, v :: t, i + 1, us, e => zipP_get (ws := r) (vs := t) (i := i) e
theorem zipP_len : ∀ ws vs : List V, (zipP ws vs).length = min ws.length vs.length
  | [], vs => by simp [zipP]
  | _ :: _, [] => by simp [zipP]
  | u :: r, v :: t => by simp only [zipP, List.length_cons, zipP_len r t]; omega
structure ZipNew (z TI TO i1 i2 : Addr) : Prop where
  TIz : TI ≠ z
  TOz : TO ≠ z
  TITO : TI ≠ TO
  TI1 : TI ≠ i1
  TI2 : TI ≠ i2
  z1 : z ≠ i1
  z2 : z ≠ i2
  T1 : TO ≠ i1
  T2 : TO ≠ i2
  i12 : i1 ≠ i2
theorem turn_zipS {P : Program} {w : World} {K : PySem.W.Frag} {elts : List Expr} {kk : Nat} {tpos : Pos} {sc sd : Sc} {ws vs : List V} {z TI TO i1 i2 : Addr} {src : Hp → Prop} (N : ZipNew z TI TO i1 i2) (oc : ∀ b ∈ [z, TI, TO, i1, i2], sc.off b ∧ sd.off b) (hsrc : ∀ H, src H → sc.src K ws H ∧ sd.src K vs H) :
    Turn P w K (.Tuple elts kk tpos) (ItP src (zipP ws vs)) [z, TI, TO, i1, i2] z (fun i h => i ≤ (zipP ws vs).length ∧ IsZip h z TI TO .none ∧ IsTupOf2 h TI (.ref i1) (.ref i2) ∧ (∃ a1 a2, IsTupOf2 h TO a1 a2) ∧ sc.pos i1 i h ∧ sd.pos i2 i h) :=
  turn_walks (wr := [z, TI, TO, i1, i2]) (by simp) (fun i h ⟨hz, h1, ⟨a1, a2, h2⟩, p1, p2⟩ b hb => by
      simp at hb
      rcases hb with rfl | rfl | rfl | rfl | rfl
      · exact ⟨_, hz, fun v q => nomatch q⟩
      · exact ⟨_, h1, fun v q => nomatch q⟩
      · exact ⟨_, h2, fun v q => nomatch q⟩
      · exact Sc.pos_obj p1
      · exact Sc.pos_obj p2)
    (fun i h h' ⟨hz, h1, ⟨a1, a2, h2⟩, p1, p2⟩ k => ⟨k z (by simp) _ hz, k TI (by simp) _ h1, ⟨a1, a2, k TO (by simp) _ h2⟩, Sc.pos_keep p1 (k i1 (by simp)), Sc.pos_keep p2 (k i2 (by simp))⟩)
    (fun A i s Q E st hq => wpAny_pyIter_zip st.1 hq)
    (fun us hus => by
      obtain ⟨i, hi⟩ := List.getElem?_of_mem hus
      obtain ⟨u, v, _, _, rfl⟩ := zipP_get hi
      show 2 ≤ sizeLine
      decide)
    (fun X hP hw hK hc i pins s σ H I hf ⟨hz, h1, h2, p1, p2⟩ hs => by
      subst hP hw hK
      obtain ⟨s1, s2⟩ := hsrc H hs
      obtain ⟨fp1, Pv1, St1, D1, st1, down1, mem1, ap1, vals1⟩ := sc.draw (A := X.A.in1) (I.ok.hd hc) I s1 p1 (oc i1 (by simp)).1
      obtain ⟨fp2, Pv2, St2, D2, st2, down2, mem2, ap2, vals2⟩ := sd.draw (A := X.A.in1) (I.ok.hd hc) I s2 p2 (oc i2 (by simp)).2
      have S : ZipSep2 z TI TO i1 i2 fp1 fp2 := {
        TIz := N.TIz, TOz := N.TOz, TITO := N.TITO, TIi1 := N.TI1, mem1 := mem1
        zf1 := fun y => (ap1 z y).elim N.z1 fun q => q (oc z (by simp)).1
        Tf1 := fun y => (ap1 TO y).elim N.T1 fun q => q (oc TO (by simp)).1
        TIi2 := N.TI2, mem2 := mem2
        zf2 := fun y => (ap2 z y).elim N.z2 fun q => q (oc z (by simp)).2
        Tf2 := fun y => (ap2 TO y).elim N.T2 fun q => q (oc TO (by simp)).2
        sep1_2 := fun y => (ap2 i1 y).elim N.i12 fun q => q (oc i1 (by simp)).2
        sep2_1 := fun y => (ap1 i2 y).elim (Ne.symm N.i12) fun q => q (oc i2 (by simp)).1 }
      rw [zipP_len]
      have W := WalksT.zipD2 (A := X.A) S D1 D2
      refine ⟨_, _, _, _, _, fun b hb => ?_, W, ⟨hz, h1, h2, st1, st2⟩, fun i h y => ⟨y.1, y.2.1, y.2.2.1, down1 i h y.2.2.2.1, down2 i h y.2.2.2.2⟩, fun i vals us ⟨x1, x2, e1, e2, ev⟩ hu => ?_⟩
      · simp at hb ⊢
        rcases hb with rfl | rfl | rfl | rfl <;> simp
      · obtain ⟨u, v, hu1, hv1, rfl⟩ := zipP_get hu
        subst ev
        exact .cons (vals1 i x1 u e1 hu1) (.cons (vals2 i x2 v e2 hv1) .nil))
def iZipS (K : PySem.W.Frag) (ta : TA) : TI := fun σ H R => ta σ H fun vs H1 => ∃ y z ws us, vs = [y, z] ∧ SrcV K H1 y ws ∧ SrcV K H1 z us ∧ R (ItP (fun H => SrcV K H y ws ∧ SrcV K H z us) (zipP ws us)) H1
theorem pi_zipS {X : Cx} {e e2 : Expr} {ta : TA} {p pos tpos : Pos} {elts : List Expr} {kk : Nat} (hg : Gl X "zip") (hm : X.mg "zip" = none) (ha : PA X [e, e2] ta)
    (hs : starEach [e, e2] X.env = (false, eval e X.env) :: starEach [e2] X.env := by rfl) (hpl : (backTo pos (starEach [e2] X.env)).any (·.1) = false := by rfl) :
    PI X (.Tuple elts kk tpos) (.Call (.Name "zip" p) [e, e2] [] pos) (iZipS X.K ta) := by
  refine ⟨fun pins s σ H R I h => ?_⟩
  refine Call_ (ld_blt I hg hm PyProof.Rows.boot_zip (PyProof.Rows.callWith_type1 (thn (ha.run pos pins s σ H _ I h) fun us s1 ⟨vs, H1, I1, r1, q1⟩ => ?_) hs hpl))
  obtain ⟨y, z, ws, us, ex, hy, hz, q⟩ := q1
  subst ex
  cases r1 with
  | cons r rr =>
    cases rr with
    | cons r' rr =>
      cases rr
      obtain ⟨sc, rfl, hsc⟩ := hy.sc' r
      obtain ⟨sd, rfl, hsd⟩ := hz.sc' r'
      obtain ⟨HH, B, h1⟩ := sc.begins I1 (hsc H1 hy)
      obtain ⟨HH2, B2, h2⟩ := sd.begins I1 (hsd H1 hz)
      refine zip_begins2 B B2 h1 h2 fun h' gz gT gO g1 g2 hsz hk => wpAny_pyIter_zip gz ?_
      have I2 : L2.Inv X pins σ H1 { s1 with heap := h' } := I1.kept (t' := s1.toks) hk
      have le : ∀ b, b ∈ [s1.heap.objs.size + 4, s1.heap.objs.size + 2, s1.heap.objs.size + 3, s1.heap.objs.size, s1.heap.objs.size + 1] → s1.heap.objs.size ≤ b := fun b hb => by
        simp at hb
        rcases hb with rfl | rfl | rfl | rfl | rfl
        · exact Nat.le_add_right _ _
        · exact Nat.le_add_right _ _
        · exact Nat.le_add_right _ _
        · exact Nat.le_refl _
        · exact Nat.le_add_right _ _
      have ne : ∀ i j : Nat, i ≠ j → (s1.heap.objs.size + i : Nat) ≠ s1.heap.objs.size + j := fun i j h e => h (Nat.add_left_cancel e)
      have N : ZipNew (s1.heap.objs.size + 4) (s1.heap.objs.size + 2) (s1.heap.objs.size + 3) s1.heap.objs.size (s1.heap.objs.size + 1) :=
        ⟨ne 2 4 (by decide), ne 3 4 (by decide), ne 2 3 (by decide), ne 2 0 (by decide), ne 2 1 (by decide), ne 4 0 (by decide), ne 4 1 (by decide), ne 3 0 (by decide), ne 3 1 (by decide), ne 0 1 (by decide)⟩
      exact ⟨s1.heap.objs.size + 4, [s1.heap.objs.size + 4, s1.heap.objs.size + 2, s1.heap.objs.size + 3, s1.heap.objs.size, s1.heap.objs.size + 1], _, _, H1, rfl, I2,
        turn_zipS (sc := sc) (sd := sd) (ws := ws) (vs := us) N (fun b hb => ⟨sc.off_new I1 (hsc H1 hy) (le b hb), sd.off_new I1 (hsd H1 hz) (le b hb)⟩) (fun H' h => ⟨hsc H' h.1, hsd H' h.2⟩),
        ⟨Nat.zero_le _, gz, gT, ⟨_, _, gO⟩, sc.pos_new g1, sd.pos_new g2⟩, fun b hb => I1.fpOk (le b hb) (I1.hok.fresh (le b hb)), q⟩

/-! ### their mirrors -/
def immV : Va → Option (List Va)
  | .tup xs => some xs
  | .str s => some (s.map fun c => .str [c])
  | _ => none
def enumL : Nat → List Va → List Va
  | _, [] => []
  | k, x :: r => .pr [.int (k : Nat), x] :: enumL (k + 1) r
def zipL : List Va → List Va → List Va
  | x :: r, y :: t => .pr [x, y] :: zipL r t
  | _, _ => []
/-- enumerate(a) -/
def iEnumA (A : Ax) : Ix := fun l h => (A l h).bind fun xs h1 => match xs with
  | [a] => match a with
    | .ref i => match h1.get i with
      | some (.lst _) => .ok (.enl i) h1
      | _ => .no
    | a => match immV a with
      | some xs => .ok (.vals (enumL 0 xs)) h1
      | none => .no
  | _ => .no
/-- zip(a, b): two lists, or two of tuples and texts -/
def iZipM (A : Ax) : Ix := fun l h => (A l h).bind fun xs h1 => match xs with
  | [a, b] => match a with
    | .ref i => match b with
      | .ref j => match h1.get i with
        | some (.lst _) => match h1.get j with
          | some (.lst _) => .ok (.zpl i j) h1
          | _ => .no
        | _ => .no
      | _ => .no
    | a => match immV a with
      | some xs => match immV b with
        | some ys => .ok (.vals (zipL xs ys)) h1
        | none => .no
      | none => .no
  | _ => .no
section
variable {K : FW} {ρ : List Addr} {H : Hp} {h : Hea}
theorem immV_src {a : Va} {y : V} {xs : List Va} (e : immV a = some xs) (r : RV K ρ H a y) : ∃ ws, SrcV K.K H y ws ∧ RVs K ρ H xs ws := by
  cases a with
  | tup zs => cases e; obtain ⟨p, us, rfl, h1, h2⟩ := r; exact ⟨us, .inl ⟨p, rfl, h1.1⟩, h2⟩
  | str z =>
    cases e
    cases r
    refine ⟨_, .inr ⟨_, rfl, rfl⟩, ?_⟩
    unfold signsV
    exact RVs.signs z
  | _ => cases e
/-- rows of pairs -/
def RPs (K : FW) (ρ : List Addr) (H : Hp) : List Va → List (List V) → Prop := Paired fun v us => ∃ xs, v = .pr xs ∧ RVs K ρ H xs us
theorem enum_rel : ∀ {xs : List Va} {ws : List V} (k : Nat), RVs K ρ H xs ws → RPs K ρ H (enumL k xs) (enumP k ws)
  | [], _, _, r => by cases r; exact .nil
  | x :: xs, _, k, ⟨u, t, e, r1, r2⟩ => by subst e; exact .cons ⟨_, rfl, _, _, rfl, rfl, _, _, rfl, r1, rfl⟩ (enum_rel (k + 1) r2)
theorem zip_rel : ∀ {xs ys : List Va} {ws vs : List V}, RVs K ρ H xs ws → RVs K ρ H ys vs → RPs K ρ H (zipL xs ys) (zipP ws vs)
  | [], _, _, _, r, _ => by cases r; exact .nil
  | x :: xs, [], _, _, ⟨u, t, e, r1, r2⟩, q => by subst e; cases q; exact .nil
  | x :: xs, y :: ys, _, _, ⟨u, t, e, r1, r2⟩, ⟨u', t', e', r1', r2'⟩ => by subst e e'; exact .cons ⟨_, rfl, _, _, rfl, r1, _, _, rfl, r1', rfl⟩ (zip_rel r2 r2')
theorem tie_pairs {src : Hp → Prop} {vs : List Va} {ps : List (List V)} (hs : ∀ ρ H ρ' H', src H → Ext K ρ H ρ' H' → src H') : Tie K (ItP src ps) (.vals vs) (fun ρ H => src H ∧ RPs K ρ H vs ps) := by
  refine ⟨fun ρ H ρ' H' ⟨c1, c2⟩ e => ⟨hs _ _ _ _ c1 e, Paired.mapQ c2 fun _ _ ⟨xs, e1, r⟩ => ⟨xs, e1, RVs.ext e _ r⟩⟩, fun k h ρ H ⟨c1, c2⟩ q e => ?_, fun k h ρ H v ⟨c1, c2⟩ q e => ?_⟩
  · refine ⟨c1, ?_⟩
    have := List.getElem?_eq_none_iff.mp (Option.some.inj e)
    rw [← Paired.length c2]; exact this
  · have e1 := Option.some.inj e
    have key : ∀ {vs : List Va} {ps : List (List V)} {k : Nat}, RPs K ρ H vs ps → vs[k]? = some v → ∃ us xs, ps[k]? = some us ∧ v = .pr xs ∧ RVs K ρ H xs us := by
      intro vs ps k r
      unfold RPs at r
      induction r generalizing k with
      | nil => intro e; cases e
      | cons r t ih =>
        intro e
        cases k with
        | zero => cases e; obtain ⟨xs, e2, r⟩ := r; exact ⟨_, xs, rfl, e2, r⟩
        | succ k => exact ih e
    obtain ⟨us, xs, e2, rfl, r⟩ := key c2 e1
    refine ⟨⟨c1, (List.getElem?_eq_some_iff.mp e2).1⟩, fun x H' ⟨T, us', e3, ex, n, eH⟩ => ?_⟩
    subst ex
    subst eH
    rw [e2] at e3
    cases e3
    exact ⟨Ext.new n, q.new n, T, us, rfl, SqT.of upd_same, RVs.ext (Ext.new n) _ r⟩
theorem SrcV.ext {ρ' : List Addr} {H' : Hp} {y : V} {ws : List V} (h : SrcV K.K H y ws) (e : Ext K ρ H ρ' H') : SrcV K.K H' y ws := by
  rcases h with ⟨a, rfl, h⟩ | h
  · exact .inl ⟨a, rfl, e.tup _ _ h⟩
  · exact .inr h
theorem tie_enum {i : Nat} {a : Addr} : Tie K (Ite K.K a) (.enl i) (fun ρ _ => ρ[i]? = some a) := by
  refine ⟨fun ρ H ρ' H' c e => e.at c, fun k h ρ H c q e => ?_, fun k h ρ H v c q e => ?_⟩
  · cases g : h.get i with
    | none => simp only [stp, g] at e; cases e
    | some o =>
      cases o with
      | lst xs =>
        simp only [stp, g] at e
        obtain ⟨p, us, ep, _, h1, h2⟩ := q.lst (x := .ref a) ⟨a, rfl, c⟩ g
        cases ep
        refine ⟨us, SqL.of h1, ?_⟩
        have e := Option.some.inj e
        rw [← h2.length]
        cases g2 : xs[k]? with
        | none => exact List.getElem?_eq_none_iff.mp g2
        | some w => rw [g2] at e; cases e
      | _ => simp only [stp, g] at e; cases e
  · cases g : h.get i with
    | none => simp only [stp, g] at e; cases e
    | some o =>
      cases o with
      | lst xs =>
        simp only [stp, g] at e
        obtain ⟨p, us, ep, _, h1, h2⟩ := q.lst (x := .ref a) ⟨a, rfl, c⟩ g
        cases ep
        have e := Option.some.inj e
        cases g2 : xs[k]? with
        | none => rw [g2] at e; cases e
        | some w =>
          rw [g2] at e
          cases e
          obtain ⟨u, hu, ru⟩ := h2.get g2
          refine ⟨⟨us, u, SqL.of h1, hu⟩, fun x H' ⟨T, y, ex, n, eH, hy⟩ => ?_⟩
          subst ex eH
          have := (hy us (SqL.of h1)).symm.trans hu
          cases this
          exact ⟨Ext.new n, q.new n, T, _, rfl, SqT.of upd_same, _, _, rfl, rfl, _, _, rfl, RV.ext (Ext.new n) _ ru, rfl⟩
      | _ => simp only [stp, g] at e; cases e
theorem tie_zip {i j : Nat} {a b : Addr} : Tie K (Itz K.K a b) (.zpl i j) (fun ρ _ => ρ[i]? = some a ∧ ρ[j]? = some b) := by
  refine ⟨fun ρ H ρ' H' c e => ⟨e.at c.1, e.at c.2⟩, fun k h ρ H c q e => ?_, fun k h ρ H v c q e => ?_⟩
  · cases g : h.get i with
    | none => simp only [stp, g] at e; cases e
    | some o =>
      cases o with
      | lst xs =>
        cases g' : h.get j with
        | none => simp only [stp, g, g'] at e; cases e
        | some o =>
          cases o with
          | lst ys =>
            simp only [stp, g, g'] at e
            obtain ⟨p, us, ep, _, h1, h2⟩ := q.lst (x := .ref a) ⟨a, rfl, c.1⟩ g
            cases ep
            obtain ⟨p, vs, ep, _, h1', h2'⟩ := q.lst (x := .ref b) ⟨b, rfl, c.2⟩ g'
            cases ep
            refine ⟨us, vs, SqL.of h1, SqL.of h1', ?_⟩
            rw [← h2.length, ← h2'.length]
            cases g2 : xs[k]? with
            | none => exact .inl (List.getElem?_eq_none_iff.mp g2)
            | some w =>
              cases g3 : ys[k]? with
              | none => exact .inr (List.getElem?_eq_none_iff.mp g3)
              | some w => simp only [g2, g3] at e; cases e
          | _ => simp only [stp, g, g'] at e; cases e
      | _ => simp only [stp, g] at e; cases e
  · cases g : h.get i with
    | none => simp only [stp, g] at e; cases e
    | some o =>
      cases o with
      | lst xs =>
        cases g' : h.get j with
        | none => simp only [stp, g, g'] at e; cases e
        | some o =>
          cases o with
          | lst ys =>
            simp only [stp, g, g'] at e
            obtain ⟨p, us, ep, _, h1, h2⟩ := q.lst (x := .ref a) ⟨a, rfl, c.1⟩ g
            cases ep
            obtain ⟨p, vs, ep, _, h1', h2'⟩ := q.lst (x := .ref b) ⟨b, rfl, c.2⟩ g'
            cases ep
            cases g2 : xs[k]? with
            | none => simp only [g2] at e; cases e
            | some w =>
              cases g3 : ys[k]? with
              | none => simp only [g2, g3] at e; cases e
              | some w' =>
                simp only [g2, g3] at e
                cases e
                obtain ⟨u, hu, ru⟩ := h2.get g2
                obtain ⟨u', hu', ru'⟩ := h2'.get g3
                refine ⟨⟨us, vs, u, u', SqL.of h1, SqL.of h1', hu, hu'⟩, fun x H' ⟨T, y, y', ex, n, eH, hy, hy'⟩ => ?_⟩
                subst ex eH
                have := (hy us (SqL.of h1)).symm.trans hu
                cases this
                have := (hy' vs (SqL.of h1')).symm.trans hu'
                cases this
                exact ⟨Ext.new n, q.new n, T, _, rfl, SqT.of upd_same, _, _, rfl, RV.ext (Ext.new n) _ ru, _, _, rfl, RV.ext (Ext.new n) _ ru', rfl⟩
          | _ => simp only [stp, g, g'] at e; cases e
      | _ => simp only [stp, g] at e; cases e
end
section
variable {W : XW} {X : Cx} {e e2 : Expr} {B : Ax} {p pos tpos : Pos} {elts : List Expr} {kk : Nat}
theorem ix_enum (hg : Gl X "enumerate") (hm : X.mg "enumerate" = none) (ha : AX W X [e] B) (hs : starEach [e] X.env = [(false, eval e X.env)] := by rfl) :
    IX W X (.Tuple elts kk tpos) (.Call (.Name "enumerate" p) [e] [] pos) (iEnumA B) := by
  refine ⟨PI.weak (pi_either (pi_enum hg hm ha.pa hs) (pi_enumS hg hm ha.pa hs)) fun σ H R ⟨ρ, l, h, L, q, s⟩ => ?_⟩
  have imm : ∀ a xs h1, B l h = .ok [a] h1 → immV a = some xs → iEnumA B l h = .ok (.vals (enumL 0 xs)) h1 → iEnumS X.K (tA X.fw W B) σ H R := fun a xs h1 e1 e2 e3 =>
    ⟨ρ, l, h, L, q, by
      rw [e1]
      rw [e3] at s
      refine fun ρ1 H1 ex q1 us ⟨y, t, eu, r1, r2⟩ => ?_
      cases r2
      subst eu
      obtain ⟨ws, hsrc, rs⟩ := immV_src e2 r1
      exact ⟨y, ws, rfl, hsrc, s ρ1 H1 ex q1 _ _ (tie_pairs fun _ _ _ _ h e => h.ext e) ⟨hsrc, enum_rel 0 rs⟩⟩⟩
  cases e1 : B l h with
  | no => simp only [iEnumA, e1, Rs.bind] at s; exact False.elim s
  | err c v h' => exact .inl ⟨ρ, l, h, L, q, by simp only [iEnumA, e1, Rs.bind] at s; rw [e1]; exact s⟩
  | ok xs h1 =>
    match xs, e1 with
    | [a], e1 =>
      cases a with
      | ref i =>
        cases g : h1.get i with
        | none => simp only [iEnumA, e1, Rs.bind, g] at s; exact False.elim s
        | some o =>
          cases o with
          | lst zs =>
            simp only [iEnumA, e1, Rs.bind, g] at s
            refine .inl ⟨ρ, l, h, L, q, ?_⟩
            rw [e1]
            refine fun ρ1 H1 ex q1 us ⟨y, t, eu, r1, r2⟩ => ?_
            cases r2
            subst eu
            obtain ⟨pp, vs, rfl, hp, h3, h4⟩ := q1.lst r1 g
            exact ⟨pp, vs, rfl, SqL.of h3, s ρ1 H1 ex q1 _ _ tie_enum hp⟩
          | _ => simp only [iEnumA, e1, Rs.bind, g] at s; exact False.elim s
      | tup zs => exact .inr (imm _ zs h1 e1 rfl (by simp only [iEnumA, e1, Rs.bind, immV]))
      | str zs => exact .inr (imm _ _ h1 e1 rfl (by simp only [iEnumA, e1, Rs.bind, immV]))
      | _ => simp only [iEnumA, e1, Rs.bind, immV] at s; exact False.elim s
    | [], e1 => simp only [iEnumA, e1, Rs.bind] at s; exact False.elim s
    | _ :: _ :: _, e1 => simp only [iEnumA, e1, Rs.bind] at s; exact False.elim s
theorem ix_zip (hg : Gl X "zip") (hm : X.mg "zip" = none) (ha : AX W X [e, e2] B) (hs : starEach [e, e2] X.env = (false, eval e X.env) :: starEach [e2] X.env := by rfl) (hpl : (backTo pos (starEach [e2] X.env)).any (·.1) = false := by rfl) :
    IX W X (.Tuple elts kk tpos) (.Call (.Name "zip" p) [e, e2] [] pos) (iZipM B) := by
  refine ⟨PI.weak (pi_either (pi_zip hg hm ha.pa hs hpl) (pi_zipS hg hm ha.pa hs hpl)) fun σ H R ⟨ρ, l, h, L, q, s⟩ => ?_⟩
  have imm : ∀ a b xs ys h1, B l h = .ok [a, b] h1 → immV a = some xs → immV b = some ys → iZipM B l h = .ok (.vals (zipL xs ys)) h1 → iZipS X.K (tA X.fw W B) σ H R := fun a b xs ys h1 e1 e2 e2' e3 =>
    ⟨ρ, l, h, L, q, by
      rw [e1]
      rw [e3] at s
      refine fun ρ1 H1 ex q1 us ⟨y, t, eu, r1, y', t', eu', r1', r2⟩ => ?_
      cases r2
      subst eu'
      subst eu
      obtain ⟨ws, hsrc, rs⟩ := immV_src e2 r1
      obtain ⟨ws', hsrc', rs'⟩ := immV_src e2' r1'
      exact ⟨y, y', ws, ws', rfl, hsrc, hsrc', s ρ1 H1 ex q1 _ _ (tie_pairs fun _ _ _ _ h e => ⟨h.1.ext e, h.2.ext e⟩) ⟨⟨hsrc, hsrc'⟩, zip_rel rs rs'⟩⟩⟩
  cases e1 : B l h with
  | no => simp only [iZipM, e1, Rs.bind] at s; exact False.elim s
  | err c v h' => exact .inl ⟨ρ, l, h, L, q, by simp only [iZipM, e1, Rs.bind] at s; rw [e1]; exact s⟩
  | ok xs h1 =>
    match xs, e1 with
    | [a, b], e1 =>
      have immC : ∀ zs, immV a = some zs → (∀ i, a ≠ .ref i) → iZipS X.K (tA X.fw W B) σ H R := fun zs ez ni => by
        cases ey : immV b with
        | none =>
          exfalso
          cases a with
          | ref i => exact ni i rfl
          | _ => first | (cases ez; done) | (simp only [iZipM, e1, Rs.bind, ez, ey] at s; exact s)
        | some ys =>
          refine imm a b zs ys h1 e1 ez ey ?_
          cases a with
          | ref i => exact absurd rfl (ni i)
          | _ => first | (cases ez; done) | (simp only [iZipM, e1, Rs.bind, ez, ey])
      cases a with
      | ref i =>
        cases b with
        | ref j =>
          cases g : h1.get i with
          | none => simp only [iZipM, e1, Rs.bind, g] at s; exact False.elim s
          | some o =>
            cases o with
            | lst zs =>
              cases g' : h1.get j with
              | none => simp only [iZipM, e1, Rs.bind, g, g'] at s; exact False.elim s
              | some o =>
                cases o with
                | lst zs' =>
                  simp only [iZipM, e1, Rs.bind, g, g'] at s
                  refine .inl ⟨ρ, l, h, L, q, ?_⟩
                  rw [e1]
                  refine fun ρ1 H1 ex q1 us ⟨y, t, eu, r1, y', t', eu', r1', r2⟩ => ?_
                  cases r2
                  subst eu'
                  subst eu
                  obtain ⟨pp, vs, rfl, hp, h3, h4⟩ := q1.lst r1 g
                  obtain ⟨pp', vs', rfl, hp', h3', h4'⟩ := q1.lst r1' g'
                  exact ⟨pp, pp', vs, vs', rfl, SqL.of h3, SqL.of h3', s ρ1 H1 ex q1 _ _ tie_zip ⟨hp, hp'⟩⟩
                | _ => simp only [iZipM, e1, Rs.bind, g, g'] at s; exact False.elim s
            | _ => simp only [iZipM, e1, Rs.bind, g] at s; exact False.elim s
        | _ => simp only [iZipM, e1, Rs.bind] at s; exact False.elim s
      | tup zs => exact .inr (immC zs rfl (fun i e => nomatch e))
      | str zs => exact .inr (immC _ rfl (fun i e => nomatch e))
      | _ => simp only [iZipM, e1, Rs.bind, immV] at s; exact False.elim s
    | [], e1 => simp only [iZipM, e1, Rs.bind] at s; exact False.elim s
    | [_], e1 => simp only [iZipM, e1, Rs.bind] at s; exact False.elim s
    | _ :: _ :: _ :: _, e1 => simp only [iZipM, e1, Rs.bind] at s; exact False.elim s
end
end Rf

/-! Rf: sorted, index, displays of dicts, ranges as lists. -/
namespace Rf
open PySem PySem.Spec PyProof.Rows L2

/-! ### index -/
def firstI {α : Type} (p : α → Bool) : Nat → List α → Option Nat
  | _, [] => none
  | k, x :: r => match p x with
    | true => some k
    | false => firstI p (k + 1) r
theorem firstI_at {α : Type} {p : α → Bool} : ∀ {xs : List α} {k j : Nat}, firstI p k xs = some j → ∃ i x, j = k + i ∧ xs[i]? = some x ∧ p x = true ∧ ∀ m y, m < i → xs[m]? = some y → p y = false
  | [], _, _, e => by cases e
  | x :: r, k, j, e => by
    unfold firstI at e
    cases q : p x with
    | true => rw [q] at e; cases e; exact ⟨0, x, rfl, rfl, q, fun m y h => absurd h (Nat.not_lt_zero _)⟩
    | false =>
      rw [q] at e
      obtain ⟨i, z, e1, e2, e3, e4⟩ := firstI_at e
      refine ⟨i + 1, z, by omega, e2, e3, fun m y h hm => ?_⟩
      cases m with
      | zero => cases hm; exact q
      | succ m => exact e4 m y (by omega) hm
def idxOfV (h : Hea) (a : Va) (xs : List Va) : Option Nat := if (dOk h 19 a && xs.all (dOk h 19)) = true then firstI (fun z => vq h 19 z a) 0 xs else none
def vIndexL (a : Va) : Fn := fun ys h => match ys with
  | [y] => match lstV h a with
    | some xs => match idxOfV h y xs with
      | some j => .ok (.int (j : Nat)) h
      | none => .no
    | none => .no
  | _ => .no
def vIndexT (a : Va) : Fn := fun ys h => match ys with
  | [y] => match a with
    | .tup xs => match y with
      | .int k => match intsOf xs with
        | some ns => match firstI (fun z => decide (z = k)) 0 ns with
          | some j => .ok (.int (j : Nat)) h
          | none => .no
        | none => .no
      | _ => .no
    | _ => .no
  | _ => .no
def vIndexS (a : Va) : Fn := fun ys h => match ys with
  | [y] => match a with
    | .str t => match y with
      | .str [c] => match firstI (fun d => Nat.beq c d) 0 t with
        | some j => .ok (.int (j : Nat)) h
        | none => .no
      | _ => .no
    | _ => .no
  | _ => .no
section
variable {K : FW} {W : XW}
theorem s_indexL : SM K W vIndexL (rIndexD K) := fun ρ h H a x xs us Q q rx rs s => by
  match xs, rs with
  | [y], ⟨u, t, e, r1, r2⟩ =>
    cases r2
    subst e
    have s' : sat K W ρ H (match lstV h a with
      | some xs => match idxOfV h y xs with
        | some j => .ok (.int (j : Nat)) h
        | none => .no
      | none => .no) (rv K Q) := s
    cases e : lstV h a with
    | none => rw [e] at s'; exact False.elim s'
    | some zs =>
      rw [e] at s'
      simp only at s'
      cases e2 : idxOfV h y zs with
      | none => rw [e2] at s'; exact False.elim s'
      | some j =>
        rw [e2] at s'
        unfold idxOfV at e2
        by_cases c : (dOk h 19 y && zs.all (dOk h 19)) = true
        · rw [if_pos c] at e2
          rw [Bool.and_eq_true] at c
          obtain ⟨i, z, ej, ez, ep, en⟩ := firstI_at e2
          rw [Nat.zero_add] at ej
          cases ej
          obtain ⟨p, ws, rfl, h1, h2⟩ := lstV_ok q rx e
          obtain ⟨i1, i2, i3⟩ := dp_of q 19 y u c.1 r1
          have all : ∀ (xs : List Va) (us : List V), xs.all (dOk h 19) = true → RVs K ρ H xs us → DpAll K.K H us (xs.map (toD h 19)) ∧ PyData.canLayAll0 (xs.map (toD h 19)) = true ∧ PyData.depthAll (xs.map (toD h 19)) ≤ 19 := by
            intro xs
            induction xs with
            | nil => intro us _ r; cases r; exact ⟨.nil, by simp [PyData.canLayAll0], by simp [PyData.depthAll]⟩
            | cons y ys ih =>
              intro us e r
              obtain ⟨u, t, rfl, r1, r2⟩ := r
              rw [List.all_cons, Bool.and_eq_true] at e
              obtain ⟨a1, a2, a3⟩ := ih t e.2 r2
              obtain ⟨b1, b2, b3⟩ := dp_of q 19 y u e.1 r1
              refine ⟨.cons b1 a1, by simp [PyData.canLayAll0, b2, a2], ?_⟩
              simp only [List.map_cons, PyData.depthAll]
              omega
          obtain ⟨j1, j2, j3⟩ := all zs ws c.2 h2
          have ok : ∀ (k : Nat) (w : Va), zs[k]? = some w → dOk h 19 w = true := fun k w hk => List.all_eq_true.mp c.2 w (List.mem_of_getElem? hk)
          refine ⟨p, u, toD h 19 y, zs.map (toD h 19), j, toD h 19 z, rfl, rfl, .lst h1 j1, i1, shaped_of (n := 20) (by simp only [PyData.canLay0]; exact j2) (by simp only [PyData.depth]; omega) (by decide), shaped_of i2 i3 (by decide), by rw [List.getElem?_map, ez]; rfl, ?_, fun m z' hm hz' => ?_, s'.val q rfl⟩
          · rw [← vq_eqv h 19 z y (ok j z ez) c.1]; exact ep
          · rw [List.getElem?_map] at hz'
            cases em : zs[m]? with
            | none => rw [em] at hz'; cases hz'
            | some w =>
              rw [em] at hz'
              cases hz'
              rw [← vq_eqv h 19 w y (ok m w em) c.1]
              exact en m w hm em
        · rw [if_neg c] at e2; cases e2
  | [], _ => exact False.elim s
  | _ :: _ :: _, _ => exact False.elim s
theorem occ_stays (x y : Str) (hi j : Nat) : ∀ (l : List Nat) (free : Nat), (forIn l ((#[j] : Array Nat), free) (StrLaws.occBody x y hi 1)).run.fst = #[j]
  | [], _ => rfl
  | a :: l, free => by
    rw [List.forIn_cons]
    unfold StrLaws.occBody
    rw [if_neg (fun h => absurd h.1.1.1 (by simp))]
    exact occ_stays x y hi j l free
theorem occ_find (x y : Str) (hi : Nat) (p : Nat → Bool) (hp : ∀ i, p i = true ↔ (i + y.length ≤ hi ∧ Builtin.Str.subAt x y i = true)) : ∀ (l : List Nat) (free : Nat), (∀ i ∈ l, free ≤ i) → ∀ j, l.find? p = some j →
    (forIn l ((#[] : Array Nat), free) (StrLaws.occBody x y hi 1)).run.fst = #[j]
  | [], _, _, _, e => by cases e
  | a :: l, free, hf, j, e => by
    rw [List.find?_cons] at e
    rw [List.forIn_cons]
    unfold StrLaws.occBody
    cases q : p a with
    | true =>
      rw [q] at e
      cases e
      have h := (hp a).mp q
      rw [if_pos ⟨⟨⟨by simp, hf a (List.mem_cons_self ..)⟩, h.1⟩, h.2⟩]
      exact occ_stays x y hi a l _
    | false =>
      rw [q] at e
      rw [if_neg (fun h => by have := (hp a).mpr ⟨h.1.2, h.2⟩; rw [q] at this; cases this)]
      exact occ_find x y hi p hp l free (fun i hm => hf i (List.mem_cons_of_mem _ hm)) j e
theorem occ_first (c : Nat) (t : List Nat) {j : Nat} (e : firstI (fun d => Nat.beq c d) 0 t = some j) : Builtin.Str.occurrences ⟨t.toArray⟩ ⟨#[c]⟩ 0 (⟨t.toArray⟩ : Str).length 1 = [j] := by
  obtain ⟨i, d, ej, ed, ep, en⟩ := firstI_at e
  rw [Nat.zero_add] at ej
  cases ej
  have hc : c = d := Nat.eq_of_beq_eq_true ep
  subst hc
  have len : (⟨t.toArray⟩ : Str).length = t.length := by show t.toArray.size = _; simp
  have pt : ∀ i, decide (t[i]? = some c) = true ↔ (i + (⟨#[c]⟩ : Str).length ≤ (⟨t.toArray⟩ : Str).length ∧ Builtin.Str.subAt ⟨t.toArray⟩ ⟨#[c]⟩ i = true) := fun i => by
    rw [StrLaws.subAt_one ⟨t.toArray⟩ c i, decide_eq_true_eq]
  rw [StrLaws.occ_eq, occ_find _ _ _ (fun i => decide (t[i]? = some c)) pt _ _ (fun _ _ => Nat.zero_le _) j]
  have lt := (List.getElem?_eq_some_iff.mp ed).1
  refine L2.find_range' _ _ _ _ (Nat.zero_le _) (by rw [len]; omega) (decide_eq_true ed) fun k _ hk => decide_eq_false fun h => ?_
  have := en k c hk h
  rw [show Nat.beq c c = true from Nat.beq_refl c] at this
  cases this
end
section
variable {X : Cx} {W : XW}
theorem mt_indexS : MtR X "str.index" (rMM X.fw W vIndexS) := by
  intro pins s σ H x xs v us Q I rx rxs ⟨ρ, h, a, ys, q, ra, ry, sa⟩
  match ys, ry with
  | [y], ⟨u, t, e1, r1, r2⟩ =>
    cases r2
    subst e1
    cases a with
    | str z =>
      cases y with
      | str w =>
        match w, sa, r1 with
        | [c], sa, r1 =>
          have sa : sat X.fw W ρ H (match firstI (fun d => Nat.beq c d) 0 z with
            | some j => .ok (.int (j : Nat)) h
            | none => .no) (rv X.fw Q) := sa
          cases e : firstI (fun d => Nat.beq c d) 0 z with
          | none => rw [e] at sa; exact False.elim sa
          | some j =>
            rw [e] at sa
            cases ra
            cases r1
            exact mt_sindex pins s σ H _ _ v us Q I rx rxs ⟨_, _, j, [], rfl, rfl, occ_first c z e, sa.val q rfl⟩
        | [], sa, _ => exact False.elim sa
        | _ :: _ :: _, sa, _ => exact False.elim sa
      | _ => exact False.elim sa
    | _ => exact False.elim sa
  | [], _ => exact False.elim sa
  | _ :: _ :: _, _ => exact False.elim sa
theorem ints_of_vals : ∀ {ns : List Int} {vs : List Value}, Vals (ns.map V.int) vs → IntsAre vs ns
  | _, _, h => h.ints
theorem mt_indexT : MtR X "tuple.index" (rMM X.fw W vIndexT) := by
  intro pins s σ H x xs v us Q I rx rxs ⟨ρ, h, a, ys, q, ra, ry, sa⟩
  match ys, ry with
  | [y], ⟨u, t, e1, r1, r2⟩ =>
    cases r2
    subst e1
    cases a with
    | tup zs =>
      cases y with
      | int k =>
        have sb : sat X.fw W ρ H (match intsOf zs with
          | some ns => match firstI (fun z => decide (z = k)) 0 ns with
            | some j => .ok (.int (j : Nat)) h
            | none => .no
          | none => .no) (rv X.fw Q) := sa
        cases e : intsOf zs with
        | none => rw [e] at sb; exact False.elim sb
        | some ns =>
          rw [e] at sb
          simp only at sb
          cases e2 : firstI (fun z => decide (z = k)) 0 ns with
          | none => rw [e2] at sb; exact False.elim sb
          | some j =>
            rw [e2] at sb
            obtain ⟨i, z, ej, ez, ep, en⟩ := firstI_at e2
            rw [Nat.zero_add] at ej
            cases ej
            have ez' : z = k := of_decide_eq_true ep
            subst ez'
            obtain ⟨p, ws, rfl, h1, h2⟩ := ra
            cases rx
            cases r1
            obtain ⟨u, rfl, tk, rfl⟩ := vals1 rxs
            rw [intsOf_ok e h2] at h1
            obtain ⟨its, rv, pt, _⟩ := I.tuple h1.1
            have hj : ns.idxOf z = j := by
              have lt := (List.getElem?_eq_some_iff.mp ez)
              obtain ⟨lt, eq⟩ := lt
              rw [List.idxOf, List.findIdx_eq lt]
              refine ⟨by simp [eq], fun m hm => ?_⟩
              have := en m ns[m] hm (List.getElem?_eq_getElem (by omega))
              have ne := of_decide_eq_false this
              simp [ne]
            refine SeqAt.tuple_index_ints (l := p) (vs := its) pt (ints_of_vals rv) (List.mem_of_getElem? ez) ?_
            rw [hj]
            exact ⟨.int (j : Nat), H, I.tok _, ⟨_, rfl⟩, sb.val q rfl⟩
      | _ => exact False.elim sa
    | _ => exact False.elim sa
  | [], _ => exact False.elim sa
  | _ :: _ :: _, _ => exact False.elim sa
/-- a tuple of ours has no dict: its methods are the type's -/
theorem tup_noDict {pins : List (Addr × Obj)} {σ : L2.St} {H : Hp} {s : Shared} {a : Addr} {us : List V} (I : L2.Inv X pins σ H s) (h : TqT X.fw H a us) : s.TypeIs (.ref a) "tuple" ∧ ∀ b, Value.ref a = .ref b → ∃ ob, s.heap.get? b = some ob ∧ ob.dict = none := by
  obtain ⟨its, rv, ⟨o, ho, hc, hd⟩, _⟩ := I.tuple h.1
  refine ⟨⟨o, ho, hc⟩, fun b e => ?_⟩
  cases e
  rcases h.2 with ⟨o', us', h1, h2⟩ | ⟨o', h1, h2⟩
  · exact ⟨o', (I.hok a _ h1).1, h2⟩
  · exact ⟨o', I.kIn a _ h1, h2⟩
end
/-! ### methods of tuples; methods by what the value is -/
def tmE (F : Va → Fn) (A : Ex) (B : Ax) : Ex := fun l h => (A l h).bind fun a h1 => match a with
  | .tup xs => (B l h1).bind fun ys h2 => F (.tup xs) ys h2
  | _ => .no
def tTM (K : FW) (r : V → List V → Hp → VK → Prop) (td : TE) (ta : TA) : TE := fun σ H Q => td σ H fun x H1 => (∃ a us, x = .ref a ∧ TqT K H1 a us) ∧ ta σ H1 fun us H2 => r x us H2 Q
/-- o.m(..) is m of the first kind where o is of type T, else what the second says -/
def orTy (p : Hea → Va → Bool) (A : Ex) (E1 E2 : Ex) : Ex := fun l h => match A l h with
  | .ok a h1 => match p h1 a with
    | true => E1 l h
    | false => E2 l h
  | _ => E1 l h
section
variable {X : Cx} {W : XW} {o e : Expr} {es : List Expr} {A : Ex} {B : Ax} {name : Str} {id : String} {apos cpos : Pos} {F : Va → Fn}
theorem ex_orTy {x : Expr} {p : Hea → Va → Bool} {E1 E2 : Ex} (h1 : EX W X x E1) (h2 : EX W X x E2) : EX W X x (orTy p A E1 E2) :=
  ⟨PE.weak (pe_either h1.pe h2.pe) fun σ H Q ⟨ρ, l, h, L, q, s⟩ => by
    cases ea : A l h with
    | no => exact .inl ⟨ρ, l, h, L, q, by unfold orTy at s; rw [ea] at s; exact s⟩
    | err c v h' => exact .inl ⟨ρ, l, h, L, q, by unfold orTy at s; rw [ea] at s; exact s⟩
    | ok a h' =>
      cases ep : p h' a with
      | true => exact .inl ⟨ρ, l, h, L, q, by unfold orTy at s; rw [ea] at s; simp only [ep] at s; exact s⟩
      | false => exact .inr ⟨ρ, l, h, L, q, by unfold orTy at s; rw [ea] at s; simp only [ep] at s; exact s⟩⟩
theorem ex_tm (pa : PlainAttrs "tuple") (slot : Slot "tuple" name id) (hty : typeOf (.builtin id) = pure (.type "method_descriptor")) (hm : MtR X id (rMM X.fw W F)) (ho : EX W X o A) (ha : AX W X (e :: es) B)
    (hbase : attributeBase o name X.env (eval o X.env) = eval o X.env)
    (few : ((backTo cpos (starEach (e :: es) X.env)).all (fun x => !x.1) && (backToKw cpos (keywordEach [] X.env)).all (fun x => x.1.isSome) && decide ((e :: es).length + ([] : List Keyword).length + (if ([] : List Keyword).isEmpty then 0 else 1) < 30)) = true)
    (hline : (apos.endLine == cpos.line) = true) (hs : starEach (e :: es) X.env = (false, eval e X.env) :: starEach es X.env) (hplain : (backTo cpos (starEach es X.env)).any (·.1) = false) : EX W X (.Call (.Attribute o name apos) (e :: es) [] cpos) (tmE F A B) := by
  have run : PE X (.Call (.Attribute o name apos) (e :: es) [] cpos) (tTM X.fw (rMM X.fw W F) (tE X.fw W A) (tA X.fw W B)) := by
    refine ⟨fun pins s σ H Q I w => wpAny_Call_method_late hbase few hline rfl (thn (ho.pe.run pins s σ H _ I w) fun v s1 ⟨x, H1, I1, rx, ⟨a, us, ex, tq⟩, w1⟩ => ?_)⟩
    subst ex
    obtain rfl : v = Value.ref a := rx
    obtain ⟨k1, k2⟩ := tup_noDict I1 tq
    have args := ha.pa.run cpos pins s1 σ H1 _ I1 w1
    refine ⟨"tuple", id, pa, slot, hty, k1, k2, ?_⟩
    rw [hs] at args ⊢
    refine Calls.callWith_builtin ?_ (Calls.evalArgs_plain (thn args fun us s2 ⟨vs, H2, I2, r2, w2⟩ => hm pins s2 σ H2 (.ref a) vs (.ref a) us Q I2 rfl r2 w2))
    show (false || (backTo cpos (starEach es X.env)).any (·.1)) = false
    rw [hplain]; rfl
  refine ⟨PE.weak run fun σ H Q ⟨ρ, l, h, L, q, s⟩ => tE.go L q s fun a h1 ρ1 H1 x e1 L1 q1 rx s1 => ?_⟩
  cases a with
  | tup xs =>
    obtain ⟨p, us, rfl, tq, rs⟩ := rx
    exact ⟨⟨p, us, rfl, tq⟩, tA.go L1 q1 s1 fun ys h2 ρ2 H2 vs e2 L2 q2 rys s2 => ⟨ρ2, h2, .tup xs, ys, q2, RV.ext e2 (.tup xs) ⟨p, us, rfl, tq, rs⟩, rys, s2⟩⟩
  | _ => exact False.elim s1
end
def isTyB (t : Ty) (h : Hea) (a : Va) : Bool := decide (vTy h a = some t)
/-- .index: of a list, a tuple, a text -/
def idxE (A : Ex) (B : Ax) : Ex := orTy (isTyB .list) A (methE .list vIndexL A B) (orTy (isTyB .tuple) A (tmE vIndexT A B) (methE .str vIndexS A B))
section
variable {X : Cx} {W : XW} {o e : Expr} {A : Ex} {B : Ax} {apos cpos : Pos}
theorem ex_index (hu : X.A.units + 65 < cLine) (ho : EX W X o A) (ha : AX W X [e] B) (hbase : attributeBase o "index" X.env (eval o X.env) = eval o X.env := by rfl)
    (few : ((backTo cpos (starEach [e] X.env)).all (fun x => !x.1) && (backToKw cpos (keywordEach [] X.env)).all (fun x => x.1.isSome) && decide (([e] : List Expr).length + ([] : List Keyword).length + (if ([] : List Keyword).isEmpty then 0 else 1) < 30)) = true := by rfl)
    (hline : (apos.endLine == cpos.line) = true := by rfl) (hs : starEach [e] X.env = (false, eval e X.env) :: starEach [] X.env := by rfl) (hplain : (backTo cpos (starEach [] X.env)).any (·.1) = false := by rfl) : EX W X (.Call (.Attribute o "index" apos) [e] [] cpos) (idxE A B) :=
  ex_orTy (ex_bm .list (.inr (.inl rfl)) F.plainAttrs_list F.slot_list_index F.type_list_index (mt_indexD hu) s_indexL ho ha hbase few hline hs hplain)
    (ex_orTy (ex_tm F.plainAttrs_tuple F.slot_tuple_index F.type_tuple_index mt_indexT ho ha hbase few hline hs hplain)
      (ex_bm .str (.inl rfl) F.plainAttrs_str F.slot_str_index F.type_str_index mt_indexS s_rMM ho ha hbase few hline hs hplain))
/-- .pop: of a list, a dict -/
def popE (A : Ex) (B : Ax) : Ex := orTy isD A (dmE vDpop A B) (methE .list vPop A B)
end
end Rf

/-! Rf: sorted. -/
namespace Rf
open PySem PySem.Spec PyProof.Rows L2

/-! ### sorted(v), by what is collected of v -/
section
variable {prog : Program} {w : World} {A : Around} {E : Value → Shared → Prop} {s : Shared}
/-- what is asked behind the collecting: the items can be put in order, and any new list in order will do -/
def SortAsk (prog : Program) (w : World) (A : Around) (ltv : Value → Value → Bool) (Q : Value → Shared → Prop) (vs : List Value) (s : Shared) : Prop :=
  vs.length ≤ sizeLine ∧
  (2 ≤ vs.length → ∀ (h1 : Heap) (a : Addr), h1.get? a = some (seqObj "list" vs.toArray 0) → (∀ b o, s.heap.get? b = some o → b ≠ a ∧ h1.get? b = some o) → SrtO.SortableO prog w A { s with heap := h1 } a vs ltv) ∧
  ∀ (out : List Value) (h1 : Heap) (d : Addr) (n : Nat), SrtO.Srtd ltv out → SrtO.Stb ltv out vs → (∀ b o, s.heap.get? b = some o → h1.get? b = some o) → s.heap.objs.size ≤ d → h1.get? d = some (seqObj "list" out.toArray n) → Q (.ref d) { s with heap := h1 }
theorem sorted_by {v : Value} {ltv : Value → Value → Bool} {Q : Value → Shared → Prop} (O : SrtO.Swo ltv) (hc : wpAny (model prog w) A.in1 (collect v) (SortAsk prog w A.in1.in1 ltv Q) E s) : wpAny (model prog w) A (call (.builtin "sorted") [v]) Q E s := by
  refine Calls.call_function_entry kind_sorted plain_sorted entry_sorted (args_sorted1 _) ?_
  unfold Builtin.«sorted»
  refine wpAny_bind (m := checkCount "sorted" 1 1 _) (wpAny_pure (wpAny_bind (wpAny_mono hc (fun vs s1 ⟨small, able, done⟩ => ?_) fun _ _ z => z)))
  have fresh : (s1.heap.push (seqObj "list" vs.toArray 0)).get? s1.heap.objs.size = some (seqObj "list" vs.toArray 0) := Heap.get?_push_size _ rfl
  have old : ∀ b o, s1.heap.get? b = some o → b ≠ s1.heap.objs.size ∧ (s1.heap.push (seqObj "list" vs.toArray 0)).get? b = some o := fun b o e => ⟨Nat.ne_of_lt (Heap.lt_size e), Heap.get?_push_of_some _ e⟩
  refine wpAny_bind (wpAny_newList (wpAny_bind (wpAny_holding (wpAny_call_entry slot_list_sort ⟨_, fresh, rfl⟩ entry_list_sort (SrtO.list_sort_ord (A := A.in1.in1) O fresh small (fun two => able two _ _ fresh old) fun out o1 o2 => ⟨_, rfl, wpAny_pure ⟨_, rfl, ?_⟩⟩) (args_list_sort _)))) small)
  obtain ⟨n, at_⟩ := sortedHeap_at (vs := vs) (out := out.toArray) fresh
  refine done out _ _ n o1 o2 (fun b o e => ?_) (Nat.le_refl _) at_
  rw [sortedHeap_old (old b o e).1 (by rw [size_push']; exact Nat.lt_succ_of_lt (Heap.lt_size e))]
  exact (old b o e).2
theorem collect_tup {t : Addr} {vs : List Value} {Q : List Value → Shared → Prop} (ht : s.heap.IsTuple t vs.toArray) (small : vs.length ≤ sizeLine) (h : ∀ h1 : Heap, (∀ b o, s.heap.get? b = some o → h1.get? b = some o) → Q vs { s with heap := h1 }) : wpAny (model prog w) A (collect (.ref t)) Q E s := by
  obtain ⟨o, at_, hc, n, hd⟩ := ht
  have new : (s.heap.push (seqObj "list" #[] 0)).get? s.heap.objs.size = some (seqObj "list" #[] 0) := Heap.get?_push_size _ rfl
  have at2 : (s.heap.push (seqObj "list" #[] 0)).get? t = some o := Heap.get?_push_of_some _ at_
  unfold collect
  refine wpAny_bind (wpAny_runValue (codeAny_builtin entry_proto_collect' ?_))
  show wpAny _ _ (do again (.builtin "list.__iadd__" ⟨[← newList [], .ref t], []⟩)) _ _ s
  refine wpAny_bind (wpAny_newList (wpAny_pure ⟨Code.quiet_builtin _ (by decide +kernel), codeAny_builtin entry_list_iadd' ?_⟩))
  show wpAny _ _ (Builtin.List.listExtendWith (.ref s.heap.objs.size) (.ref t) (.ref s.heap.objs.size)) _ _ { s with heap := s.heap.push (seqObj "list" #[] 0) }
  unfold Builtin.List.listExtendWith
  refine wpAny_bind (wpAny_typeOf (T := "tuple") ⟨o, at2, hc⟩ ?_)
  rw [if_pos (show ((Builtin.List.listSameRef (.ref s.heap.objs.size) (.ref t) || Value.type "tuple" == Value.type "list") || Value.type "tuple" == Value.type "tuple") = true by rw [show (Value.type "tuple" == Value.type "tuple") = true from rfl, Bool.or_true])]
  refine wpAny_bind (listItems_at at2 hd (wpAny_bind (listItems_at new rfl ?_)))
  rw [if_neg (by simp)]
  refine wpAny_bind (listUpdate_at new rfl (wpAny_pure ?_) (Nat.zero_le _) (by show (#[] ++ vs.toArray).size ≤ sizeLine + 1; simp only [Array.size_append, List.size_toArray, List.length_nil]; omega))
  show wpAny (model prog w) A (do
      let o ← load s.heap.objs.size
      match o.data with
      | .seq xs _ => pure xs.toList
      | _ => unsupported "internal:collect") Q E { s with heap := (s.heap.push (seqObj "list" #[] 0)).update s.heap.objs.size (Obj.mapSeq (· ++ vs.toArray)) }
  refine wpAny_bind (wpAny_load (get?_update_seq new _) ?_)
  show wpAny _ _ (pure ((#[] : Array Value) ++ vs.toArray).toList) Q E _
  rw [show ((#[] : Array Value) ++ vs.toArray).toList = vs by simp]
  refine wpAny_pure (h _ fun b ob e => ?_)
  rw [Heap.get?_update_ne _ _ _ _ (Nat.ne_of_lt (Heap.lt_size e))]
  exact Heap.get?_push_of_some _ e
end

/-! ### ints -/
def insI (a : Int) : List Int → List Int
  | [] => [a]
  | b :: r => match decide (a ≤ b) with
    | true => a :: b :: r
    | false => b :: insI a r
def isortI : List Int → List Int
  | [] => []
  | a :: r => insI a (isortI r)
theorem insI_perm (a : Int) : ∀ l, (insI a l).Perm (a :: l)
  | [] => .refl _
  | b :: r => by
    unfold insI
    cases decide (a ≤ b) with
    | true => exact .refl _
    | false => exact ((insI_perm a r).cons b).trans (.swap a b r)
theorem insI_sorted (a : Int) : ∀ l : List Int, l.Pairwise (· ≤ ·) → (insI a l).Pairwise (· ≤ ·)
  | [], _ => List.pairwise_singleton ..
  | b :: r, h => by
    obtain ⟨h1, h2⟩ := List.pairwise_cons.mp h
    unfold insI
    by_cases q : a ≤ b
    · rw [decide_eq_true q]
      refine List.pairwise_cons.mpr ⟨fun x hx => ?_, h⟩
      rcases List.mem_cons.mp hx with rfl | hx
      · exact q
      · exact Int.le_trans q (h1 x hx)
    · rw [decide_eq_false q]
      refine List.pairwise_cons.mpr ⟨fun x hx => ?_, insI_sorted a r h2⟩
      rcases List.mem_cons.mp ((insI_perm a r).mem_iff.mp hx) with rfl | hx
      · omega
      · exact h1 x hx
theorem isortI_perm : ∀ l, (isortI l).Perm l
  | [] => .refl _
  | a :: r => (insI_perm a _).trans ((isortI_perm r).cons a)
theorem isortI_sorted : ∀ l, (isortI l).Pairwise (· ≤ ·)
  | [] => .nil
  | a :: r => insI_sorted a _ (isortI_sorted r)
theorem isortI_of {l m : List Int} (p : m.Perm l) (s : m.Pairwise (· ≤ ·)) : m = isortI l :=
  List.Perm.eq_of_pairwise (fun a b _ _ h1 h2 => Int.le_antisymm h1 h2) s (isortI_sorted l) (p.trans (isortI_perm l).symm)
/-- sorted of a list or tuple of ints -/
def vSorted (a : Va) : M Va := fun h => match seqV h a with
  | some xs => match intsOf xs with
    | some ns => if ns.length ≤ sLine then .ok (.ref h.n) (h.push (.lst ((isortI ns).map .int))) else .no
    | none => .no
  | none => .no
section
variable {X : Cx} {W : XW}
theorem RVs.intsM {K : FW} {ρ : List Addr} {H : Hp} : ∀ ns : List Int, RVs K ρ H (ns.map Va.int) (ns.map V.int)
  | [] => rfl
  | n :: r => ⟨_, _, rfl, rfl, RVs.intsM r⟩
theorem cr_sortedM : CallR X (.builtin "sorted") (rMC X.fw W (fn1 vSorted)) := by
  intro pins s σ H us vs Q I rel ⟨ρ, h, xs, q, rs, sa⟩
  match xs, rs with
  | [a], ⟨u, t, e1, ra, e2⟩ =>
    cases e2
    subst e1
    have sb : sat X.fw W ρ H (match seqV h a with
      | some xs => match intsOf xs with
        | some ns => if ns.length ≤ sLine then .ok (.ref h.n) (h.push (.lst ((isortI ns).map .int))) else .no
        | none => .no
      | none => .no) (rv X.fw Q) := sa
    cases e : seqV h a with
    | none => rw [e] at sb; exact False.elim sb
    | some zs =>
      rw [e] at sb
      simp only at sb
      cases e2 : intsOf zs with
      | none => rw [e2] at sb; exact False.elim sb
      | some ns =>
        rw [e2] at sb
        simp only at sb
        by_cases small : ns.length ≤ sLine
        · rw [if_pos small] at sb
          obtain ⟨p, ws, rfl, hl, hr⟩ := seqV_ok q ra e
          have ew := intsOf_ok e2 hr
          subst ew
          obtain ⟨v, rfl, rv⟩ := vals1 rel
          cases rv
          have fin : ∀ (its : List Value) (h1 : Heap), Vals (ns.map V.int) its → (∀ b o, s.heap.get? b = some o → h1.get? b = some o) → SortAsk X.prog X.w X.A.in1.in1 SrtO.ltIv (EP X pins σ Q) its { s with heap := h1 } := by
            intro its h1 rvs kp
            have len : its.length = ns.length := by rw [← rvs.length, List.length_map]
            refine ⟨by rw [len, ← sLine_eq]; exact small, fun two h2 b _ _ => SrtO.ints_sortable rvs.ints two, fun out h2 d n o1 o2 kp2 le at_ => ?_⟩
            obtain ⟨k1, k2, k3⟩ := SrtO.ints_out rvs.ints o1 o2
            have I1 : L2.Inv X pins σ H { s with heap := h1 } := I.kept (t' := s.toks) kp
            have eo := isortI_of k2 k3
            refine ⟨.ref d, upd H d (.lst ((out.map SrtO.iv).map V.int)), I1.laid (t' := s.toks) kp2 le ⟨?_, out, n, vals_of_ints k1, at_⟩, rfl, ?_⟩
            · rw [List.length_map, k2.length_eq, ← sLine_eq]; exact small
            · rw [eo]
              exact sb.newLst q (RVs.intsM _) d (I1.hok.fresh le)
          refine sorted_by SrtO.swo_int ?_
          rcases hl with hl | hl
          · obtain ⟨its, ri, pl, sm⟩ := I.list hl
            refine collect_list pl.isList (fin its _ ri fun b o e => ?_) (by rw [← ri.length]; exact sm)
            rw [Heap.get?_update_ne _ _ _ _ (Nat.ne_of_lt (Heap.lt_size e))]
            exact Heap.get?_push_of_some _ e
          · obtain ⟨its, ri, pt, sm⟩ := I.tuple hl
            exact collect_tup pt (by rw [← ri.length]; exact sm) fun h1 kp => fin its h1 ri kp
        · rw [if_neg small] at sb; exact False.elim sb
  | [], _ => exact False.elim sa
  | _ :: _ :: _, _ => exact False.elim sa
variable {e : Expr} {A : Ex} {p pos : Pos}
theorem ex_sorted (hg : Gl X "sorted") (hm : X.mg "sorted" = none) (ha : EX W X e A) (hs : starEach [e] X.env = (false, eval e X.env) :: starEach [] X.env := by rfl) : EX W X (.Call (.Name "sorted" p) [e] [] pos) (callE (fn1 vSorted) (aCons A aNil)) :=
  ex_callB (cr_sortedM (W := W)) s_rMC hg hm (by decide +kernel) (ax_cons ha ax_nil hs) (by decide) (by decide) hs
end
end Rf

/-! Rf: new dicts, ranges as lists and tuples. -/
namespace Rf
open PySem PySem.Spec PyProof.Rows L2

/-! ### new dicts -/
def dNewK : Ex := fun _ h => .ok (.ref h.n) (h.push (.dic []))
def dNewT : Ex := fun _ h => .ok (.ref h.n) (h.push (.dit []))
section
variable {X : Cx} {W : XW} {pos : Pos}
theorem ex_dnewK : EX W X (.Dict [] [] pos) dNewK :=
  ⟨PE.weak pe_dnewK fun σ H Q ⟨ρ, l, h, L, q, s⟩ p n => s (ρ ++ [p]) _ (Ext.newAt n) (q.push n ⟨[], upd_same, .nil⟩) _ ⟨p, rfl, q.atN⟩⟩
theorem ex_dnewT : EX W X (.Dict [] [] pos) dNewT :=
  ⟨⟨fun pins s σ H Q I ⟨ρ, l, h, L, q, sa⟩ => by
    have n := I.hok.fresh (Nat.le_refl s.heap.objs.size)
    have low : (s.heap.objs.size == sysModules) = false := beq_eq_false_iff_ne.mpr (Ne.symm (Nat.ne_of_lt I.big))
    refine wpAny_Dict_empty ⟨.ref s.heap.objs.size, upd H s.heap.objs.size (.ext (DN X.fw s.heap.objs.size [])), I.laid (t' := s.toks) (fun _ _ e => Heap.get?_push_of_some _ e) (Nat.le_refl _) (dn_new (Nat.zero_le _) low (Heap.DictOfH.new s.heap)), rfl, ?_⟩
    exact sa (ρ ++ [s.heap.objs.size]) _ (Ext.newAt n) (q.push n ⟨[], upd_same, .nil⟩) _ ⟨_, rfl, q.atN⟩⟩⟩
end

/-! ### {k: v, ..} -/
def evP : List (Ex × Ex) → Lo → M (List (Va × Va))
  | [], _, h => .ok [] h
  | (A, B) :: r, l, h => (A l h).bind fun a h1 => (B l h1).bind fun b h2 => (evP r l h2).bind fun ps h3 => .ok ((a, b) :: ps) h3
def keysK : List (Va × Va) → Option (List (Ke × Va))
  | [] => some []
  | p :: r => match keV p.1 with
    | some k => match keysK r with
      | some ks => some ((k, p.2) :: ks)
      | none => none
    | none => none
def mergeE : List (Ke × Va) → List (Ke × Va) → List (Ke × Va)
  | kvs, [] => kvs
  | kvs, p :: r => mergeE (ptK kvs p.1 p.2) r
def isE0 (h : Hea) (i : Nat) : Bool := match h.get i with
  | some (.dic kvs) => kvs.isEmpty
  | _ => false
def dispE (prs : List (Ex × Ex)) : Ex := fun l h => (evP prs l (h.push (.dic []))).bind fun ps h2 => match keysK ps with
  | some kvs => if (isE0 h2 h.n && decide (kvs.length ≤ 15)) = true then .ok (.ref h.n) (h2.set h.n (.dic (mergeE [] kvs))) else .no
  | none => .no
structure PPX (W : XW) (X : Cx) (pos : Pos) (keys : List (Option Expr)) (values : List Expr) (prs : List (Ex × Ex)) : Prop where
  ex : ∃ trs, PPs X pos keys values trs ∧ ∀ (σ : L2.St) (H : Hp) (ρ : List Addr) (l : Lo) (h : Hea) (Q : List (V × V) → Hp → Prop), LR X.fw ρ H l σ → HR X.fw ρ h H →
    sat X.fw W ρ H (evP prs l h) (fun ps h' ρ' H' => ∀ us, Paired (fun (p : Va × Va) (u : V × V) => RV X.fw ρ' H' p.1 u.1 ∧ RV X.fw ρ' H' p.2 u.2) ps us → Q us H') → tPairs trs σ H Q
section
variable {X : Cx} {W : XW} {pos : Pos}
theorem ppx_nil : PPX W X pos [] [] [] := ⟨[], pps_nil, fun σ H ρ l h Q L q s => s.ok q [] .nil⟩
theorem ppx_cons {k v : Expr} {ks : List (Option Expr)} {vs : List Expr} {A B : Ex} {prs : List (Ex × Ex)} (hk : EX W X k A) (hv : EX W X v B) (hr : PPX W X pos ks vs prs) : PPX W X pos (some k :: ks) (v :: vs) ((A, B) :: prs) := by
  obtain ⟨trs, h1, h2⟩ := hr.ex
  refine ⟨_, pps_cons hk.pe hv.pe h1, fun σ H ρ l h Q L q s => ?_⟩
  refine tE.go L q s fun a h1 ρ1 H1 x e1 L1 q1 rx s1 => tE.go L1 q1 s1 fun b h2' ρ2 H2 y e2 L2 q2 ry s2 => h2 σ H2 ρ2 l h2' _ L2 q2 (s2.bind.mono fun ps h3 ρ3 H3 e3 q3 s3 us rel => ?_)
  exact s3.ok q3 ((x, y) :: us) (.cons ⟨RV.ext (e2.trans e3) a rx, RV.ext e3 b ry⟩ rel)
theorem keysK_rel {K : FW} {ρ : List Addr} {H : Hp} : ∀ {ps : List (Va × Va)} {kvs : List (Ke × Va)} {us : List (V × V)}, keysK ps = some kvs → Paired (fun (p : Va × Va) (u : V × V) => RV K ρ H p.1 u.1 ∧ RV K ρ H p.2 u.2) ps us →
    ∃ ws : List (Key × V), us = ws.map (fun kv => (kV kv.1, kv.2)) ∧ RKV K ρ H kvs ws
  | _, _, _, e, .nil => by cases e; exact ⟨[], rfl, .nil⟩
  | p :: ps, _, u :: us, e, .cons r t => by
    unfold keysK at e
    cases e1 : keV p.1 with
    | none => rw [e1] at e; cases e
    | some k =>
      rw [e1] at e
      simp only at e
      cases e2 : keysK ps with
      | none => rw [e2] at e; cases e
      | some ks =>
        rw [e2] at e
        cases e
        obtain ⟨ws, ew, rel⟩ := keysK_rel e2 t
        refine ⟨(k.key, u.2) :: ws, ?_, .cons ⟨rfl, r.2⟩ rel⟩
        rw [List.map_cons, ← ew, ← keV_rel e1 r.1]
theorem mergeE_rel {K : FW} {ρ : List Addr} {H : Hp} : ∀ {more kvs : List (Ke × Va)} {ms ws : List (Key × V)}, RKV K ρ H more ms → RKV K ρ H kvs ws → RKV K ρ H (mergeE kvs more) (mergeK ws ms)
  | _, _, _, _, .nil, r => r
  | p :: more, kvs, m :: ms, ws, .cons r t, q => by
    have e : m.1 = p.1.key := r.1
    have := mergeE_rel t (ptK_rel (k := p.1) r.2 q)
    rw [← e] at this
    exact this
theorem ex_disp {keys : List (Option Expr)} {values : List Expr} {prs : List (Ex × Ex)} (h : PPX W X pos keys values prs) (hall : keys.all (·.isSome) = true := by rfl) (hl : keys.length = values.length := by rfl) (h0 : keys ≠ [] := by exact fun e => nomatch e) (h15 : keys.length ≤ 15 := by decide) :
    EX W X (.Dict keys values pos) (dispE prs) := by
  obtain ⟨trs, h1, h2⟩ := h.ex
  refine ⟨PE.weak (pe_disp h1 hall hl h0 h15) fun σ H Q ⟨ρ, l, h, L, q, s⟩ p n => ?_⟩
  have x0 : Ext X.fw ρ H (ρ ++ [p]) (upd H p (.dK [])) := Ext.newAt n
  have q0 : HR X.fw (ρ ++ [p]) (h.push (.dic [])) (upd H p (.dK [])) := q.push n ⟨[], upd_same, .nil⟩
  refine h2 σ _ (ρ ++ [p]) l (h.push (.dic [])) _ (L.ext x0) q0 ((s.shift x0).bind.mono fun ps h3 ρ3 H3 e3 q3 s3 us rel => ?_)
  cases ek : keysK ps with
  | none => simp only [ek] at s3; exact False.elim s3
  | some kvs =>
    simp only [ek] at s3
    by_cases c : (isE0 h3 h.n && decide (kvs.length ≤ 15)) = true
    · rw [if_pos c] at s3
      rw [Bool.and_eq_true, decide_eq_true_eq] at c
      obtain ⟨ws, ew, rk⟩ := keysK_rel ek rel
      have hp : ρ3[h.n]? = some p := e3.at q.atN
      obtain ⟨c1, c2⟩ := c
      unfold isE0 at c1
      cases g : h3.get h.n with
      | none => simp only [g] at c1; cases c1
      | some ob =>
        cases ob with
        | dic zs =>
          simp only [g] at c1
          obtain ⟨p', ep, hp', wz, hH, rz⟩ := q3.at_ref (x := .ref p) ⟨p, rfl, hp⟩ g
          cases ep
          cases zs with
          | cons _ _ => cases c1
          | nil =>
            cases rz
            have mu : Mut (H3 p) := by rw [hH]; trivial
            refine ⟨hH, ws, ew, by rw [← Paired.length rk]; exact c2, ?_⟩
            have rm := mergeE_rel (kvs := []) (ws := []) rk .nil
            exact s3 ρ3 _ (Ext.write hp mu) (q3.write hp g mu ⟨_, upd_same, Paired.mapQ rm fun _ _ t => ⟨t.1, RV.ext (Ext.write hp mu) _ t.2⟩⟩) _ ⟨p, rfl, hp⟩
        | _ => simp only [g] at c1; cases c1
    · rw [if_neg c] at s3; exact False.elim s3
end

/-! ### list(range(..)), tuple(range(..)) -/
def rgOf (i j : Int) : Option (List Va) := if (decide (-1000000 < i) && (decide (i < 1000000) && (decide (-1000000 < j) && decide (j < 1000000)))) = true then some (rangeV i (j - i).toNat) else none
def rg1 (A : Ex) : Lo → M (List Va) := fun l h => (A l h).bind fun a h1 => match a with
  | .int j => match rgOf 0 j with
    | some xs => .ok xs h1
    | none => .no
  | _ => .no
def rg2 (A B : Ex) : Lo → M (List Va) := fun l h => (A l h).bind fun a h1 => (B l h1).bind fun b h2 => match a with
  | .int i => match b with
    | .int j => match rgOf i j with
      | some xs => .ok xs h2
      | none => .no
    | _ => .no
  | _ => .no
def lstRg (A : Lo → M (List Va)) : Ex := fun l h => (A l h).bind fun xs h1 => .ok (.ref h1.n) (h1.push (.lst xs))
def tupRg (A : Lo → M (List Va)) : Ex := fun l h => (A l h).bind fun xs h1 => .ok (.tup xs) h1
theorem rgOf_ok {i j : Int} {xs : List Va} (e : rgOf i j = some xs) : RgOk i j ∧ ∀ (K : FW) (ρ : List Addr) (H : Hp), RVs K ρ H xs (rgV i j) := by
  unfold rgOf at e
  by_cases c : (decide (-1000000 < i) && (decide (i < 1000000) && (decide (-1000000 < j) && decide (j < 1000000)))) = true
  · rw [if_pos c] at e
    cases e
    simp only [Bool.and_eq_true, decide_eq_true_eq] at c
    refine ⟨⟨by omega, by omega, by omega, by omega, by omega⟩, fun K ρ H => ?_⟩
    unfold rgV rangeV
    generalize List.range (j - i).toNat = l
    induction l with
    | nil => rfl
    | cons k r ih => exact ⟨_, _, rfl, rfl, ih⟩
  · rw [if_neg c] at e; cases e
/-- a range, as it is made for list and tuple -/
structure RX (W : XW) (X : Cx) (e : Expr) (A : Lo → M (List Va)) : Prop where
  pr : ∃ te, PRg X e te ∧ ∀ (σ : L2.St) (H : Hp) (ρ : List Addr) (l : Lo) (h : Hea) (Q : Int → Int → Hp → Prop), LR X.fw ρ H l σ → HR X.fw ρ h H →
    sat X.fw W ρ H (A l h) (fun xs h' ρ' H' => ∀ i j, rgOf i j = some xs → Q i j H') → te σ H Q
section
variable {X : Cx} {W : XW} {pos : Pos} {e e2 : Expr} {A B : Ex} {p pos2 : Pos} {R : Lo → M (List Va)}
theorem rx_1 (hg : Gl X "range") (hm : X.mg "range" = none) (ha : EX W X e A) (na : starEach [e] X.env = (false, eval e X.env) :: starEach [] X.env := by rfl) : RX W X (.Call (.Name "range" p) [e] [] pos) (rg1 A) :=
  ⟨_, prg_1 hg hm ha.pe na, fun σ H ρ l h Q L q s => tE.go L q s fun a h1 ρ1 H1 x e1 L1 q1 rx s1 => by
    cases a with
    | int j =>
      cases rx
      cases e2 : rgOf 0 j with
      | none => simp only [e2] at s1; exact False.elim s1
      | some xs => simp only [e2] at s1; exact ⟨j, rfl, s1.ok q1 0 j e2⟩
    | _ => exact False.elim s1⟩
theorem rx_2 (hg : Gl X "range") (hm : X.mg "range" = none) (ha : EX W X e A) (hb : EX W X e2 B) (na : starEach [e, e2] X.env = (false, eval e X.env) :: starEach [e2] X.env := by rfl)
    (nb : starEach [e2] X.env = (false, eval e2 X.env) :: starEach [] X.env := by rfl) (hp : (backTo pos (starEach [e2] X.env)).any (·.1) = false := by rfl) : RX W X (.Call (.Name "range" p) [e, e2] [] pos) (rg2 A B) :=
  ⟨_, prg_2 hg hm ha.pe hb.pe na nb hp, fun σ H ρ l h Q L q s => tE.go L q s fun a h1 ρ1 H1 x e1 L1 q1 rx s1 => tE.go L1 q1 s1 fun b h2 ρ2 H2 y e2 L2 q2 ry s2 => by
    cases a with
    | int i =>
      cases rx
      cases b with
      | int j =>
        cases ry
        cases e3 : rgOf i j with
        | none => simp only [e3] at s2; exact False.elim s2
        | some xs => simp only [e3] at s2; exact ⟨i, j, rfl, rfl, s2.ok q2 i j e3⟩
      | _ => exact False.elim s2
    | _ => exact False.elim s2⟩
end
section
variable {X : Cx} {W : XW} {e : Expr} {p pos : Pos} {R : Lo → M (List Va)}
theorem ex_lstRg (hc : X.calm = true) (hg : Gl X "list") (hm : X.mg "list" = none) (h : RX W X e R) (na : starEach [e] X.env = (false, eval e X.env) :: starEach [] X.env := by rfl) : EX W X (.Call (.Name "list" p) [e] [] pos) (lstRg R) := by
  obtain ⟨te, h1, h2⟩ := h.pr
  refine ⟨PE.weak (pe_listRg hc hg hm h1 na) fun σ H Q ⟨ρ, l, h, L, q, s⟩ => h2 σ H ρ l h _ L q (s.bind.mono fun xs h3 ρ3 H3 e3 q3 s3 i j e => ?_)⟩
  obtain ⟨ok, rel⟩ := rgOf_ok e
  exact ⟨ok, s3.newLst q3 (rel _ _ _)⟩
def tTupRgN (te : L2.St → Hp → (Int → Int → Hp → Prop) → Prop) : TE := fun σ H Q => te σ H fun a b H1 => RgOk a b ∧ NewT (rgV a b) H1 Q
theorem pe_tupRgN {te : L2.St → Hp → (Int → Int → Hp → Prop) → Prop} (hc : X.calm = true) (hg : Gl X "tuple") (hm : X.mg "tuple" = none) (he : PRg X e te) (na : starEach [e] X.env = (false, eval e X.env) :: starEach [] X.env) : PE X (.Call (.Name "tuple" p) [e] [] pos) (tTupRgN te) := by
  refine ⟨fun pins s σ H Q I w => Call_ (ld_blt I hg hm boot_tuple (PyProof.Rows.callWith_type1 (args_cons (thn (he pins s σ H _ I w) fun x s1 ⟨r, a, b, t, u, v, H1, ex, hr, I1, ⟨b1, b2, b3, b4, b5⟩, q⟩ => args_nil ?_) na) na))⟩
  subst ex
  refine call_tuple_range (n := (b - a).toNat) (I1.ok.hd hc) hr (small_one b1 b2 b3 b4) (rangeSize_nat a b) b5 fun h1 tk acc kp got => ?_
  have I2 : L2.Inv X pins σ H1 { s1 with heap := h1, toks := tk } := I1.kept kp
  have small : (rgV a b).length ≤ sizeLine := by rw [rgV_length, sizeLine_eq]; omega
  have := pushTup (s := { s1 with heap := h1, toks := tk }) I2 q (vals_rg got) small
  rw [Array.toArray_toList] at this
  exact this
theorem ex_tupRg (hc : X.calm = true) (hg : Gl X "tuple") (hm : X.mg "tuple" = none) (h : RX W X e R) (na : starEach [e] X.env = (false, eval e X.env) :: starEach [] X.env := by rfl) : EX W X (.Call (.Name "tuple" p) [e] [] pos) (tupRg R) := by
  obtain ⟨te, h1, h2⟩ := h.pr
  refine ⟨PE.weak (pe_tupRgN hc hg hm h1 na) fun σ H Q ⟨ρ, l, h, L, q, s⟩ => h2 σ H ρ l h _ L q (s.bind.mono fun xs h3 ρ3 H3 e3 q3 s3 i j e => ?_)⟩
  obtain ⟨ok, rel⟩ := rgOf_ok e
  exact ⟨ok, s3.newTup q3 (rel _ _ _)⟩
end
end Rf

/-! Rf: sets of ints, asked at once. -/
namespace Rf
open PySem PySem.Spec PyProof.Rows L2

/-- a new set -/
abbrev set0 (w : World) : Obj := { cls := .type "set", dict := none, data := .set #[] 0 (.fresh 0 0 (!w.params.followText "set-order")) }
section
variable {P : Program} {w : World} {A : Around} {E : Value → Shared → Prop} {s : Shared}
set_option maxHeartbeats 3200000 in
theorem call_setI {l : Addr} {items : Array Value} (ns : List Int) {Q : Value → Shared → Prop} (calm : A.handled = none) (isl : s.heap.IsList l items) (its : IntsAre items.toList ns) (small : ns.length + 1 < scanBound)
    (done : ∀ (g : Heap) (tk c : Nat), SetR w g s.heap.objs.size (fun j => decide (j ∈ ns)) c → c ≤ ns.length → (∀ b o, s.heap.get? b = some o → g.get? b = some o) → Q (.ref s.heap.objs.size) { s with heap := g, toks := tk }) :
    wpAny (model P w) A (call (.type "set") [.ref l]) Q E s := by
  have len : items.size = ns.length := by have q := IntsAre.length its; rwa [Array.length_toList] at q
  obtain ⟨c0, tl, hmro⟩ := F.called_set.mro
  have k1 := F.called_set.made
  have k2 := F.called_set.sub
  have k3 := F.called_set.notType
  have k4 := F.called_set.canCreate
  have k5 := F.typeCall_set_1 (.ref l)
  refine wpAny_call (codeAny_of_tree ?_)
  show wpAny _ _ (callAny (.type "set") _) _ _ _
  refine wpAny_pure ⟨Code.quiet_builtin _ (by decide +kernel), codeAny_builtin F.entry_type_call ?_⟩
  rw [Around.under_plain (weight_type_call_type "set" [.ref l] []) rfl]
  repeat (any_goals (first | assumption | wp_step))
  refine codeAny_mono (code_set_led1 (.ref l) (E := E) (Q₁ := fun v t => v = .ref s.heap.objs.size ∧ t = { s with heap := s.heap.push (set0 w) }) ⟨rfl, rfl⟩) fun r t hr => ?_
  cases r with
  | error e => exact hr
  | ok fl =>
    cases fl with
    | ret v =>
      obtain ⟨rfl, rfl⟩ := hr
      have at0 : (s.heap.push (set0 w)).get? s.heap.objs.size = some (set0 w) := Heap.get?_push_size _ rfl
      have ty0 : Shared.TypeIs { s with heap := s.heap.push (set0 w) } (.ref s.heap.objs.size) "set" := ⟨_, at0, rfl⟩
      have k6 := F.called_set.init.lookup
      have k7 := F.called_set.init.bind (.ref s.heap.objs.size)
      repeat (any_goals (first | assumption | wp_step))
      refine codeAny_mono (codeAny_call_builtin (R := wants (fun r t => r = .none ∧ ∃ g tk c, t = { s with heap := g, toks := tk } ∧ SetR w g s.heap.objs.size (fun j => decide (j ∈ ns)) c ∧ c ≤ ns.length ∧ (∀ b o, s.heap.get? b = some o → g.get? b = some o)) E) F.called_set.init.plain F.entry_set_init (check_set_init_1 ty0 ?_)) fun r2 t2 hr2 => ?_
      · obtain ⟨⟨ocls, odict, odata, oslots⟩, atl, hcl, nl, hdl⟩ := isl
        simp only at hcl hdl
        subst hcl hdl
        have atl' : (s.heap.push (set0 w)).get? l = some { cls := .type "list", dict := odict, data := .seq items nl, slots := oslots } := Heap.get?_push_of_some _ atl
        have isl' : (s.heap.push (set0 w)).IsList l items := ⟨_, atl', rfl, nl, rfl⟩
        have j1 := F.sub_list_set
        have j2 := F.sub_list_frozenset
        have j3 : (Value.type "list" == Value.type "dict") = false := by decide
        unfold Builtin.«set.__init__» noKeywords Builtin.Frozenset.updateFrom
        generalize hPI : pyIter = PI
        wp_walk
        subst hPI
        refine wpAny_pyIter_list isl' (wpAny_bind (wpAny_runValue ?_))
        have lt : l < s.heap.objs.size := Heap.lt_size atl
        have sz : (s.heap.push (set0 w)).objs.size = s.heap.objs.size + 1 := Heap.size_push ..
        have calm3 : A.in1.in1.in1.handled = none := by simp [calm]
        refine set_update_ints ((Walks.list calm3 (s.heap.push (set0 w)).objs.size l (by rw [sz]; exact Nat.ne_of_lt (Nat.lt_succ_of_lt lt)) items).toS) s.heap.objs.size
          (by rw [sz]; simp only [List.mem_cons, List.mem_singleton, List.not_mem_nil, or_false, not_or]; exact ⟨Nat.ne_of_lt (Nat.lt_succ_self _), Nat.ne_of_gt lt⟩)
          ns len small (fun i v hv => ?_) (items.size - 0) 0 _ (by omega) (Nat.zero_le _) ⟨⟨_, Heap.get?_push_size _ rfl, rfl, rfl⟩, (isl'.push _)⟩ ⟨0, Nat.le_refl 0, setR_new_at (Heap.get?_push_of_some _ at0)⟩ fun t3 c3 mv le3 set3 => ?_
        · have hi : i < ns.length := by rw [← len]; exact (Array.getElem?_eq_some_iff.mp hv).1
          obtain ⟨tk, e⟩ := IntsAre.int_at its i v (by rw [Array.getElem?_toList]; exact hv)
          refine ⟨ns[i], tk, List.getElem?_eq_getElem hi, ?_⟩
          rw [e, List.getD_eq_getElem?_getD, List.getElem?_eq_getElem hi]; rfl
        · obtain ⟨g, gens3, d3, tk3, os3⟩ := t3
          have e1 : gens3 = s.gens := mv.gens
          have e2 : d3 = s.drawn := mv.drawn
          have e3 : os3 = s.os := mv.os
          subst e1 e2 e3
          show wpAny _ _ _ _ _ _
          refine wpAny_pure ?_
          show wpAny _ _ (ret Value.none) _ _ _
          rw [len] at le3
          refine wpAny_pure ⟨rfl, g, tk3, c3, rfl, set3, le3, fun b o e => ?_⟩
          have hb : b < s.heap.objs.size := Heap.lt_size e
          refine mv.heap b o ?_ (Heap.get?_push_of_some _ (Heap.get?_push_of_some _ e))
          simp only [List.mem_cons, List.mem_singleton, List.not_mem_nil, or_false, not_or]
          exact ⟨Nat.ne_of_lt hb, by rw [sz]; exact Nat.ne_of_lt (Nat.lt_succ_of_lt hb)⟩
      · cases r2 with
        | error e => exact hr2
        | ok f2 =>
          cases f2 with
          | ret v2 =>
            obtain ⟨rfl, g, tk, c, rfl, s1, s2, s3⟩ := hr2
            repeat (any_goals (first | assumption | wp_step))
            exact done g tk c s1 s2 s3
          | next => exact hr2.elim
          | brk => exact hr2.elim
          | cont => exact hr2.elim
    | next => exact hr.elim
    | brk => exact hr.elim
    | cont => exact hr.elim
end
/-! ### ints without repeats -/
def delI (a : Int) : List Int → List Int
  | [] => []
  | b :: r => match decide (b = a) with
    | true => delI a r
    | false => b :: delI a r
def ddI : List Int → List Int
  | [] => []
  | a :: r => a :: delI a (ddI r)
theorem mem_delI {a k : Int} : ∀ {l : List Int}, k ∈ delI a l ↔ k ∈ l ∧ k ≠ a
  | [] => by simp [delI]
  | b :: r => by
    unfold delI
    by_cases q : b = a
    · rw [decide_eq_true q]
      show k ∈ delI a r ↔ _
      rw [mem_delI (l := r)]
      constructor
      · exact fun h => ⟨List.mem_cons_of_mem _ h.1, h.2⟩
      · intro h
        rcases List.mem_cons.mp h.1 with e | e
        · exact absurd (e.trans q) h.2
        · exact ⟨e, h.2⟩
    · rw [decide_eq_false q]
      show k ∈ b :: delI a r ↔ _
      rw [List.mem_cons, mem_delI (l := r), List.mem_cons]
      constructor
      · rintro (e | h)
        · exact ⟨.inl e, fun z => q (e.symm.trans z)⟩
        · exact ⟨.inr h.1, h.2⟩
      · rintro ⟨e | e, h⟩
        · exact .inl e
        · exact .inr ⟨e, h⟩
theorem nodup_delI {a : Int} : ∀ {l : List Int}, l.Nodup → (delI a l).Nodup
  | [], _ => List.nodup_nil
  | b :: r, h => by
    obtain ⟨h1, h2⟩ := List.nodup_cons.mp h
    unfold delI
    cases decide (b = a) with
    | true => exact nodup_delI h2
    | false => exact List.nodup_cons.mpr ⟨fun z => h1 (mem_delI.mp z).1, nodup_delI h2⟩
theorem mem_ddI {k : Int} : ∀ {l : List Int}, k ∈ ddI l ↔ k ∈ l
  | [] => Iff.rfl
  | a :: r => by
    unfold ddI
    rw [List.mem_cons, mem_delI, mem_ddI (l := r), List.mem_cons]
    constructor
    · rintro (e | h)
      · exact .inl e
      · exact .inr h.1
    · rintro (e | h)
      · exact .inl e
      · by_cases q : k = a
        · exact .inl q
        · exact .inr ⟨h, q⟩
theorem nodup_ddI : ∀ l : List Int, (ddI l).Nodup
  | [] => List.nodup_nil
  | a :: r => List.nodup_cons.mpr ⟨fun z => (mem_delI.mp z).2 rfl, nodup_delI (nodup_ddI r)⟩
theorem perm_of_mem {l m : List Int} (hl : l.Nodup) (hm : m.Nodup) (h : ∀ k, k ∈ l ↔ k ∈ m) : l.Perm m := (List.perm_ext_iff_of_nodup hl hm).mpr h
/-- set(xs), xs ints -/
def vSet (a : Va) : M Va := fun h => match lstV h a with
  | some xs => match intsOf xs with
    | some ns => if ns.length < 4000 then .ok (.ref h.n) (h.push (.st (ddI ns))) else .no
    | none => .no
  | none => .no
def setV (h : Hea) : Va → Option (List Int)
  | .ref i => match h.get i with
    | some (.st ns) => some (ddI ns)
    | _ => none
  | _ => none
def vLenS (a : Va) : M Va := fun h => match setV h a with
  | some ns => .ok (.int ns.length) h
  | none => .no
def vSortedS (a : Va) : M Va := fun h => match setV h a with
  | some ns => if ns.length < 64 then .ok (.ref h.n) (h.push (.lst ((isortI ns).map .int))) else .no
  | none => .no
section
variable {X : Cx} {W : XW}
theorem setV_ok {pins : List (Addr × Obj)} {σ : L2.St} {H : Hp} {s : Shared} {ρ : List Addr} {h : Hea} {a : Va} {x : V} {ns : List Int} (I : L2.Inv X pins σ H s) (q : HR X.fw ρ h H) (rx : RV X.fw ρ H a x) (e : setV h a = some ns) :
    ∃ p S, x = .ref p ∧ H p = some (SetO X.w p S ns.length) ∧ SetR X.w s.heap p S ns.length ∧ ns.Nodup ∧ ∀ k, S k = true ↔ k ∈ ns := by
  cases a with
  | ref i =>
    unfold setV at e
    cases g : h.get i with
    | none => simp only [g] at e; cases e
    | some o =>
      cases o with
      | st ms =>
        simp only [g] at e
        cases e
        obtain ⟨p, rfl, hp, n, h1⟩ := q.at_ref rx g
        have R := setO_get I h1
        obtain ⟨o, es, ep, t, ho, hex, hd, ge, nd, hm, hb, hf, hn, rest⟩ := id R
        have mem : ∀ k, (decide (k ∈ ms) = true) ↔ k ∈ ddI ms := fun k => by rw [decide_eq_true_eq, mem_ddI]
        have eq : n = (ddI ms).length := by
          have := (perm_of_mem nd (nodup_ddI ms) fun k => (hm k).symm.trans (mem k)).length_eq
          rw [List.length_map, Array.length_toList] at this
          omega
        subst eq
        exact ⟨p, _, rfl, h1, R, nodup_ddI ms, mem⟩
      | _ => simp only [g] at e; cases e
  | _ => cases e
theorem cr_setM (calm : X.calm = true) : CallR X (.type "set") (rMC X.fw W (fn1 vSet)) := by
  intro pins s σ H us vs Q I rel ⟨ρ, h, xs, q, rs, sa⟩
  match xs, rs with
  | [a], ⟨u, t, e1, ra, e2⟩ =>
    cases e2
    subst e1
    have sb : sat X.fw W ρ H (match lstV h a with
      | some xs => match intsOf xs with
        | some ns => if ns.length < 4000 then .ok (.ref h.n) (h.push (.st (ddI ns))) else .no
        | none => .no
      | none => .no) (rv X.fw Q) := sa
    cases e : lstV h a with
    | none => rw [e] at sb; exact False.elim sb
    | some zs =>
      rw [e] at sb
      simp only at sb
      cases e2 : intsOf zs with
      | none => rw [e2] at sb; exact False.elim sb
      | some ns =>
        rw [e2] at sb
        simp only at sb
        by_cases small : ns.length < 4000
        · rw [if_pos small] at sb
          obtain ⟨p, ws, rfl, hl, hr⟩ := lstV_ok q ra e
          have ew := intsOf_ok e2 hr
          subst ew
          obtain ⟨v, rfl, rv⟩ := vals1 rel
          cases rv
          obtain ⟨its, ri, pl, sm⟩ := I.list hl
          refine call_setI ns (I.ok.hd calm) pl.isList (by simpa using ri.ints) (by unfold scanBound; omega) fun g tk c R _ kp => ?_
          have n := I.hok.fresh (Nat.le_refl s.heap.objs.size)
          have R2 : SetR X.w g s.heap.objs.size (fun j => decide (j ∈ ddI ns)) c := R.congr fun j => by
            by_cases m : j ∈ ns
            · rw [decide_eq_true m, decide_eq_true (mem_ddI.mpr m)]
            · rw [decide_eq_false m, decide_eq_false (fun z => m (mem_ddI.mp z))]
          exact ⟨.ref s.heap.objs.size, upd H s.heap.objs.size (SetO X.w s.heap.objs.size (fun j => decide (j ∈ ddI ns)) c), I.laid (t' := tk) kp (Nat.le_refl _) (setO_new R2), rfl, sb (ρ ++ [s.heap.objs.size]) _ (Ext.newAt n) (q.push n ⟨c, upd_same⟩) _ ⟨_, rfl, q.atN⟩⟩
        · rw [if_neg small] at sb; exact False.elim sb
  | [], _ => exact False.elim sa
  | _ :: _ :: _, _ => exact False.elim sa
theorem cr_lenS : CallR X (.builtin "len") (rMC X.fw W (fn1 vLenS)) := by
  intro pins s σ H us vs Q I rel ⟨ρ, h, xs, q, rs, sa⟩
  match xs, rs with
  | [a], ⟨u, t, e1, ra, e2⟩ =>
    cases e2
    subst e1
    have sb : sat X.fw W ρ H (match setV h a with
      | some ns => .ok (.int ns.length) h
      | none => .no) (rv X.fw Q) := sa
    cases e : setV h a with
    | none => rw [e] at sb; exact False.elim sb
    | some ns =>
      rw [e] at sb
      obtain ⟨p, S, rfl, hH, R, nd, hS⟩ := setV_ok I q ra e
      obtain ⟨v, rfl, rv⟩ := vals1 rel
      cases rv
      obtain ⟨o, es, ep, t, ho, hex, hd, ge, nd2, hm, hb, hf, hn, rest⟩ := R
      refine call_len_set ho hex hd hf (by unfold scanBound at hb; omega) ⟨.int ns.length, H, I.tok _, ⟨_, by rw [hn]⟩, sb.val q rfl⟩
  | [], _ => exact False.elim sa
  | _ :: _ :: _, _ => exact False.elim sa
theorem cr_sortedS2 (calm : X.calm = true) : CallR X (.builtin "sorted") (rMC X.fw W (fn1 vSortedS)) := by
  intro pins s σ H us vs Q I rel ⟨ρ, h, xs, q, rs, sa⟩
  match xs, rs with
  | [a], ⟨u, t, e1, ra, e2⟩ =>
    cases e2
    subst e1
    have sb : sat X.fw W ρ H (match setV h a with
      | some ns => if ns.length < 64 then .ok (.ref h.n) (h.push (.lst ((isortI ns).map .int))) else .no
      | none => .no) (rv X.fw Q) := sa
    cases e : setV h a with
    | none => rw [e] at sb; exact False.elim sb
    | some ns =>
      rw [e] at sb
      simp only at sb
      by_cases small : ns.length < 64
      · rw [if_pos small] at sb
        obtain ⟨p, S, rfl, hH, R, nd, hS⟩ := setV_ok I q ra e
        refine cr_sortedSet calm pins s σ H _ vs Q I rel ⟨p, S, _, rfl, hH, small, fun ms d up mem len n => ?_⟩
        have nd2 : ms.Nodup := up.imp fun {a b} z => Int.ne_of_lt z
        have eq : ms = isortI ns := isortI_of (perm_of_mem nd2 nd fun k => (mem k).trans (hS k)) (up.imp fun {a b} z => Int.le_of_lt z)
        rw [eq]
        exact sb.newLst q (RVs.intsM _) d n
      · rw [if_neg small] at sb; exact False.elim sb
  | [], _ => exact False.elim sa
  | _ :: _ :: _, _ => exact False.elim sa
variable {e : Expr} {A : Ex} {p pos : Pos}
theorem ex_set1 (calm : X.calm = true) (hg : Gl X "set") (hm : X.mg "set" = none) (ha : EX W X e A) (hs : starEach [e] X.env = (false, eval e X.env) :: starEach [] X.env := by rfl) : EX W X (.Call (.Name "set" p) [e] [] pos) (callE (fn1 vSet) (aCons A aNil)) :=
  ex_callTy (cr_setM (W := W) calm) s_rMC hg hm (by decide +kernel) (ax_cons ha ax_nil hs) (by decide) (by decide) hs
theorem ex_lenS (hg : Gl X "len") (hm : X.mg "len" = none) (ha : EX W X e A) (hs : starEach [e] X.env = (false, eval e X.env) :: starEach [] X.env := by rfl) : EX W X (.Call (.Name "len" p) [e] [] pos) (callE (fn1 vLenS) (aCons A aNil)) :=
  ex_callB (cr_lenS (W := W)) s_rMC hg hm (by decide +kernel) (ax_cons ha ax_nil hs) (by decide) (by decide) hs
theorem ex_sortedS (calm : X.calm = true) (hg : Gl X "sorted") (hm : X.mg "sorted" = none) (ha : EX W X e A) (hs : starEach [e] X.env = (false, eval e X.env) :: starEach [] X.env := by rfl) : EX W X (.Call (.Name "sorted" p) [e] [] pos) (callE (fn1 vSortedS) (aCons A aNil)) :=
  ex_callB (cr_sortedS2 (W := W) calm) s_rMC hg hm (by decide +kernel) (ax_cons ha ax_nil hs) (by decide) (by decide) hs
end
end Rf

/-! Rf: the order of trees: <, sorted, min, max. -/
namespace Rf
open PySem PySem.Spec PyProof.Rows L2

/-- texts by their signs -/
def strL : List Nat → List Nat → Bool
  | [], [] => false
  | [], _ :: _ => true
  | _ :: _, [] => false
  | a :: r, b :: t => match Nat.beq a b with
    | true => strL r t
    | false => Nat.blt a b
theorem strL_eq : ∀ s t : List Nat, strL s t = decide (s < t)
  | [], [] => by simp [strL]
  | [], _ :: _ => by simp [strL]
  | _ :: _, [] => by simp [strL]
  | a :: r, b :: t => by
    unfold strL
    cases q : Nat.beq a b with
    | true =>
      have e := Nat.eq_of_beq_eq_true q
      subst e
      simp only [strL_eq r t]
      by_cases h : r < t
      · rw [decide_eq_true h, decide_eq_true (List.cons_lt_cons_iff.mpr (.inr ⟨rfl, h⟩))]
      · rw [decide_eq_false h, decide_eq_false fun z => h ?_]
        rcases List.cons_lt_cons_iff.mp z with z | z
        · exact absurd z (Nat.lt_irrefl _)
        · exact z.2
    | false =>
      have e := Nat.ne_of_beq_eq_false q
      by_cases h : a < b
      · rw [decide_eq_true (List.cons_lt_cons_iff.mpr (.inl h))]
        show Nat.blt a b = true
        rw [Nat.blt_eq]; exact h
      · rw [decide_eq_false fun z => ?_]
        · show Nat.blt a b = false
          cases z : Nat.blt a b with
          | false => rfl
          | true => rw [Nat.blt_eq] at z; exact absurd z h
        · rcases List.cons_lt_cons_iff.mp z with z | z
          · exact h z
          · exact e z.1
def seqL (q l : Va → Va → Bool) : List Va → List Va → Bool
  | [], [] => false
  | [], _ :: _ => true
  | _ :: _, [] => false
  | x :: xs, y :: ys => match q x y with
    | true => seqL q l xs ys
    | false => l x y
def scL : PyData → PyData → Bool
  | .int i, .int j => decide (i < j)
  | .bool x, .bool y => !x && y
  | _, _ => false
def vl (h : Hea) : Nat → Va → Va → Bool
  | 0, _, _ => false
  | n + 1, a, b => match view h a, view h b with
    | .sc d, .sc e => scL d e
    | .st s, .st t => strL s t
    | .tu xs, .tu ys => seqL (vq h n) (vl h n) xs ys
    | .li xs, .li ys => seqL (vq h n) (vl h n) xs ys
    | _, _ => false
def seqK (k : Va → Va → Bool) : List Va → List Va → Bool
  | x :: xs, y :: ys => match k x y with
    | true => seqK k xs ys
    | false => false
  | [], _ => true
  | _ :: _, [] => true
def scK : PyData → PyData → Bool
  | .int _, .int _ => true
  | .bool _, .bool _ => true
  | .none, .none => true
  | _, _ => false
/-- the two can be compared -/
def vk (h : Hea) : Nat → Va → Va → Bool
  | 0, _, _ => false
  | n + 1, a, b => match view h a, view h b with
    | .sc d, .sc e => scK d e
    | .st _, .st _ => true
    | .tu xs, .tu ys => seqK (vk h n) xs ys
    | .li xs, .li ys => seqK (vk h n) xs ys
    | _, _ => false
open PySem.W (alike alikeAll dataLt keyToks keyToksAll rowLt)
theorem seq_lk {f : Va → PyData} {k q l : Va → Va → Bool} {p : Va → Bool} (hf : ∀ a b, p a = true → p b = true → k a b = true → alike (f a) (f b) = true ∧ q a b = PyData.eqv (f a) (f b) ∧ l a b = dataLt (f a) (f b)) :
    ∀ xs ys : List Va, xs.all p = true → ys.all p = true → seqK k xs ys = true → alikeAll (xs.map f) (ys.map f) = true ∧ seqL q l xs ys = rowLt (xs.map f) (ys.map f)
  | [], [], _, _, _ => ⟨by simp [alikeAll], by simp [seqL, rowLt, keyToksAll, lex_irrefl]⟩
  | [], y :: ys, _, _, _ => ⟨by simp [alikeAll], by
    show true = PyProof.Rows.lexLt itemOrd (Sum.inl 0 :: []) (Sum.inl 1 :: _)
    rw [lex_cons (O := itemOrd)]; rfl⟩
  | x :: xs, [], _, _, _ => ⟨by simp [alikeAll], by
    show false = PyProof.Rows.lexLt itemOrd (Sum.inl 1 :: _) (Sum.inl 0 :: [])
    rw [lex_cons (O := itemOrd)]; rfl⟩
  | x :: xs, y :: ys, h1, h2, h3 => by
    rw [List.all_cons, Bool.and_eq_true] at h1 h2
    unfold seqK at h3
    cases e : k x y with
    | false => rw [e] at h3; cases h3
    | true =>
      rw [e] at h3
      obtain ⟨a1, a2, a3⟩ := hf x y h1.1 h2.1 e
      obtain ⟨i1, i2⟩ := seq_lk hf xs ys h1.2 h2.2 h3
      refine ⟨by simp only [List.map_cons, alikeAll, a1, i1, Bool.and_self], ?_⟩
      unfold seqL
      rw [a2, i2, a3]
      show _ = PyProof.Rows.lexLt itemOrd (keyToksAll (f x :: xs.map f)) (keyToksAll (f y :: ys.map f))
      rw [PySem.W.dataLt_cons a1]
      cases PyData.eqv (f x) (f y) <;> rfl
theorem vk_ok (h : Hea) : ∀ (n : Nat) (a b : Va), dOk h n a = true → dOk h n b = true → vk h n a b = true → alike (toD h n a) (toD h n b) = true ∧ vl h n a b = dataLt (toD h n a) (toD h n b)
  | 0, _, _, e, _, _ => by cases e
  | n + 1, a, b, e1, e2, e3 => by
    unfold dOk at e1 e2
    unfold vk at e3
    unfold vl toD
    have ih : ∀ a b, dOk h n a = true → dOk h n b = true → vk h n a b = true → alike (toD h n a) (toD h n b) = true ∧ vq h n a b = PyData.eqv (toD h n a) (toD h n b) ∧ vl h n a b = dataLt (toD h n a) (toD h n b) := fun a b h1 h2 h3 =>
      ⟨(vk_ok h n a b h1 h2 h3).1, vq_eqv h n a b h1 h2, (vk_ok h n a b h1 h2 h3).2⟩
    cases ea : view h a with
    | bad => simp [ea] at e1
    | sc d =>
      cases eb : view h b with
      | sc e =>
        simp only [ea, eb] at e3
        cases d with
        | int i =>
          cases e with
          | int j => exact ⟨by simp [alike], (PySem.W.dataLt_int i j).symm⟩
          | _ => cases e3
        | bool i =>
          cases e with
          | bool j =>
            refine ⟨by simp [alike], ?_⟩
            show (!i && j) = dataLt (.bool i) (.bool j)
            rw [PySem.W.dataLt_bool]
            cases i <;> cases j <;> rfl
          | _ => cases e3
        | none =>
          cases e with
          | none => exact ⟨by simp [alike], by simp [scL, dataLt, lex_irrefl]⟩
          | _ => cases e3
        | _ => cases e3
      | _ => simp only [ea, eb] at e3; cases e3
    | st s =>
      cases eb : view h b with
      | st t =>
        refine ⟨by simp [alike], ?_⟩
        show strL s t = dataLt (.str _) (.str _)
        rw [PySem.W.dataLt_str, strL_eq]
      | _ => simp only [ea, eb] at e3; cases e3
    | tu xs =>
      cases eb : view h b with
      | tu ys =>
        simp only [ea, eb] at e1 e2 e3
        obtain ⟨i1, i2⟩ := seq_lk ih xs ys e1 e2 e3
        refine ⟨by simp only [alike]; exact i1, ?_⟩
        simp only
        rw [PySem.W.dataLt_tuple]
        exact i2
      | _ => simp only [ea, eb] at e3; cases e3
    | li xs =>
      cases eb : view h b with
      | li ys =>
        simp only [ea, eb] at e1 e2 e3
        obtain ⟨i1, i2⟩ := seq_lk ih xs ys e1 e2 e3
        refine ⟨by simp only [alike]; exact i1, ?_⟩
        simp only
        rw [PySem.W.dataLt_list]
        exact i2
      | _ => simp only [ea, eb] at e3; cases e3
/-- not None -/
def nn : Va → Bool
  | .non => false
  | _ => true
theorem nn_toD {h : Hea} {n : Nat} {a : Va} (e : nn a = true) (d : dOk h (n + 1) a = true) : toD h (n + 1) a ≠ .none := by
  unfold dOk at d
  unfold toD
  cases a with
  | non => cases e
  | pr xs => exact absurd d (by simp [view])
  | fd ks vs => exact absurd d (by simp [view])
  | sl xs => exact absurd d (by simp [view])
  | ref i =>
    unfold view at d ⊢
    cases g : h.get i with
    | none => simp [g] at d
    | some o => cases o <;> simp [g] at d ⊢
  | _ => simp [view]

/-! ### < -/
/-- < of ints; of trees of one kind -/
def vLtA (a b : Va) : M Va := fun h => match a with
  | .int i => match b with
    | .int j => .ok (.bl (decide (i < j))) h
    | _ => .no
  | a => match dOk h 20 a && dOk h 20 b && nn a && vk h 20 a b with
    | true => .ok (.bl (vl h 20 a b)) h
    | false => .no
section
variable {X : Cx} {W : XW}
theorem op_ltA (hu : X.A.units + 65 < cLine) : OpR X (compareOp .Lt) (rM2 X.fw W vLtA) := by
  intro pins s σ H x y v u Q I rx ry ⟨ρ, h, a, b, q, ra, rb, sa⟩
  have gen : ∀ a b, RV X.fw ρ H a x → RV X.fw ρ H b y → dOk h 20 a = true → dOk h 20 b = true → nn a = true → vk h 20 a b = true → Q (.bl (vl h 20 a b)) H → wpAny (model X.prog X.w) X.A (compareOp .Lt v u) (EP X pins σ Q) X.xe s := by
    intro a b ra rb h1 h2 h3 h4 hq
    obtain ⟨i1, i2, i3⟩ := dp_of q 20 a x h1 ra
    obtain ⟨j1, j2, j3⟩ := dp_of q 20 b y h2 rb
    obtain ⟨as, r1⟩ := Dp.reads I _ x v i1 rx
    obtain ⟨bs, r2⟩ := Dp.reads I _ y u j1 ry
    obtain ⟨k1, k2⟩ := vk_ok h 20 a b h1 h2 h4
    refine PySem.W.lt_data r1 r2 k1 (nn_toD h3 h1) ?_ ⟨.bl _, H, I, rfl, ?_⟩
    · have : min (toD h 20 a).depth (toD h 20 b).depth ≤ 20 := Nat.le_trans (Nat.min_le_left _ _) i3
      omega
    · rw [← k2]; exact hq
  have fromB : ∀ a, RV X.fw ρ H a x → sat X.fw W ρ H (match dOk h 20 a && dOk h 20 b && nn a && vk h 20 a b with
    | true => .ok (.bl (vl h 20 a b)) h
    | false => .no) (rv X.fw Q) → wpAny (model X.prog X.w) X.A (compareOp .Lt v u) (EP X pins σ Q) X.xe s := by
    intro a ra sa
    cases e : (dOk h 20 a && dOk h 20 b && nn a && vk h 20 a b) with
    | false => rw [e] at sa; exact False.elim sa
    | true =>
      rw [e] at sa
      simp only [Bool.and_eq_true] at e
      exact gen a b ra rb e.1.1.1 e.1.1.2 e.1.2 e.2 (sa.val q rfl)
  cases a with
  | int i =>
    cases b with
    | int j =>
      have c : vl h 20 (.int i) (.int j) = decide (i < j) := rfl
      exact gen _ _ ra rb rfl rfl rfl rfl (by rw [c]; exact sat.val (a := .bl _) sa q rfl)
    | _ => exact False.elim sa
  | _ => exact fromB _ ra sa
variable {a b : Expr} {A B : Ex} {pos : Pos}
theorem ex_ltA (hu : X.A.units + 65 < cLine) (ha : EX W X a A) (hb : EX W X b B) : EX W X (.Compare a [.Lt] [b] pos) (op2 vLtA A B) := ex_cmp (op_ltA (W := W) hu) s_rM2 ha hb (nomark _)
theorem tx_ltA (hu : X.A.units + 65 < cLine) (ha : EX W X a A) (hb : EX W X b B) : TX W X (.Compare a [.Lt] [b] pos) (isB (op2 vLtA A B)) := tx_cmp (op_ltA (W := W) hu) s_rM2 ha hb (nomark _)
end
end Rf

/-! Rf: sorted, min, max of trees. -/
namespace Rf
open PySem PySem.Spec PyProof.Rows L2
open PySem.W (alike alikeAll dataLt dataLe keyToks keyToksAll rowLt AllAlike Sortable SortsAt EachIs TotalLe sameRank dataKind sortVals sortingHeap list_sort_vals sortVals_data sortVals_length sort_unique each_map sortingHeap_old)

/-! ### to put in order -/
def insG (le : Va → Va → Bool) (a : Va) : List Va → List Va
  | [] => [a]
  | b :: r => match le a b with
    | true => a :: b :: r
    | false => b :: insG le a r
def isortG (le : Va → Va → Bool) : List Va → List Va
  | [] => []
  | a :: r => insG le a (isortG le r)
section
variable {le le' : Va → Va → Bool}
theorem insG_mem (a : Va) : ∀ {l : List Va} {x : Va}, x ∈ insG le a l ↔ x = a ∨ x ∈ l
  | [], x => by simp [insG]
  | b :: r, x => by
    unfold insG
    cases le a b with
    | true => simp
    | false => simp [insG_mem a (l := r)]; constructor <;> (intro h; rcases h with h | h | h <;> simp [h])
theorem isortG_mem : ∀ {l : List Va} {x : Va}, x ∈ isortG le l ↔ x ∈ l
  | [], x => by simp [isortG]
  | a :: r, x => by unfold isortG; rw [insG_mem, isortG_mem (l := r), List.mem_cons]
theorem insG_pw (T : TotalLe le) (a : Va) : ∀ l : List Va, l.Pairwise (fun x y => le x y = true) → (insG le a l).Pairwise (fun x y => le x y = true)
  | [], _ => List.pairwise_singleton ..
  | b :: r, h => by
    obtain ⟨h1, h2⟩ := List.pairwise_cons.mp h
    unfold insG
    cases q : le a b with
    | true =>
      refine List.pairwise_cons.mpr ⟨fun x hx => ?_, h⟩
      rcases List.mem_cons.mp hx with rfl | hx
      · exact q
      · exact T.trans _ _ _ q (h1 x hx)
    | false =>
      refine List.pairwise_cons.mpr ⟨fun x hx => ?_, insG_pw T a r h2⟩
      rcases (insG_mem a).mp hx with rfl | hx
      · exact (T.total b x).resolve_right fun z => by rw [q] at z; cases z
      · exact h1 x hx
theorem isortG_pw (T : TotalLe le) : ∀ l : List Va, (isortG le l).Pairwise (fun x y => le x y = true)
  | [] => .nil
  | a :: r => insG_pw T a _ (isortG_pw T r)
theorem insG_flt (T : TotalLe le) (c a : Va) : ∀ l : List Va, (insG le a l).filter (sameRank le c) = (a :: l).filter (sameRank le c)
  | [] => rfl
  | b :: r => by
    unfold insG
    cases q : le a b with
    | true => rfl
    | false =>
      have ih := insG_flt T c a r
      show (b :: insG le a r).filter (sameRank le c) = (a :: b :: r).filter (sameRank le c)
      cases ha : sameRank le c a with
      | false =>
        rw [List.filter_cons_of_neg (l := r) (by simp [ha])] at ih
        rw [List.filter_cons_of_neg (l := b :: r) (by simp [ha]), List.filter_cons, List.filter_cons, ih]
      | true =>
        have hb : sameRank le c b = false := by
          cases hb : sameRank le c b with
          | false => rfl
          | true =>
            unfold sameRank at ha hb
            rw [Bool.and_eq_true] at ha hb
            have := T.trans _ _ _ ha.2 hb.1
            rw [q] at this
            cases this
        rw [List.filter_cons_of_pos (l := r) (by simp [ha])] at ih
        rw [List.filter_cons_of_neg (by simp [hb]), List.filter_cons_of_pos (by simp [ha]), List.filter_cons_of_neg (by simp [hb]), ih]
theorem isortG_flt (T : TotalLe le) (c : Va) : ∀ l : List Va, (isortG le l).filter (sameRank le c) = l.filter (sameRank le c)
  | [] => rfl
  | a :: r => by
    unfold isortG
    rw [insG_flt T c a, List.filter_cons, List.filter_cons, isortG_flt T c r]
theorem isortG_merge (T : TotalLe le) (l : List Va) : isortG le l = l.mergeSort le := sort_unique T (isortG_pw T l) fun c => isortG_flt T c l
theorem insG_congr (a : Va) : ∀ l : List Va, (∀ b ∈ l, le a b = le' a b) → insG le a l = insG le' a l
  | [], _ => rfl
  | b :: r, h => by
    unfold insG
    rw [h b List.mem_cons_self, insG_congr a r fun x hx => h x (List.mem_cons_of_mem _ hx)]
theorem isortG_congr : ∀ l : List Va, (∀ a ∈ l, ∀ b ∈ l, le a b = le' a b) → isortG le l = isortG le' l
  | [], _ => rfl
  | a :: r, h => by
    unfold isortG
    rw [isortG_congr r fun x hx y hy => h x (List.mem_cons_of_mem _ hx) y (List.mem_cons_of_mem _ hy)]
    exact insG_congr a _ fun b hb => h a List.mem_cons_self b (List.mem_cons_of_mem _ (isortG_mem.mp hb))
end
/-- the order by which trees are sorted -/
def leV (h : Hea) (a b : Va) : Bool := !vl h 20 b a
def isTu : Va → Bool
  | .tup xs => match xs with
    | [] => false
    | _ :: _ => true
  | _ => false
def isAt : Va → Bool
  | .int _ => true
  | .str _ => true
  | .bl _ => true
  | _ => false
/-- these can be put in order -/
def sortOk (h : Hea) (xs : List Va) : Bool := match xs.all (dOk h 20) with
  | true => match xs.all isTu || xs.all isAt with
    | true => xs.all fun a => xs.all fun b => vk h 20 a b
    | false => false
  | false => false
section
variable {h : Hea} {xs : List Va}
theorem sortOk_d (e : sortOk h xs = true) : ∀ a ∈ xs, dOk h 20 a = true := by
  unfold sortOk at e
  cases q : xs.all (dOk h 20) with
  | false => rw [q] at e; cases e
  | true => exact List.all_eq_true.mp q
theorem sortOk_k (e : sortOk h xs = true) : ∀ a ∈ xs, ∀ b ∈ xs, vk h 20 a b = true := by
  unfold sortOk at e
  cases q : xs.all (dOk h 20) with
  | false => rw [q] at e; cases e
  | true =>
    rw [q] at e
    cases q2 : (xs.all isTu || xs.all isAt) with
    | false => simp only [q2] at e; cases e
    | true => simp only [q2] at e; exact fun a ha b hb => List.all_eq_true.mp (List.all_eq_true.mp e a ha) b hb
theorem sortOk_t (e : sortOk h xs = true) : xs.all isTu = true ∨ xs.all isAt = true := by
  unfold sortOk at e
  cases q : xs.all (dOk h 20) with
  | false => rw [q] at e; cases e
  | true =>
    rw [q] at e
    cases q2 : (xs.all isTu || xs.all isAt) with
    | false => simp only [q2] at e; cases e
    | true => exact Bool.or_eq_true _ _ |>.mp q2
theorem sortOk_alike (e : sortOk h xs = true) : AllAlike (xs.map (toD h 20)) := by
  intro d hd d' hd'
  obtain ⟨a, ha, rfl⟩ := List.mem_map.mp hd
  obtain ⟨b, hb, rfl⟩ := List.mem_map.mp hd'
  exact (vk_ok h 20 a b (sortOk_d e a ha) (sortOk_d e b hb) (sortOk_k e a ha b hb)).1
theorem sortOk_sortable (e : sortOk h xs = true) : Sortable (xs.map (toD h 20)) := by
  rcases sortOk_t e with t | t
  · refine .inl fun d hd => ?_
    obtain ⟨a, ha, rfl⟩ := List.mem_map.mp hd
    have ta := List.all_eq_true.mp t a ha
    cases a with
    | tup zs => cases zs with
      | nil => cases ta
      | cons z r => exact ⟨toD h 19 z, r.map (toD h 19), by rfl⟩
    | _ => cases ta
  · refine .inr fun d hd => ?_
    obtain ⟨a, ha, rfl⟩ := List.mem_map.mp hd
    have ta := List.all_eq_true.mp t a ha
    cases a with
    | int i => exact ⟨by simp [toD, view], by simp [toD, view]⟩
    | str i => exact ⟨by simp [toD, view], by simp [toD, view]⟩
    | bl i => exact ⟨by simp [toD, view], by simp [toD, view]⟩
    | _ => cases ta
theorem dataLe_total {β : Type} (enc : β → PyData) : TotalLe (dataLe false enc) := PySem.W.sortLe_total (listOrd itemOrd) false fun b => keyToks (enc b)
theorem sortOk_sort (e : sortOk h xs = true) : isortG (leV h) xs = xs.mergeSort (dataLe false (toD h 20)) := by
  rw [← isortG_merge (dataLe_total _)]
  refine isortG_congr xs fun a ha b hb => ?_
  show (!vl h 20 b a) = !dataLt (toD h 20 b) (toD h 20 a)
  rw [(vk_ok h 20 b a (sortOk_d e b hb) (sortOk_d e a ha) (sortOk_k e b hb a ha)).2]
end
section
variable {prog : Program} {w : World} {A : Around} {E : Value → Shared → Prop} {s : Shared} {β : Type}
theorem sorted_byD {v : Value} {bs : List β} {enc : β → PyData} {R : Value → β → Prop} {Q : Value → Shared → Prop} (hal : AllAlike (bs.map enc)) (hk : Sortable (bs.map enc)) (hu : ∀ b, b ∈ bs → A.units + 2 + (enc b).depth < cLine)
    (hc : wpAny (model prog w) A.in1 (collect v) (fun vs s1 => vs.length ≤ sizeLine ∧ EachIs R vs bs ∧ EachIs (fun v b => ∃ as, Reads s1.heap v (enc b) as) vs bs ∧
      ∀ (out : List Value) (h1 : Heap) (d : Addr) (n : Nat), EachIs R out (bs.mergeSort (dataLe false enc)) → (∀ b o, s1.heap.get? b = some o → h1.get? b = some o) → s1.heap.objs.size ≤ d → h1.get? d = some (seqObj "list" out.toArray n) → Q (.ref d) { s1 with heap := h1 }) E s) : wpAny (model prog w) A (call (.builtin "sorted") [v]) Q E s := by
  refine Calls.call_function_entry kind_sorted plain_sorted entry_sorted (args_sorted1 _) ?_
  unfold Builtin.«sorted»
  refine wpAny_bind (m := checkCount "sorted" 1 1 _) (wpAny_pure (wpAny_bind (wpAny_mono hc (fun vs s1 ⟨small, er, rd, done⟩ => ?_) fun _ _ z => z)))
  have fresh : (s1.heap.push (seqObj "list" vs.toArray 0)).get? s1.heap.objs.size = some (seqObj "list" vs.toArray 0) := Heap.get?_push_size _ rfl
  have old : ∀ b o, s1.heap.get? b = some o → b ≠ s1.heap.objs.size ∧ (s1.heap.push (seqObj "list" vs.toArray 0)).get? b = some o := fun b o e => ⟨Nat.ne_of_lt (Heap.lt_size e), Heap.get?_push_of_some _ e⟩
  have rd2 : EachIs (fun v b => ∃ as, Reads (sortingHeap (s1.heap.push (seqObj "list" vs.toArray 0)) s1.heap.objs.size vs) v (enc b) as) vs bs := rd.mono fun _ _ ⟨as, r⟩ => ⟨as, PyProof.Rows.Reads.keeps (fun b o e => sortingHeap_old (old b o e).1 (old b o e).2) r⟩
  refine wpAny_bind (wpAny_newList (wpAny_bind (wpAny_holding (wpAny_call_entry slot_list_sort ⟨_, fresh, rfl⟩ entry_list_sort (list_sort_vals (κ := dataKind (sortingHeap (s1.heap.push (seqObj "list" vs.toArray 0)) s1.heap.objs.size vs) (bs.map enc)) fresh
    (SortsAt.data (s := { s1 with heap := sortingHeap (s1.heap.push (seqObj "list" vs.toArray 0)) s1.heap.objs.size vs }) (each_map (R := fun v d => ∃ as, Reads (sortingHeap (s1.heap.push (seqObj "list" vs.toArray 0)) s1.heap.objs.size vs) v d as) enc rd2) hal hk fun d hd => ?_) small ⟨_, rfl, wpAny_pure ⟨_, rfl, ?_⟩⟩) (args_list_sort _)))) small)
  · obtain ⟨b, hb, rfl⟩ := List.mem_map.mp hd
    exact hu b hb
  · obtain ⟨n, at_⟩ := sortedHeap_at (vs := vs) (out := (sortVals (dataKind (sortingHeap (s1.heap.push (seqObj "list" vs.toArray 0)) s1.heap.objs.size vs) (bs.map enc)) false vs vs).toArray) fresh
    refine done _ _ _ n (sortVals_data false er rd2 hal) (fun b o e => ?_) (Nat.le_refl _) at_
    rw [sortedHeap_old (old b o e).1 (by rw [size_push']; exact Nat.lt_succ_of_lt (Heap.lt_size e))]
    exact (old b o e).2
end

/-! ### sorted(v) -/
/-- what a value of the heap stands for -/
def IsV (K : FW) (ρ : List Addr) (H : Hp) (v : Value) (b : Va) : Prop := ∃ y, RV K ρ H b y ∧ RelV y v
section
variable {K : FW} {ρ : List Addr} {H : Hp}
theorem isVs_of : ∀ {xs : List Va} {us : List V} {vs : List Value}, RVs K ρ H xs us → Vals us vs → EachIs (IsV K ρ H) vs xs
  | [], _, _, r, v => by cases r; cases v; exact .nil
  | x :: xs, _, _, ⟨u, t, e, r1, r2⟩, v => by
    subst e
    cases v with
    | cons h t => exact .cons ⟨u, r1, h⟩ (isVs_of r2 t)
theorem each_right {α β : Type} {R : α → β → Prop} : ∀ {as : List α} {bs : List β} {b : β}, EachIs R as bs → b ∈ bs → ∃ a, R a b
  | _, _, _, .nil, h => nomatch h
  | _, _, _, .cons z t, h => by
    rcases List.mem_cons.mp h with rfl | h
    · exact ⟨_, z⟩
    · exact each_right t h
theorem each_at {α β : Type} {R : α → β → Prop} : ∀ {as : List α} {bs : List β} {i : Nat} {a : α}, EachIs R as bs → as[i]? = some a → ∃ b, bs[i]? = some b ∧ R a b
  | _, _, _, _, .nil, h => by simp at h
  | _, _, 0, _, .cons z t, h => by cases h; exact ⟨_, rfl, z⟩
  | _, _, i + 1, _, .cons z t, h => by
    obtain ⟨b, h1, h2⟩ := each_at (i := i) t (by simpa using h)
    exact ⟨b, by simpa using h1, h2⟩
theorem of_isVs : ∀ {xs : List Va} {vs : List Value}, EachIs (IsV K ρ H) vs xs → ∃ us, RVs K ρ H xs us ∧ Vals us vs
  | _, _, .nil => ⟨[], rfl, .nil⟩
  | _, _, .cons ⟨y, r, v⟩ t => by
    obtain ⟨us, h1, h2⟩ := of_isVs t
    exact ⟨y :: us, ⟨y, us, rfl, r, h1⟩, .cons v h2⟩
end
section
variable {X : Cx} {W : XW} {pins : List (Addr × Obj)} {σ : L2.St} {H : Hp} {s : Shared} {ρ : List Addr} {h : Hea}
theorem isV_reads (I : L2.Inv X pins σ H s) (q : HR X.fw ρ h H) {v : Value} {b : Va} (i : IsV X.fw ρ H v b) (d : dOk h 20 b = true) : ∃ as, Reads s.heap v (toD h 20 b) as := by
  obtain ⟨y, r, e⟩ := i
  exact Dp.reads I _ y v (dp_of q 20 b y d r).1 e
theorem isVs_reads (I : L2.Inv X pins σ H s) (q : HR X.fw ρ h H) : ∀ {vs : List Value} {xs : List Va}, EachIs (IsV X.fw ρ H) vs xs → (∀ a ∈ xs, dOk h 20 a = true) → EachIs (fun v b => ∃ as, Reads s.heap v (toD h 20 b) as) vs xs
  | _, _, .nil, _ => .nil
  | _, _, .cons a t, d => .cons (isV_reads I q a (d _ List.mem_cons_self)) (isVs_reads I q t fun x hx => d x (List.mem_cons_of_mem _ hx))
theorem toD_depth (q : HR X.fw ρ h H) {v : Value} {b : Va} (i : IsV X.fw ρ H v b) (d : dOk h 20 b = true) : (toD h 20 b).depth ≤ 20 := by
  obtain ⟨y, r, e⟩ := i
  exact (dp_of q 20 b y d r).2.2
/-- sorted of a list or tuple of ints, or of trees -/
def vSortedU (a : Va) : M Va := fun h => match seqV h a with
  | some xs => match intsOf xs with
    | some _ => vSorted a h
    | none => match sortOk h xs with
      | true => if xs.length ≤ sLine then .ok (.ref h.n) (h.push (.lst (isortG (leV h) xs))) else .no
      | false => .no
  | none => .no
theorem cr_sortedU (hu : X.A.units + 65 < cLine) : CallR X (.builtin "sorted") (rMC X.fw W (fn1 vSortedU)) := by
  intro pins s σ H us vs Q I rel ⟨ρ, h, xs, q, rs, sa⟩
  match xs, rs with
  | [a], ⟨u, t, e1, ra, e2⟩ =>
    have sb : sat X.fw W ρ H (vSortedU a h) (rv X.fw Q) := sa
    cases e : seqV h a with
    | none => unfold vSortedU at sb; rw [e] at sb; exact False.elim sb
    | some zs =>
      cases e3 : intsOf zs with
      | some ns =>
        unfold vSortedU at sb
        rw [e] at sb
        simp only [e3] at sb
        exact cr_sortedM (W := W) pins s σ H us vs Q I rel ⟨ρ, h, [a], q, ⟨u, t, e1, ra, e2⟩, sb⟩
      | none =>
        cases ok : sortOk h zs with
        | false => unfold vSortedU at sb; rw [e] at sb; simp only [e3, ok] at sb; exact False.elim sb
        | true =>
          unfold vSortedU at sb
          rw [e] at sb
          simp only [e3, ok] at sb
          by_cases small : zs.length ≤ sLine
          · rw [if_pos small] at sb
            cases e2
            subst e1
            obtain ⟨p, ws, rfl, hl, hr⟩ := seqV_ok q ra e
            obtain ⟨v, rfl, rv⟩ := vals1 rel
            cases rv
            rw [sortOk_sort ok] at sb
            have fin : ∀ (its : List Value) (h1 : Heap), Vals ws its → (∀ b o, s.heap.get? b = some o → h1.get? b = some o) → its.length ≤ sizeLine ∧ EachIs (IsV X.fw ρ H) its zs ∧ EachIs (fun v b => ∃ as, Reads h1 v (toD h 20 b) as) its zs ∧
                ∀ (out : List Value) (h2 : Heap) (d : Addr) (n : Nat), EachIs (IsV X.fw ρ H) out (zs.mergeSort (dataLe false (toD h 20))) → (∀ b o, h1.get? b = some o → h2.get? b = some o) → h1.objs.size ≤ d → h2.get? d = some (seqObj "list" out.toArray n) → EP X pins σ Q (.ref d) { s with heap := h2 } := by
              intro its h1 rvs kp
              have ev := isVs_of hr rvs
              have I1 : L2.Inv X pins σ H { s with heap := h1 } := I.kept (t' := s.toks) kp
              refine ⟨by rw [ev.length, ← sLine_eq]; exact small, ev, isVs_reads I1 q ev (sortOk_d ok), fun out h2 d n eo kp2 le at_ => ?_⟩
              obtain ⟨us2, r1, r2⟩ := of_isVs eo
              refine ⟨.ref d, upd H d (.lst us2), I1.laid (t' := s.toks) kp2 le ⟨?_, out, n, r2, at_⟩, rfl, sb.newLst q r1 d (I1.hok.fresh le)⟩
              rw [r2.length, eo.length, List.length_mergeSort, ← sLine_eq]; exact small
            refine sorted_byD (bs := zs) (enc := toD h 20) (R := IsV X.fw ρ H) (sortOk_alike ok) (sortOk_sortable ok) (fun b hb => ?_) ?_
            · obtain ⟨its, r1⟩ : ∃ its, Vals ws its := by
                rcases hl with hl | hl
                · obtain ⟨its, ri, _⟩ := I.list hl; exact ⟨its, ri⟩
                · obtain ⟨its, ri, _⟩ := I.tuple hl; exact ⟨its, ri⟩
              obtain ⟨v, iv⟩ := each_right (isVs_of hr r1) hb
              have := toD_depth q iv (sortOk_d ok b hb)
              omega
            · rcases hl with hl | hl
              · obtain ⟨its, ri, pl, sm⟩ := I.list hl
                refine collect_list pl.isList (fin its _ ri fun b o e => ?_) (by rw [← ri.length]; exact sm)
                rw [Heap.get?_update_ne _ _ _ _ (Nat.ne_of_lt (Heap.lt_size e))]
                exact Heap.get?_push_of_some _ e
              · obtain ⟨its, ri, pt, sm⟩ := I.tuple hl
                exact collect_tup pt (by rw [← ri.length]; exact sm) fun h1 kp => fin its h1 ri kp
          · rw [if_neg small] at sb; exact False.elim sb
  | [], _ => exact False.elim sa
  | _ :: _ :: _, _ => exact False.elim sa
variable {e : Expr} {A : Ex} {p pos : Pos}
theorem ex_sortedU (hu : X.A.units + 65 < cLine) (hg : Gl X "sorted") (hm : X.mg "sorted" = none) (ha : EX W X e A) (hs : starEach [e] X.env = (false, eval e X.env) :: starEach [] X.env := by rfl) : EX W X (.Call (.Name "sorted" p) [e] [] pos) (callE (fn1 vSortedU) (aCons A aNil)) :=
  ex_callB (cr_sortedU (W := W) hu) s_rMC hg hm (by decide +kernel) (ax_cons ha ax_nil hs) (by decide) (by decide) hs
end

/-! ### min, max -/
def minV (h : Hea) (x : Va) (xs : List Va) : Va := xs.foldl (fun a y => match vl h 20 y a with
  | true => y
  | false => a) x
def maxV (h : Hea) (x : Va) (xs : List Va) : Va := xs.foldl (fun a y => match vl h 20 a y with
  | true => y
  | false => a) x
def bestV (F : Hea → Va → List Va → Va) (a : Va) : M Va := fun h => match seqV h a with
  | some xs => match xs with
    | x :: r => match sortOk h xs with
      | true => .ok (F h x r) h
      | false => .no
    | [] => .no
  | none => .no
section
variable {X : Cx} {W : XW}
theorem best_fold (f : Va → Va → Bool) (x : Va) (xs : List Va) : argBest (fun i j => f ((x :: xs).getD i .non) ((x :: xs).getD j .non)) xs.length < (x :: xs).length ∧
    (x :: xs)[argBest (fun i j => f ((x :: xs).getD i .non) ((x :: xs).getD j .non)) xs.length]? = some (xs.foldl (fun a y => match f y a with
      | true => y
      | false => a) x) := by
  obtain ⟨h1, h2⟩ := PySem.W.argBest_fold f Va.non x xs xs.length (Nat.le_refl _)
  rw [List.take_length] at h2
  have h3 : argBest (fun i j => f ((x :: xs).getD i .non) ((x :: xs).getD j .non)) xs.length < (x :: xs).length := by simp only [List.length_cons]; omega
  refine ⟨h3, ?_⟩
  rw [List.getD_eq_getElem?_getD, List.getElem?_eq_getElem h3] at h2
  rw [List.getElem?_eq_getElem h3]
  simp only [Option.getD_some] at h2
  rw [h2]
  congr 2
  funext a y
  cases f y a <;> rfl
section
variable {pins : List (Addr × Obj)} {σ : L2.St} {H : Hp} {s : Shared} {ρ : List Addr} {h : Hea}
theorem best_cmp (op : CmpOp) (f : Va → Va → Bool) {A : Around} (hu : A.units + 24 < cLine) (I : L2.Inv X pins σ H s) (q : HR X.fw ρ h H) {its : Array Value} {zs : List Va} (ev : EachIs (IsV X.fw ρ H) its.toList zs) (ok : sortOk h zs = true)
    (rc : ∀ (da db : PyData) (s : Shared) (a b : Value) (as bs : List Addr) (x y : Va), da = toD h 20 x → db = toD h 20 y → vl h 20 x y = dataLt da db → vl h 20 y x = dataLt db da → Reads s.heap a da as → Reads s.heap b db bs → alike da db = true → da ≠ .none → A.units + min da.depth db.depth < cLine → SeqAt.RcOp op A s a b (f x y)) :
    CmpIn X.prog X.w A op s.heap (fun i v => its[i]? = some v) (fun i j => f (zs.getD i .non) (zs.getD j .non)) := by
  intro i j vi vj s' Q E kp hi hj hq
  obtain ⟨a, a1, a2⟩ := each_at ev (show its.toList[i]? = some vi by rw [Array.getElem?_toList]; exact hi)
  obtain ⟨b, b1, b2⟩ := each_at ev (show its.toList[j]? = some vj by rw [Array.getElem?_toList]; exact hj)
  have ma := List.mem_of_getElem? a1
  have mb := List.mem_of_getElem? b1
  simp only [List.getD_eq_getElem?_getD, a1, b1, Option.getD_some] at hq
  obtain ⟨as, r1⟩ := isV_reads I q a2 (sortOk_d ok a ma)
  obtain ⟨bs, r2⟩ := isV_reads I q b2 (sortOk_d ok b mb)
  obtain ⟨k1, k2⟩ := vk_ok h 20 a b (sortOk_d ok a ma) (sortOk_d ok b mb) (sortOk_k ok a ma b mb)
  obtain ⟨_, k3⟩ := vk_ok h 20 b a (sortOk_d ok b mb) (sortOk_d ok a ma) (sortOk_k ok b mb a ma)
  have dp := toD_depth q a2 (sortOk_d ok a ma)
  have na : toD h 20 a ≠ .none := by
    rcases sortOk_t ok with t | t
    · have ta := List.all_eq_true.mp t a ma
      cases a with
      | tup zs => exact nn_toD rfl (sortOk_d ok _ ma)
      | _ => cases ta
    · have ta := List.all_eq_true.mp t a ma
      cases a with
      | int _ => exact nn_toD rfl (sortOk_d ok _ ma)
      | str _ => exact nn_toD rfl (sortOk_d ok _ ma)
      | bl _ => exact nn_toD rfl (sortOk_d ok _ ma)
      | _ => cases ta
  have mm : min (toD h 20 a).depth (toD h 20 b).depth ≤ 20 := Nat.le_trans (Nat.min_le_left _ _) dp
  exact rc _ _ s' vi vj as bs a b rfl rfl k2 k3 (PyProof.Rows.Reads.keeps kp r1) (PyProof.Rows.Reads.keeps kp r2) k1 na (by omega) X.prog X.w E Q hq
end
theorem cr_min (hu : X.A.units + 65 < cLine) (calm : X.calm = true) : CallR X (.builtin "min") (rMC X.fw W (fn1 (bestV minV))) := by
  intro pins s σ H us vs Q I rel ⟨ρ, h, xs, q, rs, sa⟩
  match xs, rs with
  | [a], ⟨u, t, e1, ra, e2⟩ =>
    have sb : sat X.fw W ρ H (bestV minV a h) (rv X.fw Q) := sa
    cases e : seqV h a with
    | none => unfold bestV at sb; rw [e] at sb; exact False.elim sb
    | some zs =>
      match zs, e with
      | [], e => unfold bestV at sb; rw [e] at sb; exact False.elim sb
      | z :: zs, e =>
        cases ok : sortOk h (z :: zs) with
        | false => unfold bestV at sb; rw [e] at sb; simp only [ok] at sb; exact False.elim sb
        | true =>
          unfold bestV at sb
          rw [e] at sb
          simp only [ok] at sb
          cases e2
          subst e1
          obtain ⟨p, ws, rfl, hl, hr⟩ := seqV_ok q ra e
          obtain ⟨v, rfl, rv⟩ := vals1 rel
          cases rv
          have cmp : ∀ its : List Value, Vals ws its → CmpIn X.prog X.w X.A.in1 .Lt s.heap (fun i v => its.toArray[i]? = some v) (fun i j => vl h 20 ((z :: zs).getD i .non) ((z :: zs).getD j .non)) := fun its ri =>
            best_cmp .Lt (vl h 20) (by rw [Around.in1_units]; omega) I q (isVs_of hr ri) ok fun da db s a b as bs x y _ _ k2 k3 r1 r2 k1 na du => by rw [k2]; exact PySem.W.rcLt_alike da db _ s a b as bs r1 r2 k1 na du
          have fin : ∀ (its : List Value) (v : Value) (h1 : Heap) (tk : Nat), Vals ws its → its.toArray[argBest (fun i j => vl h 20 ((z :: zs).getD i .non) ((z :: zs).getD j .non)) (its.toArray.size - 1)]? = some v → (∀ b o, s.heap.get? b = some o → h1.get? b = some o) → EP X pins σ Q v { s with heap := h1, toks := tk } := by
            intro its v h1 tk ri hv kp
            have ev := isVs_of hr ri
            have en : its.toArray.size - 1 = zs.length := by rw [List.size_toArray, ev.length]; rfl
            rw [en] at hv
            obtain ⟨b, b1, y, b2, b3⟩ := each_at ev (by rw [← List.getElem?_toArray]; exact hv)
            rw [(best_fold (vl h 20) z zs).2] at b1
            cases b1
            exact ⟨y, H, I.kept kp, b3, sb.val q b2⟩
          rcases hl with hl | hl
          · obtain ⟨its, ri, pl, sm⟩ := I.list hl
            refine call_min_walkH (PySem.W.iter_listW (A := X.A.in1) (I.ok.hd calm) pl.isList fun s₂ e W st hfp hw hk => ?_)
            refine ⟨_, _, _, _, _, _, _, s.heap, _, rfl, W, st, hfp, ?_, hw, hk, cmp its ri, fun v s' hP m => ?_⟩
            · rw [List.size_toArray, ← ri.length, ← hr.length]; exact Nat.zero_lt_succ _
            · obtain ⟨h', tk, rfl, hk'⟩ := PySem.W.moved_old e rfl m
              exact fin its v h' tk ri hP hk'
          · obtain ⟨its, ri, pt, sm⟩ := I.tuple hl
            refine call_min_walkH (PySem.W.iter_tupleW (A := X.A.in1) (I.ok.hd calm) pt fun s₂ e W st hfp hw hk => ?_)
            refine ⟨_, _, _, _, _, _, _, s.heap, _, rfl, W, st, hfp, ?_, hw, hk, cmp its ri, fun v s' hP m => ?_⟩
            · rw [List.size_toArray, ← ri.length, ← hr.length]; exact Nat.zero_lt_succ _
            · obtain ⟨h', tk, rfl, hk'⟩ := PySem.W.moved_old e rfl m
              exact fin its v h' tk ri hP hk'
  | [], _ => exact False.elim sa
  | _ :: _ :: _, _ => exact False.elim sa
theorem cr_max (hu : X.A.units + 65 < cLine) (calm : X.calm = true) : CallR X (.builtin "max") (rMC X.fw W (fn1 (bestV maxV))) := by
  intro pins s σ H us vs Q I rel ⟨ρ, h, xs, q, rs, sa⟩
  match xs, rs with
  | [a], ⟨u, t, e1, ra, e2⟩ =>
    have sb : sat X.fw W ρ H (bestV maxV a h) (rv X.fw Q) := sa
    cases e : seqV h a with
    | none => unfold bestV at sb; rw [e] at sb; exact False.elim sb
    | some zs =>
      match zs, e with
      | [], e => unfold bestV at sb; rw [e] at sb; exact False.elim sb
      | z :: zs, e =>
        cases ok : sortOk h (z :: zs) with
        | false => unfold bestV at sb; rw [e] at sb; simp only [ok] at sb; exact False.elim sb
        | true =>
          unfold bestV at sb
          rw [e] at sb
          simp only [ok] at sb
          cases e2
          subst e1
          obtain ⟨p, ws, rfl, hl, hr⟩ := seqV_ok q ra e
          obtain ⟨v, rfl, rv⟩ := vals1 rel
          cases rv
          have cmp : ∀ its : List Value, Vals ws its → CmpIn X.prog X.w X.A.in1 .Gt s.heap (fun i v => its.toArray[i]? = some v) (fun i j => (fun a b => vl h 20 b a) ((z :: zs).getD i .non) ((z :: zs).getD j .non)) := fun its ri =>
            best_cmp .Gt (fun a b => vl h 20 b a) (by rw [Around.in1_units]; omega) I q (isVs_of hr ri) ok fun da db s a b as bs x y _ _ k2 k3 r1 r2 k1 na du => by show SeqAt.RcOp _ _ _ _ _ (vl h 20 _ _); rw [k3]; exact PySem.W.rcGt_alike da db _ s a b as bs r1 r2 k1 na du
          have fin : ∀ (its : List Value) (v : Value) (h1 : Heap) (tk : Nat), Vals ws its → its.toArray[argBest (fun i j => (fun a b => vl h 20 b a) ((z :: zs).getD i .non) ((z :: zs).getD j .non)) (its.toArray.size - 1)]? = some v → (∀ b o, s.heap.get? b = some o → h1.get? b = some o) → EP X pins σ Q v { s with heap := h1, toks := tk } := by
            intro its v h1 tk ri hv kp
            have ev := isVs_of hr ri
            have en : its.toArray.size - 1 = zs.length := by rw [List.size_toArray, ev.length]; rfl
            rw [en] at hv
            obtain ⟨b, b1, y, b2, b3⟩ := each_at ev (by rw [← List.getElem?_toArray]; exact hv)
            rw [(best_fold (fun a b => vl h 20 b a) z zs).2] at b1
            cases b1
            exact ⟨y, H, I.kept kp, b3, sb.val q b2⟩
          rcases hl with hl | hl
          · obtain ⟨its, ri, pl, sm⟩ := I.list hl
            refine call_max_walkH (PySem.W.iter_listW (A := X.A.in1) (I.ok.hd calm) pl.isList fun s₂ e W st hfp hw hk => ?_)
            refine ⟨_, _, _, _, _, _, _, s.heap, _, rfl, W, st, hfp, ?_, hw, hk, cmp its ri, fun v s' hP m => ?_⟩
            · rw [List.size_toArray, ← ri.length, ← hr.length]; exact Nat.zero_lt_succ _
            · obtain ⟨h', tk, rfl, hk'⟩ := PySem.W.moved_old e rfl m
              exact fin its v h' tk ri hP hk'
          · obtain ⟨its, ri, pt, sm⟩ := I.tuple hl
            refine call_max_walkH (PySem.W.iter_tupleW (A := X.A.in1) (I.ok.hd calm) pt fun s₂ e W st hfp hw hk => ?_)
            refine ⟨_, _, _, _, _, _, _, s.heap, _, rfl, W, st, hfp, ?_, hw, hk, cmp its ri, fun v s' hP m => ?_⟩
            · rw [List.size_toArray, ← ri.length, ← hr.length]; exact Nat.zero_lt_succ _
            · obtain ⟨h', tk, rfl, hk'⟩ := PySem.W.moved_old e rfl m
              exact fin its v h' tk ri hP hk'
  | [], _ => exact False.elim sa
  | _ :: _ :: _, _ => exact False.elim sa
variable {e : Expr} {A : Ex} {p pos : Pos}
theorem ex_min (hu : X.A.units + 65 < cLine) (calm : X.calm = true) (hg : Gl X "min") (hm : X.mg "min" = none) (ha : EX W X e A) (hs : starEach [e] X.env = (false, eval e X.env) :: starEach [] X.env := by rfl) : EX W X (.Call (.Name "min" p) [e] [] pos) (callE (fn1 (bestV minV)) (aCons A aNil)) :=
  ex_callB (cr_min (W := W) hu calm) s_rMC hg hm (by decide +kernel) (ax_cons ha ax_nil hs) (by decide) (by decide) hs
theorem ex_max (hu : X.A.units + 65 < cLine) (calm : X.calm = true) (hg : Gl X "max") (hm : X.mg "max" = none) (ha : EX W X e A) (hs : starEach [e] X.env = (false, eval e X.env) :: starEach [] X.env := by rfl) : EX W X (.Call (.Name "max" p) [e] [] pos) (callE (fn1 (bestV maxV)) (aCons A aNil)) :=
  ex_callB (cr_max (W := W) hu calm) s_rMC hg hm (by decide +kernel) (ax_cons ha ax_nil hs) (by decide) (by decide) hs
end
end Rf

/-! Rf: what is done while a dict is read: d.items(), d.values(), d. -/
namespace Rf
open PySem PySem.Spec PyProof.Rows L2

/-! ### a dict that is read and not written meanwhile -/
def unlk {α : Type} (i : Nat) : Rs α → Rs α
  | .ok o h => match h.get i with
    | some (.dlk kvs) => .ok o (h.set i (.dic kvs))
    | _ => .no
  | _ => .no
def lockM {α : Type} (E : Ex) (S : Lo → M α) : Lo → M α := fun l h => match E l h with
  | .ok a _ => match a with
    | .ref i => match h.get i with
      | some (.dic kvs) => unlk i (S l (h.set i (.dlk kvs)))
      | some (.dlk _) => S l h
      | _ => .no
    | _ => .no
  | _ => .no
section
variable {K : FW} {W : XW} {ρ : List Addr} {H : Hp} {h : Hea} {l : Lo} {σ : L2.St} {α : Type} {E : Ex} {S : Lo → M α} {Q : α → Hea → List Addr → Hp → Prop}
theorem lock_go (L : LR K ρ H l σ) (q : HR K ρ h H) (s : sat K W ρ H (lockM E S l h) Q) :
    sat K W ρ H (S l h) Q ∨ ∃ d ws, H d = some (.dK ws) ∧ ∀ od, ∃ h2, LR K ρ (upd H d (.frz od (.dK ws))) l σ ∧ HR K ρ h2 (upd H d (.frz od (.dK ws))) ∧
      sat K W ρ (upd H d (.frz od (.dK ws))) (S l h2) (fun a h' ρ' H' => H' d = some (.frz od (.dK ws)) ∧ ∃ h3, Q a h3 ρ' (upd H' d (.dK ws)) ∧ Ext0 K ρ' H' ρ' (upd H' d (.dK ws))) := by
  unfold lockM at s
  cases e : E l h with
  | no => simp only [e] at s; exact False.elim s
  | err c v h1 => simp only [e] at s; exact False.elim s
  | ok a h1 =>
    cases a with
    | ref i =>
      simp only [e] at s
      cases g : h.get i with
      | none => simp only [g] at s; exact False.elim s
      | some o =>
        cases o with
        | dlk kvs => simp only [g] at s; exact .inl s
        | dic kvs =>
          simp only [g] at s
          obtain ⟨d, hd, ws, hH, hr⟩ := q.ob i _ g
          refine .inr ⟨d, ws, hH, fun od => ?_⟩
          have mu : Mut (H d) := by rw [hH]; trivial
          refine ⟨h.set i (.dlk kvs), L.ext (Ext.write hd mu), q.write hd g mu ⟨od, ws, upd_same, Paired.mapQ hr fun _ _ z => ⟨z.1, RV.ext (Ext.write hd mu) _ z.2⟩⟩, ?_⟩
          cases r : S l (h.set i (.dlk kvs)) with
          | no => rw [r] at s; exact False.elim s
          | err c v h2 => rw [r] at s; exact False.elim s
          | ok a h2 =>
            rw [r] at s
            unfold unlk at s
            cases g2 : h2.get i with
            | none => simp only [g2] at s; exact False.elim s
            | some o2 =>
              cases o2 with
              | dlk kvs2 =>
                simp only [g2] at s
                refine fun ρ' H' ex q' => ?_
                have f : H' d = some (.frz od (.dK ws)) := ex.fz _ _ _ upd_same
                have hd' : ρ'[i]? = some d := ex.at hd
                obtain ⟨d2, hd2, o3, ws3, hH3, hr3⟩ := q'.ob i _ g2
                have ed : d2 = d := by rw [hd'] at hd2; exact (Option.some.inj hd2).symm
                subst ed
                rw [f] at hH3
                cases hH3
                have x0 := Ext0.unlock (K := K) (ρ := ρ') (o := .dK ws) (List.mem_of_getElem? hd') f
                exact ⟨f, h2.set i (.dic kvs2), s ρ' _ (Ext.unlock (List.mem_of_getElem? hd) ex hH) (q'.unlock hd' g2 f ⟨ws, upd_same, Paired.mapQ hr3 fun _ _ z => ⟨z.1, RV.ext0 x0 _ z.2⟩⟩), x0⟩
              | _ => simp only [g2] at s; exact False.elim s
        | _ => simp only [g] at s; exact False.elim s
    | _ => simp only [e] at s; exact False.elim s
end
section
variable {W : XW} {X : Cx} {st : Stmt} {e : Expr} {E : Ex} {S : Sx} {A : Ex}
theorem ps_or {t t' : TS} (h1 : PS X st t) (h2 : PS X st t') : PS X st (fun D σ H => t D σ H ∨ t' D σ H) := ⟨fun pins s σ H D I q => q.elim (h1.run pins s σ H D I) (h2.run pins s σ H D I)⟩
theorem sx_lock (hs : SX W X st S) : SX W X st (lockM E S) :=
  ⟨PS.weak (ps_or hs.ps (ps_lock hs.ps)) fun D σ H ⟨ρ, l, h, L, q, s⟩ => by
    rcases lock_go L q s with s | ⟨d, ws, hd, k⟩
    · exact .inl ⟨ρ, l, h, L, q, s⟩
    · refine .inr ⟨d, _, hd, trivial, fun od => ?_⟩
      obtain ⟨h2, L2, q2, s2⟩ := k od
      refine ⟨ρ, l, h2, L2, q2, s2.mono fun o h' ρ' H' ex q' ⟨f, h3, s3, x0⟩ => ?_⟩
      cases o with
      | nx l' => exact fun σ' L' => ⟨f, s3 σ' (LR.ext0 x0 L')⟩
      | rt v => exact fun u r => ⟨f, s3 u (RV.ext0 x0 v r)⟩
      | bk l' => exact fun σ' L' => ⟨f, s3 σ' (LR.ext0 x0 L')⟩
      | ct l' => exact fun σ' L' => ⟨f, s3 σ' (LR.ext0 x0 L')⟩⟩
theorem ex_lock (hs : EX W X e A) : EX W X e (lockM E A) :=
  ⟨PE.weak (pe_either hs.pe (pe_lock hs.pe)) fun σ H Q ⟨ρ, l, h, L, q, s⟩ => by
    rcases lock_go L q s with s | ⟨d, ws, hd, k⟩
    · exact .inl ⟨ρ, l, h, L, q, s⟩
    · refine .inr ⟨d, _, hd, trivial, fun od => ?_⟩
      obtain ⟨h2, L2, q2, s2⟩ := k od
      exact ⟨ρ, l, h2, L2, q2, s2.mono fun v h' ρ' H' ex q' ⟨f, h3, s3, x0⟩ u r => ⟨f, s3 u (RV.ext0 x0 v r)⟩⟩⟩
end

/-! ### d.items() -/
def itemsV (kvs : List (Ke × Va)) : List Va := kvs.map fun p => .pr [p.1.va, p.2]
def iItemsM (E : Ex) : Ix := fun l h => (E l h).bind fun a h1 => match a with
  | .ref i => match h1.get i with
    | some (.dlk kvs) => .ok (.vals (itemsV kvs)) h1
    | _ => .no
  | _ => .no
section
variable {K : FW} {ρ : List Addr} {H : Hp} {h : Hea}
theorem rkv_at : ∀ {kvs : List (Ke × Va)} {ws : List (Key × V)} {k : Nat}, RKV K ρ H kvs ws → (kvs[k]? = none → ws[k]? = none) ∧ ∀ p, kvs[k]? = some p → ∃ v, ws[k]? = some (p.1.key, v) ∧ RV K ρ H p.2 v
  | [], [], k, .nil => ⟨fun _ => by simp, fun p e => by simp at e⟩
  | p :: r, q :: t, 0, .cons z y => ⟨fun e => by simp at e, fun p' e => by
    cases e
    obtain ⟨k, v⟩ := q
    obtain ⟨z1, z2⟩ := z
    cases z1
    exact ⟨v, rfl, z2⟩⟩
  | p :: r, q :: t, k + 1, .cons z y => by
    obtain ⟨h1, h2⟩ := rkv_at (k := k) y
    exact ⟨fun e => by simpa using h1 (by simpa using e), fun p' e => by
      obtain ⟨v, e1, e2⟩ := h2 p' (by simpa using e)
      exact ⟨v, by simpa using e1, e2⟩⟩
theorem kv_va : ∀ k : Ke, RV K ρ H k.va (kV k.key)
  | .i n => rfl
  | .s x => rfl
theorem tie_items {d : Addr} {o : Obj} {kvs : List (Ke × Va)} {ws : List (Key × V)} : Tie K (Iti d o ws) (.vals (itemsV kvs)) (fun ρ H => H d = some (.frz o (.dK ws)) ∧ RKV K ρ H kvs ws) := by
  refine ⟨fun ρ H ρ' H' ⟨c1, c2⟩ e => ⟨e.fz _ _ _ c1, Paired.mapQ c2 fun _ _ z => ⟨z.1, RV.ext e _ z.2⟩⟩, fun k h ρ H ⟨c1, c2⟩ q e => ⟨c1, ?_⟩, fun k h ρ H v ⟨c1, c2⟩ q e => ?_⟩
  · have e1 := Option.some.inj e
    unfold itemsV at e1
    rw [List.getElem?_map] at e1
    have : kvs[k]? = none := by cases z : kvs[k]? with
      | none => rfl
      | some p => rw [z] at e1; cases e1
    exact List.getElem?_eq_none_iff.mp ((rkv_at c2).1 this)
  · have e1 := Option.some.inj e
    unfold itemsV at e1
    rw [List.getElem?_map] at e1
    cases z : kvs[k]? with
    | none => rw [z] at e1; cases e1
    | some p =>
      rw [z] at e1
      cases e1
      obtain ⟨u, hu, ru⟩ := (rkv_at c2).2 p z
      refine ⟨⟨c1, (List.getElem?_eq_some_iff.mp hu).1⟩, fun x H' ⟨T, k', v', e3, ex, n, eH⟩ => ?_⟩
      subst ex eH
      rw [hu] at e3
      cases e3
      exact ⟨Ext.new n, q.new n, T, _, rfl, SqT.of upd_same, _, _, rfl, kv_va p.1, _, _, rfl, RV.ext (Ext.new n) _ ru, rfl⟩
end
section
variable {W : XW} {X : Cx} {e : Expr} {E : Ex} {tpos apos cpos : Pos} {elts : List Expr} {kk : Nat}
theorem ix_items (he : EX W X e E) (hbase : attributeBase e "items" X.env (eval e X.env) = eval e X.env := by rfl) (hline : (apos.endLine == cpos.line) = true := by rfl) :
    IX W X (.Tuple elts kk tpos) (.Call (.Attribute e "items" apos) [] [] cpos) (iItemsM E) :=
  ⟨PI.weak (pi_items he.pe hbase hline) fun σ H R ⟨ρ, l, h, L, q, s⟩ => tE.go L q s fun a h1 ρ1 H1 x e1 L1 q1 rx s1 => by
    cases a with
    | ref i =>
      cases g : h1.get i with
      | none => simp only [g] at s1; exact False.elim s1
      | some o =>
        cases o with
        | dlk kvs =>
          simp only [g] at s1
          obtain ⟨d, rfl, hd, od, ws, hH, hr⟩ := q1.at_ref rx g
          exact ⟨d, od, ws, rfl, hH, s1.ok q1 _ _ tie_items ⟨hH, hr⟩⟩
        | _ => simp only [g] at s1; exact False.elim s1
    | _ => exact False.elim s1⟩
end

/-! ### dict(d), list(d.items()): new ones -/
theorem Ext.growM {K : FW} {ρ more : List Addr} {H H' : Hp} (g : ∀ b o, H b = some o → H' b = some o) (n : ∀ a ∈ more, H a = none) : Ext K ρ H (ρ ++ more) H' := by
  have keep : ∀ a, H a ≠ none → H' a = H a := fun a n => by
    cases e : H a with
    | none => exact absurd e n
    | some o => exact g _ _ e
  refine ⟨⟨more, rfl, n⟩, fun a us h => ?_, fun a o u h => g _ _ h, fun a h => ?_, fun a h => by rw [keep a h]; exact h, fun a h _ => keep a h⟩
  · rcases h with (h | ⟨o, h⟩) | h
    · exact .inl (.inl (g _ _ h))
    · exact .inl (.inr ⟨o, g _ _ h⟩)
    · exact .inr h
  · rcases h with ⟨ob, us, h, hd⟩ | h
    · exact .inl ⟨ob, us, g _ _ h, hd⟩
    · exact .inr h
theorem Ext.grow {K : FW} {ρ : List Addr} {H H' : Hp} (g : ∀ b o, H b = some o → H' b = some o) : Ext K ρ H ρ H' := by
  have := Ext.growM (K := K) (ρ := ρ) (more := []) g (by simp)
  rw [List.append_nil] at this
  exact this
theorem HR.grow {K : FW} {ρ : List Addr} {h : Hea} {H H' : Hp} (r : HR K ρ h H) (g : ∀ b o, H b = some o → H' b = some o) : HR K ρ h H' := by
  have keep : ∀ a, H a ≠ none → H' a = H a := fun a n => by
    cases e : H a with
    | none => exact absurd e n
    | some o => exact g _ _ e
  exact ⟨r.len, r.nd, fun i a q => by rw [keep a (r.tr i a q)]; exact r.tr i a q, fun i o q => by
    obtain ⟨a, h1, h2⟩ := r.ob i o q
    exact ⟨a, h1, h2.ext (Ext.grow g) (keep a (r.tr i a h1))⟩⟩
/-- a new object of ours that stands already -/
theorem HR.pushIn {K : FW} {ρ : List Addr} {h : Hea} {H H' : Hp} {p : Addr} {ob : Ob} (r : HR K ρ h H) (g : ∀ b o, H b = some o → H' b = some o) (n : H p = none) (e : H' p ≠ none) (q : RO K (ρ ++ [p]) H' p ob) : HR K (ρ ++ [p]) (h.push ob) H' := by
  have r' := r.grow g
  have x : Ext K ρ H (ρ ++ [p]) H' := Ext.growM g fun a h => by rw [List.mem_singleton.mp h]; exact n
  have keep : ∀ a, H a ≠ none → H' a = H a := fun a n => by
    cases e : H a with
    | none => exact absurd e n
    | some o => exact g _ _ e
  refine ⟨?_, ?_, fun i a e' => ?_, fun i ob' e' => ?_⟩
  · rw [List.length_append, r.len]; rfl
  · rw [List.nodup_append]
    refine ⟨r.nd, by simp, fun a ha b hb e => ?_⟩
    simp at hb
    obtain ⟨i, hi⟩ := List.getElem?_of_mem ha
    exact r.tr i a hi (by rw [e, hb]; exact n)
  · by_cases hi : i < ρ.length
    · rw [List.getElem?_append_left hi] at e'
      exact r'.tr i a e'
    · rw [List.getElem?_append_right (by omega)] at e'
      have := List.mem_of_getElem? e'
      simp at this
      subst this
      exact e
  · rcases Hea.get_push_inv e' with ⟨e1, e2⟩ | e'
    · subst e1 e2
      exact ⟨p, by rw [← r.len, List.getElem?_append_right (Nat.le_refl _)]; simp, q⟩
    · obtain ⟨a, h1, h2⟩ := r.ob i ob' e'
      exact ⟨a, x.at h1, h2.ext x (keep a (r.tr i a h1))⟩
def vDictOf (a : Va) : M Va := fun h => match a with
  | .ref i => match h.get i with
    | some (.dic kvs) => .ok (.ref h.n) (h.push (.dic kvs))
    | some (.dlk kvs) => .ok (.ref h.n) (h.push (.dic kvs))
    | _ => .no
  | _ => .no
section
variable {X : Cx} {W : XW}
theorem cr_dictOf : CallR X (.type "dict") (rMC X.fw W (fn1 vDictOf)) := by
  intro pins s σ H us vs Q I rel ⟨ρ, h, xs, q, rs, sa⟩
  match xs, rs with
  | [a], ⟨u, t, e1, ra, e2⟩ =>
    cases e2
    subst e1
    have sb : sat X.fw W ρ H (vDictOf a h) (rv X.fw Q) := sa
    obtain ⟨v, rfl, rv⟩ := vals1 rel
    have fin : ∀ (kvs : List (Ke × Va)) (p : Addr) (ws : List (Key × V)), u = .ref p → Rd H p (.dK ws) → RKV X.fw ρ H kvs ws → sat X.fw W ρ H (.ok (.ref h.n) (h.push (.dic kvs))) (Rf.rv X.fw Q) → wpAny (model X.prog X.w) X.A (call (.type "dict") [v]) (EP X pins σ Q) X.xe s := by
      intro kvs p ws eu hr r s2
      subst eu
      cases rv
      refine d_copyOf I hr fun d s' n I' => ⟨.ref d, _, I', rfl, ?_⟩
      exact s2 (ρ ++ [d]) _ (Ext.newAt n) (q.push n ⟨ws, upd_same, Paired.mapQ r fun _ _ z => ⟨z.1, RV.ext (Ext.newAt n) _ z.2⟩⟩) (.ref d) ⟨d, rfl, q.atN⟩
    cases a with
    | ref i =>
      cases g : h.get i with
      | none => simp only [vDictOf, g] at sb; exact False.elim sb
      | some o =>
        cases o with
        | dic kvs =>
          simp only [vDictOf, g] at sb
          obtain ⟨p, eu, hp, ws, h1, h2⟩ := q.at_ref ra g
          exact fin kvs p ws eu (.inl h1) h2 sb
        | dlk kvs =>
          simp only [vDictOf, g] at sb
          obtain ⟨p, eu, hp, oo, ws, h1, h2⟩ := q.at_ref ra g
          exact fin kvs p ws eu (.inr ⟨oo, h1⟩) h2 sb
        | _ => simp only [vDictOf, g] at sb; exact False.elim sb
    | _ => exact False.elim sb
  | [], _ => exact False.elim sa
  | _ :: _ :: _, _ => exact False.elim sa
variable {e : Expr} {E : Ex} {p pos apos cpos : Pos}
theorem ex_dictOf (hg : Gl X "dict") (hm : X.mg "dict" = none) (ha : EX W X e E) (hs : starEach [e] X.env = (false, eval e X.env) :: starEach [] X.env := by rfl) : EX W X (.Call (.Name "dict" p) [e] [] pos) (callE (fn1 vDictOf) (aCons E aNil)) :=
  ex_callTy (cr_dictOf (W := W)) s_rMC hg hm (by decide +kernel) (ax_cons ha ax_nil hs) (by decide) (by decide) hs
/-- list(d.items()) -/
def liE (E : Ex) : Ex := fun l h => (E l h).bind fun a h1 => match a with
  | .ref i => match h1.get i with
    | some (.dic kvs) => .ok (.ref h1.n) (h1.push (.lst (itemsV kvs)))
    | _ => .no
  | _ => .no
theorem items_rel {K : FW} {ρ : List Addr} {H' : Hp} : ∀ {kvs : List (Ke × Va)} {ws : List (Key × V)} {ts : List Addr}, RKV K ρ H' kvs ws → Paired (fun (t : Addr) (q : Key × V) => H' t = some (.tup [kV q.1, q.2])) ts ws → RVs K ρ H' (itemsV kvs) (ts.map V.ref)
  | [], _, _, .nil, .nil => rfl
  | p :: r, _, _, .cons (b := q) z y, .cons (a := t) f g => ⟨_, _, rfl, ⟨t, _, rfl, SqT.of f, _, _, rfl, by rw [z.1]; exact kv_va p.1, _, _, rfl, z.2, rfl⟩, items_rel y g⟩
theorem ex_listItems (hc : X.calm = true) (hg : Gl X "list") (hm : X.mg "list" = none) (he : EX W X e E) (hbase : attributeBase e "items" X.env (eval e X.env) = eval e X.env := by rfl) (hline : (apos.endLine == cpos.line) = true := by rfl)
    (hs : starEach [.Call (.Attribute e "items" apos) [] [] cpos] X.env = (false, eval (.Call (.Attribute e "items" apos) [] [] cpos) X.env) :: starEach [] X.env := by rfl) :
    EX W X (.Call (.Name "list" p) [.Call (.Attribute e "items" apos) [] [] cpos] [] pos) (liE E) :=
  ⟨PE.weak (LiI.pe_listItems hc he.pe hg hm (by decide +kernel) hbase hline hs) fun σ H Q ⟨ρ, l, h, L, q, s⟩ => tE.go L q s fun a h1 ρ1 H1 x e1 L1 q1 rx s1 => by
    cases a with
    | ref i =>
      cases g : h1.get i with
      | none => simp only [g] at s1; exact False.elim s1
      | some o =>
        cases o with
        | dic kvs =>
          simp only [g] at s1
          obtain ⟨d, rfl, hd, ws, hH, hr⟩ := q1.at_ref rx g
          refine ⟨d, ws, rfl, hH, fun H' p ts kp np nt nm hp pr => ?_⟩
          have hr' : RKV X.fw (ρ1 ++ [p]) H' kvs ws := Paired.mapQ hr fun _ _ z => ⟨z.1, RV.ext (Ext.growM kp (fun a h => by rw [List.mem_singleton.mp h]; exact np)) _ z.2⟩
          exact s1 (ρ1 ++ [p]) H' (Ext.growM kp (fun a h => by rw [List.mem_singleton.mp h]; exact np)) (q1.pushIn kp np (by rw [hp]; simp) ⟨_, hp, items_rel hr' pr⟩) (.ref p) ⟨p, rfl, q1.atN⟩
        | _ => simp only [g] at s1; exact False.elim s1
    | _ => exact False.elim s1⟩
end
end Rf

/-! Rf: every second sign of a text. -/
namespace Rf
open PySem PySem.Spec PyProof.Rows L2
def step2 (z : List Nat) : List Nat := (Builtin.Str.strSliceIndices none none 2 z.length).filterMap (z[·]?)
def vStep2 (a : Va) : M Va := fun h => match a with
  | .str z => if (step2 z).length ≤ sLine then .ok (.str (step2 z)) h else .no
  | _ => .no
section
variable {W : XW} {X : Cx} {a : Expr} {A : Ex} {pos : Pos}
theorem ex_step2 {k : Nat} {p1 p3 : Pos} (ha : EX W X a A) : EX W X (.Subscript a (.Slice none none (some (.Constant (.int 2) k p1)) p3) pos) (op1 vStep2 A) := by
  refine ⟨⟨fun pins s σ H Q I hh => ?_⟩⟩
  refine Subscript_ (thn (ha.pe.run pins s σ H (fun x H1 => ∃ ρ h z, HR X.fw ρ h H1 ∧ x = .str ⟨z.toArray⟩ ∧ (step2 z).length ≤ sLine ∧ Q (.str ⟨(step2 z).toArray⟩) H1) I ?_) fun v s1 ⟨x, H1, I1, r1, ρ, h, z, q1, ex, hz, hq⟩ => ?_)
  · obtain ⟨ρ, l, h, L, q, sa⟩ := hh
    refine tE.go L q sa fun a h1 ρ1 H1 x e1 L1 q1 rx s1 => ?_
    cases a with
    | str z =>
      cases rx
      have s2 : sat X.fw W ρ1 H1 (if (step2 z).length ≤ sLine then .ok (.str (step2 z)) h1 else .no) (rv X.fw Q) := s1
      by_cases hz : (step2 z).length ≤ sLine
      · rw [if_pos hz] at s2; exact ⟨ρ1, h1, z, q1, rfl, hz, s2.val q1 rfl⟩
      · rw [if_neg hz] at s2; exact False.elim s2
    | _ => exact False.elim s1
  · subst ex
    obtain ⟨t, rfl⟩ := r1
    have hst : PO X (some (.Constant (.int 2) k p1)) (tPart (tC (.int 2))) := po_some pe_int
    refine wpAny_Slice (thn (po_none.run pins s1 σ H1 (fun o H2 => o = none ∧ H2 = H1) I1 ⟨rfl, rfl⟩) fun vl s2 ⟨l, H2, I2, pl, el, e2⟩ => ?_)
    subst el e2
    refine thn (po_none.run pins s2 σ H2 (fun o H3 => o = none ∧ H3 = H2) I2 ⟨rfl, rfl⟩) fun vu s3 ⟨u, H3, I3, pu, eu, e3⟩ => ?_
    subst eu e3
    refine thn (hst.run pins s3 σ H3 (fun o H4 => o = some 2 ∧ H4 = H3) I3 ⟨2, rfl, rfl, rfl⟩) fun vs s4 ⟨o, H4, I4, ps, eo, e4⟩ => ?_
    subst eo e4
    have I5 : L2.Inv X pins σ H4 { s4 with heap := s4.heap.push { cls := .type "slice", data := .fields #[vl, vu, vs] } } := I4.kept (t' := s4.toks) fun b ob q => Heap.get?_push_of_some _ q
    show wpAny (model X.prog X.w) X.A (subscriptTail a (.Slice none none (some (.Constant (.int 2) k p1)) p3) (.str ⟨z.toArray⟩ t) (.ref s4.heap.objs.size)) (EP X pins σ Q) X.xe { s4 with heap := s4.heap.push { cls := .type "slice", data := .fields #[vl, vu, vs] } }
    refine tail_any (ops := [.ref s4.heap.objs.size, .str ⟨z.toArray⟩ t]) (typeIs_str _ _ t) F.slot_str_getitem.lookup ?_ (by with_unfolding_all rfl)
    obtain ⟨l', rfl, e1⟩ := IsPart.raw pl
    obtain ⟨u', rfl, e2⟩ := IsPart.raw pu
    obtain ⟨st', rfl, e3⟩ := IsPart.raw ps
    have l0 : l' = none := by cases l' with | none => rfl | some _ => cases e1
    have u0 : u' = none := by cases u' with | none => rfl | some _ => cases e2
    subst l0 u0
    obtain ⟨i, ti, rfl⟩ : ∃ i ti, st' = some (i, ti) := by
      cases st' with
      | none => cases e3
      | some pr => exact ⟨pr.1, pr.2, rfl⟩
    have ei : i = 2 := by simpa using e3
    subst ei
    refine wpAny_getItem_str_slice (l := none) (u := none) (st := some (2, ti)) ⟨_, Heap.get?_push_size _ rfl, rfl, rfl⟩ rfl ?_
    have e4 : sliceMade ⟨z.toArray⟩ t none none (some (2, ti)) = .str ⟨(step2 z).toArray⟩ := by
      unfold sliceMade slicePicked step2
      simp only [Option.map_none, Option.map_some, Option.getD_some]
      rw [if_neg (by simp)]
      have el : (⟨z.toArray⟩ : Str).length = z.length := by show z.toArray.size = _; simp
      rw [el]
      congr 2
      congr 1
      simp
    rw [e4]
    refine ⟨?_, .str _, H4, I5.tok _, ⟨_, rfl⟩, hq⟩
    show ((step2 z).toArray).size ≤ sizeLine
    rw [← sLine_eq]
    simpa using hz
end
end Rf

/-! Rf: calls in frames of their own; lists and dicts that stand still. -/
namespace Rf
open PySem PySem.Spec PyProof.Rows L2

/-! ### values without dicts that stand still -/
mutual
def noFd : Va → Bool
  | .tup xs => noFds xs
  | .fl xs => noFds xs
  | .pr xs => noFds xs
  | .sl xs => noFds xs
  | .fd _ _ => false
  | _ => true
def noFds : List Va → Bool
  | [] => true
  | x :: r => match noFd x with
    | true => noFds r
    | false => false
end
theorem noFds_cons {x : Va} {r : List Va} (h : noFds (x :: r) = true) : noFd x = true ∧ noFds r = true := by
  unfold noFds at h
  cases e : noFd x with
  | true => rw [e] at h; exact ⟨rfl, h⟩
  | false => rw [e] at h; cases h
/-- no locked dict in a heap of which all is known -/
def noLk : List Ob → Bool
  | [] => true
  | .dlk _ :: _ => false
  | _ :: r => noLk r
def noLock (h : Hea) : Bool := match Nat.beq h.l.length h.n with
  | true => noLk h.l
  | false => false
section
variable {K : FW} {ρ ρ' : List Addr} {H H' : Hp} {h : Hea}
mutual
theorem RV.unf (f : ∀ a o ws, H a = some (.frz o (.dK ws)) → a ∉ ρ) : ∀ (v : Va) {u : V}, RV K [] H v u → RV K ρ H v u
  | .non, _, r => r
  | .bl _, _, r => r
  | .int _, _, r => r
  | .str _, _, r => r
  | .tup xs, _, ⟨a, us, e, q, r⟩ => ⟨a, us, e, q, RVs.unf f xs r⟩
  | .fl xs, _, ⟨a, us, e, q, r⟩ => ⟨a, us, e, q, RVs.unf f xs r⟩
  | .sl xs, _, ⟨a, us, e, q, r⟩ => ⟨a, us, e, q, RVs.unf f xs r⟩
  | .pr xs, _, ⟨a, us, e, q, r⟩ => ⟨a, us, e, q, RVs.unf f xs r⟩
  | .ref i, _, ⟨a, e, q⟩ => by simp at q
  | .fd ks vs, _, ⟨a, o, ws, e, q, k, r⟩ => ⟨a, o, ws, e, ⟨f a o ws q.2, q.2⟩, k, RVs.unf f vs r⟩
theorem RVs.unf (f : ∀ a o ws, H a = some (.frz o (.dK ws)) → a ∉ ρ) : ∀ (xs : List Va) {us : List V}, RVs K [] H xs us → RVs K ρ H xs us
  | [], _, r => r
  | x :: xs, _, ⟨u, w, e, r1, r2⟩ => ⟨u, w, e, RV.unf f x r1, RVs.unf f xs r2⟩
end
mutual
theorem RV.unfN : ∀ (v : Va) {u : V}, noFd v = true → RV K [] H v u → RV K ρ H v u
  | .non, _, _, r => r
  | .bl _, _, _, r => r
  | .int _, _, _, r => r
  | .str _, _, _, r => r
  | .tup xs, _, n, ⟨a, us, e, q, r⟩ => ⟨a, us, e, q, RVs.unfN xs (by unfold noFd at n; exact n) r⟩
  | .fl xs, _, n, ⟨a, us, e, q, r⟩ => ⟨a, us, e, q, RVs.unfN xs (by unfold noFd at n; exact n) r⟩
  | .sl xs, _, n, ⟨a, us, e, q, r⟩ => ⟨a, us, e, q, RVs.unfN xs (by unfold noFd at n; exact n) r⟩
  | .pr xs, _, n, ⟨a, us, e, q, r⟩ => ⟨a, us, e, q, RVs.unfN xs (by unfold noFd at n; exact n) r⟩
  | .ref i, _, _, ⟨a, e, q⟩ => by simp at q
  | .fd ks vs, _, n, _ => by unfold noFd at n; cases n
theorem RVs.unfN : ∀ (xs : List Va) {us : List V}, noFds xs = true → RVs K [] H xs us → RVs K ρ H xs us
  | [], _, _, r => r
  | x :: xs, _, n, ⟨u, w, e, r1, r2⟩ => ⟨u, w, e, RV.unfN x (noFds_cons n).1 r1, RVs.unfN xs (noFds_cons n).2 r2⟩
end
theorem RV.frm {v : Va} {u : V} (o : okV 0 v = true) (r : RV K ρ H v u) : RV K [] H v u := RV.cut (ρ := []) (more := ρ) rfl v o r
theorem RVs.frm {xs : List Va} {us : List V} (o : okVs 0 xs = true) (r : RVs K ρ H xs us) : RVs K [] H xs us := RVs.cut (ρ := []) (more := ρ) rfl xs o r
theorem Ext.unf {more : List Addr} (e : Ext K [] H more H') (ρ : List Addr) : Ext K ρ H ρ H' :=
  ⟨⟨[], by simp, by simp⟩, e.tup, e.fz, e.nod, e.there, fun a h _ => e.keep a h (by simp)⟩
theorem HR.unf {more : List Addr} (e : Ext K [] H more H') (q : HR K ρ h H) : HR K ρ h H' := by
  have k : ∀ a, H a ≠ none → H' a = H a := fun a n => e.keep a n (by simp)
  refine ⟨q.len, q.nd, fun i a g => ?_, fun i o g => ?_⟩
  · rw [k a (q.tr i a g)]; exact q.tr i a g
  · obtain ⟨a, h1, h2⟩ := q.ob i o g
    exact ⟨a, h1, h2.ext (e.unf ρ) (k a (q.tr i a h1))⟩
theorem HR.empty : HR K [] ⟨0, []⟩ H := ⟨rfl, List.nodup_nil, fun i a e => by simp at e, fun i o e => absurd (Hea.get_lt e) (Nat.not_lt_zero _)⟩
theorem noLk_get : ∀ {l : List Ob} {o : Ob} {i : Nat}, noLk l = true → l[i]? = some o → ∀ kvs, o ≠ .dlk kvs
  | [], _, _, _, e, _ => by simp at e
  | x :: r, o, 0, n, e, kvs => by
    simp at e
    subst e
    intro z
    subst z
    unfold noLk at n
    cases n
  | x :: r, o, i + 1, n, e, kvs => by
    refine noLk_get (l := r) (i := i) ?_ (by simpa using e) kvs
    cases x <;> first | exact n | (unfold noLk at n; cases n)
theorem noLock_out (n : noLock h = true) (q : HR K ρ h H) : ∀ a o ws, H a = some (.frz o (.dK ws)) → a ∉ ρ := by
  intro a o ws e hm
  unfold noLock at n
  cases en : Nat.beq h.l.length h.n with
  | false => rw [en] at n; cases n
  | true =>
    rw [en] at n
    have hl : h.l.length = h.n := Nat.eq_of_beq_eq_true en
    obtain ⟨i, hi⟩ := List.getElem?_of_mem hm
    have hlt : i < h.n := by rw [← q.len]; exact (List.getElem?_eq_some_iff.mp hi).1
    have hlt2 : h.n - 1 - i < h.l.length := by omega
    have g : h.get i = some h.l[h.n - 1 - i] := by
      unfold Hea.get
      rw [if_pos hlt]
      exact List.getElem?_eq_getElem hlt2
    obtain ⟨b, hb, ro⟩ := q.ob i _ g
    have eb : b = a := by rw [hi] at hb; exact (Option.some.inj hb).symm
    subst eb
    have nl := noLk_get (i := h.n - 1 - i) n (List.getElem?_eq_getElem hlt2)
    cases eo : h.l[h.n - 1 - i] with
    | lst xs => rw [eo] at ro; obtain ⟨us, z, _⟩ := ro; rw [e] at z; cases z
    | dic kvs => rw [eo] at ro; obtain ⟨us, z, _⟩ := ro; rw [e] at z; cases z
    | dlk kvs => exact nl kvs eo
    | dit kvs => rw [eo] at ro; obtain ⟨us, z, _⟩ := ro; rw [e] at z; cases z
    | st ns => rw [eo] at ro; obtain ⟨us, z⟩ := ro; rw [e] at z; cases z
end

/-! ### to freeze what stands at our places -/
def LkQ (Q : VK) : List Addr → VK
  | [], v, H => Q v H
  | a :: r, v, H => (∃ u, H a = some u ∧ Mut (some u) ∧ ∀ od, LkQ Q r v (upd H a (.frz od u))) ∨ LkQ Q r v H
theorem pe_lk {X : Cx} {e : Expr} {t : TE} (h : PE X e t) : PE X e (fun σ H Q => t σ H fun v H' => ∃ as, LkQ Q as v H') := by
  refine ⟨fun pins s σ H Q I q => thn (h.run pins s σ H _ I q) fun u s1 ⟨v, H1, I1, r, as, q1⟩ => ?_⟩
  induction as generalizing H1 with
  | nil => exact ⟨v, H1, I1, r, q1⟩
  | cons a as ih =>
    rcases q1 with ⟨u', hu, mu, q1⟩ | q1
    · obtain ⟨od, I2⟩ := I1.lock hu mu
      exact ih _ I2 (q1 od)
    · exact ih _ I1 q1
/-- all that could be changed at our places stands still -/
structure Fzd (K : FW) (ρ : List Addr) (H Hs : Hp) : Prop where
  ext : Ext K ρ H ρ Hs
  fz : ∀ a, a ∈ ρ → ∀ u, H a = some u → Mut (some u) → ∃ od, Hs a = some (.frz od u)
theorem lkq_of {K : FW} {ρ : List Addr} {H : Hp} {Q : VK} {v : V} (k : ∀ Hs, Fzd K ρ H Hs → Q v Hs) : ∀ (as : List Addr) (Hc : Hp), as.Nodup → (∀ a ∈ as, a ∈ ρ) → (∀ a ∈ as, Hc a = H a) → Ext K ρ H ρ Hc → (∀ a, a ∈ ρ → a ∉ as → ∀ u, H a = some u → Mut (some u) → ∃ od, Hc a = some (.frz od u)) → LkQ Q as v Hc
  | [], Hc, _, _, _, e, f => k Hc ⟨e, fun a h => f a h (by simp)⟩
  | a :: as, Hc, nd, hm, hk, e, f => by
    have nd' := List.nodup_cons.mp nd
    by_cases z : ∃ u, H a = some u ∧ Mut (some u)
    · obtain ⟨u, hu, mu⟩ := z
      have hca := hk a List.mem_cons_self
      refine .inl ⟨u, hca.trans hu, mu, fun od => ?_⟩
      refine lkq_of k as _ nd'.2 (fun b hb => hm b (List.mem_cons_of_mem _ hb)) (fun b hb => ?_) (e.trans (Ext.writeM (hm a List.mem_cons_self) (by rw [hca, hu]; exact mu))) fun b hb hn w hw mw => ?_
      · rw [upd_ne (fun z => nd'.1 (by rw [← z]; exact hb))]; exact hk b (List.mem_cons_of_mem _ hb)
      · by_cases eb : b = a
        · subst eb
          rw [hu] at hw
          cases hw
          exact ⟨od, upd_same⟩
        · obtain ⟨od', q⟩ := f b hb (by simp [eb, hn]) w hw mw
          exact ⟨od', by rw [upd_ne eb]; exact q⟩
    · refine .inr (lkq_of k as _ nd'.2 (fun b hb => hm b (List.mem_cons_of_mem _ hb)) (fun b hb => hk b (List.mem_cons_of_mem _ hb)) e fun b hb hn w hw mw => ?_)
      by_cases eb : b = a
      · subst eb; exact absurd ⟨w, hw, mw⟩ z
      · exact f b hb (by simp [eb, hn]) w hw mw
theorem lkq {K : FW} {ρ : List Addr} {H : Hp} {h : Hea} {Q : VK} {v : V} (q : HR K ρ h H) (k : ∀ Hs, Fzd K ρ H Hs → Q v Hs) : ∃ as, LkQ Q as v H :=
  ⟨ρ, lkq_of k ρ H q.nd (fun _ h => h) (fun _ _ => rfl) Ext.refl fun a h n => absurd h n⟩
def mapO (f : Va → Option Va) : List Va → Option (List Va)
  | [] => some []
  | x :: r => match f x with
    | some y => match mapO f r with
      | some s => some (y :: s)
      | none => none
    | none => none
/-- the value that is left when all stands still -/
def fzV (h : Hea) : Nat → Va → Option Va
  | 0, _ => none
  | n + 1, v => match v with
    | .ref i => match h.get i with
      | some (.lst xs) => match mapO (fzV h n) xs with
        | some ys => some (.fl ys)
        | none => none
      | some (.dic kvs) => match mapO (fzV h n) (kvs.map (·.2)) with
        | some ys => some (.fd (kvs.map (·.1)) ys)
        | none => none
      | _ => none
    | .tup xs => match mapO (fzV h n) xs with
      | some ys => some (.tup ys)
      | none => none
    | .fl xs => match mapO (fzV h n) xs with
      | some ys => some (.fl ys)
      | none => none
    | .fd ks vs => match mapO (fzV h n) vs with
      | some ys => some (.fd ks ys)
      | none => none
    | .pr _ => none
    | .sl _ => none
    | v => some v
def fzR (h : Hea) (v : Va) : Option Va := match okV 0 v with
  | true => some v
  | false => fzV h 20 v
section
variable {K : FW} {ρ : List Addr} {H Hs : Hp} {h : Hea}
theorem mapO_rel {f : Va → Option Va} (hf : ∀ x y u, f x = some y → RV K ρ H x u → RV K [] Hs y u) : ∀ {xs ys : List Va} {us : List V}, mapO f xs = some ys → RVs K ρ H xs us → RVs K [] Hs ys us
  | [], ys, us, e, r => by cases e; exact r
  | x :: xs, ys, us, e, ⟨u, w, e1, r1, r2⟩ => by
    unfold mapO at e
    cases e2 : f x with
    | none => rw [e2] at e; cases e
    | some y =>
      rw [e2] at e
      cases e3 : mapO f xs with
      | none => simp only [e3] at e; cases e
      | some s =>
        simp only [e3] at e
        cases e
        exact ⟨u, w, e1, hf x y u e2 r1, mapO_rel hf e3 r2⟩
theorem rkv_split : ∀ {kvs : List (Ke × Va)} {ws : List (Key × V)}, RKV K ρ H kvs ws → ws.map (·.1) = (kvs.map (·.1)).map Ke.key ∧ RVs K ρ H (kvs.map (·.2)) (ws.map (·.2))
  | _, _, .nil => ⟨rfl, rfl⟩
  | _, _, .cons r t => by
    obtain ⟨h1, h2⟩ := rkv_split t
    exact ⟨by rw [List.map_cons, List.map_cons, List.map_cons, h1, r.1], _, _, rfl, r.2, h2⟩
theorem fzV_ok (q : HR K ρ h H) (f : Fzd K ρ H Hs) : ∀ (n : Nat) (v v' : Va) (u : V), fzV h n v = some v' → RV K ρ H v u → RV K [] Hs v' u
  | 0, _, _, _, e, _ => by cases e
  | n + 1, v, v', u, e, r => by
    unfold fzV at e
    cases v with
    | non => cases e; exact r
    | bl _ => cases e; exact r
    | int _ => cases e; exact r
    | str _ => cases e; exact r
    | pr _ => cases e
    | sl _ => cases e
    | tup xs =>
      simp only at e
      cases e1 : mapO (fzV h n) xs with
      | none => rw [e1] at e; cases e
      | some ys =>
        rw [e1] at e
        cases e
        obtain ⟨a, us, e2, q1, r1⟩ := r
        exact ⟨a, us, e2, ⟨f.ext.tup _ _ q1.1, f.ext.nod _ q1.2⟩, mapO_rel (fun x y u => fzV_ok q f n x y u) e1 r1⟩
    | fl xs =>
      simp only at e
      cases e1 : mapO (fzV h n) xs with
      | none => rw [e1] at e; cases e
      | some ys =>
        rw [e1] at e
        cases e
        obtain ⟨a, us, e2, q1, r1⟩ := r
        exact ⟨a, us, e2, q1.elim (fun o z => ⟨o, f.ext.fz _ _ _ z⟩), mapO_rel (fun x y u => fzV_ok q f n x y u) e1 r1⟩
    | fd ks vs =>
      simp only at e
      cases e1 : mapO (fzV h n) vs with
      | none => rw [e1] at e; cases e
      | some ys =>
        rw [e1] at e
        cases e
        obtain ⟨a, o, ws, e2, q1, k, r1⟩ := r
        exact ⟨a, o, ws, e2, ⟨by simp, f.ext.fz _ _ _ q1.2⟩, k, mapO_rel (fun x y u => fzV_ok q f n x y u) e1 r1⟩
    | ref i =>
      simp only at e
      cases g : h.get i with
      | none => simp only [g] at e; cases e
      | some o =>
        obtain ⟨a, ha, ro⟩ := q.ob i o g
        obtain ⟨a', e2, ha'⟩ := r
        have : a' = a := by rw [ha] at ha'; exact (Option.some.inj ha').symm
        subst this
        have hm := List.mem_of_getElem? ha
        cases o with
        | lst xs =>
          simp only [g] at e
          cases e1 : mapO (fzV h n) xs with
          | none => rw [e1] at e; cases e
          | some ys =>
            rw [e1] at e
            cases e
            obtain ⟨us, h1, h2⟩ := ro
            obtain ⟨od, h3⟩ := f.fz a' hm _ h1 trivial
            exact ⟨a', us, e2, ⟨od, h3⟩, mapO_rel (fun x y u => fzV_ok q f n x y u) e1 h2⟩
        | dic kvs =>
          simp only [g] at e
          cases e1 : mapO (fzV h n) (kvs.map (·.2)) with
          | none => rw [e1] at e; cases e
          | some ys =>
            rw [e1] at e
            cases e
            obtain ⟨ws, h1, h2⟩ := ro
            obtain ⟨od, h3⟩ := f.fz a' hm _ h1 trivial
            obtain ⟨h4, h5⟩ := rkv_split h2
            exact ⟨a', od, ws, e2, ⟨by simp, h3⟩, h4, mapO_rel (fun x y u => fzV_ok q f n x y u) e1 h5⟩
        | _ => simp only [g] at e; cases e
theorem fzR_ok (q : HR K ρ h H) (f : Fzd K ρ H Hs) {v v' : Va} {u : V} (e : fzR h v = some v') (r : RV K ρ H v u) : RV K [] Hs v' u := by
  unfold fzR at e
  cases o : okV 0 v with
  | true =>
    rw [o] at e
    cases e
    have x := f.ext
    exact RV.ext0 (ρ1 := []) (K := K) (ρ := []) ⟨⟨[], by simp, by simp⟩, fun _ _ _ _ h => x.fz _ _ _ h, x.tup, fun _ _ _ h => x.fz _ _ _ h, x.nod⟩ _ (r.frm o)
  | false => rw [o] at e; exact fzV_ok q f 20 v v' u e r
end
/-! ### calls in frames of their own -/
def frm (m : Fn) (xs : List Va) (h : Hea) : Rs Va := match okVs 0 xs with
  | true => match m xs ⟨0, []⟩ with
    | .ok v h' => match fzR h' v with
      | some v' => match noFd v' with
        | true => .ok v' h
        | false => match noLock h with
          | true => .ok v' h
          | false => .no
      | none => .no
    | _ => .no
  | false => .no
def callG (n : Nat) (m : Fn) (B : Ax) : Ex := fun l h => (B l h).bind fun xs h1 => if xs.length = n then frm m xs h1 else .no
def callGK (n j : Nat) (perm : List Nat) (m : Fn) (B C : Ax) : Ex := fun l h => (B l h).bind fun xs h1 => (C l h1).bind fun ys h2 => if xs.length = j then (if ys.length = perm.length then (if (xs ++ pick perm ys).length = n then frm m (xs ++ pick perm ys) h2 else .no) else .no) else .no
section
variable {K : FW} {W : XW} {ρ : List Addr} {H : Hp} {h : Hea} {m : Fn} {xs : List Va} {vs : List V} {Q : VK}
theorem frm_go (q : HR K ρ h H) (rs : RVs K ρ H xs vs) (s : sat K W ρ H (frm m xs h) (rv K Q)) : RVs K [] H xs vs ∧ sat K XF [] H (m xs ⟨0, []⟩) (rv K fun v H' => ∃ as, LkQ Q as v H') := by
  unfold frm at s
  cases o : okVs 0 xs with
  | false => rw [o] at s; exact False.elim s
  | true =>
    rw [o] at s
    refine ⟨rs.frm o, ?_⟩
    cases e : m xs ⟨0, []⟩ with
    | no => simp only [e] at s; exact False.elim s
    | err c v h' => simp only [e] at s; exact False.elim s
    | ok v h' =>
      simp only [e] at s
      refine fun ρ' H' e' q' u ru => lkq q' fun Hs f => ?_
      cases e2 : fzR h' v with
      | none => simp only [e2] at s; exact False.elim s
      | some v' =>
        simp only [e2] at s
        have rv' := fzR_ok q' f e2 ru
        have ex : Ext K [] H ρ' Hs := e'.trans f.ext
        have qs : HR K ρ h Hs := HR.unf ex q
        cases n : noFd v' with
        | true =>
          rw [n] at s
          exact s ρ Hs (ex.unf ρ) qs u (RV.unfN v' n rv')
        | false =>
          rw [n] at s
          cases n2 : noLock h with
          | false => rw [n2] at s; exact False.elim s
          | true =>
            rw [n2] at s
            exact s ρ Hs (ex.unf ρ) qs u (RV.unf (noLock_out n2 qs) v' rv')
end
section
variable {X : Cx} {x : Str} {p pos : Pos} {st : Stmt} {ps ks : List Str} {k : Nat} {m : Fn} {e : Expr} {es : List Expr} {kws : List Keyword} {B : Ax}
theorem ex_callG {W : XW} (c : Callee X.prog X.w X.fw X.mg X.base x st ps k m) (hr : Room k X.A) (hg : Gl X x) (ha : AX W X (e :: es) B) {n : Nat} (hn : ps.length = n := by rfl) (hdb : (x == ("__debug__" : Str)) = false := by decide)
    (he : starEach (e :: es) X.env = (false, eval e X.env) :: starEach es X.env := by rfl) (hpl : (backTo pos (starEach es X.env)).any (·.1) = false := by rfl) : EX W X (.Call (.Name x p) (e :: es) [] pos) (callG n m B) := by
  subst hn
  obtain ⟨f, fd, hm, F, Fu⟩ := c.ex
  refine ⟨PE.weak (pe_lk (pe_call F hr hg hm Fu.kp (Fu.binds c.bind) .nil pass0 ha.pa hdb he hpl)) fun σ H Q ⟨ρ, l, h, L, q, s⟩ => tA.go L q s fun xs h1 ρ1 H1 us e1 L1 q1 rs s1 => ?_⟩
  by_cases hz : xs.length = ps.length
  · rw [if_pos hz] at s1
    obtain ⟨r1, s2⟩ := frm_go q1 rs s1
    exact ⟨[], ⟨0, []⟩, xs, HR.empty, by rw [List.append_nil]; exact r1, hz, s2⟩
  · rw [if_neg hz] at s1; exact False.elim s1
theorem callGK_go {W : XW} {H : Hp} {Q : VK} {K : FW} {n j : Nat} {perm : List Nat} {ρ : List Addr} {h2 : Hea} {xs ys : List Va} {vs zs : List V} (q : HR K ρ h2 H) (rx : RVs K ρ H xs vs) (ry : RVs K ρ H ys zs)
    (s : sat K W ρ H (if xs.length = j then (if ys.length = perm.length then (if (xs ++ pick perm ys).length = n then frm m (xs ++ pick perm ys) h2 else .no) else .no) else .no) (rv K Q)) : vs.length = j ∧ zs.length = perm.length ∧ spM K n m (vs ++ pick perm zs) H (fun v H' => ∃ as, LkQ Q as v H') E0 := by
  by_cases h1 : xs.length = j
  · rw [if_pos h1] at s
    by_cases h3 : ys.length = perm.length
    · rw [if_pos h3] at s
      by_cases h4 : (xs ++ pick perm ys).length = n
      · rw [if_pos h4] at s
        obtain ⟨r1, s2⟩ := frm_go q (rx.append (ry.pick perm)) s
        exact ⟨rx.length.symm.trans h1, ry.length.symm.trans h3, [], ⟨0, []⟩, xs ++ pick perm ys, HR.empty, r1, h4, s2⟩
      · rw [if_neg h4] at s; exact False.elim s
    · rw [if_neg h3] at s; exact False.elim s
  · rw [if_neg h1] at s; exact False.elim s
theorem ex_callGK0 {W : XW} {C : Ax} (perm : List Nat) (c : Callee X.prog X.w X.fw X.mg X.base x st ps k m) (hr : Room k X.A) (hg : Gl X x) (hkw : KX W X kws C) (hp : ks.length = perm.length)
    (h : ∀ (kV doc pm : Value) (an : Option Addr) (cdv ct : Value) (us ws : List Value), us.length = 0 → ws.length = perm.length → bindArgs (PySem.W.fnOf x x (defArgs st) (defBody st) (defScope st) .none kV doc pm an cdv ct) ⟨us, ks.zip ws⟩ = pure (ps.zip (us ++ pick perm ws)))
    (hall : (backToKw pos (keywordEach kws X.env)).all (·.1.isSome) = true := by rfl) (hks : (backToKw pos (keywordEach kws X.env)).filterMap (·.1) = ks := by rfl) (hdb : (x == ("__debug__" : Str)) = false := by decide)
    (hpl : ((backTo pos (starEach [] X.env)).any (·.1) || (backToKw pos (keywordEach kws X.env)).any (·.1.isNone)) = false := by rfl) {n : Nat} (hn : ps.length = n := by rfl) : EX W X (.Call (.Name x p) [] kws pos) (callGK n 0 perm m aNil C) := by
  subst hn
  obtain ⟨f, fd, hm, F, Fu⟩ := c.ex
  refine ⟨PE.weak (pe_lk (pe_callN0 F hr hg hm Fu.kp (kbn_of Fu hp h) pass0 hkw.pk hall hks hdb hpl)) fun σ H Q ⟨ρ, l, h, L, q, s⟩ => tA.go L q s fun ys h2 ρ2 H2 us e2 L2 q2 ry s2 => ?_⟩
  have := callGK_go q2 (xs := []) (vs := []) rfl ry s2
  exact ⟨rfl, this.2.1.trans hp.symm, this.2.2⟩
theorem ex_callGK {W : XW} {C : Ax} (j : Nat) (perm : List Nat) (c : Callee X.prog X.w X.fw X.mg X.base x st ps k m) (hr : Room k X.A) (hg : Gl X x) (ha : AX W X (e :: es) B) (hkw : KX W X kws C) (hp : ks.length = perm.length)
    (h : ∀ (kV doc pm : Value) (an : Option Addr) (cdv ct : Value) (us ws : List Value), us.length = j → ws.length = perm.length → bindArgs (PySem.W.fnOf x x (defArgs st) (defBody st) (defScope st) .none kV doc pm an cdv ct) ⟨us, ks.zip ws⟩ = pure (ps.zip (us ++ pick perm ws)))
    (hall : (backToKw pos (keywordEach kws X.env)).all (·.1.isSome) = true := by rfl) (hks : (backToKw pos (keywordEach kws X.env)).filterMap (·.1) = ks := by rfl)
    (hdb : (x == ("__debug__" : Str)) = false := by decide) (he : starEach (e :: es) X.env = (false, eval e X.env) :: starEach es X.env := by rfl)
    (hpl : ((backTo pos (starEach (e :: es) X.env)).any (·.1) || (backToKw pos (keywordEach kws X.env)).any (·.1.isNone)) = false := by rfl) {n : Nat} (hn : ps.length = n := by rfl) : EX W X (.Call (.Name x p) (e :: es) kws pos) (callGK n j perm m B C) := by
  subst hn
  obtain ⟨f, fd, hm, F, Fu⟩ := c.ex
  refine ⟨PE.weak (pe_lk (pe_callN F hr hg hm Fu.kp (kbn_of Fu hp h) pass0 ha.pa hkw.pk hall hks hdb he hpl)) fun σ H Q ⟨ρ, l, h, L, q, s⟩ => tA.go L q s fun xs h1 ρ1 H1 vs e1 L1 q1 rx s1 => tA.go L1 q1 s1 fun ys h2 ρ2 H2 us e2 L2 q2 ry s2 => ?_⟩
  have := callGK_go q2 (RVs.ext e2 _ rx) ry s2
  exact ⟨this.1, this.2.1.trans hp.symm, this.2.2⟩
end

/-! ### displays and comprehensions that stand still -/
theorem Ext.over {K : FW} {ρ ρ' : List Addr} {H H' : Hp} {d : Addr} {o : HO} (e : Ext K ρ H ρ' H') (n : H d = none) (mu : Mut (H' d)) : Ext K ρ H ρ' (upd H' d o) :=
  ⟨e.pre, fun a us h => SqT.upd_mut (e.tup a us h) mu, fun a o u h => by rw [upd_ne (fun z => by rw [z, n] at h; cases h)]; exact e.fz a o u h, fun a h => NoD.upd_mut (e.nod a h) mu, fun a h => upd_there a (e.there a h),
    fun a h hn => by rw [upd_ne (fun z => by rw [z, n] at h; exact h rfl)]; exact e.keep a h hn⟩
theorem Ext0.mut {K : FW} {ρ : List Addr} {H : Hp} {d : Addr} {o : HO} (mu : Mut (H d)) : Ext0 K ρ H ρ (upd H d o) :=
  ⟨⟨[], by simp, by simp⟩, fun a o us _ h => by rw [upd_ne (fun z => by rw [z] at h; rw [h] at mu; exact mu)]; exact h, fun _ _ h => SqT.upd_mut h mu, fun a o us h => by rw [upd_ne (fun z => by rw [z] at h; rw [h] at mu; exact mu)]; exact h, fun _ h => NoD.upd_mut h mu⟩
/-- an object that is none of ours is changed -/
theorem HR.other {K : FW} {ρ : List Addr} {h : Hea} {H : Hp} {d : Addr} {o : HO} (r : HR K ρ h H) (mu : Mut (H d)) (hd : d ∉ ρ) : HR K ρ h (upd H d o) := by
  refine ⟨r.len, r.nd, fun i a g => upd_there a (r.tr i a g), fun i ob g => ?_⟩
  obtain ⟨a, h1, h2⟩ := r.ob i ob g
  exact ⟨a, h1, h2.ext0 (Ext0.mut mu) (upd_ne fun z => hd (by rw [← z]; exact List.mem_of_getElem? h1))⟩
def lstF (B : Ax) : Ex := fun l h => (B l h).bind fun xs h1 => if xs.length ≤ sLine then .ok (.fl xs) h1 else .no
section
variable {W : XW} {X : Cx} {es : List Expr} {B : Ax} {pos : Pos}
theorem ex_lstF (ha : AX W X es B) : EX W X (.List es pos) (lstF B) :=
  ⟨PE.weak (pe_lk (pe_lst ha.pa)) fun σ H Q ⟨ρ, l, h, L, q, s⟩ => tA.go L q s fun xs h2 ρ2 H2 us e2 L2 q2 rs s2 => by
    by_cases hz : xs.length ≤ sLine
    · rw [if_pos hz] at s2
      refine ⟨by rw [← rs.length, ← sLine_eq]; exact hz, fun d hd => ⟨[d], .inl ⟨_, upd_same, trivial, fun od => ?_⟩⟩⟩
      have e3 : Ext X.fw ρ2 H2 ρ2 (upd (upd H2 d (.lst us)) d (.frz od (.lst us))) := (Ext.new hd).over hd (by rw [upd_same]; trivial)
      have q3 : HR X.fw ρ2 h2 (upd (upd H2 d (.lst us)) d (.frz od (.lst us))) := (q2.new hd).other (by rw [upd_same]; trivial) fun hm => by
        obtain ⟨i, hi⟩ := List.getElem?_of_mem hm
        exact q2.tr i d hi hd
      exact s2 ρ2 _ e3 q3 (.ref d) ⟨d, us, rfl, ⟨od, upd_same⟩, RVs.ext e3 _ rs⟩
    · rw [if_neg hz] at s2; exact False.elim s2⟩
end

def lcFS (src : Sr) (tg : Tg) (l0 : Lo) (T : Tx) (E : Ex) : Nat → Nat → List Va → M Va
  | 0, _, _, _ => .no
  | f + 1, k, acc, h => match stp h k src with
    | none => .no
    | some none => .ok (.fl acc) h
    | some (some v) => match bnd h tg v with
      | none => .no
      | some ups => (T (setL l0 ups) h).solid.bind fun b h1 => if b = true then (E (setL l0 ups) h1).solid.bind fun y h2 =>
          if acc.length < sLine then lcFS src tg l0 T E f (k + 1) (acc ++ [y]) h2 else .no
        else lcFS src tg l0 T E f (k + 1) acc h1
def lcF (I : Ix) (tg : Tg) (vs : List Nat) (T : Tx) (E : Ex) : Ex := fun l h => (I l h).bind fun src h1 => lcFS src tg (wipeL l vs) T E bigN 0 [] h1
section
variable {K : FW} {W : XW} {tg : Tg} {T : Tx} {E : Ex} {vs : List Nat} {Q : VK}
theorem tE.lcF' {I : Ix} (hsl : (tg.slots.all fun i => vs.contains i) = true) {Q' : VK} {σ : L2.St} {H : Hp} (hQ : ∀ v H', (∃ as, LkQ Q as v H') → Q' v H') : tE K W (lcF I tg vs T E) σ H Q → tLc (tI K W I) (tG K tg) (tT K XF T) (tE K XF E) vs σ H Q' := fun ⟨ρ, l, h, L, q, s⟩ => by
  refine ⟨ρ, l, h, L, q, s.bind.mono fun src h1 ρ1 H1 e1 q1 s1 J C Ti c D nD => ?_⟩
  have L1 := L.ext e1
  have nm : D ∉ ρ1 := fun hm => by
    obtain ⟨i, hi⟩ := List.getElem?_of_mem hm
    exact q1.tr i D hi nD
  refine ⟨fun i m H => ∃ ρ h acc ws, Ext K ρ1 H1 ρ H ∧ D ∉ ρ ∧ H D = some (.lst ws) ∧ RVs K ρ H acc ws ∧ HR K ρ h H ∧ sat K W ρ1 H1 (lcFS src tg (wipeL l vs) T E m i acc h) (rv K Q),
    ⟨bigN, ρ1, h1, [], [], Ext.new nD, nm, upd_same, rfl, q1.new nD, s1⟩, fun i m H ⟨ρ, h, acc, ws, eb, hd, hD, ra, q, s⟩ => ?_⟩
  cases m with
  | zero => exact False.elim s
  | succ m =>
    unfold lcFS at s
    have c : C ρ H := Ti.ext _ _ _ _ c eb
    cases e : stp h i src with
    | none => simp only [e] at s; exact False.elim s
    | some o =>
      cases o with
      | none =>
        simp only [e] at s
        refine .inl ⟨Ti.stop i h ρ H c q e, hQ _ _ ⟨[D], .inl ⟨_, hD, trivial, fun od => ?_⟩⟩⟩
        have mu : Mut (H D) := by rw [hD]; trivial
        exact s ρ _ (eb.over nD mu) (q.other mu hd) (.ref D) ⟨D, ws, rfl, ⟨od, upd_same⟩, RVs.ext0 (Ext0.mut mu) _ ra⟩
      | some v =>
        simp only [e] at s
        obtain ⟨go, y⟩ := Ti.go i h ρ H v c q e
        refine .inr ⟨go, fun H' => ∃ ρ h acc ws, Ext K ρ1 H1 ρ H' ∧ D ∉ ρ ∧ H' D = some (.lst ws) ∧ RVs K ρ H' acc ws ∧ HR K ρ h H' ∧ sat K W ρ1 H1 (lcFS src tg (wipeL l vs) T E m (i + 1) acc h) (rv K Q), fun H' z => ⟨m, Nat.lt_succ_self m, z⟩, fun x H' yx => ?_⟩
        obtain ⟨ex, qx, rx⟩ := y x H' yx
        have nn : H D ≠ none := by rw [hD]; simp
        have hD1 : H' D = some (.lst ws) := (ex.keep D nn hd).trans hD
        have eb1 := eb.trans ex
        cases e2 : bnd h tg v with
        | none => simp only [e2] at s; exact False.elim s
        | some ups =>
          simp only [e2] at s
          refine ⟨ρ, h, v, ups, qx, rx, e2, fun us U => ⟨?_, ?_⟩⟩
          · rw [wipe_setU fun p hp => ?_, wipe_wipe]
            have h3 : us.map (·.1) = tg.slots := (ups_slots U).trans (bnd_slots tg v ups e2)
            have h4 : p.1 ∈ tg.slots := h3 ▸ List.mem_map_of_mem hp
            have h5 := List.all_eq_true.mp hsl p.1 h4
            simpa using h5
          · have L2 : LR K ρ H' (setL (wipeL l vs) ups) (setU (wipe σ vs) us) := ((L1.ext eb1).wp vs).setL U
            cases eT : T (setL (wipeL l vs) ups) h with
            | no => rw [eT] at s; exact False.elim s
            | err c v h' => rw [eT] at s; exact False.elim s
            | ok b h2 =>
              rw [eT] at s
              simp only [Rs.solid, Rs.bind] at s
              refine ⟨ρ, setL (wipeL l vs) ups, h, L2, qx, ?_⟩
              rw [eT]
              refine fun ρ2 H2 e3 q2 => ?_
              have hD2 : H2 D = some (.lst ws) := (e3.keep D (by rw [hD1]; simp) hd).trans hD1
              have hd2 : D ∉ ρ2 := e3.to0.out hd hD1
              have eb2 := eb1.trans e3
              cases b with
              | false =>
                rw [if_neg (by decide)] at s
                exact iteF ⟨ρ2, h2, acc, ws, eb2, hd2, hD2, RVs.ext (ex.trans e3) _ ra, q2, s⟩
              | true =>
                rw [if_pos rfl] at s
                refine iteT ?_
                cases eE : E (setL (wipeL l vs) ups) h2 with
                | no => rw [eE] at s; exact False.elim s
                | err c v h' => rw [eE] at s; exact False.elim s
                | ok y h3 =>
                  rw [eE] at s
                  simp only [Rs.bind] at s
                  refine ⟨ρ2, setL (wipeL l vs) ups, h2, L2.ext e3, q2, ?_⟩
                  rw [eE]
                  refine fun ρ3 H3 e4 q3 u ru => ?_
                  by_cases hz : acc.length < sLine
                  · rw [if_pos hz] at s
                    have hD3 : H3 D = some (.lst ws) := (e4.keep D (by rw [hD2]; simp) hd2).trans hD2
                    have hd3 : D ∉ ρ3 := e4.to0.out hd2 hD2
                    have ra3 := RVs.ext ((ex.trans e3).trans e4) _ ra
                    have mu : Mut (H3 D) := by rw [hD3]; trivial
                    refine ⟨ws, hD3, by rw [← ra3.length, ← sLine_eq]; exact hz, ρ3, h3, acc ++ [y], ws ++ [u], (eb2.trans e4).over nD mu, hd3, upd_same, RVs.ext0 (Ext0.mut mu) _ (ra3.append (RVs.one ru)), q3.other mu hd3, s⟩
                  · rw [if_neg hz] at s; exact False.elim s
end
theorem tE.lcF {K : FW} {W : XW} {tg : Tg} {T : Tx} {E : Ex} {vs : List Nat} {I : Ix} (hsl : (tg.slots.all fun i => vs.contains i) = true) : ∀ σ H Q, tE K W (lcF I tg vs T E) σ H Q → tLc (tI K W I) (tG K tg) (tT K XF T) (tE K XF E) vs σ H (fun v H' => ∃ as, LkQ Q as v H') := fun σ H Q => tE.lcF' hsl fun _ _ h => h
/-- behind a statement -/
def LkN (N : L2.St → Hp → Prop) : List Addr → L2.St → Hp → Prop
  | [], σ, H => N σ H
  | a :: r, σ, H => (∃ u, H a = some u ∧ Mut (some u) ∧ ∀ od, LkN N r σ (upd H a (.frz od u))) ∨ LkN N r σ H
theorem lkn_of {N : L2.St → Hp → Prop} {f : V → L2.St} : ∀ {as : List Addr} {v : V} {H : Hp}, LkQ (fun v H => N (f v) H) as v H → LkN N as (f v) H
  | [], _, _, h => h
  | _ :: _, _, _, .inl ⟨u, h1, h2, h3⟩ => .inl ⟨u, h1, h2, fun od => lkn_of (h3 od)⟩
  | _ :: _, _, _, .inr h => .inr (lkn_of h)
theorem ps_lk {X : Cx} {st : Stmt} {t : TS} (h : PS X st t) : PS X st (fun D σ H => t { D with nx := fun σ' H' => ∃ as, LkN D.nx as σ' H' } σ H) := by
  refine ⟨fun pins s σ H D I q => thn (h.run pins s σ H _ I q) fun f s1 q1 => ?_⟩
  cases f with
  | next =>
    obtain ⟨σ', H1, I1, as, q1⟩ := q1
    induction as generalizing H1 with
    | nil => exact ⟨σ', H1, I1, q1⟩
    | cons a as ih =>
      rcases q1 with ⟨u', hu, mu, q1⟩ | q1
      · obtain ⟨od, I2⟩ := I1.lock hu mu
        exact ih _ I2 (q1 od)
      · exact ih _ I1 q1
  | brk => exact q1
  | cont => exact q1
  | ret u => exact q1
section
variable {W : XW} {X : Cx} {pos : Pos} {elt tgx iter : Expr} {ifs : List Expr} {scope : Scope} {own : List (Str × Nat)} {I : Ix} {tg : Tg} {T : Tx} {E : Ex}
theorem ex_lcF (vs : List Nat) (hv : own.map (·.2) = vs) (hc : X.calm = true) (hN : X.N.Nodup) (hi : IX W X tgx iter I) (ok : BlkOk X.N X.env.scope scope own) (hsl : (tg.slots.all fun i => vs.contains i) = true)
    (hg : ∀ (s : Shared) (H : Hp) (C : Addr) (cl : List (Str × Addr)) (fp : List Addr), GX (X.blk s H scope (compEnvC scope cl C X.env) fp) tgx tg) (ht : ∀ (s : Shared) (H : Hp) (C : Addr) (cl : List (Str × Addr)) (fp : List Addr), TSX (X.blk s H scope (compEnvC scope cl C X.env) fp) ifs T)
    (he : ∀ (s : Shared) (H : Hp) (C : Addr) (cl : List (Str × Addr)) (fp : List Addr), EX XF (X.blk s H scope (compEnvC scope cl C X.env) fp) elt E) (hs : ∀ x, foldedSetIterable iter X.env x = pure x := by intro _; rfl) :
    EX W X (.ListComp elt [⟨tgx, iter, ifs, 0⟩] scope pos) (lcF I tg vs T E) := by
  subst hv
  exact ⟨PE.weak (pe_lk (pe_lc hc hN hi.pi ok (fun s H C cl fp => (hg s H C cl fp).pg) (fun s H C cl fp => (ht s H C cl fp).pt) (fun s H C cl fp => (he s H C cl fp).pe) hs)) (tE.lcF hsl)⟩
theorem sx_setLcF (i : Nat) {y : Str} {py spos : Pos} (vs : List Nat) (hv : own.map (·.2) = vs) (hc : X.calm = true) (hN : X.N.Nodup) (hy : X.N[i]? = some y) (hyl : X.env.scope.names.lookup y = some .local)
    (hsw : swapsWith (.ListComp elt [⟨tgx, iter, ifs, 0⟩] scope pos) (some (.Name y py)) spos.line X.env = pure true) (hi : IX W X tgx iter I) (ok : BlkOk X.N X.env.scope scope own) (hsl : (tg.slots.all fun i => vs.contains i) = true)
    (hg : ∀ (s : Shared) (H : Hp) (C : Addr) (cl : List (Str × Addr)) (fp : List Addr), GX (X.blk s H scope (compEnvC scope cl C X.env) fp) tgx tg) (ht : ∀ (s : Shared) (H : Hp) (C : Addr) (cl : List (Str × Addr)) (fp : List Addr), TSX (X.blk s H scope (compEnvC scope cl C X.env) fp) ifs T)
    (he : ∀ (s : Shared) (H : Hp) (C : Addr) (cl : List (Str × Addr)) (fp : List Addr), EX XF (X.blk s H scope (compEnvC scope cl C X.env) fp) elt E) (hs : ∀ x, foldedSetIterable iter X.env x = pure x := by intro _; rfl) :
    SX W X (.Assign [.Name y py] (.ListComp elt [⟨tgx, iter, ifs, 0⟩] scope pos) spos) (sSet i (lcF I tg vs T E)) := by
  subst hv
  refine ⟨PS.weak (ps_lk (ps_setLc hc hN hy hyl hsw hi.pi ok (fun s H C cl fp => (hg s H C cl fp).pg) (fun s H C cl fp => (ht s H C cl fp).pt) (fun s H C cl fp => (he s H C cl fp).pe) hs)) fun D σ H ⟨ρ, l, h, L, q, s⟩ => tE.lcF' (Q := fun v H1 => D.nx (σ.set i (some v)) H1) hsl (fun v H' ⟨as, z⟩ => ⟨as, lkn_of (f := fun v => σ.set i (some v)) z⟩) ?_⟩
  exact tE.go L q s fun a h1 ρ1 H1 x e1 L1 q1 rx s1 => s1.ok q1 _ (L1.set rx)
end

/-! ### calls that may change what is given: what they made is forgotten -/
def fzVn (n : Nat) (h : Hea) : Nat → Va → Option Va
  | 0, _ => none
  | m + 1, v => match v with
    | .ref i => match Nat.blt i n with
      | true => some (.ref i)
      | false => match h.get i with
        | some (.lst xs) => match mapO (fzVn n h m) xs with
          | some ys => some (.fl ys)
          | none => none
        | some (.dic kvs) => match mapO (fzVn n h m) (kvs.map (·.2)) with
          | some ys => some (.fd (kvs.map (·.1)) ys)
          | none => none
        | _ => none
    | .tup xs => match mapO (fzVn n h m) xs with
      | some ys => some (.tup ys)
      | none => none
    | .fl xs => match mapO (fzVn n h m) xs with
      | some ys => some (.fl ys)
      | none => none
    | .fd ks vs => match mapO (fzVn n h m) vs with
      | some ys => some (.fd ks ys)
      | none => none
    | .pr _ => none
    | .sl _ => none
    | v => some v
def fzT (n : Nat) (h : Hea) (v : Va) : Option Va := match okV n v with
  | true => some v
  | false => fzVn n h 20 v
structure FzT (K : FW) (ρ more : List Addr) (H Hs : Hp) : Prop where
  ext : Ext K (ρ ++ more) H (ρ ++ more) Hs
  fz : ∀ a, a ∈ more → ∀ u, H a = some u → Mut (some u) → ∃ od, Hs a = some (.frz od u)
  old : ∀ a, a ∈ ρ → Hs a = H a
theorem lkt_of {K : FW} {ρ more : List Addr} {H : Hp} {Q : VK} {v : V} (k : ∀ Hs, FzT K ρ more H Hs → Q v Hs) : ∀ (as : List Addr) (Hc : Hp), as.Nodup → (∀ a ∈ as, a ∈ more) → (∀ a ∈ as, a ∉ ρ) → (∀ a ∈ as, Hc a = H a) → Ext K (ρ ++ more) H (ρ ++ more) Hc → (∀ a, a ∈ ρ → Hc a = H a) → (∀ a, a ∈ more → a ∉ as → ∀ u, H a = some u → Mut (some u) → ∃ od, Hc a = some (.frz od u)) → LkQ Q as v Hc
  | [], Hc, _, _, _, _, e, o, f => k Hc ⟨e, fun a h => f a h (by simp), o⟩
  | a :: as, Hc, nd, hm, ho, hk, e, o, f => by
    have nd' := List.nodup_cons.mp nd
    by_cases z : ∃ u, H a = some u ∧ Mut (some u)
    · obtain ⟨u, hu, mu⟩ := z
      have hca := hk a List.mem_cons_self
      refine .inl ⟨u, hca.trans hu, mu, fun od => ?_⟩
      refine lkt_of k as _ nd'.2 (fun b hb => hm b (List.mem_cons_of_mem _ hb)) (fun b hb => ho b (List.mem_cons_of_mem _ hb)) (fun b hb => ?_) (e.trans (Ext.writeM (List.mem_append_right _ (hm a List.mem_cons_self)) (by rw [hca, hu]; exact mu))) (fun b hb => ?_) fun b hb hn w hw mw => ?_
      · rw [upd_ne (fun z => nd'.1 (by rw [← z]; exact hb))]; exact hk b (List.mem_cons_of_mem _ hb)
      · rw [upd_ne (fun z => ho a List.mem_cons_self (by rw [← z]; exact hb))]; exact o b hb
      · by_cases eb : b = a
        · subst eb
          rw [hu] at hw
          cases hw
          exact ⟨od, upd_same⟩
        · obtain ⟨od', q⟩ := f b hb (by simp [eb, hn]) w hw mw
          exact ⟨od', by rw [upd_ne eb]; exact q⟩
    · refine .inr (lkt_of k as _ nd'.2 (fun b hb => hm b (List.mem_cons_of_mem _ hb)) (fun b hb => ho b (List.mem_cons_of_mem _ hb)) (fun b hb => hk b (List.mem_cons_of_mem _ hb)) e o fun b hb hn w hw mw => ?_)
      by_cases eb : b = a
      · subst eb; exact absurd ⟨w, hw, mw⟩ z
      · exact f b hb (by simp [eb, hn]) w hw mw
section
variable {K : FW} {ρ more : List Addr} {H Hs : Hp} {h : Hea} {n : Nat}
theorem mapO_rel2 {f : Va → Option Va} (hf : ∀ x y u, f x = some y → RV K (ρ ++ more) H x u → RV K ρ Hs y u) : ∀ {xs ys : List Va} {us : List V}, mapO f xs = some ys → RVs K (ρ ++ more) H xs us → RVs K ρ Hs ys us
  | [], ys, us, e, r => by cases e; exact r
  | x :: xs, ys, us, e, ⟨u, w, e1, r1, r2⟩ => by
    unfold mapO at e
    cases e2 : f x with
    | none => rw [e2] at e; cases e
    | some y =>
      rw [e2] at e
      cases e3 : mapO f xs with
      | none => simp only [e3] at e; cases e
      | some s =>
        simp only [e3] at e
        cases e
        exact ⟨u, w, e1, hf x y u e2 r1, mapO_rel2 hf e3 r2⟩
theorem fzVn_ok (hn : ρ.length = n) (q : HR K (ρ ++ more) h H) (f : FzT K ρ more H Hs) : ∀ (m : Nat) (v v' : Va) (u : V), fzVn n h m v = some v' → RV K (ρ ++ more) H v u → RV K ρ Hs v' u
  | 0, _, _, _, e, _ => by cases e
  | m + 1, v, v', u, e, r => by
    unfold fzVn at e
    have nd := (List.nodup_append.mp q.nd).2.2
    cases v with
    | non => cases e; exact r
    | bl _ => cases e; exact r
    | int _ => cases e; exact r
    | str _ => cases e; exact r
    | pr _ => cases e
    | sl _ => cases e
    | tup xs =>
      simp only at e
      cases e1 : mapO (fzVn n h m) xs with
      | none => rw [e1] at e; cases e
      | some ys =>
        rw [e1] at e
        cases e
        obtain ⟨a, us, e2, q1, r1⟩ := r
        exact ⟨a, us, e2, ⟨f.ext.tup _ _ q1.1, f.ext.nod _ q1.2⟩, mapO_rel2 (fun x y u => fzVn_ok hn q f m x y u) e1 r1⟩
    | fl xs =>
      simp only at e
      cases e1 : mapO (fzVn n h m) xs with
      | none => rw [e1] at e; cases e
      | some ys =>
        rw [e1] at e
        cases e
        obtain ⟨a, us, e2, q1, r1⟩ := r
        exact ⟨a, us, e2, q1.elim (fun o z => ⟨o, f.ext.fz _ _ _ z⟩), mapO_rel2 (fun x y u => fzVn_ok hn q f m x y u) e1 r1⟩
    | fd ks vs =>
      simp only at e
      cases e1 : mapO (fzVn n h m) vs with
      | none => rw [e1] at e; cases e
      | some ys =>
        rw [e1] at e
        cases e
        obtain ⟨a, o, ws, e2, q1, k, r1⟩ := r
        exact ⟨a, o, ws, e2, ⟨fun z => q1.1 (List.mem_append_left _ z), f.ext.fz _ _ _ q1.2⟩, k, mapO_rel2 (fun x y u => fzVn_ok hn q f m x y u) e1 r1⟩
    | ref i =>
      simp only at e
      cases b : Nat.blt i n with
      | true =>
        rw [b] at e
        cases e
        have hi : i < ρ.length := by rw [hn]; exact Nat.le_of_ble_eq_true b
        obtain ⟨a, e2, ha⟩ := r
        rw [List.getElem?_append_left hi] at ha
        exact ⟨a, e2, ha⟩
      | false =>
        rw [b] at e
        simp only at e
        have hi : ρ.length ≤ i := by
          rw [hn]
          have : ¬ i < n := fun z => by
            have := Nat.ble_eq_true_of_le z
            rw [show Nat.blt i n = Nat.ble (i + 1) n from rfl] at b
            rw [this] at b; cases b
          omega
        cases g : h.get i with
        | none => simp only [g] at e; cases e
        | some o =>
          obtain ⟨a, ha, ro⟩ := q.ob i o g
          obtain ⟨a', e2, ha'⟩ := r
          have : a' = a := by rw [ha] at ha'; exact (Option.some.inj ha').symm
          subst this
          have hm : a' ∈ more := by
            rw [List.getElem?_append_right hi] at ha
            exact List.mem_of_getElem? ha
          have out : a' ∉ ρ := fun z => nd a' z a' hm rfl
          cases o with
          | lst xs =>
            simp only [g] at e
            cases e1 : mapO (fzVn n h m) xs with
            | none => rw [e1] at e; cases e
            | some ys =>
              rw [e1] at e
              cases e
              obtain ⟨us, h1, h2⟩ := ro
              obtain ⟨od, h3⟩ := f.fz a' hm _ h1 trivial
              exact ⟨a', us, e2, ⟨od, h3⟩, mapO_rel2 (fun x y u => fzVn_ok hn q f m x y u) e1 h2⟩
          | dic kvs =>
            simp only [g] at e
            cases e1 : mapO (fzVn n h m) (kvs.map (·.2)) with
            | none => rw [e1] at e; cases e
            | some ys =>
              rw [e1] at e
              cases e
              obtain ⟨ws, h1, h2⟩ := ro
              obtain ⟨od, h3⟩ := f.fz a' hm _ h1 trivial
              obtain ⟨h4, h5⟩ := rkv_split h2
              exact ⟨a', od, ws, e2, ⟨out, h3⟩, h4, mapO_rel2 (fun x y u => fzVn_ok hn q f m x y u) e1 h5⟩
          | _ => simp only [g] at e; cases e
theorem fzT_ok (hn : ρ.length = n) (q : HR K (ρ ++ more) h H) (f : FzT K ρ more H Hs) {v v' : Va} {u : V} (e : fzT n h v = some v') (r : RV K (ρ ++ more) H v u) : RV K ρ Hs v' u := by
  unfold fzT at e
  cases o : okV n v with
  | true =>
    rw [o] at e
    cases e
    have x := f.ext
    exact RV.ext0 (ρ1 := ρ) (K := K) (ρ := ρ) ⟨⟨[], by simp, by simp⟩, fun _ _ _ _ h => x.fz _ _ _ h, x.tup, fun _ _ _ h => x.fz _ _ _ h, x.nod⟩ _ (RV.cut hn v o r)
  | false => rw [o] at e; exact fzVn_ok hn q f 20 v v' u e r
end
def runT (m : Fn) (xs : List Va) (h : Hea) : Rs Va := match m xs h with
  | .ok v h' => match fzT h.n h' v with
    | some v' => match truncH h.n h' with
      | some h2 => .ok v' h2
      | none => .no
    | none => .no
  | _ => .no
def callT (n : Nat) (m : Fn) (B : Ax) : Ex := fun l h => (B l h).bind fun xs h1 => if xs.length = n then runT m xs h1 else .no
theorem runT_go {K : FW} {W : XW} {ρ : List Addr} {H : Hp} {h : Hea} {m : Fn} {xs : List Va} {Q : VK} (q : HR K ρ h H) (s : sat K W ρ H (runT m xs h) (rv K Q)) : sat K XF ρ H (m xs h) (rv K fun v H' => ∃ as, LkQ Q as v H') := by
  unfold runT at s
  cases e : m xs h with
  | no => simp only [e] at s; exact False.elim s
  | err c v h' => simp only [e] at s; exact False.elim s
  | ok v h' =>
    simp only [e] at s
    refine fun ρ' H' e' q' u ru => ?_
    obtain ⟨more, em, fm⟩ := e'.pre
    subst em
    have nd := List.nodup_append.mp q'.nd
    refine ⟨more, lkt_of (K := K) (ρ := ρ) (more := more) (fun Hs f => ?_) more H' nd.2.1 (fun _ h => h) (fun a h z => nd.2.2 a z a h rfl) (fun _ _ => rfl) Ext.refl (fun _ _ => rfl) fun a h n => absurd h n⟩
    cases e2 : fzT h.n h' v with
    | none => simp only [e2] at s; exact False.elim s
    | some v' =>
      simp only [e2] at s
      cases e3 : truncH h.n h' with
      | none => simp only [e3] at s; exact False.elim s
      | some h2 =>
        simp only [e3] at s
        have rv' := fzT_ok q.len q' f e2 ru
        have ex : Ext K ρ H (ρ ++ more) Hs := e'.trans f.ext
        have q2 : HR K ρ h2 H' := q'.trunc q.len e3
        have x := f.ext
        have q3 : HR K ρ h2 Hs := by
          refine ⟨q2.len, q2.nd, fun i a g => ?_, fun i ob g => ?_⟩
          · rw [f.old a (List.mem_of_getElem? g)]; exact q2.tr i a g
          · obtain ⟨a, h1, h2'⟩ := q2.ob i ob g
            exact ⟨a, h1, h2'.ext0 ⟨⟨[], by simp, by simp⟩, fun _ _ _ _ h => x.fz _ _ _ h, x.tup, fun _ _ _ h => x.fz _ _ _ h, x.nod⟩ (f.old a (List.mem_of_getElem? h1))⟩
        exact s ρ Hs ex.back q3 u rv'
section
variable {X : Cx} {x : Str} {p pos : Pos} {st : Stmt} {ps ks : List Str} {k : Nat} {m : Fn} {e : Expr} {es : List Expr} {kws : List Keyword} {B : Ax}
theorem ex_callT {W : XW} (c : Callee X.prog X.w X.fw X.mg X.base x st ps k m) (hr : Room k X.A) (hg : Gl X x) (ha : AX W X (e :: es) B) {n : Nat} (hn : ps.length = n := by rfl) (hdb : (x == ("__debug__" : Str)) = false := by decide)
    (he : starEach (e :: es) X.env = (false, eval e X.env) :: starEach es X.env := by rfl) (hpl : (backTo pos (starEach es X.env)).any (·.1) = false := by rfl) : EX W X (.Call (.Name x p) (e :: es) [] pos) (callT n m B) := by
  subst hn
  obtain ⟨f, fd, hm, F, Fu⟩ := c.ex
  refine ⟨PE.weak (pe_lk (pe_call F hr hg hm Fu.kp (Fu.binds c.bind) .nil pass0 ha.pa hdb he hpl)) fun σ H Q ⟨ρ, l, h, L, q, s⟩ => tA.go L q s fun xs h1 ρ1 H1 us e1 L1 q1 rs s1 => ?_⟩
  by_cases hz : xs.length = ps.length
  · rw [if_pos hz] at s1
    exact ⟨ρ1, h1, xs, q1, by rw [List.append_nil]; exact rs, hz, runT_go q1 s1⟩
  · rw [if_neg hz] at s1; exact False.elim s1
end
end Rf

/-! Rf: lists and dicts that stand still: made, read. -/
namespace Rf
open PySem PySem.Spec PyProof.Rows L2

/-! ### refs of a tie are bound -/
section
variable {K : FW} {ρ : List Addr} {H : Hp} {h : Hea} {n : Nat}
mutual
theorem RV.bound (hn : ρ.length = n) : ∀ (v : Va) {u : V}, RV K ρ H v u → okV n v = true
  | .non, _, _ => rfl
  | .bl _, _, _ => rfl
  | .int _, _, _ => rfl
  | .str _, _, _ => rfl
  | .tup xs, _, ⟨_, _, _, _, r⟩ => by unfold okV; exact RVs.bound hn xs r
  | .fl xs, _, ⟨_, _, _, _, r⟩ => by unfold okV; exact RVs.bound hn xs r
  | .sl xs, _, ⟨_, _, _, _, r⟩ => by unfold okV; exact RVs.bound hn xs r
  | .pr xs, _, ⟨_, _, _, _, r⟩ => by unfold okV; exact RVs.bound hn xs r
  | .ref i, _, ⟨_, _, q⟩ => by
    unfold okV
    have := (List.getElem?_eq_some_iff.mp q).1
    exact decide_eq_true (by omega)
  | .fd ks vs, _, ⟨_, _, _, _, _, _, r⟩ => by unfold okV; exact RVs.bound hn vs r
theorem RVs.bound (hn : ρ.length = n) : ∀ (xs : List Va) {us : List V}, RVs K ρ H xs us → okVs n xs = true
  | [], _, _ => rfl
  | x :: xs, _, ⟨_, _, _, r1, r2⟩ => by unfold okVs; rw [RV.bound hn x r1, RVs.bound hn xs r2]; rfl
end
theorem okK_bound {κ κ' : Type} {F : κ → κ' → Prop} (hn : ρ.length = n) : ∀ {kvs : List (κ × Va)} {ws : List (κ' × V)}, Paired (fun (p : κ × Va) (q : κ' × V) => F p.1 q.1 ∧ RV K ρ H p.2 q.2) kvs ws → okK n kvs = true
  | _, _, .nil => rfl
  | _, _, .cons r t => by unfold okK; rw [RV.bound hn _ r.2, okK_bound hn t]; rfl
theorem okN_bound (hn : ρ.length = n) : ∀ {kvs : List (Va × Va)} {xs : List (NestedKey × Addr × Value)}, RN K ρ H kvs xs → okN n kvs = true
  | _, _, .nil => rfl
  | _, _, .cons r t => by
    obtain ⟨⟨r1, r2, r3⟩, y, r4, r5⟩ := r
    unfold okN; rw [RV.bound hn _ r3, RV.bound hn _ r4, okN_bound hn t]; rfl
theorem RO.bound {a : Addr} {o : Ob} (hn : ρ.length = n) (r : RO K ρ H a o) : okO n o = true := by
  cases o with
  | lst xs => obtain ⟨us, q, r⟩ := r; exact RVs.bound hn xs r
  | dic kvs => obtain ⟨us, q, r⟩ := r; exact okK_bound (F := fun (p : Ke) (q : Key) => q = p.key) hn r
  | dlk kvs => obtain ⟨o, us, q, r⟩ := r; exact okK_bound (F := fun (p : Ke) (q : Key) => q = p.key) hn r
  | dit kvs => obtain ⟨us, q, r⟩ := r; exact okN_bound hn r
  | st ns => rfl
end
/-- a new list of ours, frozen at once -/
theorem sat.frzL {K : FW} {W : XW} {ρ : List Addr} {H : Hp} {h : Hea} {ys : List Va} {Q : VK} (q : HR K ρ h H) (o : okVs h.n ys = true) (s : sat K W ρ H (.ok (.fl ys) h) (rv K Q)) :
    sat K W ρ H (.ok (.ref h.n) (h.push (.lst ys))) (rv K fun v H' => ∃ as, LkQ Q as v H') := by
  intro ρ' H' e q' u ru
  obtain ⟨d, eu, hd⟩ := ru
  subst eu
  have hl : ρ'.length = h.n + 1 := q'.len
  have hl0 : ρ.length = h.n := q.len
  obtain ⟨more, em, fm⟩ := e.pre
  have hm : more = [d] := by
    rw [em, List.length_append] at hl
    have l1 : more.length = 1 := by omega
    match more, l1 with
    | [x], _ =>
      rw [em, ← hl0, List.getElem?_append_right (Nat.le_refl _)] at hd
      simp at hd
      rw [hd]
  subst hm
  subst em
  have nd : H d = none := fm d (by simp)
  obtain ⟨d', hd', us, hH, rs⟩ := q'.ob h.n _ (Hea.get_push_self h _)
  have ed : d' = d := by rw [hd] at hd'; exact (Option.some.inj hd').symm
  subst ed
  have mu : Mut (H' d') := by rw [hH]; trivial
  refine ⟨[d'], .inl ⟨_, hH, trivial, fun od => ?_⟩⟩
  have out : d' ∉ ρ := fun hm => by
    obtain ⟨i, hi⟩ := List.getElem?_of_mem hm
    exact q.tr i d' hi nd
  have e0 : Ext K ρ H ρ H' := e.back
  have q0 : HR K ρ h H' := by
    refine ⟨hl0, (List.nodup_append.mp q'.nd).1, fun i a g => ?_, fun i ob g => ?_⟩
    · exact e0.there a (q.tr i a g)
    · obtain ⟨a, h1, h2⟩ := q.ob i ob g
      obtain ⟨a2, h3, h4⟩ := q'.ob i ob (Hea.get_push_of g)
      have hi : i < ρ.length := (List.getElem?_eq_some_iff.mp h1).1
      rw [List.getElem?_append_left hi] at h3
      exact ⟨a2, h3, RO.cut hl0 (RO.bound hl0 h2) h4⟩
  exact s ρ _ (e0.over nd mu) (q0.other mu out) (.ref d') ⟨d', us, rfl, ⟨od, upd_same⟩, RVs.ext0 (Ext0.mut mu) _ (RVs.cut hl0 ys o rs)⟩
def fzO (r : Rs Va) (h : Hea) : Rs Va := match r with
  | .ok (.ref _) h' => match h'.l with
    | .lst ys :: _ => match okVs h.n ys with
      | true => .ok (.fl ys) h
      | false => .no
    | _ => .no
  | r => r
def NewO (r : Rs Va) (h : Hea) : Prop := ∀ i h', r = .ok (.ref i) h' → i = h.n ∧ ∃ ys, h' = h.push (.lst ys)
theorem sat.fzO {K : FW} {W : XW} {ρ : List Addr} {H : Hp} {h : Hea} {r : Rs Va} {Q : VK} (q : HR K ρ h H) (n : NewO r h) (s : sat K W ρ H (fzO r h) (rv K Q)) : sat K W ρ H r (rv K fun v H' => ∃ as, LkQ Q as v H') := by
  have triv : ∀ {v h'}, sat K W ρ H (.ok v h') (rv K Q) → sat K W ρ H (.ok v h') (rv K fun v H' => ∃ as, LkQ Q as v H') := fun s ρ' H' e q u ru => ⟨[], s ρ' H' e q u ru⟩
  cases r with
  | no => exact s
  | err c v h' => exact s
  | ok v h' =>
    cases v with
    | ref i =>
      obtain ⟨rfl, ys, rfl⟩ := n i h' rfl
      unfold Rf.fzO Hea.push at s
      simp only at s
      cases o : okVs h.n ys with
      | true => rw [o] at s; exact sat.frzL q o s
      | false => rw [o] at s; exact False.elim s
    | _ => exact triv s
def fz2 (F : Va → Va → M Va) : Va → Va → M Va := fun a b h => fzO (F a b h) h
def fzC (F : Fn) : Fn := fun xs h => fzO (F xs h) h
abbrev cl (r : R2) : R2 := fun x y H Q => r x y H fun v H' => ∃ as, LkQ Q as v H'
abbrev clC (r : List V → Hp → VK → Prop) : List V → Hp → VK → Prop := fun us H Q => r us H fun v H' => ∃ as, LkQ Q as v H'
theorem S2.fz {K : FW} {W : XW} {F : Va → Va → M Va} {r : R2} (hs : S2 K W F r) (n : ∀ a b h, NewO (F a b h) h) : S2 K W (fz2 F) (cl r) := fun ρ h H a b x y Q q rx ry s => hs ρ h H a b x y _ q rx ry (sat.fzO q (n a b h) s)
theorem SC.fz {K : FW} {W : XW} {F : Fn} {r : List V → Hp → VK → Prop} (hs : SC K W F r) (n : ∀ xs h, NewO (F xs h) h) : SC K W (fzC F) (clC r) := fun ρ h H xs us Q q rs s => hs ρ h H xs us _ q rs (sat.fzO q (n xs h) s)
section
variable {W : XW} {X : Cx} {a b e : Expr} {es : List Expr} {A B : Ex} {C : Ax} {pos p : Pos} {F : Va → Va → M Va} {r : R2} {G : Fn} {rc : List V → Hp → VK → Prop} {x : Str} {id T : String}
theorem ex_opF {op : Operator} (ho : OpR X (binaryOp op) r) (hs : S2 X.fw W F (cl r)) (ha : EX W X a A) (hb : EX W X b B) : EX W X (.BinOp a op b pos) (op2 F A B) :=
  ⟨PE.weak (pe_lk (pe_op ho ha.pe hb.pe)) (tE.two hs)⟩
theorem ex_callBF (hc : CallR X (.builtin id) rc) (hs : SC X.fw W G (clC rc)) (hg : Gl X x) (hm : X.mg x = none) (hv : bootBuiltins x = some (.builtin id)) (ha : AX W X (e :: es) C) (hn : x ≠ "__name__" := by decide) (hdb : (x == ("__debug__" : Str)) = false := by decide)
    (he : starEach (e :: es) X.env = (false, eval e X.env) :: starEach es X.env := by rfl) (hpl : (backTo pos (starEach es X.env)).any (·.1) = false := by rfl) : EX W X (.Call (.Name x p) (e :: es) [] pos) (callE G C) :=
  ⟨PE.weak (pe_lk (pe_callB hc hg hm hv ha.pa hn hdb he hpl)) (tA.call hs)⟩
theorem ex_callTyF (hc : CallR X (.type T) rc) (hs : SC X.fw W G (clC rc)) (hg : Gl X x) (hm : X.mg x = none) (hv : bootBuiltins x = some (.type T)) (ha : AX W X (e :: es) C) (hn : x ≠ "__name__" := by decide) (hdb : (x == ("__debug__" : Str)) = false := by decide)
    (he : starEach (e :: es) X.env = (false, eval e X.env) :: starEach es X.env := by rfl) (hpl : (backTo pos (starEach es X.env)).any (·.1) = false := by rfl) : EX W X (.Call (.Name x p) (e :: es) [] pos) (callE G C) :=
  ⟨PE.weak (pe_lk (pe_callTy hc hg hm hv ha.pa hn hdb he hpl)) (tA.call hs)⟩
end

/-! ### + and * of lists -/
def LsL (H : Hp) (a : Addr) (us : List V) : Prop := H a = some (.lst us) ∨ ∃ o, H a = some (.frz o (.lst us))
theorem lstV_ls {K : FW} {ρ : List Addr} {H : Hp} {h : Hea} {a : Va} {x : V} {xs : List Va} (q : HR K ρ h H) (rx : RV K ρ H a x) (e : lstV h a = some xs) : ∃ p us, x = .ref p ∧ LsL H p us ∧ RVs K ρ H xs us := by
  cases a with
  | fl ys => cases e; obtain ⟨p, us, rfl, ⟨o, h1⟩, h2⟩ := rx; exact ⟨p, us, rfl, .inr ⟨o, h1⟩, h2⟩
  | ref i =>
    have e' : (match h.get i with
      | some (.lst xs) => some xs
      | _ => none) = some xs := e
    split at e'
    · rename_i ys g
      cases e'
      obtain ⟨p, us, rfl, _, h1, h2⟩ := q.lst rx g
      exact ⟨p, us, rfl, .inl h1, h2⟩
    · cases e'
  | _ => cases e
section
variable {X : Cx} {pins : List (Addr × Obj)} {σ : L2.St} {H : Hp} {s : Shared}
theorem lstM2 (I : L2.Inv X pins σ H s) {l : Addr} {xs : List V} (hH : LsL H l xs) : xs.length ≤ sizeLine ∧ ∃ (its : List Value) (n : Nat), Vals xs its ∧ xs.length = its.length ∧ s.heap.get? l = some { cls := .type "list", data := .seq its.toArray n } := by
  rcases hH with hH | ⟨o, hH⟩
  · exact I.lstM hH
  · obtain ⟨e1, z, its, n, r, e⟩ := I.hok l _ hH
    exact ⟨z, its, n, r, r.length, e⟩
def rCat2 : R2 := fun x y H Q => ∃ l b xs zs, x = .ref l ∧ y = .ref b ∧ LsL H l xs ∧ LsL H b zs ∧ xs.length + zs.length ≤ sizeLine ∧ ∀ p, H p = none → Q (.ref p) (upd H p (.lst (xs ++ zs)))
theorem op_cat2 : OpR X (binaryOp .Add) rCat2 := fun pins s σ H x y v u Q I rx ry ⟨l, b, xs, zs, ex, ey, hl, hb, few, done⟩ => by
  subst ex ey
  obtain rfl : v = .ref l := rx
  obtain rfl : u = .ref b := ry
  obtain ⟨_, as, _, ra, la, at1⟩ := lstM2 I hl
  obtain ⟨_, bs, _, rb, lb, at2⟩ := lstM2 I hb
  have fin : EP X pins σ Q (.ref s.heap.objs.size) { s with heap := s.heap.push { cls := .type "list", data := .seq (as ++ bs).toArray } } :=
    ⟨.ref _, _, I.lnew (t' := s.toks) (ra.append rb) (by rw [List.length_append]; exact few), rfl, done _ I.fresh⟩
  rw [show (as ++ bs).toArray = as.toArray ++ bs.toArray by simp] at fin
  exact PySem.P.add_list at1 at2 fin (by simp only [List.size_toArray, ← la, ← lb]; exact few)
def rRep2 : R2 := fun x y H Q => ∃ l k xs, x = .ref l ∧ y = .int k ∧ LsL H l xs ∧ -(2 ^ 63) ≤ k ∧ k < 2 ^ 63 ∧ xs.length * k.toNat ≤ sizeLine ∧
  ∀ p, H p = none → Q (.ref p) (upd H p (.lst (List.replicate k.toNat xs).flatten))
theorem op_rep2 : OpR X (binaryOp .Mult) rRep2 := fun pins s σ H x y v u Q I rx ry ⟨l, k, xs, ex, ey, hl, lo, hi, few, done⟩ => by
  subst ex ey
  obtain rfl : v = .ref l := rx
  obtain ⟨t, rfl⟩ := ry
  obtain ⟨_, as, n, ra, la, at1⟩ := lstM2 I hl
  have many : as.toArray.size * k.toNat ≤ sizeLine := by simpa only [List.size_toArray, ← la] using few
  have line : (sizeLine : Nat) ≤ (2 ^ 63 - 1) / 8 := by decide
  have fin : EP X pins σ Q (.ref s.heap.objs.size) { s with heap := s.heap.push { cls := .type "list", data := .seq (List.replicate k.toNat as).flatten.toArray } } :=
    ⟨.ref _, _, I.lnew (t' := s.toks) (ra.rep k.toNat) (by rw [PyProof.Rows.lm_len_rep_flat, Nat.mul_comm]; exact few), rfl, done _ I.fresh⟩
  rw [← PyProof.Rows.listMul_foldl_if as.toArray] at fin
  have isl : s.TypeIs (.ref l) "list" := ⟨_, at1, rfl⟩
  have c1 : ¬ (!Builtin.List.listFitsIndex k) = true := by rw [fitsIndex_both lo hi]; decide
  have c2 : ¬ Builtin.List.listTooLong (as.toArray.size * k.toNat) = true := by rw [notLongL many]; decide
  exact wpAny_binaryOp_repeat_ref (by decide) isl (fun s' => typeIs_int s' k t) noFill_list_mul F.fills_int_mul F.slot_int_rmul repeat_list F.slot_int_index.lookup
    (call_meets F.slot_int_rmul (typeIs_int s k t) F.entry_int_rmul (F.args_int_rmul_2 _ _) (int___rmul___int_list k t l as.toArray n) ⟨at1, rfl, isl, call_meets F.slot_list_mul isl F.entry_list_mul (F.args_list_mul_2 _ _) (AutoListH.list___mul___list_int_3 l as.toArray n k t c1 (by omega) c2) ⟨at1, fin⟩⟩)
end
/-- +, a new list of two lists -/
def vAdd2 (a b : Va) : M Va := fun h => match lstV h a with
  | some xs => match lstV h b with
    | some ys => if xs.length + ys.length ≤ sLine then .ok (.ref h.n) (h.push (.lst (xs ++ ys))) else .no
    | none => .no
  | none => match a with
    | .ref _ => .no
    | a => vAdd a b h
def vAddF (a b : Va) : M Va := fun h => match lstV h a with
  | some xs => match lstV h b with
    | some ys => if xs.length + ys.length ≤ sLine then .ok (.fl (xs ++ ys)) h else .no
    | none => .no
  | none => match a with
    | .ref _ => .no
    | a => vAdd a b h
def vMul2 (a b : Va) : M Va := fun h => match lstV h a with
  | some xs => match b with
    | .int j => if (decide (-1000000 ≤ j) && (decide (j ≤ 1000000) && decide (xs.length * j.toNat ≤ sLine))) = true then .ok (.ref h.n) (h.push (.lst (repN j xs))) else .no
    | _ => .no
  | none => match a with
    | .ref _ => .no
    | a => vMul a b h
def vMulF (a b : Va) : M Va := fun h => match lstV h a with
  | some xs => match b with
    | .int j => if (decide (-1000000 ≤ j) && (decide (j ≤ 1000000) && decide (xs.length * j.toNat ≤ sLine))) = true then .ok (.fl (repN j xs)) h else .no
    | _ => .no
  | none => match a with
    | .ref _ => .no
    | a => vMul a b h
theorem rep_bound {n : Nat} {xs : List Va} (o : okVs n xs = true) (k : Nat) : okVs n (List.replicate k xs).flatten = true := by
  have app : ∀ {xs ys : List Va}, okVs n xs = true → okVs n ys = true → okVs n (xs ++ ys) = true := by
    intro xs ys h1 h2
    induction xs with
    | nil => exact h2
    | cons x r ih =>
      unfold okVs at h1
      rw [Bool.and_eq_true] at h1
      show (okV n x && okVs n (r ++ ys)) = true
      rw [h1.1, ih h1.2]; rfl
  induction k with
  | zero => rfl
  | succ k ih => rw [List.replicate_succ, List.flatten_cons]; exact app o ih
section
variable {K : FW} {W : XW}
def rAdd2 (K : FW) : R2 := fun x y H Q => rCat2 x y H Q ∨ rAdd K x y H Q
def rMul2 (K : FW) : R2 := fun x y H Q => rRep2 x y H Q ∨ rMul K x y H Q
theorem op_add2 {X : Cx} : OpR X (binaryOp .Add) (rAdd2 X.fw) := op_cat2.or op_addA
theorem op_mul2 {X : Cx} : OpR X (binaryOp .Mult) (rMul2 X.fw) := op_rep2.or op_mulA
theorem s_add2 : S2 K W vAdd2 (rAdd2 K) := fun ρ h H a b x y Q q rx ry s => by
  unfold vAdd2 at s
  cases e1 : lstV h a with
  | none =>
    rw [e1] at s
    refine .inr (s_add (W := W) ρ h H a b x y Q q rx ry ?_)
    cases a <;> first | exact s | exact False.elim s
  | some xs =>
    rw [e1] at s
    simp only at s
    cases e2 : lstV h b with
    | none => rw [e2] at s; exact False.elim s
    | some ys =>
      rw [e2] at s
      simp only at s
      obtain ⟨p, us, rfl, h1, h2⟩ := lstV_ls q rx e1
      obtain ⟨p', us', rfl, h1', h2'⟩ := lstV_ls q ry e2
      by_cases hz : xs.length + ys.length ≤ sLine
      · rw [if_pos hz] at s
        exact .inl ⟨p, p', us, us', rfl, rfl, h1, h1', by rw [← sLine_eq, ← h2.length, ← h2'.length]; exact hz, s.newLst q (h2.append h2')⟩
      · rw [if_neg hz] at s; exact False.elim s
theorem add_noref {a b : Va} {h : Hea} (e : lstV h a = none) (na : ∀ i, a ≠ .ref i) : ∀ i h', vAdd a b h ≠ .ok (.ref i) h' := by
  intro i h' q
  cases a with
  | int j => cases b <;> simp [vAdd] at q
  | str j => cases b <;> first | (simp [vAdd] at q; done) | (simp only [vAdd] at q; split at q <;> simp at q)
  | tup j => cases b <;> first | (simp [vAdd] at q; done) | (simp only [vAdd] at q; split at q <;> simp at q)
  | ref j => exact na j rfl
  | _ => simp [vAdd] at q
theorem s_addF : S2 K W vAddF (cl (rAdd2 K)) := fun ρ h H a b x y Q q rx ry s => by
  refine s_add2 (W := W) ρ h H a b x y _ q rx ry ?_
  unfold vAddF at s
  unfold vAdd2
  cases e1 : lstV h a with
  | none =>
    rw [e1] at s
    have key : sat K W ρ H (vAdd a b h) (rv K Q) → sat K W ρ H (vAdd a b h) (rv K fun v H' => ∃ as, LkQ Q as v H') := fun s => s.mono fun a h' ρ' H' _ _ k u ru => ⟨[], k u ru⟩
    cases a <;> first | exact key s | exact False.elim s
  | some xs =>
    rw [e1] at s
    simp only at s ⊢
    cases e2 : lstV h b with
    | none => rw [e2] at s; exact False.elim s
    | some ys =>
      rw [e2] at s
      simp only at s ⊢
      obtain ⟨p, us, rfl, h1, h2⟩ := lstV_ls q rx e1
      obtain ⟨p', us', rfl, h1', h2'⟩ := lstV_ls q ry e2
      by_cases hz : xs.length + ys.length ≤ sLine
      · rw [if_pos hz] at s ⊢
        exact sat.frzL q (RVs.bound q.len _ (h2.append h2')) s
      · rw [if_neg hz] at s; exact False.elim s
theorem s_mul2 : S2 K W vMul2 (rMul2 K) := fun ρ h H a b x y Q q rx ry s => by
  unfold vMul2 at s
  cases e1 : lstV h a with
  | none =>
    rw [e1] at s
    refine .inr (s_mul (W := W) ρ h H a b x y Q q rx ry ?_)
    cases a <;> first | exact s | exact False.elim s
  | some xs =>
    rw [e1] at s
    simp only at s
    obtain ⟨p, us, rfl, h1, h2⟩ := lstV_ls q rx e1
    cases b with
    | int j =>
      cases ry
      by_cases hz : (decide (-1000000 ≤ j) && (decide (j ≤ 1000000) && decide (xs.length * j.toNat ≤ sLine))) = true
      · simp only at s
        rw [if_pos hz] at s
        simp only [Bool.and_eq_true, decide_eq_true_eq] at hz
        exact .inl ⟨p, j, us, rfl, rfl, h1, by omega, by omega, by rw [← h2.length, ← sLine_eq]; exact hz.2.2, s.newLst q (RVs.rep h2 _)⟩
      · simp only at s; rw [if_neg hz] at s; exact False.elim s
    | _ => exact False.elim s
theorem s_mulF : S2 K W vMulF (cl (rMul2 K)) := fun ρ h H a b x y Q q rx ry s => by
  refine s_mul2 (W := W) ρ h H a b x y _ q rx ry ?_
  unfold vMulF at s
  unfold vMul2
  cases e1 : lstV h a with
  | none =>
    rw [e1] at s
    have key : sat K W ρ H (vMul a b h) (rv K Q) → sat K W ρ H (vMul a b h) (rv K fun v H' => ∃ as, LkQ Q as v H') := fun s => s.mono fun a h' ρ' H' _ _ k u ru => ⟨[], k u ru⟩
    cases a <;> first | exact key s | exact False.elim s
  | some xs =>
    rw [e1] at s
    simp only at s ⊢
    obtain ⟨p, us, rfl, h1, h2⟩ := lstV_ls q rx e1
    cases b with
    | int j =>
      simp only at s ⊢
      by_cases hz : (decide (-1000000 ≤ j) && (decide (j ≤ 1000000) && decide (xs.length * j.toNat ≤ sLine))) = true
      · rw [if_pos hz] at s ⊢
        exact sat.frzL q (rep_bound (RVs.bound q.len _ h2) _) s
      · rw [if_neg hz] at s; exact False.elim s
    | _ => exact False.elim s
end
section
variable {W : XW} {X : Cx} {a b e : Expr} {A B : Ex} {pos p p2 : Pos} {P R : Px} {lo hi : Option Expr}
theorem ex_add2 (ha : EX W X a A) (hb : EX W X b B) : EX W X (.BinOp a .Add b pos) (op2 vAdd2 A B) := ex_op op_add2 s_add2 ha hb
theorem ex_addF (ha : EX W X a A) (hb : EX W X b B) : EX W X (.BinOp a .Add b pos) (op2 vAddF A B) := ex_opF op_add2 s_addF ha hb
theorem ex_mul2 (ha : EX W X a A) (hb : EX W X b B) : EX W X (.BinOp a .Mult b pos) (op2 vMul2 A B) := ex_op op_mul2 s_mul2 ha hb
theorem ex_mulF (ha : EX W X a A) (hb : EX W X b B) : EX W X (.BinOp a .Mult b pos) (op2 vMulF A B) := ex_opF op_mul2 s_mulF ha hb
end

/-! ### slices, list(), sorted, ranges, displays of dicts -/
def vSlF (a : Va) (lo hi : Option Int) : M Va := fun h => match lstV h a with
  | some xs => .ok (.fl (cutL xs lo hi)) h
  | none => match a with
    | .ref _ => .no
    | a => vSl a lo hi h
def slF (A : Ex) (B C : Px) : Ex := fun l h => (A l h).bind fun a h1 => (B l h1).bind fun lo h2 => (C l h2).bind fun hi h3 => vSlF a lo hi h3
theorem okVs_drop {n : Nat} : ∀ {xs : List Va} (k : Nat), okVs n xs = true → okVs n (xs.drop k) = true
  | _, 0, h => h
  | [], _ + 1, _ => rfl
  | x :: r, k + 1, h => by
    unfold okVs at h
    rw [Bool.and_eq_true] at h
    exact okVs_drop k h.2
theorem okVs_take {n : Nat} : ∀ {xs : List Va} (k : Nat), okVs n xs = true → okVs n (xs.take k) = true
  | _, 0, _ => by rw [List.take_zero]; rfl
  | [], _ + 1, _ => rfl
  | x :: r, k + 1, h => by
    unfold okVs at h
    rw [Bool.and_eq_true] at h
    show (okV n x && okVs n (r.take k)) = true
    rw [h.1, okVs_take k h.2]; rfl
theorem sat.cl0 {K : FW} {W : XW} {ρ : List Addr} {H : Hp} {r : Rs Va} {Q : VK} (s : sat K W ρ H r (rv K Q)) : sat K W ρ H r (rv K fun v H' => ∃ as, LkQ Q as v H') := s.mono fun a h' ρ' H' _ _ k u ru => ⟨[], k u ru⟩
theorem NewO.of {v : Va} {h h' : Hea} (n : ∀ i, v ≠ .ref i) : NewO (.ok v h') h := fun i h2 e => by injection e with e1 _; exact absurd e1 (n i)
theorem NewO.no {h : Hea} : NewO .no h := fun i h2 e => by cases e
theorem NewO.mk {h : Hea} {ys : List Va} : NewO (.ok (.ref h.n) (h.push (.lst ys))) h := fun i h2 e => by injection e with e1 e2; injection e1 with e1; exact ⟨e1.symm, ys, e2.symm⟩
section
variable {W : XW} {X : Cx} {a b e : Expr} {A B : Ex} {pos p p2 : Pos} {P R : Px} {lo hi : Option Expr}
theorem ex_sliceF (ha : EX W X a A) (hl : PX W X lo P) (hh : PX W X hi R) : EX W X (.Subscript a (.Slice lo hi none p2) pos) (slF A P R) := by
  refine ⟨PE.weak (pe_lk (pe_slice ((sl_list (X := X)).or (sl_tupN.or sl_str)) ha.pe hl.po hh.po)) fun σ H Q ⟨ρ, l, h, L, q, s⟩ => ?_⟩
  refine tE.go L q s fun a h1 ρ1 H1 x e1 L1 q1 rx s1 => tP.go L1 q1 s1 fun lo h2 ρ2 H2 e2 L2' q2 s2 => tP.go L2' q2 s2 fun hi h3 ρ3 H3 e3 L3 q3 s3 => ?_
  have rx := RV.ext (e2.trans e3) a rx
  unfold vSlF at s3
  cases ea : lstV h3 a with
  | some xs =>
    rw [ea] at s3
    obtain ⟨p, us, rfl, g1, g2⟩ := lstV_ok q3 rx ea
    have g3 := cutV_rel lo hi g2
    exact .inl ⟨p, us, rfl, g1, (sat.frzL q3 (RVs.bound q3.len _ g3) s3).newLst q3 g3⟩
  | none =>
    rw [ea] at s3
    cases a with
    | tup xs =>
      obtain ⟨p, us, rfl, g1, g2⟩ := rx
      have s' : sat X.fw W ρ3 H3 (.ok (.tup (cutL xs lo hi)) h3) (rv X.fw Q) := s3
      refine .inr (.inl ⟨p, us, rfl, g1.1, fun hw => ?_, fun _ => s'.cl0.newTup q3 (cutV_rel lo hi g2)⟩)
      refine s'.cl0.val q3 ⟨p, us, rfl, g1, ?_⟩
      have e := cutV_rel lo hi g2
      unfold cutV at e
      rw [hw.1, hw.2, List.drop_zero, Nat.sub_zero, List.take_length] at e
      exact e
    | str z =>
      cases rx
      have s' : sat X.fw W ρ3 H3 (if z.length ≤ sLine then .ok (.str (cutL z lo hi)) h3 else .no) (rv X.fw Q) := s3
      by_cases hz : z.length ≤ sLine
      · rw [if_pos hz] at s'
        refine .inr (.inr ⟨_, rfl, ?_, s'.cl0.val q3 ?_⟩)
        · rw [← sLine_eq]; show z.toArray.size ≤ _; simpa using hz
        · show V.str (cutS _ lo hi) = V.str _
          unfold cutS cutL
          have : (⟨z.toArray⟩ : Str).length = z.length := by show z.toArray.size = _; simp
          rw [this]
      · rw [if_neg hz] at s'; exact False.elim s'
    | _ => exact False.elim s3
theorem new_list (xs : List Va) (h : Hea) : NewO (fn1 vList xs h) h := by
  match xs with
  | [] => exact NewO.no
  | _ :: _ :: _ => exact NewO.no
  | [a] =>
    show NewO (vList a h) h
    unfold vList
    repeat' split
    all_goals first | exact NewO.no | exact NewO.mk
theorem ex_listF (hc : X.calm = true) (hg : Gl X "list") (hm : X.mg "list" = none) (ha : EX W X e A) (hs : starEach [e] X.env = (false, eval e X.env) :: starEach [] X.env := by rfl) : EX W X (.Call (.Name "list" p) [e] [] pos) (callE (fzC (fn1 vList)) (aCons A aNil)) :=
  ex_callTyF (call_list_of.or (call_list_strV hc)) (SC.fz s_list new_list) hg hm (by decide +kernel) (ax_cons ha ax_nil hs) (by decide) (by decide) hs
theorem new_sorted (a : Va) (h : Hea) : NewO (vSorted a h) h := by
  unfold vSorted
  repeat' split
  all_goals first | exact NewO.no | exact NewO.mk
theorem new_sortedU (xs : List Va) (h : Hea) : NewO (fn1 vSortedU xs h) h := by
  match xs with
  | [] => exact NewO.no
  | _ :: _ :: _ => exact NewO.no
  | [a] =>
    show NewO (vSortedU a h) h
    unfold vSortedU
    repeat' split
    all_goals first | exact NewO.no | exact NewO.mk | exact new_sorted a h
theorem new_sorted1 (xs : List Va) (h : Hea) : NewO (fn1 vSorted xs h) h := by
  match xs with
  | [] => exact NewO.no
  | _ :: _ :: _ => exact NewO.no
  | [a] => exact new_sorted a h
theorem new_sortedS (xs : List Va) (h : Hea) : NewO (fn1 vSortedS xs h) h := by
  match xs with
  | [] => exact NewO.no
  | _ :: _ :: _ => exact NewO.no
  | [a] =>
    show NewO (vSortedS a h) h
    unfold vSortedS
    repeat' split
    all_goals first | exact NewO.no | exact NewO.mk
theorem ex_sortedF (hg : Gl X "sorted") (hm : X.mg "sorted" = none) (ha : EX W X e A) (hs : starEach [e] X.env = (false, eval e X.env) :: starEach [] X.env := by rfl) : EX W X (.Call (.Name "sorted" p) [e] [] pos) (callE (fzC (fn1 vSorted)) (aCons A aNil)) :=
  ex_callBF (cr_sortedM (W := W)) (SC.fz s_rMC new_sorted1) hg hm (by decide +kernel) (ax_cons ha ax_nil hs) (by decide) (by decide) hs
theorem ex_sortedUF (hu : X.A.units + 65 < cLine) (hg : Gl X "sorted") (hm : X.mg "sorted" = none) (ha : EX W X e A) (hs : starEach [e] X.env = (false, eval e X.env) :: starEach [] X.env := by rfl) : EX W X (.Call (.Name "sorted" p) [e] [] pos) (callE (fzC (fn1 vSortedU)) (aCons A aNil)) :=
  ex_callBF (cr_sortedU (W := W) hu) (SC.fz s_rMC new_sortedU) hg hm (by decide +kernel) (ax_cons ha ax_nil hs) (by decide) (by decide) hs
theorem ex_sortedSF (calm : X.calm = true) (hg : Gl X "sorted") (hm : X.mg "sorted" = none) (ha : EX W X e A) (hs : starEach [e] X.env = (false, eval e X.env) :: starEach [] X.env := by rfl) : EX W X (.Call (.Name "sorted" p) [e] [] pos) (callE (fzC (fn1 vSortedS)) (aCons A aNil)) :=
  ex_callBF (cr_sortedS2 (W := W) calm) (SC.fz s_rMC new_sortedS) hg hm (by decide +kernel) (ax_cons ha ax_nil hs) (by decide) (by decide) hs
def lstRgF (A : Lo → M (List Va)) : Ex := fun l h => (A l h).bind fun xs h1 => .ok (.fl xs) h1
theorem ex_lstRgF {R : Lo → M (List Va)} (hc : X.calm = true) (hg : Gl X "list") (hm : X.mg "list" = none) (h : RX W X e R) (na : starEach [e] X.env = (false, eval e X.env) :: starEach [] X.env := by rfl) : EX W X (.Call (.Name "list" p) [e] [] pos) (lstRgF R) := by
  obtain ⟨te, h1, h2⟩ := h.pr
  refine ⟨PE.weak (pe_lk (pe_listRg hc hg hm h1 na)) fun σ H Q ⟨ρ, l, h, L, q, s⟩ => h2 σ H ρ l h _ L q (s.bind.mono fun xs h3 ρ3 H3 e3 q3 s3 i j e => ?_)⟩
  obtain ⟨ok, rel⟩ := rgOf_ok e
  exact ⟨ok, (sat.frzL q3 (RVs.bound q3.len _ (rel X.fw ρ3 H3)) s3).newLst q3 (rel _ _ _)⟩
end
theorem rkv_fd {K : FW} {ρ : List Addr} {H : Hp} : ∀ {ks : List Ke} {vs : List Va} {ws : List (Key × V)}, ws.map (·.1) = ks.map Ke.key → RVs K ρ H vs (ws.map (·.2)) → RKV K ρ H (ks.zip vs) ws
  | [], vs, ws, e, r => by
    have : ws = [] := by simpa using e
    subst this
    exact .nil
  | k :: ks, vs, [], e, r => by simp at e
  | k :: ks, [], w :: ws, e, r => by cases r
  | k :: ks, v :: vs, w :: ws, e, ⟨u, t, e1, r1, r2⟩ => by
    rw [List.map_cons, List.map_cons] at e
    injection e with e2 e3
    rw [List.map_cons] at e1
    injection e1 with e4 e5
    subst e4 e5
    exact .cons ⟨e2, r1⟩ (rkv_fd e3 r2)
/-- a display of a dict that is not changed -/
def dispF (prs : List (Ex × Ex)) : Ex := fun l h => (evP prs l h).bind fun ps h2 => match keysK ps with
  | some kvs => if kvs.length ≤ 15 then .ok (.fd ((mergeE [] kvs).map (·.1)) ((mergeE [] kvs).map (·.2))) h2 else .no
  | none => .no
def dNewF : Ex := fun _ h => .ok (.fd [] []) h
section
variable {X : Cx} {W : XW} {pos : Pos}
theorem ex_dnewF : EX W X (.Dict [] [] pos) dNewF :=
  ⟨PE.weak (pe_lk pe_dnewK) fun σ H Q ⟨ρ, l, h, L, q, s⟩ p n => ⟨[p], .inl ⟨_, upd_same, trivial, fun od => by
    have out : p ∉ ρ := fun hm => by
      obtain ⟨i, hi⟩ := List.getElem?_of_mem hm
      exact q.tr i p hi n
    have mu : Mut (upd H p (.dK []) p) := by rw [upd_same]; trivial
    exact s ρ _ ((Ext.new n).over n mu) ((q.new n).other mu out) (.ref p) ⟨p, od, [], rfl, ⟨out, upd_same⟩, rfl, rfl⟩⟩⟩⟩
theorem ex_dispF {keys : List (Option Expr)} {values : List Expr} {prs : List (Ex × Ex)} (h : PPX W X pos keys values prs) (hall : keys.all (·.isSome) = true := by rfl) (hl : keys.length = values.length := by rfl) (h0 : keys ≠ [] := by exact fun e => nomatch e) (h15 : keys.length ≤ 15 := by decide) :
    EX W X (.Dict keys values pos) (dispF prs) := by
  obtain ⟨trs, h1, h2⟩ := h.ex
  refine ⟨PE.weak (pe_lk (pe_disp h1 hall hl h0 h15)) fun σ H Q ⟨ρ, l, h, L, q, s⟩ p n => ?_⟩
  have out : p ∉ ρ := fun hm => by
    obtain ⟨i, hi⟩ := List.getElem?_of_mem hm
    exact q.tr i p hi n
  have x0 : Ext X.fw ρ H ρ (upd H p (.dK [])) := Ext.new n
  refine h2 σ _ ρ l h _ (L.ext x0) (q.new n) ?_
  unfold dispF at s
  cases ev : evP prs l h with
  | no => rw [ev] at s; exact False.elim s
  | err c v h' =>
    rw [ev] at s
    exact fun ρ' H' e' q' => s ρ' H' (x0.trans e') q'
  | ok ps h3 =>
    rw [ev] at s
    refine fun ρ3 H3 e3 q3 us rel => ?_
    simp only [Rs.bind] at s
    cases ek : keysK ps with
    | none => simp only [ek] at s; exact False.elim s
    | some kvs =>
      simp only [ek] at s
      by_cases c : kvs.length ≤ 15
      · rw [if_pos c] at s
        obtain ⟨ws, ew, rk⟩ := keysK_rel ek rel
        have hH : H3 p = some (.dK []) := (e3.keep p (by rw [upd_same]; simp) out).trans upd_same
        have out3 : p ∉ ρ3 := e3.to0.out out upd_same
        have mu : Mut (H3 p) := by rw [hH]; trivial
        refine ⟨hH, ws, ew, by rw [← Paired.length rk]; exact c, [p], .inl ⟨_, upd_same, trivial, fun od => ?_⟩⟩
        have rm := mergeE_rel (kvs := []) (ws := []) rk .nil
        have mu2 : ∀ o : HO, Mut (some o) → Mut (upd H3 p o p) := fun o m => by rw [upd_same]; exact m
        have e4 : Ext X.fw ρ H ρ3 (upd H3 p (.dK (mergeK [] ws))) := (x0.trans e3).over n mu
        have q4 : HR X.fw ρ3 h3 (upd H3 p (.dK (mergeK [] ws))) := q3.other mu out3
        obtain ⟨k1, k2⟩ := rkv_split rm
        refine s ρ3 _ (e4.over n (mu2 (.dK (mergeK [] ws)) trivial)) (q4.other (mu2 (.dK (mergeK [] ws)) trivial) out3) (.ref p) ⟨p, od, _, rfl, ⟨out3, upd_same⟩, k1, ?_⟩
        exact RVs.ext0 (Ext0.mut (mu2 (.dK (mergeK [] ws)) trivial)) _ (RVs.ext0 (Ext0.mut mu) _ k2)
      · rw [if_neg c] at s; exact False.elim s
end

/-! ### a dict that stands still, read -/
def fdOk (vs : List Va) : Bool := match noFds vs with
  | true => okVs 0 vs
  | false => false
def plV (v : Va) : Bool := match noFd v with
  | true => okV 0 v
  | false => false
def fdBack (r : Rs Va) (h : Hea) : Rs Va := match r with
  | .ok v _ => match plV v with
    | true => .ok v h
    | false => .no
  | _ => .no
def fdHea (ks : List Ke) (vs : List Va) : Hea := ⟨1, [.dlk (ks.zip vs)]⟩
section
variable {K : FW} {W : XW} {ρ : List Addr} {H : Hp} {h : Hea} {ks : List Ke} {vs : List Va} {x : V} {Q : VK} {r : Rs Va}
theorem pl_in {v : Va} {u : V} {ρ' : List Addr} (p : plV v = true) (rx : RV K ρ H v u) : RV K ρ' H v u := by
  unfold plV at p
  cases n : noFd v with
  | false => rw [n] at p; cases p
  | true => rw [n] at p; exact RV.unfN v n (RV.frm p rx)
theorem fd_in (ra : RV K ρ H (.fd ks vs) x) (p : fdOk vs = true) : ∃ d, x = .ref d ∧ d ∉ ρ ∧ HR K [d] (fdHea ks vs) H ∧ RV K [d] H (.ref 0) x ∧ (∃ o ws, H d = some (.frz o (.dK ws))) := by
  obtain ⟨d, o, ws, rfl, ⟨out, hd⟩, k, r⟩ := ra
  unfold fdOk at p
  cases n : noFds vs with
  | false => rw [n] at p; cases p
  | true =>
    rw [n] at p
    have r2 : RVs K [d] H vs (ws.map (·.2)) := RVs.unfN vs n (RVs.frm p r)
    refine ⟨d, rfl, out, ⟨rfl, by simp, fun i a e => ?_, fun i ob e => ?_⟩, ⟨d, rfl, rfl⟩, o, ws, hd⟩
    · have : a = d := by
        have := List.mem_of_getElem? e
        simpa using this
      rw [this, hd]; simp
    · have hi : i < 1 := Hea.get_lt e
      have : i = 0 := by omega
      subst this
      have e' : some (Ob.dlk (ks.zip vs)) = some ob := e
      cases e'
      exact ⟨d, rfl, o, ws, hd, rkv_fd k r2⟩
theorem fd_out {d : Addr} (out : d ∉ ρ) (hd : ∃ o ws, H d = some (.frz o (.dK ws))) (q : HR K ρ h H) (s : sat K W ρ H (fdBack r h) (rv K Q)) : sat K W [d] H r (rv K Q) := by
  cases r with
  | no => exact s
  | err c v h' => exact False.elim s
  | ok v h' =>
    unfold fdBack at s
    simp only at s
    cases p : plV v with
    | false => rw [p] at s; exact False.elim s
    | true =>
      rw [p] at s
      refine fun ρ2 H2 e2 q2 u ru => ?_
      obtain ⟨o, ws, hd⟩ := hd
      have hd2 := e2.fz _ _ _ hd
      have kp : ∀ a, H a ≠ none → H2 a = H a := fun a ha => by
        by_cases z : a = d
        · rw [z, hd2, hd]
        · exact e2.keep a ha (by simpa using z)
      have ex : Ext K ρ H ρ H2 := ⟨⟨[], by simp, by simp⟩, e2.tup, e2.fz, e2.nod, e2.there, fun a ha _ => kp a ha⟩
      have qx : HR K ρ h H2 := by
        refine ⟨q.len, q.nd, fun i a g => ?_, fun i ob g => ?_⟩
        · rw [kp a (q.tr i a g)]; exact q.tr i a g
        · obtain ⟨a, h1, h2⟩ := q.ob i ob g
          exact ⟨a, h1, h2.ext ex (kp a (q.tr i a h1))⟩
      exact s ρ H2 ex qx u (pl_in p ru)
end
def fdA (F : Va → Va → M Va) (a b : Va) : M Va := fun h => match a with
  | .fd ks vs => match fdOk vs with
    | true => match plV b with
      | true => fdBack (F (.ref 0) b (fdHea ks vs)) h
      | false => .no
    | false => .no
  | a => F a b h
def fdB (F : Va → Va → M Va) (a b : Va) : M Va := fun h => match b with
  | .fd ks vs => match fdOk vs with
    | true => match plV a with
      | true => fdBack (F a (.ref 0) (fdHea ks vs)) h
      | false => .no
    | false => .no
  | b => F a b h
def plVs (xs : List Va) : Bool := match noFds xs with
  | true => okVs 0 xs
  | false => false
def fdM (F : Va → Fn) (a : Va) : Fn := fun xs h => match a with
  | .fd ks vs => match fdOk vs with
    | true => match plVs xs with
      | true => fdBack (F (.ref 0) xs (fdHea ks vs)) h
      | false => .no
    | false => .no
  | a => F a xs h
section
variable {K : FW} {W : XW} {x y : V} {H : Hp} {Q : VK} {F : Va → Va → M Va}
theorem fdA_ok (s : rM2 K W (fdA F) x y H Q) : rM2 K W F x y H Q := by
  obtain ⟨ρ, h, a, b, q, ra, rb, s⟩ := s
  cases a with
  | fd ks vs =>
    unfold fdA at s
    simp only at s
    cases p : fdOk vs with
    | false => rw [p] at s; exact False.elim s
    | true =>
      rw [p] at s
      simp only at s
      cases p2 : plV b with
      | false => rw [p2] at s; exact False.elim s
      | true =>
        rw [p2] at s
        obtain ⟨d, e, out, q1, r1, hd⟩ := fd_in ra p
        exact ⟨[d], _, .ref 0, b, q1, r1, pl_in p2 rb, fd_out out hd q s⟩
  | _ => exact ⟨ρ, h, _, b, q, ra, rb, s⟩
theorem fdB_ok (s : rM2 K W (fdB F) x y H Q) : rM2 K W F x y H Q := by
  obtain ⟨ρ, h, a, b, q, ra, rb, s⟩ := s
  cases b with
  | fd ks vs =>
    unfold fdB at s
    simp only at s
    cases p : fdOk vs with
    | false => rw [p] at s; exact False.elim s
    | true =>
      rw [p] at s
      simp only at s
      cases p2 : plV a with
      | false => rw [p2] at s; exact False.elim s
      | true =>
        rw [p2] at s
        obtain ⟨d, e, out, q1, r1, hd⟩ := fd_in rb p
        exact ⟨[d], _, a, .ref 0, q1, pl_in p2 ra, r1, fd_out out hd q s⟩
  | _ => exact ⟨ρ, h, a, _, q, ra, rb, s⟩
theorem fdM_ok {F : Va → Fn} {us : List V} (s : rMM K W (fdM F) x us H Q) : rMM K W F x us H Q := by
  obtain ⟨ρ, h, a, xs, q, ra, rb, s⟩ := s
  cases a with
  | fd ks vs =>
    unfold fdM at s
    simp only at s
    cases p : fdOk vs with
    | false => rw [p] at s; exact False.elim s
    | true =>
      rw [p] at s
      simp only at s
      cases p2 : plVs xs with
      | false => rw [p2] at s; exact False.elim s
      | true =>
        rw [p2] at s
        obtain ⟨d, e, out, q1, r1, hd⟩ := fd_in ra p
        unfold plVs at p2
        cases n : noFds xs with
        | false => rw [n] at p2; cases p2
        | true => rw [n] at p2; exact ⟨[d], _, .ref 0, xs, q1, r1, RVs.unfN xs n (RVs.frm p2 rb), fd_out out hd q s⟩
  | _ => exact ⟨ρ, h, _, xs, q, ra, rb, s⟩
end
section
variable {X : Cx} {W : XW} {a b : Expr} {A B : Ex} {pos : Pos}
theorem ex_inF (hu : X.A.units + 65 < cLine) (ha : EX W X a A) (hb : EX W X b B) (hm : behindInMarks .In b = false := by rfl) : EX W X (.Compare a [.In] [b] pos) (op2 (fdB vIn) A B) := ex_cmp (r := rM2 X.fw W (fdB vIn)) (fun pins s σ H x y v u Q I rx ry z => op_inM (W := W) hu pins s σ H x y v u Q I rx ry (fdB_ok z)) s_rM2 ha hb hm
theorem ex_notInF (hu : X.A.units + 65 < cLine) (ha : EX W X a A) (hb : EX W X b B) (hm : behindInMarks .NotIn b = false := by rfl) : EX W X (.Compare a [.NotIn] [b] pos) (op2 (fdB vNotIn) A B) := ex_cmp (r := rM2 X.fw W (fdB vNotIn)) (fun pins s σ H x y v u Q I rx ry z => op_notInM (W := W) hu pins s σ H x y v u Q I rx ry (fdB_ok z)) s_rM2 ha hb hm
theorem tx_inF (hu : X.A.units + 65 < cLine) (ha : EX W X a A) (hb : EX W X b B) (hm : behindInMarks .In b = false := by rfl) : TX W X (.Compare a [.In] [b] pos) (isB (op2 (fdB vIn) A B)) := tx_cmp (r := rM2 X.fw W (fdB vIn)) (fun pins s σ H x y v u Q I rx ry z => op_inM (W := W) hu pins s σ H x y v u Q I rx ry (fdB_ok z)) s_rM2 ha hb hm
theorem tx_notInF (hu : X.A.units + 65 < cLine) (ha : EX W X a A) (hb : EX W X b B) (hm : behindInMarks .NotIn b = false := by rfl) : TX W X (.Compare a [.NotIn] [b] pos) (isB (op2 (fdB vNotIn) A B)) := tx_cmp (r := rM2 X.fw W (fdB vNotIn)) (fun pins s σ H x y v u Q I rx ry z => op_notInM (W := W) hu pins s σ H x y v u Q I rx ry (fdB_ok z)) s_rM2 ha hb hm
theorem ex_dixF (hu : X.A.units + 65 < cLine) (ha : EX W X a A) (hb : EX W X b B) (hs : NoSl b := by intro _ _; rfl) : EX W X (.Subscript a b pos) (op2 (fdA vDix) A B) := by
  refine ⟨⟨fun pins s σ H Q I h => ?_⟩⟩
  have h2 : tOp (rM2 X.fw W vDix) (tE X.fw W A) (tE X.fw W B) σ H Q := by
    obtain ⟨ρ, l, hh, L, q, s⟩ := h
    exact tE.go L q s fun a h1 ρ1 H1 x e1 L1 q1 rx s1 => tE.go L1 q1 s1 fun b h2 ρ2 H2 y e2 L2 q2 ry s2 => fdA_ok ⟨ρ2, h2, a, b, q2, RV.ext e2 a rx, ry, s2⟩
  refine subD_of PySem.F.slot_dict_getitem.lookup hs (thn (ha.pe.run pins s σ H _ I h2) fun u s1 ⟨x, H1, I1, rx, q1⟩ => thn (hb.pe.run pins s1 σ H1 _ I1 q1) fun iv s2 ⟨y, H2, I2, ry, ρ, h, va, vb, q, ra, rb, sa⟩ => ?_)
  cases va with
  | ref i =>
    cases e : dAt h i vb with
    | none => simp only [vDix, e] at sa; exact False.elim sa
    | some o =>
      cases o with
      | none => simp only [vDix, e] at sa; exact False.elim sa
      | some w =>
        simp only [vDix, e] at sa
        obtain ⟨d, rfl, ty, run⟩ := dGet_run (E := X.xe) (Q := EP X pins σ Q) hu I2 q ra rb ry e fun z w' s' I' r1 r2 => ⟨z, H2, I', r2, sa.val q r1⟩
        cases rx
        exact ⟨ty, run⟩
  | _ => exact False.elim sa
def isFd : Va → Bool
  | .fd _ _ => true
  | _ => false
/-- o[i]: lists, tuples, texts, dicts -/
def vIxF (a b : Va) : M Va := fun h => match isFd a with
  | true => fdA vDix a b h
  | false => vIxA a b h
theorem ex_ixF (hu : X.A.units + 65 < cLine) (ha : EX W X a A) (hb : EX W X b B) (hp : PlainIx b := by exact fun _ _ => rfl) (hs : NoSl b := by intro _ _; rfl) : EX W X (.Subscript a b pos) (op2 vIxF A B) :=
  ⟨PE.weak (pe_either (ex_ixA (pos := pos) hu ha hb hp hs).pe (ex_dixF (pos := pos) hu ha hb hs).pe) fun σ H Q ⟨ρ, l, h, L, q, s⟩ => by
    cases e : A l h with
    | no => exact .inl ⟨ρ, l, h, L, q, by unfold op2 at s ⊢; rw [e] at s ⊢; exact s⟩
    | err c v h1 => exact .inl ⟨ρ, l, h, L, q, by unfold op2 at s ⊢; rw [e] at s ⊢; exact s⟩
    | ok va h1 =>
      cases e2 : B l h1 with
      | no => exact .inl ⟨ρ, l, h, L, q, by unfold op2 at s ⊢; rw [e] at s ⊢; simp only [Rs.bind, e2] at s ⊢; exact s⟩
      | err c v h2 => exact .inl ⟨ρ, l, h, L, q, by unfold op2 at s ⊢; rw [e] at s ⊢; simp only [Rs.bind, e2] at s ⊢; exact s⟩
      | ok vb h2 =>
        cases d : isFd va with
        | true => exact .inr ⟨ρ, l, h, L, q, by unfold op2 at s ⊢; rw [e] at s ⊢; simp only [Rs.bind, e2, vIxF, d] at s ⊢; exact s⟩
        | false => exact .inl ⟨ρ, l, h, L, q, by unfold op2 at s ⊢; rw [e] at s ⊢; simp only [Rs.bind, e2, vIxF, d] at s ⊢; exact s⟩⟩
end
/-- d.get(..), also of a dict that stands still -/
def isDF (h : Hea) (a : Va) : Bool := match a with
  | .fd _ vs => fdOk vs
  | a => isD h a
def dmF (F : Va → Fn) (A : Ex) (B : Ax) : Ex := fun l h => (A l h).bind fun a h1 => match isDF h1 a with
  | true => (B l h1).bind fun xs h2 => fdM F a xs h2
  | false => .no
section
variable {X : Cx} {W : XW} {o e : Expr} {es : List Expr} {A : Ex} {B : Ax} {apos cpos : Pos} {F : Va → Fn} {name : Str} {id : String}
theorem isDF_rel {K : FW} {ρ : List Addr} {H : Hp} {h : Hea} {a : Va} {x : V} (q : HR K ρ h H) (ra : RV K ρ H a x) (d : isDF h a = true) : IsDR K x H := by
  cases a with
  | fd ks vs =>
    obtain ⟨d', e, out, q1, r1, hd⟩ := fd_in ra d
    exact ⟨[d'], _, .ref 0, q1, r1, rfl⟩
  | _ => exact ⟨ρ, h, _, q, ra, d⟩
theorem ex_dmF (pa : PlainAttrs "dict") (slot : Slot "dict" name id) (hty : typeOf (.builtin id) = pure (.type "method_descriptor")) (hm : MtR X id (rMM X.fw W F)) (ho : EX W X o A) (ha : AX W X (e :: es) B)
    (hbase : attributeBase o name X.env (eval o X.env) = eval o X.env)
    (hfew : ((backTo cpos (starEach (e :: es) X.env)).all (fun x => !x.1) && (backToKw cpos (keywordEach [] X.env)).all (fun x => x.1.isSome)
      && decide ((e :: es).length + ([] : List Keyword).length + (if ([] : List Keyword).isEmpty then 0 else 1) < 30)) = true)
    (hline : (apos.endLine == cpos.line) = true) (hs : starEach (e :: es) X.env = (false, eval e X.env) :: starEach es X.env) (hplain : (backTo cpos (starEach es X.env)).any (·.1) = false) : EX W X (.Call (.Attribute o name apos) (e :: es) [] cpos) (dmF F A B) :=
  ⟨PE.weak (pe_dm pa slot hty hm ho.pe ha.pa hbase hfew hline hs hplain) fun σ H Q ⟨ρ, l, h, L, q, s⟩ => tE.go L q s fun a h1 ρ1 H1 x e1 L1 q1 rx s1 => by
    cases d : isDF h1 a with
    | false => simp only [d] at s1; exact False.elim s1
    | true =>
      simp only [d] at s1
      exact ⟨isDF_rel q1 rx d, tA.go L1 q1 s1 fun xs h2 ρ2 H2 us e2 L2 q2 rs s2 => fdM_ok ⟨ρ2, h2, a, xs, q2, RV.ext e2 a rx, rs, s2⟩⟩⟩
theorem ex_dgetF (hu : X.A.units + 65 < cLine) (ho : EX W X o A) (ha : AX W X (e :: es) B) (hbase : attributeBase o "get" X.env (eval o X.env) = eval o X.env := by rfl)
    (hfew : ((backTo cpos (starEach (e :: es) X.env)).all (fun x => !x.1) && (backToKw cpos (keywordEach [] X.env)).all (fun x => x.1.isSome)
      && decide ((e :: es).length + ([] : List Keyword).length + (if ([] : List Keyword).isEmpty then 0 else 1) < 30)) = true := by rfl)
    (hline : (apos.endLine == cpos.line) = true := by rfl) (hs : starEach (e :: es) X.env = (false, eval e X.env) :: starEach es X.env := by rfl) (hplain : (backTo cpos (starEach es X.env)).any (·.1) = false := by rfl) : EX W X (.Call (.Attribute o "get" apos) (e :: es) [] cpos) (dmF vDget A B) :=
  ex_dmF PySem.F.plainAttrs_dict PySem.F.slot_dict_get PySem.F.type_dict_get (mt_dget hu) ho ha hbase hfew hline hs hplain
end

/-! ### d.items() of a dict that stands still -/
def lockF {α : Type} (E : Ex) (S : Lo → M α) : Lo → M α := fun l h => match E l h with
  | .ok a _ => match isFd a with
    | true => S l h
    | false => lockM E S l h
  | _ => .no
def iItemsF (E : Ex) : Ix := fun l h => (E l h).bind fun a h1 => match a with
  | .fd ks vs => .ok (.vals (itemsV (ks.zip vs))) h1
  | .ref i => match h1.get i with
    | some (.dlk kvs) => .ok (.vals (itemsV kvs)) h1
    | _ => .no
  | _ => .no
section
variable {X : Cx} {W : XW} {st : Stmt} {e : Expr} {E : Ex} {S : Sx} {A : Ex} {tpos apos cpos : Pos} {elts : List Expr} {kk : Nat}
theorem sx_lockF (hs : SX W X st S) : SX W X st (lockF E S) :=
  ⟨PS.weak (ps_or hs.ps (sx_lock (E := E) hs).ps) fun D σ H ⟨ρ, l, h, L, q, s⟩ => by
    unfold lockF at s
    cases e : E l h with
    | ok a h1 =>
      rw [e] at s
      simp only at s
      cases f : isFd a with
      | true => rw [f] at s; exact .inl ⟨ρ, l, h, L, q, s⟩
      | false => rw [f] at s; exact .inr ⟨ρ, l, h, L, q, s⟩
    | _ => rw [e] at s; exact False.elim s⟩
theorem ex_lockF (hs : EX W X e A) : EX W X e (lockF E A) :=
  ⟨PE.weak (pe_either hs.pe (ex_lock (E := E) hs).pe) fun σ H Q ⟨ρ, l, h, L, q, s⟩ => by
    unfold lockF at s
    cases e : E l h with
    | ok a h1 =>
      rw [e] at s
      simp only at s
      cases f : isFd a with
      | true => rw [f] at s; exact .inl ⟨ρ, l, h, L, q, s⟩
      | false => rw [f] at s; exact .inr ⟨ρ, l, h, L, q, s⟩
    | _ => rw [e] at s; exact False.elim s⟩
theorem ix_itemsF (he : EX W X e E) (hbase : attributeBase e "items" X.env (eval e X.env) = eval e X.env := by rfl) (hline : (apos.endLine == cpos.line) = true := by rfl) :
    IX W X (.Tuple elts kk tpos) (.Call (.Attribute e "items" apos) [] [] cpos) (iItemsF E) :=
  ⟨PI.weak (pi_items he.pe hbase hline) fun σ H R ⟨ρ, l, h, L, q, s⟩ => tE.go L q s fun a h1 ρ1 H1 x e1 L1 q1 rx s1 => by
    cases a with
    | fd ks vs =>
      obtain ⟨d, od, ws, rfl, ⟨_, hH⟩, k, r⟩ := rx
      exact ⟨d, od, ws, rfl, hH, s1.ok q1 _ _ tie_items ⟨hH, rkv_fd k r⟩⟩
    | ref i =>
      cases g : h1.get i with
      | none => simp only [g] at s1; exact False.elim s1
      | some o =>
        cases o with
        | dlk kvs =>
          simp only [g] at s1
          obtain ⟨d, rfl, hd, od, ws, hH, hr⟩ := q1.at_ref rx g
          exact ⟨d, od, ws, rfl, hH, s1.ok q1 _ _ tie_items ⟨hH, hr⟩⟩
        | _ => simp only [g] at s1; exact False.elim s1
    | _ => exact False.elim s1⟩
end

/-! ### len(d), dict(d) of a dict that stands still -/
def vLenF (a : Va) : M Va := fun h => match a with
  | .fd ks _ => .ok (.int ks.length) h
  | a => vLen a h
def vDictOf2 (a : Va) : M Va := fun h => match a with
  | .fd ks vs => .ok (.ref h.n) (h.push (.dic (ks.zip vs)))
  | a => vDictOf a h
section
variable {X : Cx} {W : XW}
theorem fd_len {K : FW} {ρ : List Addr} {H : Hp} {ks : List Ke} {vs : List Va} {x : V} (r : RV K ρ H (.fd ks vs) x) : ∃ d o ws, x = .ref d ∧ H d = some (.frz o (.dK ws)) ∧ ws.length = ks.length ∧ RKV K ρ H (ks.zip vs) ws := by
  obtain ⟨d, o, ws, rfl, ⟨_, hH⟩, k, r⟩ := r
  refine ⟨d, o, ws, rfl, hH, ?_, rkv_fd k r⟩
  have := congrArg List.length k
  simpa using this
theorem cr_lenF : CallR X (.builtin "len") (rMC X.fw W (fn1 vLenF)) := by
  intro pins s σ H us vs Q I rel ⟨ρ, h, xs, q, rs, sa⟩
  match xs, rs with
  | [a], ⟨u, t, e1, ra, e2⟩ =>
    have old : sat X.fw W ρ H (vLen a h) (rv X.fw Q) → wpAny (model X.prog X.w) X.A (call (.builtin "len") vs) (EP X pins σ Q) X.xe s := fun sa =>
      call_lenA pins s σ H us vs Q I rel (s_fn1 s_len ρ h H [a] us Q q ⟨u, t, e1, ra, e2⟩ sa)
    cases a with
    | fd ks ws =>
      cases e2
      subst e1
      obtain ⟨d, o, ws', rfl, hH, hl, _⟩ := fd_len ra
      obtain ⟨v, rfl, rv⟩ := vals1 rel
      cases rv
      have sb : sat X.fw W ρ H (.ok (.int ks.length) h) (rv X.fw Q) := sa
      refine d_len I (.inr ⟨o, hH⟩) fun t s' I' => ⟨.int ks.length, H, I', ⟨t, by rw [hl]⟩, sb.val q rfl⟩
    | _ => exact old sa
  | [], _ => exact False.elim sa
  | _ :: _ :: _, _ => exact False.elim sa
theorem cr_dictOf2 : CallR X (.type "dict") (rMC X.fw W (fn1 vDictOf2)) := by
  intro pins s σ H us vs Q I rel ⟨ρ, h, xs, q, rs, sa⟩
  match xs, rs with
  | [a], ⟨u, t, e1, ra, e2⟩ =>
    have old : sat X.fw W ρ H (vDictOf a h) (rv X.fw Q) → wpAny (model X.prog X.w) X.A (call (.type "dict") vs) (EP X pins σ Q) X.xe s := fun sa =>
      cr_dictOf (W := W) pins s σ H us vs Q I rel ⟨ρ, h, [a], q, ⟨u, t, e1, ra, e2⟩, sa⟩
    cases a with
    | fd ks ws =>
      cases e2
      subst e1
      obtain ⟨d, o, ws', rfl, hH, hl, rel2⟩ := fd_len ra
      obtain ⟨v, rfl, rv⟩ := vals1 rel
      cases rv
      have sb : sat X.fw W ρ H (.ok (.ref h.n) (h.push (.dic (ks.zip ws)))) (rv X.fw Q) := sa
      refine d_copyOf I (.inr ⟨o, hH⟩) fun p s' n I' => ⟨.ref p, _, I', rfl, ?_⟩
      exact sb (ρ ++ [p]) _ (Ext.newAt n) (q.push n ⟨ws', upd_same, Paired.mapQ rel2 fun _ _ z => ⟨z.1, RV.ext (Ext.newAt n) _ z.2⟩⟩) (.ref p) ⟨p, rfl, q.atN⟩
    | _ => exact old sa
  | [], _ => exact False.elim sa
  | _ :: _ :: _, _ => exact False.elim sa
variable {e : Expr} {A : Ex} {p pos : Pos}
theorem ex_lenF (hg : Gl X "len") (hm : X.mg "len" = none) (ha : EX W X e A) (hs : starEach [e] X.env = (false, eval e X.env) :: starEach [] X.env := by rfl) : EX W X (.Call (.Name "len" p) [e] [] pos) (callE (fn1 vLenF) (aCons A aNil)) :=
  ex_callB (cr_lenF (W := W)) s_rMC hg hm PySem.boot_len (ax_cons ha ax_nil hs) (by decide) (by decide) hs
theorem ex_dictOf2 (hg : Gl X "dict") (hm : X.mg "dict" = none) (ha : EX W X e A) (hs : starEach [e] X.env = (false, eval e X.env) :: starEach [] X.env := by rfl) : EX W X (.Call (.Name "dict" p) [e] [] pos) (callE (fn1 vDictOf2) (aCons A aNil)) :=
  ex_callTy (cr_dictOf2 (W := W)) s_rMC hg hm (by decide +kernel) (ax_cons ha ax_nil hs) (by decide) (by decide) hs
end
end Rf

/-! Rf: walks over lists and dicts that stand still; xs != []; list(d). -/
namespace Rf
open PySem PySem.Spec PyProof.Rows L2

/-! ### enumerate, zip of lists that stand still -/
section
variable {K : FW}
theorem RVs.enumL_at {xs : List Va} : ∀ (k j : Nat), (enumL j xs)[k]? = (xs[k]?).map fun v => Va.pr [.int ((j + k : Nat) : Int), v] := by
  induction xs with
  | nil => intro k j; rfl
  | cons x r ih =>
    intro k j
    cases k with
    | zero => rfl
    | succ k =>
      have := ih k (j + 1)
      show (enumL (j + 1) r)[k]? = (r[k]?).map _
      rw [this]
      have e : j + 1 + k = j + (k + 1) := by omega
      rw [e]
theorem tie_enumF {xs : List Va} {a : Addr} : Tie K (Ite K.K a) (.vals (enumL 0 xs)) (fun ρ H => ∃ us, FrL H a us ∧ RVs K ρ H xs us) := by
  refine ⟨fun ρ H ρ' H' ⟨us, ⟨o, c1⟩, c2⟩ e => ⟨us, ⟨o, e.fz _ _ _ c1⟩, RVs.ext e _ c2⟩, fun k h ρ H ⟨us, c1, c2⟩ q e => ?_, fun k h ρ H v ⟨us, c1, c2⟩ q e => ?_⟩
  · refine ⟨us, c1.sq (K := K), ?_⟩
    have e1 : (enumL 0 xs)[k]? = none := Option.some.inj e
    rw [RVs.enumL_at] at e1
    rw [← c2.length]
    cases g : xs[k]? with
    | none => exact List.getElem?_eq_none_iff.mp g
    | some w => rw [g] at e1; cases e1
  · have e1 : (enumL 0 xs)[k]? = some v := Option.some.inj e
    rw [RVs.enumL_at] at e1
    cases g : xs[k]? with
    | none => rw [g] at e1; cases e1
    | some w =>
      rw [g] at e1
      cases e1
      obtain ⟨u, hu, ru⟩ := c2.get g
      refine ⟨⟨us, u, c1.sq (K := K), hu⟩, fun x H' ⟨T, y, ex, n, eH, hy⟩ => ?_⟩
      subst ex eH
      have := (hy us (c1.sq (K := K))).symm.trans hu
      cases this
      exact ⟨Ext.new n, q.new n, T, _, rfl, SqT.of upd_same, _, _, rfl, by simp only [Nat.zero_add]; rfl, _, _, rfl, RV.ext (Ext.new n) _ ru, rfl⟩
def zipAt (xs ys : List Va) (k : Nat) : Option Va := match xs[k]? with
  | some x => match ys[k]? with
    | some y => some (Va.pr [x, y])
    | none => none
  | none => none
theorem zipL_at : ∀ (xs ys : List Va) (k : Nat), (zipL xs ys)[k]? = zipAt xs ys k
  | [], ys, k => by unfold zipAt; simp [zipL]
  | x :: xs, [], k => by
    unfold zipAt
    cases h : (x :: xs)[k]? <;> simp [zipL]
  | x :: xs, y :: ys, 0 => rfl
  | x :: xs, y :: ys, k + 1 => zipL_at xs ys k
theorem tie_zipF {xs ys : List Va} {a b : Addr} : Tie K (Itz K.K a b) (.vals (zipL xs ys)) (fun ρ H => (∃ us, FrL H a us ∧ RVs K ρ H xs us) ∧ ∃ us, FrL H b us ∧ RVs K ρ H ys us) := by
  refine ⟨fun ρ H ρ' H' ⟨⟨us, ⟨o, c1⟩, c2⟩, ⟨us', ⟨o', c1'⟩, c2'⟩⟩ e => ⟨⟨us, ⟨o, e.fz _ _ _ c1⟩, RVs.ext e _ c2⟩, ⟨us', ⟨o', e.fz _ _ _ c1'⟩, RVs.ext e _ c2'⟩⟩, fun k h ρ H ⟨⟨us, c1, c2⟩, ⟨us', c1', c2'⟩⟩ q e => ?_, fun k h ρ H v ⟨⟨us, c1, c2⟩, ⟨us', c1', c2'⟩⟩ q e => ?_⟩
  · refine ⟨us, us', c1.sq (K := K), c1'.sq (K := K), ?_⟩
    have e1 : (zipL xs ys)[k]? = none := Option.some.inj e
    rw [zipL_at] at e1
    unfold zipAt at e1
    rw [← c2.length, ← c2'.length]
    cases g : xs[k]? with
    | none => exact .inl (List.getElem?_eq_none_iff.mp g)
    | some w =>
      cases g' : ys[k]? with
      | none => exact .inr (List.getElem?_eq_none_iff.mp g')
      | some w' => simp only [g, g'] at e1; cases e1
  · have e1 : (zipL xs ys)[k]? = some v := Option.some.inj e
    rw [zipL_at] at e1
    unfold zipAt at e1
    cases g : xs[k]? with
    | none => simp only [g] at e1; cases e1
    | some w =>
      cases g' : ys[k]? with
      | none => simp only [g, g'] at e1; cases e1
      | some w' =>
        simp only [g, g'] at e1
        cases e1
        obtain ⟨u, hu, ru⟩ := c2.get g
        obtain ⟨u', hu', ru'⟩ := c2'.get g'
        refine ⟨⟨us, us', u, u', c1.sq (K := K), c1'.sq (K := K), hu, hu'⟩, fun x H' ⟨T, y, y', ex, n, eH, hy, hy'⟩ => ?_⟩
        subst ex eH
        have := (hy us (c1.sq (K := K))).symm.trans hu
        cases this
        have := (hy' us' (c1'.sq (K := K))).symm.trans hu'
        cases this
        exact ⟨Ext.new n, q.new n, T, _, rfl, SqT.of upd_same, _, _, rfl, RV.ext (Ext.new n) _ ru, _, _, rfl, RV.ext (Ext.new n) _ ru', rfl⟩
end
def iEnumF (A : Ax) : Ix := fun l h => match A l h with
  | .ok xs h1 => match xs with
    | [a] => match a with
      | .fl ys => .ok (.vals (enumL 0 ys)) h1
      | _ => iEnumA (fun _ _ => .ok xs h1) l h
    | _ => .no
  | .err c v h' => .err c v h'
  | .no => .no
def iZipF (A : Ax) : Ix := fun l h => match A l h with
  | .ok xs h1 => match xs with
    | [a, b] => match a with
      | .fl ys => match b with
        | .fl zs => .ok (.vals (zipL ys zs)) h1
        | _ => .no
      | _ => iZipM (fun _ _ => .ok xs h1) l h
    | _ => .no
  | .err c v h' => .err c v h'
  | .no => .no
theorem iEnumA_at {A : Ax} {l : Lo} {h h1 : Hea} {xs : List Va} (e : A l h = .ok xs h1) : iEnumA A l h = iEnumA (fun _ _ => .ok xs h1) l h := by unfold iEnumA; rw [e]
theorem iZipM_at {A : Ax} {l : Lo} {h h1 : Hea} {xs : List Va} (e : A l h = .ok xs h1) : iZipM A l h = iZipM (fun _ _ => .ok xs h1) l h := by unfold iZipM; rw [e]
theorem iVal_at {A : Ex} {l : Lo} {h h1 : Hea} {a : Va} (e : A l h = .ok a h1) : iVal A l h = iVal (fun _ _ => .ok a h1) l h := by unfold iVal; rw [e]
section
variable {W : XW} {X : Cx} {e e2 : Expr} {B : Ax} {p pos tpos : Pos} {elts : List Expr} {kk : Nat}
theorem ix_enumF (hg : Gl X "enumerate") (hm : X.mg "enumerate" = none) (ha : AX W X [e] B) (hs : starEach [e] X.env = [(false, eval e X.env)] := by rfl) :
    IX W X (.Tuple elts kk tpos) (.Call (.Name "enumerate" p) [e] [] pos) (iEnumF B) := by
  refine ⟨PI.weak (pi_either (pi_enum hg hm ha.pa hs) (ix_enum (W := W) (p := p) (pos := pos) (tpos := tpos) (elts := elts) (kk := kk) hg hm ha hs).pi) fun σ H R ⟨ρ, l, h, L, q, s⟩ => ?_⟩
  unfold iEnumF at s
  cases e1 : B l h with
  | no => rw [e1] at s; exact False.elim s
  | err c v h' => rw [e1] at s; exact .inl ⟨ρ, l, h, L, q, by rw [e1]; exact s⟩
  | ok xs h1 =>
    rw [e1] at s
    match xs, s, e1 with
    | [a], s, e1 =>
      cases a with
      | fl ys =>
        refine .inl ⟨ρ, l, h, L, q, ?_⟩
        rw [e1]
        refine fun ρ1 H1 ex q1 us ⟨y, t, eu, r1, r2⟩ => ?_
        cases r2
        subst eu
        obtain ⟨pp, vs, rfl, h3, h4⟩ := r1
        exact ⟨pp, vs, rfl, h3.sq (K := X.fw), s ρ1 H1 ex q1 _ _ tie_enumF ⟨vs, h3, h4⟩⟩
      | _ => exact .inr ⟨ρ, l, h, L, q, by rw [iEnumA_at e1]; exact s⟩
    | [], s, _ => exact False.elim s
    | _ :: _ :: _, s, _ => exact False.elim s
theorem ix_zipF (hg : Gl X "zip") (hm : X.mg "zip" = none) (ha : AX W X [e, e2] B) (hs : starEach [e, e2] X.env = (false, eval e X.env) :: starEach [e2] X.env := by rfl) (hpl : (backTo pos (starEach [e2] X.env)).any (·.1) = false := by rfl) :
    IX W X (.Tuple elts kk tpos) (.Call (.Name "zip" p) [e, e2] [] pos) (iZipF B) := by
  refine ⟨PI.weak (pi_either (pi_zip hg hm ha.pa hs hpl) (ix_zip (W := W) (p := p) (pos := pos) (tpos := tpos) (elts := elts) (kk := kk) hg hm ha hs hpl).pi) fun σ H R ⟨ρ, l, h, L, q, s⟩ => ?_⟩
  unfold iZipF at s
  cases e1 : B l h with
  | no => rw [e1] at s; exact False.elim s
  | err c v h' => rw [e1] at s; exact .inl ⟨ρ, l, h, L, q, by rw [e1]; exact s⟩
  | ok xs h1 =>
    rw [e1] at s
    match xs, s, e1 with
    | [a, b], s, e1 =>
      cases a with
      | fl ys =>
        cases b with
        | fl zs =>
          refine .inl ⟨ρ, l, h, L, q, ?_⟩
          rw [e1]
          refine fun ρ1 H1 ex q1 us ⟨y, t, eu, r1, y', t', eu', r1', r2⟩ => ?_
          cases r2
          subst eu'
          subst eu
          obtain ⟨pp, vs, rfl, h3, h4⟩ := r1
          obtain ⟨pp', vs', rfl, h3', h4'⟩ := r1'
          exact ⟨pp, pp', vs, vs', rfl, h3.sq (K := X.fw), h3'.sq (K := X.fw), s ρ1 H1 ex q1 _ _ tie_zipF ⟨⟨vs, h3, h4⟩, ⟨vs', h3', h4'⟩⟩⟩
        | _ => exact False.elim s
      | _ => exact .inr ⟨ρ, l, h, L, q, by rw [iZipM_at e1]; exact s⟩
    | [], s, _ => exact False.elim s
    | [_], s, _ => exact False.elim s
    | _ :: _ :: _ :: _, s, _ => exact False.elim s
end

/-! ### xs != [], xs == [] -/
def rNil (K : FW) (f : Bool → Bool) : R2 := fun x y H Q => ∃ a b xs, x = .ref a ∧ y = .ref b ∧ SqL K.K H a xs ∧ SqL K.K H b [] ∧ Q (.bl (f xs.isEmpty)) H
section
variable {X : Cx}
theorem op_neNil (hu : X.A.units + 64 < cLine) : OpR X (compareOp .NotEq) (rNil X.fw fun b => !b) := by
  intro pins s σ H x y v u Q I rx ry ⟨a, b, xs, e1, e2, hx, hy, q⟩
  subst e1 e2
  cases rx
  cases ry
  obtain ⟨its, r1, p1, _⟩ := I.list hx
  obtain ⟨its2, r2, p2, _⟩ := I.list hy
  cases r2
  cases xs with
  | nil =>
    cases r1
    exact SeqAt.RcNeAt.lists (e := fun _ => true) p1.isList p2.isList rfl (by omega) (fun j h1 => absurd h1 (Nat.not_lt_zero _)) X.prog X.w _ _ ⟨.bl false, H, I, rfl, q⟩
  | cons z zs =>
    cases r1
    exact SeqAt.RcNeAt.lists_lengths p1.isList p2.isList (by simp) (by omega) X.prog X.w _ _ ⟨.bl true, H, I, rfl, q⟩
theorem op_eqNil (hu : X.A.units + 64 < cLine) : OpR X (compareOp .Eq) (rNil X.fw fun b => b) := by
  intro pins s σ H x y v u Q I rx ry ⟨a, b, xs, e1, e2, hx, hy, q⟩
  subst e1 e2
  cases rx
  cases ry
  obtain ⟨its, r1, p1, _⟩ := I.list hx
  obtain ⟨its2, r2, p2, _⟩ := I.list hy
  cases r2
  cases xs with
  | nil =>
    cases r1
    exact SeqAt.eq_listAt (e := fun _ => true) p1.isList p2.isList rfl (by omega) (fun j h1 => absurd h1 (Nat.not_lt_zero _)) ⟨.bl true, H, I, rfl, q⟩
  | cons z zs =>
    cases r1
    exact SeqAt.eq_list_lengthsAt p1.isList p2.isList (by simp) (by omega) ⟨.bl false, H, I, rfl, q⟩
end
def vNilF (f : Bool → Bool) (a b : Va) : M Va := fun h => match lstV h b with
  | some [] => match lstV h a with
    | some xs => .ok (.bl (f xs.isEmpty)) h
    | none => .no
  | _ => .no
theorem s_nil {K : FW} {W : XW} {f : Bool → Bool} : S2 K W (vNilF f) (rNil K f) := fun ρ h H a b x y Q q rx ry s => by
  unfold vNilF at s
  cases eb : lstV h b with
  | none => rw [eb] at s; exact False.elim s
  | some ys =>
    rw [eb] at s
    cases ys with
    | cons _ _ => exact False.elim s
    | nil =>
      simp only at s
      cases ea : lstV h a with
      | none => rw [ea] at s; exact False.elim s
      | some xs =>
        rw [ea] at s
        obtain ⟨p, us, rfl, h1, h2⟩ := lstV_ok q rx ea
        obtain ⟨p', us', rfl, h1', h2'⟩ := lstV_ok q ry eb
        cases h2'
        refine ⟨p, p', us, rfl, rfl, h1, h1', ?_⟩
        have : us.isEmpty = xs.isEmpty := by
          have := h2.length
          cases xs <;> cases us <;> simp at this ⊢
        rw [this]
        exact s.val q rfl
section
variable {W : XW} {X : Cx} {a b : Expr} {A B : Ex} {pos : Pos}
theorem ex_neNil (hu : X.A.units + 65 < cLine) (ha : EX W X a A) (hb : EX W X b B) : EX W X (.Compare a [.NotEq] [b] pos) (op2 (vNilF fun b => !b) A B) := ex_cmp (op_neNil (by omega)) s_nil ha hb (nomark _)
theorem tx_neNil (hu : X.A.units + 65 < cLine) (ha : EX W X a A) (hb : EX W X b B) : TX W X (.Compare a [.NotEq] [b] pos) (isB (op2 (vNilF fun b => !b) A B)) := tx_cmp (op_neNil (by omega)) s_nil ha hb (nomark _)
theorem ex_eqNil (hu : X.A.units + 65 < cLine) (ha : EX W X a A) (hb : EX W X b B) : EX W X (.Compare a [.Eq] [b] pos) (op2 (vNilF fun b => b) A B) := ex_cmp (op_eqNil (by omega)) s_nil ha hb (nomark _)
theorem tx_eqNil (hu : X.A.units + 65 < cLine) (ha : EX W X a A) (hb : EX W X b B) : TX W X (.Compare a [.Eq] [b] pos) (isB (op2 (vNilF fun b => b) A B)) := tx_cmp (op_eqNil (by omega)) s_nil ha hb (nomark _)
end

/-! ### list(d) -/
/-- the pairs of a dict -/
def dicV (h : Hea) : Va → Option (List (Ke × Va))
  | .fd ks vs => some (ks.zip vs)
  | .ref i => match h.get i with
    | some (.dic kvs) => some kvs
    | some (.dlk kvs) => some kvs
    | _ => none
  | _ => none
theorem dicV_ok {K : FW} {ρ : List Addr} {H : Hp} {h : Hea} {a : Va} {x : V} {kvs : List (Ke × Va)} (q : HR K ρ h H) (rx : RV K ρ H a x) (e : dicV h a = some kvs) : ∃ d ws, x = .ref d ∧ Rd H d (.dK ws) ∧ RKV K ρ H kvs ws := by
  cases a with
  | fd ks vs =>
    cases e
    obtain ⟨d, o, ws, rfl, hH, hl, rel⟩ := fd_len rx
    exact ⟨d, ws, rfl, .inr ⟨o, hH⟩, rel⟩
  | ref i =>
    unfold dicV at e
    cases g : h.get i with
    | none => simp only [g] at e; cases e
    | some o =>
      obtain ⟨p, rfl, hp, ro⟩ := q.at_ref rx g
      cases o with
      | dic kvs' => simp only [g] at e; cases e; obtain ⟨ws, h1, h2⟩ := ro; exact ⟨p, ws, rfl, .inl h1, h2⟩
      | dlk kvs' => simp only [g] at e; cases e; obtain ⟨o, ws, h1, h2⟩ := ro; exact ⟨p, ws, rfl, .inr ⟨o, h1⟩, h2⟩
      | _ => simp only [g] at e; cases e
  | _ => cases e
theorem keys_rel {K : FW} {ρ : List Addr} {H : Hp} : ∀ {kvs : List (Ke × Va)} {ws : List (Key × V)}, RKV K ρ H kvs ws → RVs K ρ H (kvs.map fun p => p.1.va) (ws.map fun q => kV q.1)
  | _, _, .nil => rfl
  | p :: _, q :: _, .cons r t => ⟨_, _, rfl, by show RV K ρ H p.1.va (kV q.1); rw [r.1]; exact kv_va p.1, keys_rel t⟩
def vList2 (a : Va) : M Va := fun h => match dicV h a with
  | some kvs => .ok (.ref h.n) (h.push (.lst (kvs.map fun p => p.1.va)))
  | none => vList a h
section
variable {X : Cx} {W : XW}
theorem cr_list2 (hc : X.calm = true) : CallR X (.type "list") (rMC X.fw W (fn1 vList2)) := by
  intro pins s σ H us vs Q I rel ⟨ρ, h, xs, q, rs, sa⟩
  match xs, rs with
  | [a], ⟨u, t, e1, ra, e2⟩ =>
    have sb : sat X.fw W ρ H (vList2 a h) (rv X.fw Q) := sa
    unfold vList2 at sb
    cases e : dicV h a with
    | none =>
      rw [e] at sb
      exact (call_list_of.or (call_list_strV hc)) pins s σ H us vs Q I rel (s_list ρ h H [a] us Q q ⟨u, t, e1, ra, e2⟩ sb)
    | some kvs =>
      rw [e] at sb
      cases e2
      subst e1
      obtain ⟨d, ws, rfl, hd, rk⟩ := dicV_ok q ra e
      exact call_listD hc pins s σ H _ vs Q I rel ⟨d, ws, rfl, hd, sb.newLst q (keys_rel rk)⟩
  | [], _ => exact False.elim sa
  | _ :: _ :: _, _ => exact False.elim sa
theorem new_list2 (xs : List Va) (h : Hea) : NewO (fn1 vList2 xs h) h := by
  match xs with
  | [] => exact NewO.no
  | _ :: _ :: _ => exact NewO.no
  | [a] =>
    show NewO (vList2 a h) h
    unfold vList2
    split
    · exact NewO.mk
    · exact new_list [a] h
variable {e : Expr} {A : Ex} {p pos : Pos}
theorem ex_list2 (hc : X.calm = true) (hg : Gl X "list") (hm : X.mg "list" = none) (ha : EX W X e A) (hs : starEach [e] X.env = (false, eval e X.env) :: starEach [] X.env := by rfl) : EX W X (.Call (.Name "list" p) [e] [] pos) (callE (fn1 vList2) (aCons A aNil)) :=
  ex_callTy (cr_list2 (W := W) hc) s_rMC hg hm (by decide +kernel) (ax_cons ha ax_nil hs) (by decide) (by decide) hs
theorem ex_list2F (hc : X.calm = true) (hg : Gl X "list") (hm : X.mg "list" = none) (ha : EX W X e A) (hs : starEach [e] X.env = (false, eval e X.env) :: starEach [] X.env := by rfl) : EX W X (.Call (.Name "list" p) [e] [] pos) (callE (fzC (fn1 vList2)) (aCons A aNil)) :=
  ex_callTyF (cr_list2 (W := W) hc) (SC.fz s_rMC new_list2) hg hm (by decide +kernel) (ax_cons ha ax_nil hs) (by decide) (by decide) hs
end

/-! ### for k in d -/
theorem tie_keys {K : FW} {d : Addr} {o : Obj} {kvs : List (Ke × Va)} {ws : List (Key × V)} : Tie K (Itk d o ws) (.vals (kvs.map fun p => p.1.va)) (fun ρ H => H d = some (.frz o (.dK ws)) ∧ RKV K ρ H kvs ws) := by
  refine ⟨fun ρ H ρ' H' ⟨c1, c2⟩ e => ⟨e.fz _ _ _ c1, Paired.mapQ c2 fun _ _ z => ⟨z.1, RV.ext e _ z.2⟩⟩, fun k h ρ H ⟨c1, c2⟩ q e => ⟨c1, ?_⟩, fun k h ρ H v ⟨c1, c2⟩ q e => ?_⟩
  · have e1 : (kvs.map fun p => p.1.va)[k]? = none := Option.some.inj e
    rw [List.getElem?_map] at e1
    have : kvs[k]? = none := by cases z : kvs[k]? with
      | none => rfl
      | some p => rw [z] at e1; cases e1
    exact List.getElem?_eq_none_iff.mp ((rkv_at c2).1 this)
  · have e1 : (kvs.map fun p => p.1.va)[k]? = some v := Option.some.inj e
    rw [List.getElem?_map] at e1
    cases z : kvs[k]? with
    | none => rw [z] at e1; cases e1
    | some p =>
      rw [z] at e1
      cases e1
      obtain ⟨u, hu, ru⟩ := (rkv_at c2).2 p z
      refine ⟨⟨c1, (List.getElem?_eq_some_iff.mp hu).1⟩, fun x H' ⟨eH, k', v', e3, ex⟩ => ?_⟩
      subst ex eH
      rw [hu] at e3
      cases e3
      exact ⟨Ext.refl, q, kv_va p.1⟩
/-- over a list, a tuple, a text, a dict that stands still -/
def iValF (A : Ex) : Ix := fun l h => match A l h with
  | .ok a h1 => match a with
    | .fd ks vs => .ok (.vals ((ks.zip vs).map fun p => p.1.va)) h1
    | .ref i => match h1.get i with
      | some (.dlk kvs) => .ok (.vals (kvs.map fun p => p.1.va)) h1
      | _ => iVal (fun _ _ => .ok a h1) l h
    | _ => iVal (fun _ _ => .ok a h1) l h
  | .err c v h' => .err c v h'
  | .no => .no
section
variable {W : XW} {X : Cx} {tg e : Expr} {A : Ex}
theorem ix_valF (ha : EX W X e A) : IX W X tg e (iValF A) := by
  refine ⟨PI.weak (pi_either (ix_val (W := W) (tg := tg) ha).pi (pi_keys ha.pe)) fun σ H R ⟨ρ, l, h, L, q, s⟩ => ?_⟩
  unfold iValF at s
  cases e1 : A l h with
  | no => rw [e1] at s; exact False.elim s
  | err c v h' => rw [e1] at s; exact .inr ⟨ρ, l, h, L, q, by rw [e1]; exact s⟩
  | ok a h1 =>
    rw [e1] at s
    cases a with
    | fd ks vs =>
      refine .inr ⟨ρ, l, h, L, q, ?_⟩
      rw [e1]
      refine fun ρ1 H1 ex q1 u ru => ?_
      obtain ⟨d, o, ws, rfl, hH, hl, rel⟩ := fd_len ru
      exact ⟨d, o, rfl, .inl ⟨ws, hH, s ρ1 H1 ex q1 _ _ tie_keys ⟨hH, rel⟩⟩⟩
    | ref i =>
      simp only at s
      cases g : h1.get i with
      | none => simp only [g] at s; exact .inl ⟨ρ, l, h, L, q, by rw [iVal_at e1]; exact s⟩
      | some o =>
        cases o with
        | dlk kvs =>
          simp only [g] at s
          refine .inr ⟨ρ, l, h, L, q, ?_⟩
          rw [e1]
          refine fun ρ1 H1 ex q1 u ru => ?_
          obtain ⟨d, rfl, hd, od, ws, hH, hr⟩ := q1.at_ref ru g
          exact ⟨d, od, rfl, .inl ⟨ws, hH, s ρ1 H1 ex q1 _ _ tie_keys ⟨hH, hr⟩⟩⟩
        | _ => simp only [g] at s; exact .inl ⟨ρ, l, h, L, q, by rw [iVal_at e1]; exact s⟩
    | _ => exact .inl ⟨ρ, l, h, L, q, by rw [iVal_at e1]; exact s⟩
end

/-! ### xs.extend(ys) -/
def rExtend2 : V → List V → Hp → VK → Prop := fun x vs H Q => ∃ l b xs zs, x = .ref l ∧ vs = [.ref b] ∧ H l = some (.lst xs) ∧ LsL H b zs ∧ xs.length + zs.length ≤ sizeLine ∧ Q .non (upd H l (.lst (xs ++ zs)))
theorem mt_extend2 {X : Cx} : MtM X "list.extend" rExtend2 := fun pins s σ H x vs v us Q I rx rv ⟨l, b, xs, zs, ex, ev, hl, hb, few, done⟩ => by
  subst ex ev
  obtain rfl : v = .ref l := rx
  obtain ⟨u, rfl, ru⟩ := rv.one
  obtain rfl : u = .ref b := ru
  obtain ⟨_, as, n, ra, la, at1⟩ := I.lstM hl
  obtain ⟨_, bs, m, rb, lb, at2⟩ := lstM2 I hb
  have all : as.toArray.size + bs.toArray.size ≤ sizeLine := by simpa only [List.size_toArray, ← la, ← lb] using few
  have small : (xs ++ zs).length ≤ sizeLine := by rw [List.length_append]; exact few
  have short : ¬ (!as.toArray.isEmpty && Builtin.List.listTooLong (as.toArray.size + bs.toArray.size)) = true := by rw [notLongL all]; simp
  exact call_meets F.slot_list_extend ⟨_, at1, rfl⟩ F.entry_list_extend (F.args_list_extend_2 _ _) (AutoSeq1.list_extend_list_list_0 l as.toArray n b bs.toArray m short (by omega) (by omega)) ⟨at1, at2, .non, _, I.lset (its' := as ++ bs) hl at1 (by simp) (ra.append rb) small, rfl, done⟩
def vExtend2 (a : Va) : Fn := fun xs h => match a with
  | .ref i => match xs with
    | [b] => match h.get i with
      | some (.lst zs) => match lstV h b with
        | some ws => if zs.length + ws.length ≤ sLine then .ok .non (h.set i (.lst (zs ++ ws))) else .no
        | none => .no
      | _ => .no
    | _ => .no
  | _ => .no
theorem s_extend2 {K : FW} {W : XW} : SM K W vExtend2 rExtend2 := fun ρ h H a x xs us Q q rx rs s => by
  cases a with
  | ref i =>
    match xs, rs with
    | [b], ⟨u, t, e, r1, r2⟩ =>
      cases r2
      subst e
      cases g : h.get i with
      | none => simp only [vExtend2, g] at s; exact False.elim s
      | some o =>
        cases o with
        | lst zs =>
          cases g2 : lstV h b with
          | none => simp only [vExtend2, g, g2] at s; exact False.elim s
          | some ws =>
            simp only [vExtend2, g, g2] at s
            obtain ⟨p, us, rfl, hp, h1, h2⟩ := q.lst rx g
            obtain ⟨p', us', rfl, h1', h2'⟩ := lstV_ls q r1 g2
            by_cases hz : zs.length + ws.length ≤ sLine
            · rw [if_pos hz] at s
              exact ⟨p, p', us, us', rfl, rfl, h1, h1', by rw [← h2.length, ← h2'.length, ← sLine_eq]; exact hz, s.setLst q hp g h1 (h2.append h2') rfl⟩
            · rw [if_neg hz] at s; exact False.elim s
        | _ => simp only [vExtend2, g] at s; exact False.elim s
    | [], _ => exact False.elim s
    | _ :: _ :: _, _ => exact False.elim s
  | _ => exact False.elim s
section
variable {W : XW} {X : Cx} {o e : Expr} {es : List Expr} {A : Ex} {B : Ax} {apos cpos : Pos}
theorem ex_extend2 (ho : EX W X o A) (ha : AX W X (e :: es) B) (hbase : attributeBase o "extend" X.env (eval o X.env) = eval o X.env := by rfl)
    (hfew : ((backTo cpos (starEach (e :: es) X.env)).all (fun x => !x.1) && (backToKw cpos (keywordEach [] X.env)).all (fun x => x.1.isSome)
      && decide ((e :: es).length + ([] : List Keyword).length + (if ([] : List Keyword).isEmpty then 0 else 1) < 30)) = true := by rfl)
    (hline : (apos.endLine == cpos.line) = true := by rfl) (hs2 : starEach (e :: es) X.env = (false, eval e X.env) :: starEach es X.env := by rfl) (hplain : (backTo cpos (starEach es X.env)).any (·.1) = false := by rfl) :
    EX W X (.Call (.Attribute o "extend" apos) (e :: es) [] cpos) (methE .list vExtend2 A B) := ex_bm .list (.inr (.inl rfl)) F.plainAttrs_list F.slot_list_extend F.type_list_extend mt_extend2 s_extend2 ho ha hbase hfew hline hs2 hplain
end
end Rf

/-! Rf: calls that read what is changed elsewhere: all stands still while they run. -/
namespace Rf
open PySem PySem.Spec PyProof.Rows L2

def tLk (t : TE) : List Addr → TE
  | [] => t
  | a :: r => fun σ H Q => (∃ u, H a = some u ∧ Mut (some u) ∧ ∀ od, tLk t r σ (upd H a (.frz od u)) fun v H' => H' a = some (.frz od u) ∧ Q v (upd H' a u)) ∨ tLk t r σ H Q
theorem pe_bor {X : Cx} {e : Expr} {t : TE} (h : PE X e t) : ∀ as : List Addr, PE X e (tLk t as)
  | [] => h
  | a :: r => by
    have ih := pe_bor h r
    refine PE.weak (pe_either (pe_lock ih) ih) fun σ H Q q => ?_
    rcases q with ⟨u, h1, h2, h3⟩ | q
    · exact .inl ⟨a, u, h1, h2, h3⟩
    · exact .inr q
theorem pe_ex {X : Cx} {e : Expr} {α : Type} {t : α → TE} (h : ∀ a, PE X e (t a)) : PE X e (fun σ H Q => ∃ a, t a σ H Q) := ⟨fun pins s σ H Q I ⟨a, q⟩ => (h a).run pins s σ H Q I q⟩
/-- all of them that could be changed stand still -/
structure LkR (as : List Addr) (Hc Hl : Hp) : Prop where
  out : ∀ b, b ∉ as → Hl b = Hc b
  mu : ∀ a ∈ as, ∀ u, Hc a = some u → Mut (some u) → ∃ od, Hl a = some (.frz od u)
  nm : ∀ a ∈ as, (∀ u, Hc a = some u → ¬ Mut (some u)) → Hl a = Hc a
theorem tlk_of {t : TE} {σ : L2.St} : ∀ (as : List Addr) (Hc : Hp) (Fn' : VK), as.Nodup →
    (∀ Hl, LkR as Hc Hl → ∀ Q', (∀ v Hs, (∀ a ∈ as, Hs a = Hl a) → (∀ Hun, (∀ b, b ∉ as → Hun b = Hs b) → (∀ a ∈ as, Hun a = Hc a) → Fn' v Hun) → Q' v Hs) → t σ Hl Q') → tLk t as σ Hc Fn'
  | [], Hc, Fn', _, hyp => hyp Hc ⟨fun _ _ => rfl, fun a h => (nomatch h), fun a h => (nomatch h)⟩ Fn' fun v Hs _ k => k Hs (fun _ _ => rfl) (fun a h => (nomatch h))
  | a :: r, Hc, Fn', nd, hyp => by
    have nd' := List.nodup_cons.mp nd
    by_cases z : ∃ u, Hc a = some u ∧ Mut (some u)
    · obtain ⟨u, hu, mu⟩ := z
      refine .inl ⟨u, hu, mu, fun od => tlk_of r _ _ nd'.2 fun Hl lk Q' k1 => ?_⟩
      have la : Hl a = some (.frz od u) := (lk.out a nd'.1).trans upd_same
      have lk2 : LkR (a :: r) Hc Hl := by
        refine ⟨fun b hb => ?_, fun b hb w hw mw => ?_, fun b hb hw => ?_⟩
        · have h1 : b ≠ a := fun z => hb (by rw [z]; exact List.mem_cons_self)
          rw [lk.out b (fun z => hb (List.mem_cons_of_mem _ z)), upd_ne h1]
        · rcases List.mem_cons.mp hb with e | hb
          · subst e
            rw [hu] at hw
            cases hw
            exact ⟨od, la⟩
          · have h1 : b ≠ a := fun z => nd'.1 (by rw [← z]; exact hb)
            exact lk.mu b hb w (by rw [upd_ne h1]; exact hw) mw
        · rcases List.mem_cons.mp hb with e | hb
          · subst e
            exact absurd mu (hw u hu)
          · have h1 : b ≠ a := fun z => nd'.1 (by rw [← z]; exact hb)
            rw [lk.nm b hb (fun w hw' => hw w (by rw [upd_ne h1] at hw'; exact hw')), upd_ne h1]
      refine hyp Hl lk2 Q' fun v Hs e1 e2 => k1 v Hs (fun b hb => e1 b (List.mem_cons_of_mem _ hb)) fun Hun o1 i1 => ⟨?_, ?_⟩
      · rw [o1 a nd'.1, e1 a List.mem_cons_self, la]
      · refine e2 _ (fun b hb => ?_) fun b hb => ?_
        · have h1 : b ≠ a := fun z => hb (by rw [z]; exact List.mem_cons_self)
          rw [upd_ne h1]
          exact o1 b (fun z => hb (List.mem_cons_of_mem _ z))
        · rcases List.mem_cons.mp hb with e | hb
          · subst e; rw [upd_same]; exact hu.symm
          · have h1 : b ≠ a := fun z => nd'.1 (by rw [← z]; exact hb)
            rw [upd_ne h1, i1 b hb, upd_ne h1]
    · have nz : ∀ u, Hc a = some u → ¬ Mut (some u) := fun u hu mu => z ⟨u, hu, mu⟩
      refine .inr (tlk_of r Hc Fn' nd'.2 fun Hl lk Q' k1 => ?_)
      have la : Hl a = Hc a := lk.out a nd'.1
      have lk2 : LkR (a :: r) Hc Hl := by
        refine ⟨fun b hb => lk.out b (fun z => hb (List.mem_cons_of_mem _ z)), fun b hb w hw mw => ?_, fun b hb hw => ?_⟩
        · rcases List.mem_cons.mp hb with e | hb
          · subst e; exact absurd mw (nz w hw)
          · exact lk.mu b hb w hw mw
        · rcases List.mem_cons.mp hb with e | hb
          · subst e; exact la
          · exact lk.nm b hb hw
      refine hyp Hl lk2 Q' fun v Hs e1 e2 => k1 v Hs (fun b hb => e1 b (List.mem_cons_of_mem _ hb)) fun Hun o1 i1 => e2 Hun (fun b hb => o1 b (fun z => hb (List.mem_cons_of_mem _ z))) fun b hb => ?_
      rcases List.mem_cons.mp hb with e | hb
      · subst e
        rw [o1 b nd'.1, e1 b List.mem_cons_self, la]
      · exact i1 b hb

/-! no list, no dict, no place within -/
mutual
def flatV : Va → Bool
  | .tup xs => flatVs xs
  | .non => true
  | .bl _ => true
  | .int _ => true
  | .str _ => true
  | _ => false
def flatVs : List Va → Bool
  | [] => true
  | x :: r => match flatV x with
    | true => flatVs r
    | false => false
end
mutual
theorem RV.flat {K : FW} {ρ ρ' : List Addr} {H H' : Hp} (ht : ∀ a us, SqT K H a us → SqT K H' a us) (hn : ∀ a, NoD K H a → NoD K H' a) : ∀ (v : Va) {u : V}, flatV v = true → RV K ρ H v u → RV K ρ' H' v u
  | .non, _, _, r => r
  | .bl _, _, _, r => r
  | .int _, _, _, r => r
  | .str _, _, _, r => r
  | .tup xs, _, f, ⟨a, us, e, q, r⟩ => ⟨a, us, e, ⟨ht _ _ q.1, hn _ q.2⟩, RVs.flat ht hn xs (by unfold flatV at f; exact f) r⟩
  | .fl _, _, f, _ => by unfold flatV at f; cases f
  | .sl _, _, f, _ => by unfold flatV at f; cases f
  | .pr _, _, f, _ => by unfold flatV at f; cases f
  | .ref _, _, f, _ => by unfold flatV at f; cases f
  | .fd _ _, _, f, _ => by unfold flatV at f; cases f
theorem RVs.flat {K : FW} {ρ ρ' : List Addr} {H H' : Hp} (ht : ∀ a us, SqT K H a us → SqT K H' a us) (hn : ∀ a, NoD K H a → NoD K H' a) : ∀ (xs : List Va) {us : List V}, flatVs xs = true → RVs K ρ H xs us → RVs K ρ' H' xs us
  | [], _, _, r => r
  | x :: xs, _, f, ⟨u, w, e, r1, r2⟩ => by
    unfold flatVs at f
    cases q : flatV x with
    | true => rw [q] at f; exact ⟨u, w, e, RV.flat ht hn x q r1, RVs.flat ht hn xs f r2⟩
    | false => rw [q] at f; cases f
end
def callB (n : Nat) (m : Fn) (B : Ax) : Ex := fun l h => match Nat.beq h.l.length h.n with
  | true => match B l ⟨h.n, []⟩ with
    | .ok xs _ => if xs.length = n then (match mapO (fzR h) xs with
      | some ys => match m ys ⟨0, []⟩ with
        | .ok v h' => match fzR h' v with
          | some v' => match flatV v' with
            | true => .ok v' h
            | false => .no
          | none => .no
        | _ => .no
      | none => .no) else .no
    | _ => .no
  | false => .no
section
variable {K : FW} {ρ ρ1 : List Addr} {H Hl H1 : Hp} {h : Hea}
theorem known (q : HR K ρ h H) (kn : Nat.beq h.l.length h.n = true) : ∀ a ∈ ρ, ∃ u, H a = some u ∧ (Mut (some u) ∨ ∃ o w, u = .frz o w) := by
  intro a hm
  have hl : h.l.length = h.n := Nat.eq_of_beq_eq_true kn
  obtain ⟨i, hi⟩ := List.getElem?_of_mem hm
  have hlt : i < h.n := by rw [← q.len]; exact (List.getElem?_eq_some_iff.mp hi).1
  have hlt2 : h.n - 1 - i < h.l.length := by omega
  have g : h.get i = some h.l[h.n - 1 - i] := by
    unfold Hea.get
    rw [if_pos hlt]
    exact List.getElem?_eq_getElem hlt2
  obtain ⟨b, hb, ro⟩ := q.ob i _ g
  have eb : b = a := by rw [hi] at hb; exact (Option.some.inj hb).symm
  subst eb
  cases eo : h.l[h.n - 1 - i] with
  | lst xs => rw [eo] at ro; obtain ⟨us, z, _⟩ := ro; exact ⟨_, z, .inl trivial⟩
  | dic kvs => rw [eo] at ro; obtain ⟨us, z, _⟩ := ro; exact ⟨_, z, .inl trivial⟩
  | dlk kvs => rw [eo] at ro; obtain ⟨o, us, z, _⟩ := ro; exact ⟨_, z, .inr ⟨_, _, rfl⟩⟩
  | dit kvs => rw [eo] at ro; obtain ⟨us, z, _⟩ := ro; exact ⟨_, z, .inl trivial⟩
  | st ns => rw [eo] at ro; obtain ⟨us, z⟩ := ro; exact ⟨_, z, .inl trivial⟩
open Classical in
noncomputable def mutAs (H : Hp) (ρ : List Addr) : List Addr := ρ.filter fun a => decide (∃ u, H a = some u ∧ Mut (some u))
theorem mem_mutAs {a : Addr} : a ∈ mutAs H ρ ↔ a ∈ ρ ∧ ∃ u, H a = some u ∧ Mut (some u) := by
  classical
  unfold mutAs
  rw [List.mem_filter]
  simp
theorem fzd_of_lk (lk : LkR (mutAs H ρ) H Hl) : Fzd K ρ H Hl := by
  have keep : ∀ b, H b ≠ none → Hl b ≠ none := fun b hb => by
    by_cases hm : b ∈ mutAs H ρ
    · obtain ⟨_, u, hu, mu⟩ := mem_mutAs.mp hm
      obtain ⟨od, e⟩ := lk.mu b hm u hu mu
      rw [e]; simp
    · rw [lk.out b hm]; exact hb
  have still : ∀ b o, H b = some o → ¬ Mut (some o) → Hl b = some o := fun b o e nm => by
    rw [lk.out b fun hm => by
      obtain ⟨_, u, hu, mu⟩ := mem_mutAs.mp hm
      rw [e] at hu; cases hu; exact nm mu]
    exact e
  refine ⟨⟨⟨[], by simp, by simp⟩, fun a us hs => ?_, fun a o u e => still a _ e (fun m => m), fun a hn => ?_, keep, fun a hn hm => lk.out a fun z => hm (mem_mutAs.mp z).1⟩, fun a hm u hu mu => lk.mu a (mem_mutAs.mpr ⟨hm, u, hu, mu⟩) u hu mu⟩
  · rcases hs with (hs | ⟨o, hs⟩) | hs
    · exact .inl (.inl (still a _ hs (fun m => m)))
    · exact .inl (.inr ⟨o, still a _ hs (fun m => m)⟩)
    · exact .inr hs
  · rcases hn with ⟨o, us, e, hd⟩ | hn
    · exact .inl ⟨o, us, still a _ e (fun m => m), hd⟩
    · exact .inr hn
theorem HR.blank (q : HR K ρ h H) (there : ∀ a, H a ≠ none → Hl a ≠ none) : HR K ρ ⟨h.n, []⟩ Hl := by
  refine ⟨q.len, q.nd, fun i a g => there a (q.tr i a g), fun i o g => ?_⟩
  unfold Hea.get at g
  split at g <;> simp at g
theorem mapO_rel3 {f : Va → Option Va} (hf : ∀ x y u, f x = some y → RV K ρ1 H1 x u → RV K [] H1 y u) : ∀ {xs ys : List Va} {us : List V}, mapO f xs = some ys → RVs K ρ1 H1 xs us → RVs K [] H1 ys us
  | [], ys, us, e, r => by cases e; exact r
  | x :: xs, ys, us, e, ⟨u, w, e1, r1, r2⟩ => by
    unfold mapO at e
    cases e2 : f x with
    | none => rw [e2] at e; cases e
    | some y =>
      rw [e2] at e
      cases e3 : mapO f xs with
      | none => simp only [e3] at e; cases e
      | some s =>
        simp only [e3] at e
        cases e
        exact ⟨u, w, e1, hf x y u e2 r1, mapO_rel3 hf e3 r2⟩
theorem fzV_ok3 (q : HR K ρ h H) (f : Fzd K ρ H Hl) (x : Ext K ρ Hl ρ1 H1) : ∀ (n : Nat) (v v' : Va) (u : V), fzV h n v = some v' → RV K ρ1 H1 v u → RV K [] H1 v' u
  | 0, _, _, _, e, _ => by cases e
  | n + 1, v, v', u, e, r => by
    unfold fzV at e
    have xx : Ext K ρ H ρ1 H1 := f.ext.trans x
    cases v with
    | non => cases e; exact r
    | bl _ => cases e; exact r
    | int _ => cases e; exact r
    | str _ => cases e; exact r
    | pr _ => cases e
    | sl _ => cases e
    | tup xs =>
      simp only at e
      cases e1 : mapO (fzV h n) xs with
      | none => rw [e1] at e; cases e
      | some ys =>
        rw [e1] at e
        cases e
        obtain ⟨a, us, e2, q1, r1⟩ := r
        exact ⟨a, us, e2, q1, mapO_rel3 (fun z y u => fzV_ok3 q f x n z y u) e1 r1⟩
    | fl xs =>
      simp only at e
      cases e1 : mapO (fzV h n) xs with
      | none => rw [e1] at e; cases e
      | some ys =>
        rw [e1] at e
        cases e
        obtain ⟨a, us, e2, q1, r1⟩ := r
        exact ⟨a, us, e2, q1, mapO_rel3 (fun z y u => fzV_ok3 q f x n z y u) e1 r1⟩
    | fd ks vs =>
      simp only at e
      cases e1 : mapO (fzV h n) vs with
      | none => rw [e1] at e; cases e
      | some ys =>
        rw [e1] at e
        cases e
        obtain ⟨a, o, ws, e2, q1, k, r1⟩ := r
        exact ⟨a, o, ws, e2, ⟨by simp, q1.2⟩, k, mapO_rel3 (fun z y u => fzV_ok3 q f x n z y u) e1 r1⟩
    | ref i =>
      simp only at e
      cases g : h.get i with
      | none => simp only [g] at e; cases e
      | some o =>
        obtain ⟨a, ha, ro⟩ := q.ob i o g
        obtain ⟨a', e2, ha'⟩ := r
        have : a' = a := by rw [x.at ha] at ha'; exact (Option.some.inj ha').symm
        subst this
        have hm := List.mem_of_getElem? ha
        cases o with
        | lst xs =>
          simp only [g] at e
          cases e1 : mapO (fzV h n) xs with
          | none => rw [e1] at e; cases e
          | some ys =>
            rw [e1] at e
            cases e
            obtain ⟨us, h1, h2⟩ := ro
            obtain ⟨od, h3⟩ := f.fz a' hm _ h1 trivial
            exact ⟨a', us, e2, ⟨od, x.fz _ _ _ h3⟩, mapO_rel3 (fun z y u => fzV_ok3 q f x n z y u) e1 (RVs.ext xx _ h2)⟩
        | dic kvs =>
          simp only [g] at e
          cases e1 : mapO (fzV h n) (kvs.map (·.2)) with
          | none => rw [e1] at e; cases e
          | some ys =>
            rw [e1] at e
            cases e
            obtain ⟨ws, h1, h2⟩ := ro
            obtain ⟨od, h3⟩ := f.fz a' hm _ h1 trivial
            obtain ⟨h4, h5⟩ := rkv_split h2
            exact ⟨a', od, ws, e2, ⟨by simp, x.fz _ _ _ h3⟩, h4, mapO_rel3 (fun z y u => fzV_ok3 q f x n z y u) e1 (RVs.ext xx _ h5)⟩
        | _ => simp only [g] at e; cases e
theorem fzR_ok3 (q : HR K ρ h H) (f : Fzd K ρ H Hl) (x : Ext K ρ Hl ρ1 H1) {v v' : Va} {u : V} (e : fzR h v = some v') (r : RV K ρ1 H1 v u) : RV K [] H1 v' u := by
  unfold fzR at e
  cases o : okV 0 v with
  | true => rw [o] at e; cases e; exact r.frm o
  | false => rw [o] at e; exact fzV_ok3 q f x 20 v v' u e r
end
section
variable {X : Cx} {x : Str} {p pos : Pos} {st : Stmt} {ps ks : List Str} {k : Nat} {m : Fn} {e : Expr} {es : List Expr} {B : Ax}
theorem ex_callB0 {W : XW} (c : Callee X.prog X.w X.fw X.mg X.base x st ps k m) (hr : Room k X.A) (hg : Gl X x) (ha : AX XF X (e :: es) B) {n : Nat} (hn : ps.length = n := by rfl) (hdb : (x == ("__debug__" : Str)) = false := by decide)
    (he : starEach (e :: es) X.env = (false, eval e X.env) :: starEach es X.env := by rfl) (hpl : (backTo pos (starEach es X.env)).any (·.1) = false := by rfl) : EX W X (.Call (.Name x p) (e :: es) [] pos) (callB n m B) := by
  subst hn
  obtain ⟨f, fd, hm, F, Fu⟩ := c.ex
  refine ⟨PE.weak (pe_ex fun as => pe_bor (pe_lk (pe_call F hr hg hm Fu.kp (Fu.binds c.bind) .nil pass0 ha.pa hdb he hpl)) as) fun σ H Q ⟨ρ, l, h, L, q, s⟩ => ⟨mutAs H ρ, tlk_of _ H Q (List.Pairwise.filter _ q.nd) fun Hl lk Q' k => ?_⟩⟩
  have fzd : Fzd X.fw ρ H Hl := fzd_of_lk lk
  have exl := fzd.ext
  unfold callB at s
  cases kn : Nat.beq h.l.length h.n with
  | false => rw [kn] at s; exact False.elim s
  | true =>
    rw [kn] at s
    simp only at s
    cases eB : B l ⟨h.n, []⟩ with
    | no => rw [eB] at s; exact False.elim s
    | err c v h' => rw [eB] at s; exact False.elim s
    | ok xs h0 =>
      rw [eB] at s
      simp only at s
      by_cases hz : xs.length = ps.length
      · rw [if_pos hz] at s
        cases ez : mapO (fzR h) xs with
        | none => simp only [ez] at s; exact False.elim s
        | some ys =>
          simp only [ez] at s
          refine ⟨ρ, l, ⟨h.n, []⟩, L.ext exl, q.blank exl.there, ?_⟩
          rw [eB]
          refine fun ρ1 H1 e1 q1 us rs => ?_
          have r1 : RVs X.fw [] H1 ys us := mapO_rel3 (fun z y u e r => fzR_ok3 q fzd e1 e r) ez rs
          refine ⟨[], ⟨0, []⟩, ys, HR.empty, by rw [List.append_nil]; exact r1, by rw [r1.length, ← rs.length]; exact hz, ?_⟩
          cases em : m ys ⟨0, []⟩ with
          | no => simp only [em] at s; exact False.elim s
          | err c v h' => simp only [em] at s; exact False.elim s
          | ok v h' =>
            simp only [em] at s
            refine fun ρ' H' e' q' u ru => lkq q' fun Hs f' => k u Hs (fun a ha => ?_) fun Hun o1 i1 => ?_
            · obtain ⟨hm, w, hw, mw⟩ := mem_mutAs.mp ha
              obtain ⟨od, e2⟩ := lk.mu a ha w hw mw
              rw [e2]
              exact f'.ext.fz _ _ _ (e'.fz _ _ _ (e1.fz _ _ _ e2))
            · cases e2 : fzR h' v with
              | none => simp only [e2] at s; exact False.elim s
              | some v' =>
                simp only [e2] at s
                cases fl : flatV v' with
                | false => rw [fl] at s; exact False.elim s
                | true =>
                  rw [fl] at s
                  have rv' := fzR_ok q' f' e2 ru
                  have g : ∀ b o, H b = some o → Hun b = some o := fun b o hb => by
                    by_cases hm : b ∈ mutAs H ρ
                    · rw [i1 b hm]; exact hb
                    · have hl : Hl b = some o := (lk.out b hm).trans hb
                      have h1 : H1 b = some o := by
                        by_cases hr : b ∈ ρ
                        · obtain ⟨w, hw, kw⟩ := known q kn b hr
                          rw [hb] at hw
                          cases hw
                          rcases kw with kw | ⟨o', w', kw⟩
                          · exact absurd (mem_mutAs.mpr ⟨hr, _, hb, kw⟩) hm
                          · subst kw
                            exact e1.fz _ _ _ hl
                        · exact (e1.keep b (by rw [hl]; simp) hr).trans hl
                      have h2 : H' b = some o := (e'.keep b (by rw [h1]; simp) (by simp)).trans h1
                      have out : b ∉ ρ' := fun z => by
                        obtain ⟨mo, em2, fm⟩ := e'.pre
                        rw [em2] at z
                        have := fm b (by simpa using z)
                        rw [h1] at this; cases this
                      rw [o1 b hm]
                      exact (f'.ext.keep b (by rw [h2]; simp) out).trans h2
                  have notup : ∀ a o, Hs a = some o → (∀ od u, Mut (some u) → o ≠ .frz od u) → Hun a = some o := fun a o ha hne => by
                    by_cases hm : a ∈ mutAs H ρ
                    · exfalso
                      obtain ⟨_, w, hw, mw⟩ := mem_mutAs.mp hm
                      obtain ⟨od, e2⟩ := lk.mu a hm w hw mw
                      have := f'.ext.fz _ _ _ (e'.fz _ _ _ (e1.fz _ _ _ e2))
                      rw [ha] at this
                      exact hne od w mw (Option.some.inj this)
                    · rw [o1 a hm]; exact ha
                  refine s ρ Hun (Ext.grow g) (q.grow g) u (RV.flat (fun a us ht => ?_) (fun a ht => ?_) v' fl rv')
                  · rcases ht with (ht | ⟨o, ht⟩) | ht
                    · exact .inl (.inl (notup a _ ht (fun _ _ _ => by simp)))
                    · exact .inl (.inr ⟨o, notup a _ ht (fun od u mu e => by cases e; exact mu)⟩)
                    · exact .inr ht
                  · rcases ht with ⟨o, us, e, hd⟩ | ht
                    · exact .inl ⟨o, us, notup a _ e (fun od u mu e => by cases e; exact mu), hd⟩
                    · exact .inr ht
      · rw [if_neg hz] at s; exact False.elim s
end
end Rf

/-! Rf: d != {}. -/
namespace Rf
open PySem PySem.Spec PyProof.Rows L2

def rDnil (f : Bool → Bool) : R2 := fun x y H Q => ∃ a b ks, x = .ref a ∧ y = .ref b ∧ Rd H a (.dK ks) ∧ Rd H b (.dK []) ∧ Q (.bl (f ks.isEmpty)) H
section
variable {X : Cx}
theorem op_neDnil (hu : X.A.units + 64 < cLine) : OpR X (compareOp .NotEq) (rDnil fun b => !b) := by
  intro pins s σ H x y v u Q I rx ry ⟨a, b, ks, e1, e2, hx, hy, q⟩
  subst e1 e2
  cases rx
  cases ry
  obtain ⟨_, ya, va, ra, da⟩ := dk_rd I.hok hx
  obtain ⟨_, yb, vb, rb, db⟩ := dk_rd I.hok hy
  have lb : vb.length = 0 := by rw [← rb.length]; rfl
  refine PySem.W.keq_ne (knd := mixKind X.prog X.w) (r := true) ya yb da db (by omega) (fun e => hits_all rb ra fun p hp => ?_) (fin_bl I q ?_)
  · have : ks.length = 0 := by rw [ra.length, e, lb]
    have : ks = [] := List.eq_nil_of_length_eq_zero this
    subst this
    cases hp
  · rw [lb, ← ra.length]
    cases ks <;> simp
theorem op_eqDnil (hu : X.A.units + 64 < cLine) : OpR X (compareOp .Eq) (rDnil fun b => b) := by
  intro pins s σ H x y v u Q I rx ry ⟨a, b, ks, e1, e2, hx, hy, q⟩
  subst e1 e2
  cases rx
  cases ry
  obtain ⟨_, ya, va, ra, da⟩ := dk_rd I.hok hx
  obtain ⟨_, yb, vb, rb, db⟩ := dk_rd I.hok hy
  have lb : vb.length = 0 := by rw [← rb.length]; rfl
  refine PySem.W.keq_eq (knd := mixKind X.prog X.w) (r := true) ya yb da db (by omega) (fun e => hits_all rb ra fun p hp => ?_) (fin_bl I q ?_)
  · have : ks.length = 0 := by rw [ra.length, e, lb]
    have : ks = [] := List.eq_nil_of_length_eq_zero this
    subst this
    cases hp
  · rw [lb, ← ra.length]
    cases ks <;> simp
end
def vDnil (f : Bool → Bool) (a b : Va) : M Va := fun h => match dicV h b with
  | some [] => match dicV h a with
    | some xs => .ok (.bl (f xs.isEmpty)) h
    | none => .no
  | _ => .no
theorem s_dnil {K : FW} {W : XW} {f : Bool → Bool} : S2 K W (vDnil f) (rDnil f) := fun ρ h H a b x y Q q rx ry s => by
  unfold vDnil at s
  cases eb : dicV h b with
  | none => rw [eb] at s; exact False.elim s
  | some ys =>
    rw [eb] at s
    cases ys with
    | cons _ _ => exact False.elim s
    | nil =>
      simp only at s
      cases ea : dicV h a with
      | none => rw [ea] at s; exact False.elim s
      | some xs =>
        rw [ea] at s
        obtain ⟨p, us, rfl, h1, h2⟩ := dicV_ok q rx ea
        obtain ⟨p', us', rfl, h1', h2'⟩ := dicV_ok q ry eb
        cases h2'
        refine ⟨p, p', us, rfl, rfl, h1, h1', ?_⟩
        have : us.isEmpty = xs.isEmpty := by
          cases h2 <;> rfl
        rw [this]
        exact s.val q rfl
section
variable {W : XW} {X : Cx} {a b : Expr} {A B : Ex} {pos : Pos}
theorem ex_neDnil (hu : X.A.units + 65 < cLine) (ha : EX W X a A) (hb : EX W X b B) : EX W X (.Compare a [.NotEq] [b] pos) (op2 (vDnil fun b => !b) A B) := ex_cmp (op_neDnil (by omega)) s_dnil ha hb (nomark _)
theorem tx_neDnil (hu : X.A.units + 65 < cLine) (ha : EX W X a A) (hb : EX W X b B) : TX W X (.Compare a [.NotEq] [b] pos) (isB (op2 (vDnil fun b => !b) A B)) := tx_cmp (op_neDnil (by omega)) s_dnil ha hb (nomark _)
theorem ex_eqDnil (hu : X.A.units + 65 < cLine) (ha : EX W X a A) (hb : EX W X b B) : EX W X (.Compare a [.Eq] [b] pos) (op2 (vDnil fun b => b) A B) := ex_cmp (op_eqDnil (by omega)) s_dnil ha hb (nomark _)
theorem tx_eqDnil (hu : X.A.units + 65 < cLine) (ha : EX W X a A) (hb : EX W X b B) : TX W X (.Compare a [.Eq] [b] pos) (isB (op2 (vDnil fun b => b) A B)) := tx_cmp (op_eqDnil (by omega)) s_dnil ha hb (nomark _)
end
end Rf

/-! Rf: sets of trees: how the table finds and takes them. -/
namespace Rf
open PySem PySem.Spec PyProof.Rows L2

/-- a tree stands at b -/
def KeyAt (h : Heap) (k : NestedKey) (b : Addr) : Prop := NestedIs h k (.ref b) ∧ k.depth ≤ 8
section
variable {P : Program} {w : World} {A : Around} {E : Value → Shared → Prop}
theorem KeyAt.tuple {h : Heap} {k : NestedKey} {b : Addr} (x : KeyAt h k b) : ∃ o vs n ks, k = .tup ks ∧ h.get? b = some o ∧ o.cls = .type "tuple" ∧ o.data = .seq vs n ∧ NestedAll h ks vs.toList := by
  obtain ⟨x, _⟩ := x
  cases x with
  | tup h1 h2 h3 h4 => exact ⟨_, _, _, _, rfl, h1, h2, h3, h4⟩
theorem KeyAt.grow {h h' : Heap} {k : NestedKey} {b : Addr} (x : KeyAt h k b) (g : ∀ c o, h.get? c = some o → h'.get? c = some o) : KeyAt h' k b :=
  ⟨NestedIs.at (fun c o _ _ e _ => g c o e) k _ x.1, x.2⟩
theorem KeyAt.past {h h' : Heap} {k : NestedKey} {a b : Addr} {o : Obj} {es : Array (Int × Value)} {ep : Nat} {t : SetTable} (x : KeyAt h k b) (ho : h.get? a = some o) (hd : o.data = .set es ep t) (sb : Heap.SameBut a h h') : KeyAt h' k b :=
  ⟨NestedIs.at (fun c oc _ _ e dc => (sb.2 c fun z => by subst z; rw [ho] at e; cases e; rw [hd] at dc; cases dc).trans e) k _ x.1, x.2⟩
mutual
/-- a tree is of no class statement -/
theorem noClass : ∀ (k : NestedKey) (v : Value) (n : Nat) (s : Shared) (Q : Bool → Shared → Prop), NestedIs s.heap k v → k.depth ≤ n → Q false s → wpAny (model P w) A (ofAClassStatement n v) Q E s
  | .none, _, n, s, Q, x, _, h => by cases x; cases n <;> exact wpAny_pure h
  | .num _, _, n, s, Q, x, _, h => by cases x <;> (cases n <;> exact wpAny_pure h)
  | .text _, _, n, s, Q, x, _, h => by cases x; cases n <;> exact wpAny_pure h
  | .tup ks, _, n, s, Q, x, hn, h => by
    cases x with
    | @tup a o vs m _ h1 h2 h3 h4 =>
      cases n with
      | zero => simp only [NestedKey.depth] at hn; omega
      | succ n =>
        simp only [NestedKey.depth] at hn
        unfold ofAClassStatement
        refine wpAny_bind (wpAny_typeOf (T := "tuple") ⟨_, h1, h2⟩ ?_)
        dsimp only
        have e : (("tuple" : String) == "tuple") = true := by decide
        simp only [e, if_true, Bool.not_true, Bool.false_eq_true, if_false]
        try refine wpAny_bind (wpAny_pure ?_)
        try simp only [Bool.not_true, Bool.false_eq_true, if_false]
        refine wpAny_bind (wpAny_seqItems h1 h3 ?_)
        dsimp only
        refine wpAny_bind ?_
        rw [← Array.forIn_toList]
        refine noClasses ks vs.toList n s _ h4 (by omega) ?_
        exact wpAny_pure h
theorem noClasses : ∀ (ks : List NestedKey) (vs : List Value) (n : Nat) (s : Shared) (Q : Option Bool × PUnit → Shared → Prop), NestedAll s.heap ks vs → NestedKey.depthAll ks ≤ n → Q (none, PUnit.unit) s →
    wpAny (model P w) A (forIn vs (none, PUnit.unit) fun y r => do
      let __do_lift ← ofAClassStatement n y
      if __do_lift = true then pure (ForInStep.done (some true, PUnit.unit)) else pure (ForInStep.yield (none, PUnit.unit))) Q E s
  | [], _, n, s, Q, x, _, h => by cases x; exact wpAny_pure h
  | k :: ks, _, n, s, Q, x, hn, h => by
    cases x with
    | cons x1 x2 =>
      simp only [NestedKey.depthAll] at hn
      rw [List.forIn_cons]
      refine wpAny_bind (wpAny_bind (noClass k _ n s _ x1 (by omega) ?_))
      simp only [Bool.false_eq_true, if_false]
      refine wpAny_pure ?_
      exact noClasses ks _ n s Q x2 (by omega) h
end
mutual
/-- whether the hash of a tree goes by value: it is told -/
theorem byValueK : ∀ (k : NestedKey) (v : Value) (n : Nat) (s : Shared) (Q : Bool → Shared → Prop), NestedIs s.heap k v → k.depth ≤ n → (∀ b, Q b s) → wpAny (model P w) A (hashByValue n v) Q E s
  | .none, _, n, s, Q, x, _, h => by cases x; cases n <;> exact wpAny_pure (h _)
  | .num _, _, n, s, Q, x, _, h => by cases x <;> (cases n <;> exact wpAny_pure (h _))
  | .text _, _, n, s, Q, x, _, h => by cases x; cases n <;> exact wpAny_pure (h _)
  | .tup ks, _, n, s, Q, x, hn, h => by
    cases x with
    | @tup a o vs m _ h1 h2 h3 h4 =>
      cases n with
      | zero => simp only [NestedKey.depth] at hn; omega
      | succ n =>
        simp only [NestedKey.depth] at hn
        unfold hashByValue
        refine wpAny_bind (wpAny_specialOf (T := "tuple") ⟨_, h1, h2⟩ F.slot_tuple_hash.lookup ?_)
        show wpAny _ _ (seqItems? (.ref a) >>= _) _ _ s
        refine wpAny_bind (wpAny_seqItems h1 h3 ?_)
        refine wpAny_bind ?_
        show wpAny _ _ (forIn vs _ _) _ _ s
        rw [← Array.forIn_toList]
        refine byValueKs ks vs.toList n s _ h4 (by omega) (fun b => ?_)
        cases b with
        | none => exact wpAny_pure (h _)
        | some b => exact wpAny_pure (h _)
theorem byValueKs : ∀ (ks : List NestedKey) (vs : List Value) (n : Nat) (s : Shared) (Q : Option Bool × PUnit → Shared → Prop), NestedAll s.heap ks vs → NestedKey.depthAll ks ≤ n → (∀ b, Q (b, PUnit.unit) s) →
    wpAny (model P w) A (forIn vs (none, PUnit.unit) fun y r => do
      let __do_lift ← hashByValue n y
      if (!__do_lift) = true then pure (ForInStep.done (some false, PUnit.unit)) else pure (ForInStep.yield (none, PUnit.unit))) Q E s
  | [], _, n, s, Q, x, _, h => by cases x; exact wpAny_pure (h _)
  | k :: ks, _, n, s, Q, x, hn, h => by
    cases x with
    | cons x1 x2 =>
      simp only [NestedKey.depthAll] at hn
      rw [List.forIn_cons]
      refine wpAny_bind (wpAny_bind (byValueK k _ n s _ x1 (by omega) fun b => ?_))
      cases b with
      | true =>
        simp only [Bool.not_true, Bool.false_eq_true, if_false]
        refine wpAny_pure ?_
        exact byValueKs ks _ n s Q x2 (by omega) h
      | false =>
        simp only [Bool.not_false, if_true]
        refine wpAny_pure ?_
        exact wpAny_pure (h _)
end
/-- a search among trees shows nothing -/
theorem unseen {s : Shared} {k : NestedKey} {b : Addr} {Q : Bool → Shared → Prop} (hk : KeyAt s.heap k b) {ys : List Value} (hy : ∀ y ∈ ys, ∃ k' c, y = Value.ref c ∧ KeyAt s.heap k' c) (h : Q false s) : wpAny (model P w) A (searchCouldBeSeen (.ref b) ys) Q E s := by
  unfold searchCouldBeSeen
  refine wpAny_bind (wpAny_forIn_list _ (fun rest r s' => r.1 = none ∧ s' = s ∧ ∀ y ∈ rest, ∃ k' c, y = Value.ref c ∧ KeyAt s.heap k' c) _ ?_ ?_ _ _ ⟨rfl, rfl, hy⟩)
  · rintro v rest r s' ⟨hr, rfl, all⟩
    obtain ⟨k', c, rfl, hc⟩ := all v List.mem_cons_self
    have next : ∀ y ∈ rest, ∃ k' c, y = Value.ref c ∧ KeyAt s'.heap k' c := fun u hu => all u (List.mem_cons_of_mem _ hu)
    dsimp only
    by_cases same : (b == c || (carriedByValue (.ref b) && carriedByValue (.ref c))) = true
    · exact wp_if_pos same (wpAny_pure ⟨rfl, rfl, next⟩)
    · refine wp_if_neg same (wpAny_bind (quiet_key k _ 8 _ hk.1 hk.2 _ _ _ ?_))
      simp only [Bool.not_true, Bool.false_eq_true, if_false]
      refine wpAny_bind (quiet_key k' _ 8 _ hc.1 hc.2 _ _ _ ?_)
      simp only [Bool.not_true, Bool.false_eq_true, if_false]
      refine wpAny_bind (noClass k _ 8 _ _ hk.1 hk.2 ?_)
      simp only [Bool.false_eq_true, if_false]
      refine wpAny_bind (noClass k' _ 8 _ _ hc.1 hc.2 ?_)
      simp only [Bool.false_eq_true, if_false]
      exact wpAny_pure ⟨rfl, rfl, next⟩
  · rintro ⟨r1, r2⟩ s' ⟨hr, rfl, _⟩
    simp only at hr
    subst hr
    exact wpAny_pure h
end

/-! ### the table -/
abbrev KA := NestedKey × Addr
def entK (w : World) (p : KA) : Int × Value := (p.1.hash w, .ref p.2)
/-- at a a set stands whose table holds the trees L -/
structure TrS (w : World) (h : Heap) (a : Addr) (L : List KA) (es : Array (Int × Value)) (ep : Nat) (t : SetTable) : Prop where
  ob : ∃ o, h.get? a = some o ∧ o.ExactSet ∧ o.data = .set es ep t
  ents : es.toList = L.map (entK w)
  tab : TabOk t (L.map fun p => p.1.hash w)
  nd : (L.map Prod.fst).Nodup
  keys : ∀ p ∈ L, KeyAt h p.1 p.2
  led : w.params.followText "set-order" = true ∨ t.led = true
  room : L.length * 5 < t.mask * 3
  few : L.length < 64
section
variable {w : World} {h : Heap} {a : Addr} {L : List KA} {es : Array (Int × Value)} {ep : Nat} {t : SetTable}
theorem ents_size (e : es.toList = L.map (entK w)) : es.size = L.length := by
  rw [← Array.length_toList, e, List.length_map]
theorem TrS.size (R : TrS w h a L es ep t) : es.size = L.length := ents_size R.ents
theorem TrS.places (R : TrS w h a L es ep t) : t.place.size = L.length := by rw [R.tab.sz, List.length_map]
theorem TrS.fits (R : TrS w h a L es ep t) : t.fits es.size = true := by
  have e1 := R.size
  have e2 := R.places
  have e3 := R.room
  unfold SetTable.fits SetTable.fill
  rw [R.tab.dm, Bool.and_eq_true, beq_iff_eq, decide_eq_true_eq]
  show t.place.size = es.size ∧ t.place.size + 0 ≤ t.mask
  omega
theorem TrS.ent (R : TrS w h a L es ep t) {i : Nat} {p : KA} (e : L[i]? = some p) : es[i]? = some (entK w p) := by
  rw [← Array.getElem?_toList, R.ents, List.getElem?_map, e]; rfl
theorem TrS.whole (R : TrS w h a L es ep t) : t.gaveWay = false := by
  cases e : t.gaveWay with
  | false => rfl
  | true =>
    unfold SetTable.gaveWay at e
    rw [mask_odd R.tab.mok] at e
    exact absurd e (by decide)
end

/-! ### the search -/
def w0 (m : Nat) (H : Int) : SetTable.Probe := runAt m (SetTable.bits H % (m + 1)) (SetTable.bits H)
theorem nth_plain (m : Nat) : ∀ (n : Nat) (p : SetTable.Probe), p.dummy = none → (nth m p n).dummy = none
  | 0, _, h => h
  | n + 1, p, h => nth_plain m n (adv m p) (by unfold adv; split <;> exact h)
theorem w0_shift (m : Nat) (H : Int) (c q : Nat) : nth m (nth m (w0 m H) c) q = nth m (w0 m H) (c + q) := (nth_add m c _ q).symm
theorem w0_way (m : Nat) (H : Int) (c q : Nat) : (nth m (nth m (w0 m H) c) q).j = way m H (c + q) := congrArg SetTable.Probe.j (w0_shift m H c q)
section
variable {P : Program} {w : World} {A : Around} {E : Value → Shared → Prop} {s : Shared} {a : Addr} {L : List KA} {es : Array (Int × Value)} {ep : Nat} {t : SetTable}
theorem TrS.search (R : TrS w s.heap a L es ep t) {x : Addr} {k : NestedKey} (hx : KeyAt s.heap k x) (room : A.units + 8 < cLine) {K : Nat} (low : K < 10 * SetTable.turns t.mask)
    (free : way t.mask (k.hash w) K ∉ t.place.toList) (taken : ∀ c, c < K → way t.mask (k.hash w) c ∈ t.place.toList) {Q : SetFound → Shared → Prop}
    (yes : k ∈ L.map Prod.fst → Q (.there none) s) (no : k ∉ L.map Prod.fst → Q (.free (way t.mask (k.hash w) K) false) s) :
    ∀ (f c : Nat) (stand : Option SetTable.Probe), stand.getD (t.probeStart (k.hash w)) = nth t.mask (w0 t.mask (k.hash w)) c → c ≤ K → K - c < f →
      (∀ (i : Nat) (p : KA), L[i]? = some p → p.1 = k → ∃ c', c ≤ c' ∧ c' < K ∧ t.place.toList[i]? = some (way t.mask (k.hash w) c')) →
      wpAny (model P w) A (setSearchFrom a (.ref x) (k.hash w) true f stand) Q E s
  | 0, c, stand, _, _, hf, _ => absurd hf (Nat.not_lt_zero _)
  | f + 1, c, stand, hst, hc, hf, ahead => by
    obtain ⟨o, ho, hex, hd⟩ := R.ob
    have hh : ∀ (i : Nat) (p : KA), L[i]? = some p → (es[i]?.map (·.1)).getD 0 = p.1.hash w := fun i p e => by rw [R.ent e]; rfl
    generalize eH : k.hash w = H at *
    rw [setSearchFrom_succ]
    refine wpAny_bind (wpAny_setState_of ho hd R.fits ?_)
    dsimp only
    refine wp_if_neg (by rw [R.whole]; decide) ?_
    try refine wpAny_bind (wpAny_pure ?_)
    have spec := go_spec t R.tab.ris R.tab.dm (fun i => (es[i]?.map (·.1)).getD 0) H (10 * SetTable.turns t.mask) (K - c) (nth t.mask (w0 t.mask H) c) (nth_plain _ _ _ rfl) (by omega)
      (fun q hq => by rw [w0_way]; exact taken (c + q) (by omega)) (by rw [w0_way, show c + (K - c) = K by omega]; exact free)
    rcases spec with ⟨q, i, hq, hi, _, before, pr⟩ | ⟨before, pr⟩
    · have pr2 : t.probe (fun i => (es[i]?.map (·.1)).getD 0) H (stand.getD (t.probeStart H)) = some (.candidate (way t.mask H (c + q)) i (nth t.mask (w0 t.mask H) (c + (q + 1)))) := by
        rw [hst, ← w0_way, ← w0_shift]
        exact pr
      rw [pr2]
      dsimp only
      rw [w0_way] at hi
      obtain ⟨p, hp⟩ : ∃ p, L[i]? = some p := by
        have l1 : i < t.place.toList.length := (List.getElem?_eq_some_iff.mp hi).1
        rw [Array.length_toList, R.places] at l1
        exact ⟨L[i], List.getElem?_eq_getElem l1⟩
      have mem : p ∈ L := List.mem_of_getElem? hp
      have kp := R.keys p mem
      have live : t.slot (way t.mask H (c + q)) = .live i := slot_live R.tab.ris hi
      have onward : wpAny (model P w) A (searchRest a (.ref x) H true f es t (way t.mask H (c + q)) i (nth t.mask (w0 t.mask H) (c + (q + 1)))) Q E s := by
        unfold searchRest
        rw [R.ent hp]
        dsimp only [entK]
        have deep : A.units + min p.1.depth k.depth < cLine := by
          have := kp.2
          have : min p.1.depth k.depth ≤ 8 := Nat.le_trans (Nat.min_le_left _ _) kp.2
          omega
        refine wpAny_bind (wpAny_holding (eqAt_key p.1 k A s _ _ kp.1 hx.1 deep P w _ _ ?_))
        refine wpAny_bind (wpAny_setState_of ho hd R.fits ?_)
        dsimp only
        rw [← NestedKey.decide_eq]
        by_cases same : p.1 = k
        · refine wp_if_pos (by simp [same]) (wpAny_pure (yes ?_))
          exact List.mem_map.mpr ⟨p, mem, same⟩
        · refine wp_if_neg (by simp [same]) ?_
          try refine wpAny_bind (wpAny_pure ?_)
          rw [sameMem]
          dsimp only
          simp only [if_true, live, R.ent hp]
          dsimp only [entK]
          refine wpAny_bind (wpAny_isSame_ref_self (wpAny_bind (wpAny_pure ?_)))
          simp only [if_true]
          refine wp_if_neg (by simp [same]) ?_
          subst eH
          refine TrS.search R hx room low free taken yes no f (c + (q + 1)) _ rfl (by omega) (by omega) fun i0 p0 e0 k0 => ?_
          obtain ⟨c', b1, b2, b3⟩ := ahead i0 p0 e0 k0
          refine ⟨c', ?_, b2, b3⟩
          rcases Nat.lt_trichotomy c' (c + q) with z | z | z
          · refine absurd ((hh i0 p0 e0).trans (by rw [k0])) (before (c' - c) i0 (by omega) ?_)
            rw [w0_way, show c + (c' - c) = c' by omega]
            exact b3
          · subst z
            have l2 := slot_live R.tab.ris b3
            rw [live] at l2
            cases l2
            rw [hp] at e0
            cases e0
            exact absurd k0 same
          · omega
      by_cases led : t.led = true
      · refine wp_if_neg (by simp [led]) ?_
        try refine wpAny_bind (wpAny_pure ?_)
        exact onward
      · refine wp_if_pos (by simp [led]) (wpAny_bind (unseen hx (fun y hy => ?_) ?_))
        · obtain ⟨e, he, rfl⟩ := List.mem_map.mp hy
          have me : e ∈ es ∧ e.1 = H := by simpa using he
          have ml : e ∈ es.toList := by simpa using me.1
          rw [R.ents] at ml
          obtain ⟨p2, m2, rfl⟩ := List.mem_map.mp ml
          exact ⟨p2.1, p2.2, rfl, R.keys p2 m2⟩
        · refine wp_if_neg (by decide) ?_
          try refine wpAny_bind (wpAny_pure ?_)
          exact onward
    · have pr2 : t.probe (fun i => (es[i]?.map (·.1)).getD 0) H (stand.getD (t.probeStart H)) = some (.empty (way t.mask H K) none) := by
        have e2 : way t.mask H K = (nth t.mask (nth t.mask (w0 t.mask H) c) (K - c)).j := by rw [w0_way, show c + (K - c) = K by omega]
        rw [hst, e2]
        exact pr
      rw [pr2]
      dsimp only
      refine wpAny_pure (no fun m => ?_)
      obtain ⟨p0, m0, k0⟩ := List.mem_map.mp m
      obtain ⟨i0, l0, e0⟩ := List.getElem_of_mem m0
      have e1 : L[i0]? = some p0 := by rw [List.getElem?_eq_getElem l0, e0]
      obtain ⟨c', b1, b2, b3⟩ := ahead i0 p0 e1 k0
      refine before (c' - c) i0 (by omega) (by rw [w0_way, show c + (c' - c) = c' by omega]; exact b3) ?_
      rw [← eH, ← k0]
      exact hh i0 p0 e1
end

section
variable {P : Program} {w : World} {A : Around} {E : Value → Shared → Prop} {s : Shared} {a : Addr} {L : List KA} {es : Array (Int × Value)} {ep : Nat} {t : SetTable}
theorem TrS.seek (R : TrS w s.heap a L es ep t) {x : Addr} {k : NestedKey} (hx : KeyAt s.heap k x) (room : A.units + 8 < cLine) {Q : SetFound → Shared → Prop}
    (yes : k ∈ L.map Prod.fst → Q (.there none) s)
    (no : ∀ K, k ∉ L.map Prod.fst → way t.mask (k.hash w) K ∉ t.place.toList → (∀ c, c < K → way t.mask (k.hash w) c ∈ t.place.toList) → Q (.free (way t.mask (k.hash w) K) false) s) :
    wpAny (model P w) A (setSearch a (.ref x) (k.hash w) true) Q E s := by
  have small := R.room
  obtain ⟨K, low, free, taken⟩ := R.tab.first (by rw [List.length_map]; omega) (k.hash w)
  have few : 10 * SetTable.turns t.mask ≤ 1420 := by
    unfold SetTable.turns
    rcases R.tab.mok with e | e | e <;> omega
  unfold setSearch
  refine R.search hx room low free taken yes (fun n => no K n free taken) 100000 0 none rfl (Nat.zero_le _) (by omega) fun i p e ek => ?_
  have e1 : (L.map fun p => p.1.hash w)[i]? = some (k.hash w) := by rw [List.getElem?_map, e, ← ek]; rfl
  have l1 : i < t.place.toList.length := by
    rw [Array.length_toList, R.places]
    exact (List.getElem?_eq_some_iff.mp e).1
  have e2 := List.getElem?_eq_getElem l1
  obtain ⟨c, hc, e3⟩ := R.tab.before free e1 e2
  exact ⟨c, Nat.zero_le _, hc, by rw [e2, e3]⟩
theorem filter_at {α β : Type} (f : α → β) (L : List α) (es : Array β) (e : es.toList = L.map f) (order : List Nat) : order.filterMap (fun i => es[i]?) = (order.filterMap fun i => L[i]?).map f := by
  have at_ : ∀ i : Nat, es[i]? = L[i]?.map f := fun i => by rw [← Array.getElem?_toList, e, List.getElem?_map]
  induction order with
  | nil => rfl
  | cons i r ih =>
    rw [List.filterMap_cons, List.filterMap_cons, at_ i]
    cases L[i]? with
    | none => exact ih
    | some p => exact congrArg _ ih
theorem pick_all {α : Type} (L : List α) : (List.range L.length).filterMap (fun i => L[i]?) = L := by
  have go : ∀ n, n ≤ L.length → (List.range n).filterMap (fun i => L[i]?) = L.take n := by
    intro n
    induction n with
    | zero => intro _; simp
    | succ n ih =>
      intro hn
      rw [List.range_succ, List.filterMap_append, ih (by omega), List.take_add_one, List.getElem?_eq_getElem (show n < L.length from hn)]
      simp [List.getElem?_eq_getElem (show n < L.length from hn)]
  rw [go _ (Nat.le_refl _), List.take_length]
theorem order_at (e : es.toList = L.map (entK w)) (order : Array Nat) (hp : order.toList.Perm (List.range L.length)) :
    ∃ L2 : List KA, (order.filterMap (es[·]?)).toList = L2.map (entK w) ∧ L2.Perm L ∧ (L2.map fun p => p.1.hash w) = order.toList.map fun i => (es.map (·.1)).getD i 0 := by
  refine ⟨order.toList.filterMap fun i => L[i]?, ?_, ?_, ?_⟩
  · rw [Array.toList_filterMap]
    exact filter_at _ L es e _
  · have h := hp.filterMap fun i => L[i]?
    rw [pick_all] at h
    exact h
  · have all : ∀ i ∈ order.toList, i < L.length := fun i hi => List.mem_range.mp (hp.mem_iff.mp hi)
    revert all
    induction order.toList with
    | nil => intro _; rfl
    | cons i r ih =>
      intro all
      have hi := all i List.mem_cons_self
      rw [List.filterMap_cons_some (List.getElem?_eq_getElem hi), List.map_cons, List.map_cons, ih fun j hj => all j (List.mem_cons_of_mem _ hj)]
      have e1 : es[i]? = some (entK w L[i]) := by rw [← Array.getElem?_toList, e, List.getElem?_map, List.getElem?_eq_getElem hi]; rfl
      have e2 : (es.map (·.1)).getD i 0 = (L[i]).1.hash w := by
        have e3 : (es.map (·.1))[i]? = some ((L[i]).1.hash w) := by rw [Array.getElem?_map, e1]; rfl
        simp [Array.getD_eq_getD_getElem?, e3]
      rw [e2]
/-- the table laid anew -/
theorem relayN {o : Obj} (ho : s.heap.get? a = some o) (hex : o.ExactSet) (hd : o.data = .set es ep t) (ents : es.toList = L.map (entK w)) (pl : t.place.size = es.size) (dm : t.dummies = #[]) (fit : es.size ≤ t.mask)
    (nd : (L.map Prod.fst).Nodup) (keys : ∀ p ∈ L, KeyAt s.heap p.1 p.2) (led : w.params.followText "set-order" = true ∨ t.led = true) (few : L.length < 64) {wanted M : Nat}
    (wM : SetTable.sizeAbove wanted - 1 = M) (okM : MaskOk M) (w128 : SetTable.sizeAbove wanted ≤ 128) (rm : L.length * 5 < M * 3) {Q : Unit → Shared → Prop}
    (go : ∀ h' L' es' ep' t', Heap.SameBut a s.heap h' → TrS w h' a L' es' ep' t' → L'.Perm L → Q () { s with heap := h' }) : wpAny (model P w) A (setRelay a wanted) Q E s := by
  have sz := ents_size ents
  have fits : t.fits es.size = true := by
    unfold SetTable.fits SetTable.fill
    rw [dm, Bool.and_eq_true, beq_iff_eq, decide_eq_true_eq]
    show t.place.size = es.size ∧ t.place.size + 0 ≤ t.mask
    omega
  obtain ⟨t', order, e, hp, T, em, el, _, _⟩ := relaid_ok t (hs := es.map (·.1)) (wanted := wanted) wM okM (by rw [Array.size_map, sz]; omega)
  rw [Array.size_map, sz] at hp
  obtain ⟨L2, r1, r2, r3⟩ := order_at ents order hp
  rw [← r3] at T
  have sz2 : (order.filterMap (es[·]?)).size = es.size := by rw [ents_size r1, r2.length_eq, sz]
  rw [setRelay_eq]
  refine wpAny_bind (wpAny_setState_of ho hd fits ?_)
  dsimp only
  refine wp_if_neg (by rw [sizeLine_eq]; omega) ?_
  try refine wpAny_bind (wpAny_pure ?_)
  rw [e]
  dsimp only
  refine wpAny_bind (wp_if_neg (by rw [sz2]; simp) ?_)
  try refine wpAny_bind (wpAny_pure ?_)
  refine wpAny_pure ?_
  dsimp only
  refine wpAny_storeSet_of ho hd ?_ (by rw [sz2, sz, sizeLine_eq]; omega)
  have sb : Heap.SameBut a s.heap (s.heap.update a (Obj.putSet (order.filterMap (es[·]?)) t')) := Heap.SameBut.update ..
  refine go _ L2 _ (ep + 1) t' sb ⟨⟨_, store_at ho hd, ⟨hex.1, hex.2.1, hex.2.2⟩, rfl⟩, r1, T, (r2.map Prod.fst).nodup_iff.mpr nd, fun p m => (keys p (r2.mem_iff.mp m)).past ho hd sb, by rw [el]; exact led, by rw [r2.length_eq, em]; exact rm, by rw [r2.length_eq]; exact few⟩ r2
end
end Rf

/-! Rf: sets of trees: add, comprehensions, sorted. -/
namespace Rf
open PySem PySem.Spec PyProof.Rows L2
section
variable {P : Program} {w : World} {A : Around} {E : Value → Shared → Prop} {s : Shared} {a : Addr} {L : List KA} {es : Array (Int × Value)} {ep : Nat} {t : SetTable}
theorem ent_put (L : List KA) (p : Nat) (x : KA) : (L.take p ++ x :: L.drop p).map (entK w) = (L.map (entK w)).take p ++ entK w x :: (L.map (entK w)).drop p := by
  rw [List.map_append, List.map_cons, List.map_take, List.map_drop]
theorem TrS.store (R : TrS w s.heap a L es ep t) {x : Addr} {k : NestedKey} (hx : KeyAt s.heap k x) (few : L.length + 1 < 64) (new : k ∉ L.map Prod.fst) {K : Nat} (free : way t.mask (k.hash w) K ∉ t.place.toList) (taken : ∀ c, c < K → way t.mask (k.hash w) c ∈ t.place.toList) (b : Bool) {Q : Bool → Shared → Prop}
    (go : ∀ h' L' es' ep' t', Heap.SameBut a s.heap h' → TrS w h' a L' es' ep' t' → L'.Perm ((k, x) :: L) → Q true { s with heap := h' }) :
    wpAny (model P w) A (do
      let t1 := (t.put (way t.mask (k.hash w) K)).1
      let t2 := if b = true then t1 else { t1 with plain := false }
      storeSet a (SetTable.insertAt es (t.put (way t.mask (k.hash w) K)).2 (k.hash w, Value.ref x)) t2
      if (!false && t2.tooFull) = true then setRelay a (SetTable.grown (es.size + 1))
      return true) Q E s := by
  obtain ⟨o, ho, hex, hd⟩ := R.ob
  have hsl := R.size
  have hroom := R.room
  obtain ⟨q1, q2, q3, q4, q5, q6, q7, q8, q9⟩ := R.tab.put free taken
  generalize hpt : t.put (way t.mask (k.hash w) K) = pt at q1 q3 q4 q5 q6 q7 q8 q9 ⊢
  obtain ⟨t1, p⟩ := pt
  dsimp only at q1 q3 q4 q5 q6 q7 q8 q9 ⊢
  subst q1
  have hin : (SetTable.insertAt es (SetTable.below t.place (way t.mask (k.hash w) K)) (k.hash w, Value.ref x)).toList = (L.take (SetTable.below t.place (way t.mask (k.hash w) K)) ++ (k, x) :: L.drop (SetTable.below t.place (way t.mask (k.hash w) K))).map (entK w) := by
    rw [SetTable.toList_insertAt, ent_put, R.ents]; rfl
  generalize hpp : SetTable.below t.place (way t.mask (k.hash w) K) = p at q2 q3 hin ⊢
  have pm := put_perm L p (k, x)
  have hlen : (L.take p ++ (k, x) :: L.drop p).length = L.length + 1 := pm.length_eq
  have hhs : (L.take p ++ (k, x) :: L.drop p).map (fun p => p.1.hash w) = (L.map fun p => p.1.hash w).take p ++ k.hash w :: (L.map fun p => p.1.hash w).drop p := by
    rw [List.map_append, List.map_cons, List.map_take, List.map_drop]
  rw [← hhs] at q3
  have nd1 : ((L.take p ++ (k, x) :: L.drop p).map Prod.fst).Nodup := by
    refine (pm.map Prod.fst).nodup_iff.mpr ?_
    rw [List.map_cons]
    exact List.nodup_cons.mpr ⟨new, R.nd⟩
  have hes : (SetTable.insertAt es p (k.hash w, Value.ref x)).size = L.length + 1 := by rw [ents_size hin, hlen]
  generalize SetTable.insertAt es p (k.hash w, Value.ref x) = es1 at hin hes ⊢
  generalize L.take p ++ (k, x) :: L.drop p = L1 at pm hlen q3 nd1 hin
  obtain ⟨t2, et2⟩ : ∃ t2 : SetTable, t2 = (if b = true then t1 else { t1 with plain := false }) := ⟨_, rfl⟩
  have f1 : t2.mask = t1.mask := by subst et2; cases b <;> rfl
  have f2 : t2.place = t1.place := by subst et2; cases b <;> rfl
  have f3 : t2.dummies = t1.dummies := by subst et2; cases b <;> rfl
  have f4 : t2.led = t1.led := by subst et2; cases b <;> rfl
  have f5 : t2.tooFull = t1.tooFull := by subst et2; cases b <;> rfl
  rw [← et2]
  have T2 : TabOk t2 (L1.map fun p => p.1.hash w) := ⟨by rw [f2]; exact q3.ris, by rw [f3]; exact q3.dm, by rw [f2]; exact q3.sz, by rw [f1]; exact q3.mok, by rw [f2, f1]; exact q3.bd, by rw [f2, f1]; exact q3.reach⟩
  refine wpAny_bind (wpAny_storeSet_of ho hd ?_ (by rw [hes, sizeLine_eq]; omega))
  have sb : Heap.SameBut a s.heap (s.heap.update a (Obj.putSet es1 t2)) := Heap.SameBut.update ..
  have ho1 := store_at (es' := es1) (t' := t2) ho hd
  generalize s.heap.update a (Obj.putSet es1 t2) = h1 at sb ho1 ⊢
  have keys1 : ∀ p ∈ L1, KeyAt h1 p.1 p.2 := fun p hp => by
    rcases List.mem_cons.mp (pm.mem_iff.mp hp) with e | hp
    · rw [e]; exact hx.past ho hd sb
    · exact (R.keys p hp).past ho hd sb
  have ld1 : w.params.followText "set-order" = true ∨ t2.led = true := by rw [f4, q5]; exact R.led
  by_cases hf : t2.tooFull = true
  · refine wp_if_pos (by simp [hf]) ?_
    have hfull : (L.length + 1) * 5 ≥ t1.mask * 3 := by
      have h := hf
      rw [f5] at h
      unfold SetTable.tooFull at h
      rw [decide_eq_true_eq, q9, List.length_map] at h
      exact h
    rw [hsl]
    have hsz1 : t2.place.size = es1.size := by
      have h := T2.sz
      rw [List.length_map, hlen] at h
      rw [h, hes]
    have cases2 : (t.mask = 7 ∧ L.length = 4) ∨ (t.mask = 31 ∧ L.length = 18) := by
      rcases R.tab.mok with e | e | e
      · left; rw [q4, e] at hfull; rw [e] at hroom; exact ⟨e, by omega⟩
      · right; rw [q4, e] at hfull; rw [e] at hroom; exact ⟨e, by omega⟩
      · exfalso; rw [q4, e] at hfull; omega
    have go2 : ∀ M, SetTable.sizeAbove (SetTable.grown (L.length + 1)) - 1 = M → MaskOk M → SetTable.sizeAbove (SetTable.grown (L.length + 1)) ≤ 128 → (L.length + 1) * 5 < M * 3 →
        wpAny (model P w) A (setRelay a (SetTable.grown (L.length + 1))) (fun _ s' => wpAny (model P w) A (pure true) Q E s') E { s with heap := h1 } := fun M h1' h2' h3' h4' => by
      refine relayN (s := { s with heap := h1 }) ho1 ⟨hex.1, hex.2.1, hex.2.2⟩ rfl hin hsz1 T2.dm (by rw [hes, f1, q4]; rcases cases2 with ⟨e, e2⟩ | ⟨e, e2⟩ <;> omega) nd1 keys1 ld1 (by rw [hlen]; exact few) h1' h2' h3' (by rw [hlen]; exact h4') ?_
      intro h2 L2 es2 ep2 t2 sb2 R2 pm2
      exact wpAny_pure (go h2 L2 es2 ep2 t2 (sb.trans sb2) R2 (pm2.trans pm))
    refine wpAny_bind ?_
    rcases cases2 with ⟨_, e2⟩ | ⟨_, e2⟩
    · refine go2 31 (by rw [e2, size_20]) (.inr (.inl rfl)) (by rw [e2, size_20]; decide) (by omega)
    · refine go2 127 (by rw [e2, size_76]) (.inr (.inr rfl)) (by rw [e2, size_76]; decide) (by omega)
  · refine wp_if_neg (by simp [hf]) ?_
    refine wpAny_pure (go h1 L1 es1 (ep + 1) t2 sb ⟨⟨_, ho1, ⟨hex.1, hex.2.1, hex.2.2⟩, rfl⟩, hin, T2, nd1, keys1, ld1, ?_, by rw [hlen]; exact few⟩ pm)
    have h := hf
    rw [f5] at h
    unfold SetTable.tooFull at h
    rw [decide_eq_true_eq, q9, List.length_map] at h
    rw [hlen, f1]
    omega
end
section
variable {P : Program} {w : World} {A : Around} {E : Value → Shared → Prop} {s : Shared} {a : Addr} {L : List KA} {es : Array (Int × Value)} {ep : Nat} {t : SetTable}
theorem TrS.add (R : TrS w s.heap a L es ep t) {x : Addr} {k : NestedKey} (hx : KeyAt s.heap k x) (room : A.units + 8 < cLine) (few : L.length + 1 < 64) {Q : Bool → Shared → Prop}
    (go : ∀ b h' L' es' ep' t', Heap.SameBut a s.heap h' → TrS w h' a L' es' ep' t' → (k ∈ L.map Prod.fst → L' = L) → (k ∉ L.map Prod.fst → L'.Perm ((k, x) :: L)) → Q b { s with heap := h' }) :
    wpAny (model P w) A (setAddHashed a (.ref x) (k.hash w)) Q E s := by
  obtain ⟨o, ho, hex, hd⟩ := R.ob
  unfold setAddHashed
  refine wpAny_holding ?_
  rw [show (100000 : Nat) = 99999 + 1 from rfl, setAddHashedIn_succ]
  refine wpAny_bind (wpAny_setState_of ho hd R.fits ?_)
  dsimp only
  refine wp_if_neg (by simp [byScan, Value.scannable]) ?_
  try refine wpAny_bind (wpAny_pure ?_)
  refine wpAny_bind (R.seek hx room (fun hm => ?_) fun K hm hK hb => ?_)
  · dsimp only
    exact wpAny_pure (go false s.heap L es ep t (Heap.SameBut.refl a s.heap) R (fun _ => rfl) fun z => absurd hm z)
  · dsimp only
    refine wpAny_bind (wpAny_setState_of ho hd R.fits ?_)
    dsimp only
    have fin : ∀ b, wpAny (model P w) A (do
      let t1 := (t.put (way t.mask (k.hash w) K)).1
      let t2 := if b = true then t1 else { t1 with plain := false }
      storeSet a (SetTable.insertAt es (t.put (way t.mask (k.hash w) K)).2 (k.hash w, Value.ref x)) t2
      if (!false && t2.tooFull) = true then setRelay a (SetTable.grown (es.size + 1))
      return true) Q E s := fun b => R.store hx few hm hK hb b fun h' L' es' ep' t' sb R' pm => go true h' L' es' ep' t' sb R' (fun z => absurd z hm) fun _ => pm
    by_cases hp : (t.put (way t.mask (k.hash w) K)).1.plain = true
    · first
        | (refine wpAny_bind ?_; refine wp_if_pos hp ?_; refine byValueK k _ 8 _ _ hx.1 hx.2 fun b => ?_; exact fin b)
        | (refine wp_if_pos hp (wpAny_bind ?_); refine byValueK k _ 8 _ _ hx.1 hx.2 fun b => ?_; exact fin b)
    · first
        | (refine wpAny_bind ?_; refine wp_if_neg hp ?_; refine wpAny_pure ?_; exact fin true)
        | (refine wp_if_neg hp ?_; refine wpAny_bind (wpAny_pure ?_); exact fin true)
/-- found.add(k) -/
theorem TrS.addCall (R : TrS w s.heap a L es ep t) {x : Addr} {k : NestedKey} (hx : KeyAt s.heap k x) (room : A.units + 12 < cLine) (few : L.length + 1 < 64) {Q : Value → Shared → Prop}
    (go : ∀ h' tk L' es' ep' t', Heap.SameBut a s.heap h' → TrS w h' a L' es' ep' t' → (k ∈ L.map Prod.fst → L' = L) → (k ∉ L.map Prod.fst → L'.Perm ((k, x) :: L)) → Q .none { s with heap := h', toks := tk }) :
    wpAny (model P w) A (call (.builtin "set.add") [.ref a, .ref x]) Q E s := by
  obtain ⟨o, ho, hex, hd⟩ := R.ob
  have hT : s.TypeIs (.ref a) "set" := ⟨o, ho, hex.1⟩
  refine wpAny_call_entry F.slot_set_add hT F.entry_set_add ?_ (F.args_set_add_2 _ _)
  unfold Builtin.«set.add» Builtin.Frozenset.oneOther
  simp only [List.isEmpty_nil, bind_assoc]
  unfold Builtin.Frozenset.addrOf setAdd
  refine wpAny_bind (wpAny_pure ?_)
  try dsimp only
  refine wpAny_bind (wpAny_pure ?_)
  try dsimp only
  refine wpAny_bind ?_
  refine wpAny_holding ?_
  refine wpAny_bind (pyHash_key k _ _ _ _ hx.1 ?_ ?_)
  · have := hx.2
    have e : A.in1.units = A.units + 1 := rfl
    omega
  · refine TrS.add (s := { s with toks := s.toks + k.draws }) R hx ?_ few fun b h' L' es' ep' t' sb R' c1 c2 => ?_
    · have e : A.in1.units = A.units + 1 := rfl
      omega
    · show wpAny _ _ (ret Value.none) _ _ _
      exact wpAny_pure ⟨_, rfl, go h' _ L' es' ep' t' sb R' c1 c2⟩
end
/-! ### as tracked things -/
/-- the set at a, without its trees -/
structure Tr0 (w : World) (h : Heap) (a : Addr) (L : List KA) : Prop where
  ex : ∃ (es : Array (Int × Value)) (ep : Nat) (t : SetTable), (∃ o, h.get? a = some o ∧ o.ExactSet ∧ o.data = .set es ep t) ∧ es.toList = L.map (entK w) ∧ TabOk t (L.map fun p => p.1.hash w) ∧ (L.map Prod.fst).Nodup ∧
    (w.params.followText "set-order" = true ∨ t.led = true) ∧ L.length * 5 < t.mask * 3 ∧ L.length < 64
def TrSO (w : World) (a : Addr) (L : List KA) : HO := .ext fun h => Tr0 w h a L
theorem TrS.t0 {w : World} {h : Heap} {a : Addr} {L : List KA} {es : Array (Int × Value)} {ep : Nat} {t : SetTable} (R : TrS w h a L es ep t) : Tr0 w h a L := ⟨es, ep, t, R.ob, R.ents, R.tab, R.nd, R.led, R.room, R.few⟩
theorem Tr0.full {w : World} {h : Heap} {a : Addr} {L : List KA} (R : Tr0 w h a L) (ht : ∀ p ∈ L, KeyAt h p.1 p.2) : ∃ es ep t, TrS w h a L es ep t := by
  obtain ⟨es, ep, t, h1, h2, h3, h4, h6, h7, h8⟩ := R.ex
  exact ⟨es, ep, t, h1, h2, h3, h4, ht, h6, h7, h8⟩
theorem trSO_new {P : Program} {w : World} {H : Hp} {h : Heap} {a : Addr} {L : List KA} (R : Tr0 w h a L) : ObjOk P w H h a (TrSO w a L) := by
  have ⟨es, ep, t, ⟨o, ho, r⟩, q⟩ := R.ex
  exact ⟨R, ⟨o, ho⟩, fun h1 h2 ⟨es, ep, t, ⟨o, ho, r⟩, q⟩ k => ⟨es, ep, t, ⟨o, k o ho, r⟩, q⟩⟩
theorem trSO_fresh {P : Program} {h : Heap} (w : World) {H : Hp} : ObjOk P w H (h.push { cls := .type "set", dict := none, data := .set #[] 0 (.fresh 0 0 (!w.params.followText "set-order")) }) h.objs.size (TrSO w h.objs.size []) :=
  trSO_new ⟨#[], 0, _, ⟨_, Heap.get?_push_size _ rfl, ⟨rfl, rfl, rfl⟩, rfl⟩, rfl, ⟨List.Pairwise.nil, rfl, rfl, .inl rfl, fun x hx => (by cases hx), fun i h j hi => (by simp at hi)⟩, List.nodup_nil, by
    show _ ∨ (!w.params.followText "set-order") = true
    cases w.params.followText "set-order"
    · exact .inr rfl
    · exact .inl rfl, by show 0 * 5 < 7 * 3; decide, by show 0 < 64; decide⟩
def TreeAt (K : FW) (H : Hp) (y : V) (k : NestedKey) : Prop := ∃ ρ a, RV K ρ H a y ∧ nkOf a = some k ∧ k.depth ≤ 8
section
variable {X : Cx} {pins : List (Addr × Obj)} {σ : L2.St} {H : Hp} {s : Shared}
theorem tree_key (I : L2.Inv X pins σ H s) {z : Addr} {k : NestedKey} (t : TreeAt X.fw H (.ref z) k) : KeyAt s.heap k z := by
  obtain ⟨ρ, a, r, e, d⟩ := t
  exact ⟨nest_is I a r e rfl, d⟩
theorem addT_ok {E : Value → Shared → Prop} (hu : X.A.units + 65 < cLine) {D z : Addr} {k : NestedKey} {L : List KA} {Q : Value → Shared → Prop} (I : L2.Inv X pins σ H s) (hD : H D = some (TrSO X.w D L)) (few : L.length + 1 < 64) (tk : TreeAt X.fw H (.ref z) k) (tl : ∀ p ∈ L, TreeAt X.fw H (.ref p.2) p.1)
    (h : ∀ s' L', (k ∈ L.map Prod.fst → L' = L) → (k ∉ L.map Prod.fst → L'.Perm ((k, z) :: L)) → L2.Inv X pins σ (upd H D (TrSO X.w D L')) s' → Q .none s') : wpAny (model X.prog X.w) X.A (call (.builtin "set.add") [.ref D, .ref z]) Q E s := by
  have R0 : Tr0 X.w s.heap D L := (I.hok D _ hD).1
  obtain ⟨es, ep, t, R⟩ := R0.full fun p hp => tree_key I (tl p hp)
  refine R.addCall (tree_key I tk) (by omega) few fun h' tk' L' es' ep' t' sb R' c1 c2 => ?_
  have he : ∃ u, h'.get? D = some u := let ⟨o, ho, _⟩ := R'.ob; ⟨o, ho⟩
  exact h _ L' c1 c2 (I.write (e := D) (t' := tk') (by rw [hD]; trivial) (.inl rfl) (fun b u hb hu => (sb.2 b hb).trans hu) he (trSO_new R'.t0))
end
open PpSet (newSet_ok compLoopS_any codeAny_compStart_set eval_SetComp)
section
variable {X : Cx}
/-- what an item adds to the set at D, and what is wanted behind it -/
def StepT (K : FW) (w : World) (D : Addr) (y : V) (H : Hp) (Nx : Hp → Prop) : Prop := ∃ (z : Addr) (k : NestedKey) (L : List KA), y = .ref z ∧ H D = some (TrSO w D L) ∧ L.length + 1 < 64 ∧ TreeAt K H y k ∧ (∀ p ∈ L, TreeAt K H (.ref p.2) p.1) ∧
  ∀ L' : List KA, (k ∈ L.map Prod.fst → L' = L) → (k ∉ L.map Prod.fst → L'.Perm ((k, z) :: L)) → Nx (upd H D (TrSO w D L'))
theorem StepT.run {pins : List (Addr × Obj)} {σ : L2.St} {H : Hp} {s : Shared} {D : Addr} {y : V} {v : Value} {Nx : Hp → Prop} {E : Value → Shared → Prop} (hu : X.A.units + 65 < cLine) (I : L2.Inv X pins σ H s) (r : RelV y v) (st : StepT X.fw X.w D y H Nx) :
    wpAny (model X.prog X.w) X.A (call (.builtin "set.add") [.ref D, v]) (fun _ s' => ∃ H', L2.Inv X pins σ H' s' ∧ Nx H') E s := by
  obtain ⟨z, k, L, e, hD, few, tk, tl, nx⟩ := st
  subst e
  obtain rfl : v = Value.ref z := r
  exact addT_ok hu I hD few tk tl fun s' L' c1 c2 I' => ⟨_, I', nx L' c1 c2⟩
/-- the reading of {elt for .. in ..}: W says how far the walk is -/
def tScT (K : FW) (w : World) (wi : TI) (g : TG) (tt : TT) (te : TE) (vs : List Nat) : TE := fun σ H Q => wi σ H fun J H1 => ∀ D, H1 D = none → ∃ W : Nat → Nat → Hp → Prop, (∃ m, W 0 m (upd H1 D (TrSO w D []))) ∧ ∀ i m H, W i m H →
  (J.stop i H ∧ Q (.ref D) H) ∨ (J.go i H ∧ ∃ Nx : Hp → Prop, (∀ H', Nx H' → ∃ m', m' < m ∧ W (i + 1) m' H') ∧
    ∀ x H', J.yld i H x H' → g x (wipe σ vs) H' fun σ2 H2 => wipe σ2 vs = wipe σ vs ∧ tt σ2 H2 fun b H3 => if b = true then te σ2 H3 fun y H4 => StepT K w D y H4 Nx else Nx H3)
/-- where the walk stands between two items -/
structure Rest (B : Cx) (fp : List Addr) (tn : Nat → Heap → Prop) (τ : L2.St) (W : Nat → Nat → Hp → Prop) (m : Nat) (s : Shared) : Prop where
  at_ : ∃ i H, L2.Inv B [] τ H s ∧ tn i s.heap ∧ (∀ b ∈ fp, H b = none) ∧ W i m H
theorem fp_now {B : Cx} {σ : L2.St} {H : Hp} {s : Shared} (I : L2.Inv B [] σ H s) (p0 : B.pn = []) {fp : List Addr} (mem : fp = B.ex) (no : ∀ b ∈ fp, H b = none) : ∀ b ∈ fp, FpOk B [] H b := fun b hb => by
  subst mem
  refine ⟨no b hb, (I.ok.exf b hb).1, I.ok.exfs b hb, .inl hb, (I.ok.exf b hb).2, fun p hp => ?_⟩
  rw [p0] at hp
  exact absurd hp (by simp)
/-- one turn of a set's comprehension, in its block B: an item, its test, what it adds; then the walk rests again -/
theorem turnT {B : Cx} {tgx elt : Expr} {ifs : List Expr} {it D : Addr} {fp : List Addr} {tn : Nat → Heap → Prop} {J : It} {W : Nat → Nat → Hp → Prop} {g : TG} {tt : TT} {te : TE} {σ : L2.St} {vs : List Nat} {R : Result → Shared → Prop} {End : Hp → Prop} {E : Value → Shared → Prop}
    (hu : B.A.units + 65 < cLine) (hc : B.calm = true) (p0 : B.pn = []) (mem : fp = B.ex) (xe0 : ∀ v s, B.xe v s → False) (T : Turn B.prog B.w B.K tgx J fp it tn) (pg : PG B tgx g) (pt : PTs B ifs tt) (pe : PE B elt te)
    (ends : ∀ s H, L2.Inv B [] (wipe σ vs) H s → End H → R (.ok .next) s) {n i : Nat} {H : Hp} {s : Shared} (I : L2.Inv B [] (wipe σ vs) H s) (st : tn i s.heap) (no : ∀ b ∈ fp, H b = none)
    (turn : (J.stop i H ∧ End H) ∨ (J.go i H ∧ ∃ Nx : Hp → Prop, (∀ H', Nx H' → ∃ m', m' < n ∧ W (i + 1) m' H') ∧
      ∀ x H', J.yld i H x H' → g x (wipe σ vs) H' fun σ2 H2 => wipe σ2 vs = wipe σ vs ∧ tt σ2 H2 fun b H3 => if b = true then te σ2 H3 fun y H4 => StepT B.fw B.w D y H4 Nx else Nx H3)) :
    wpAny (model B.prog B.w) B.A (pyNext (.ref it)) (fun r s₁ => match r with
      | none => R (.ok .next) s₁
      | some v => wpAny (model B.prog B.w) B.A (letOwnedTupleGo tgx (.ref it) v) (fun _ s₂ => wpAny (model B.prog B.w) B.A (assign tgx B.env v) (fun _ s₃ =>
          wpAny (model B.prog B.w) B.A (forIn ifs true fun c r => if r = true then do let ok ← isTrue c B.env (eval c B.env); pure (ForInStep.yield ok) else pure (ForInStep.yield r)) (fun ok s₄ =>
            if ok = true then wpAny (model B.prog B.w) B.A (eval elt B.env) (fun x s₅ => wpAny (model B.prog B.w) B.A (call (.builtin "set.add") [.ref D, x]) (fun _ s₆ => ∃ m, m < n ∧ Rest B fp tn (wipe σ vs) W m s₆) E s₅) E s₄
            else ∃ m, m < n ∧ Rest B fp tn (wipe σ vs) W m s₄) E s₃) E s₂) E s₁) E s := by
  have quiet : ∀ {α : Type} {t : Sem α} {Q Q' : α → Shared → Prop} {s : Shared}, wpAny (model B.prog B.w) B.A t Q B.xe s → (∀ a s, Q a s → Q' a s) → wpAny (model B.prog B.w) B.A t Q' E s := fun h k => wpAny_mono h k fun v s x => absurd (xe0 v s x) id
  have now := fp_now I p0 mem no
  rcases turn with ⟨stop, e⟩ | ⟨go, Nx, back, item⟩
  · refine quiet (T.done B rfl rfl rfl hc i [] s _ H B.xe I now st stop) fun r s1 ⟨er, I1⟩ => ?_
    rw [er]
    exact ends s1 H I1 e
  · refine quiet (T.item B rfl rfl rfl hc i [] s _ H B.xe I now st go) fun r s1 ⟨u, er, h1⟩ => ?_
    rw [er]
    refine quiet h1 fun _ s2 ⟨x, H2, I2, rx, yx, st2, no2⟩ => ?_
    have I2' := I2.pinned (fp_now I2 p0 mem no2) (T.obj _ _ st2)
    refine quiet (pg.run _ s2 _ H2 x u _ I2' rx (item x H2 yx)) fun _ s3 ⟨σ3, H3, I3, hw, q3⟩ => ?_
    refine quiet (pt.run _ s3 σ3 H3 _ I3 q3) fun ok s4 ⟨H4, I4, q4⟩ => ?_
    have rest : ∀ {s' : Shared} {H' : Hp}, L2.Inv B ([] ++ pinsAt fp s2.heap) σ3 H' s' → Nx H' → ∃ m, m < n ∧ Rest B fp tn (wipe σ vs) W m s' := fun {s' H'} I' nx => by
      obtain ⟨m, hm, hW⟩ := back H' nx
      have still : ∀ b ∈ fp, ∀ o, s2.heap.get? b = some o → s'.heap.get? b = some o ∧ H' b = none := fun b hb o e => by
        have z := I'.pin (b, o) (List.mem_append_right _ (List.mem_append_right _ (mem_pinsAt hb e)))
        exact ⟨z.1, z.2.1⟩
      have len : (wipe σ vs).length = σ3.length := by rw [← hw]; exact wipe_length _ _
      refine ⟨m, hm, ⟨i + 1, H', (I'.unpinned (pins := [])).weak len (fun j v e => ?_), T.keep _ _ _ st2 fun b hb o e => (still b hb o e).1, fun b hb => ?_, hW⟩⟩
      · rw [← hw] at e
        exact (wipe_some e).1
      · obtain ⟨o, e, _⟩ := T.obj _ _ st2 b hb
        exact (still b hb o e).2
    cases ok with
    | false => exact iteF (rest I4 (by simpa using q4))
    | true =>
      have q5 : te σ3 H4 fun y H5 => StepT B.fw B.w D y H5 Nx := by simpa using q4
      refine iteT (quiet (pe.run _ s4 σ3 H4 _ I4 q5) fun z s5 ⟨y, H5, I5, r5, stp⟩ => ?_)
      exact quiet (stp.run hu I5 r5) fun _ s6 ⟨H6, I6, nx⟩ => rest I6 nx
/-- {elt for tg in iter if ..}: a set of trees -/
theorem pe_scT {elt tgx iter : Expr} {ifs : List Expr} {scope : Scope} {own : List (Str × Nat)} {pos : Pos} {wi : TI} {g : TG} {tt : TT} {te : TE} (hu : X.A.units + 65 < cLine) (hc : X.calm = true) (hN : X.N.Nodup) (hi : PI X tgx iter wi) (ok : BlkOk X.N X.env.scope scope own)
    (hg : ∀ (s : Shared) (H : Hp) (C : Addr) (cl : List (Str × Addr)) (fp : List Addr), PG (X.blk s H scope (compEnvC scope cl C X.env) fp) tgx g) (ht : ∀ (s : Shared) (H : Hp) (C : Addr) (cl : List (Str × Addr)) (fp : List Addr), PTs (X.blk s H scope (compEnvC scope cl C X.env) fp) ifs tt)
    (he : ∀ (s : Shared) (H : Hp) (C : Addr) (cl : List (Str × Addr)) (fp : List Addr), PE (X.blk s H scope (compEnvC scope cl C X.env) fp) elt te) (hs : ∀ x, foldedSetIterable iter X.env x = pure x := by intro _; rfl) :
    PE X (.SetComp elt [⟨tgx, iter, ifs, 0⟩] scope pos) (tScT X.fw X.w wi g tt te (own.map (·.2))) := by
  refine ⟨fun pins s σ H Q I h => ?_⟩
  have outer : ∀ y ∈ scope.names, y.2 = .free → ∃ c, X.env.cells.lookup y.1 = some c := fun y hy e => (ok.free y hy e).elim (fun k => I.ok.has _ (.inl k)) fun k => I.ok.has _ (.inr k)
  rw [eval_SetComp]
  refine wpAny_comprehension_free rfl hs (closure_ok outer) ok.kind (fun y hy e => by rw [ok.uniq y hy, e]) (thn (hi.run pins s σ H _ I h) fun _ s1 iter_ => thn iter_ fun _ s2 ⟨it, fp, tn, J, H2, eit, I2, T, st2, free2, rd⟩ => ?_)
  subst eit
  refine newSet_ok (newEnv_comp ?_)
  -- the new set, at the heap's end
  have no2 := I2.hok.fresh (Nat.le_refl s2.heap.objs.size)
  obtain ⟨W, ⟨m0, w0⟩, turn⟩ := rd s2.heap.objs.size no2
  obtain ⟨D, eD⟩ : ∃ D, D = s2.heap.objs.size := ⟨_, rfl⟩
  obtain ⟨s3, e3⟩ : ∃ s3 : Shared, s3 = { s2 with heap := s2.heap.push { cls := .type "set", dict := none, data := .set #[] 0 (.fresh 0 0 (!X.w.params.followText "set-order")) } } := ⟨_, rfl⟩
  rw [← eD] at w0 turn ⊢
  have I3 : L2.Inv X pins σ (upd H2 D (TrSO X.w D [])) s3 := by
    rw [e3, eD]
    exact I2.laid (t' := s2.toks) (fun b o e => Heap.get?_push_of_some _ e) (Nat.le_refl _) (trSO_fresh X.w)
  have lay : ∀ b o, s2.heap.get? b = some o → s3.heap.get? b = some o := fun b o e => by rw [e3]; exact Heap.get?_push_of_some _ e
  have free3 : ∀ b ∈ fp, FpOk X pins (upd H2 D (TrSO X.w D [])) b ∧ b < s3.heap.objs.size := fun b hb => by
    obtain ⟨o, e, _⟩ := T.obj _ _ st2 b hb
    have lt := Heap.lt_size e
    exact ⟨⟨by rw [upd_ne (by rw [eD]; exact Nat.ne_of_lt lt)]; exact (free2 b hb).1, (free2 b hb).2⟩, Heap.lt_size (lay b o e)⟩
  have st3 : tn 0 s3.heap := T.keep _ _ _ st2 fun b _ o e => lay b o e
  have start := block_start I3 ok hN free3
  obtain ⟨H3, eH3⟩ : ∃ H3, H3 = upd H2 D (TrSO X.w D []) := ⟨_, rfl⟩
  rw [← eH3] at I3 free3 start w0
  have es3 : ({ s2 with heap := s2.heap.push { cls := .type "set", dict := none, data := .set #[] 0 (.fresh 0 0 (!X.w.params.followText "set-order")) } } : Shared) = s3 := e3.symm
  rw [es3]
  obtain ⟨cl, ecl⟩ : ∃ cl, cl = cellsFrom (s3.heap.objs.size + 1) scope.names (cloFrom X.env.cells scope.names []) := ⟨_, rfl⟩
  have pg := hg s3 H3 s3.heap.objs.size cl fp
  have pt := ht s3 H3 s3.heap.objs.size cl fp
  have pe := he s3 H3 s3.heap.objs.size cl fp
  rw [← ecl] at start
  have st4 : tn 0 (pushCells (s3.heap.push { cls := .type "dict", data := .dict #[] }) scope.names) := T.keep _ _ _ st3 fun b _ o e => pushCells_keeps _ _ _ _ (Heap.get?_push_of_some _ e)
  show codeAny _ _ (.compStart (.SetComp elt [⟨tgx, iter, ifs, 0⟩] scope pos) 0 (.ref it) (.ref D) (compEnvC scope (cellsFrom (s3.heap.objs.size + 1) scope.names (cloFrom X.env.cells scope.names [])) s3.heap.objs.size X.env)) _ { s3 with heap := pushCells (s3.heap.push { cls := .type "dict", data := .dict #[] }) scope.names }
  rw [← ecl]
  have loop : codeAny (model X.prog X.w) X.A (.compLoop (.SetComp elt [⟨tgx, iter, ifs, 0⟩] scope pos) 0 (.ref it) (.ref D) (compEnvC scope cl s3.heap.objs.size X.env)) (compPost (model X.prog X.w) X.A X.xe none (EP X pins σ Q) (.ref D) s3.heap.objs.size) { s3 with heap := pushCells (s3.heap.push { cls := .type "dict", data := .dict #[] }) scope.names } := by
    refine compLoopS_any (fun n s' => Rest (X.blk s3 H3 scope (compEnvC scope cl s3.heap.objs.size X.env) fp) fp tn (wipe σ (own.map (·.2))) W n s') (fun n s' ⟨i, H', I', st', no', hw⟩ => ?_) m0 ⟨0, H3, start, st4, fun b hb => (free3 b hb).1.1, w0⟩
    refine turnT (B := X.blk s3 H3 scope (compEnvC scope cl s3.heap.objs.size X.env) fp) (W := W) (vs := own.map (·.2)) (End := fun H => Q (.ref D) H) hu hc rfl rfl (fun _ _ x => x) T pg pt pe (fun s5 H5 I5 q5 => ?_) I' st' no' (turn i n H' hw)
    -- back where the comprehension stands
    have I6 : L2.Inv X pins σ H5 s5 := I3.call' (ch := fp) I5.os I5.base I5.hok I5.bare fun b hb => ⟨(free3 b hb).1.2.2.2.1, (free3 b hb).1.2.1, (free3 b hb).1.2.2.2.2.1, (free3 b hb).1.2.2.2.2.2⟩
    obtain ⟨ns, hns, _⟩ := I5.loc
    have gone : H5 s3.heap.objs.size = none := I5.free
    obtain ⟨f0, f1, f2, f3, f4, f5⟩ := I3.fpOk (Nat.le_refl _) gone
    exact ⟨ns, hns, fun h'' sb => ⟨.ref D, H5, I6.turned (t' := s5.toks) (fun b o hb e => (sb.2 b hb).trans e) f0 f1 f3 f4 f5, rfl, q5⟩⟩
  exact codeAny_compStart_set loop (T.self X.A 0 _ _ _ st4 loop)
end
end Rf

/-! Rf: sorted of a set of trees that a comprehension makes. -/
namespace Rf
open PySem PySem.Spec PyProof.Rows L2
open PySem.W (dataLt dataLe EachIs TotalLe AllAlike Sortable)

/-- each ahead of all behind it -/
def strictP (h : Hea) : List Va → Bool
  | [] => true
  | a :: r => match r.all (fun b => vl h 20 a b) with
    | true => strictP h r
    | false => false
theorem strictP_pw {h : Hea} : ∀ {l : List Va}, strictP h l = true → l.Pairwise fun a b => vl h 20 a b = true
  | [], _ => .nil
  | a :: r, e => by
    unfold strictP at e
    cases q : r.all (fun b => vl h 20 a b) with
    | false => rw [q] at e; cases e
    | true => rw [q] at e; exact List.pairwise_cons.mpr ⟨fun b hb => List.all_eq_true.mp q b hb, strictP_pw e⟩
theorem sortOk_sub {h : Hea} {xs ys : List Va} (e : sortOk h xs = true) (sub : ∀ y ∈ ys, y ∈ xs) : sortOk h ys = true := by
  have d := sortOk_d e
  have k := sortOk_k e
  have t := sortOk_t e
  have d2 : ys.all (dOk h 20) = true := List.all_eq_true.mpr fun y hy => d y (sub y hy)
  have t2 : (ys.all isTu || ys.all isAt) = true := by
    rcases t with t | t
    · rw [Bool.or_eq_true]; exact .inl (List.all_eq_true.mpr fun y hy => List.all_eq_true.mp t y (sub y hy))
    · rw [Bool.or_eq_true]; exact .inr (List.all_eq_true.mpr fun y hy => List.all_eq_true.mp t y (sub y hy))
  unfold sortOk
  rw [d2]
  simp only [t2]
  exact List.all_eq_true.mpr fun a ha => List.all_eq_true.mpr fun b hb => k a (sub a ha) b (sub b hb)
/-- in whatever order they come -/
theorem sorted_any {h : Hea} {xs bs : List Va} (e : sortOk h xs = true) (st : strictP h (isortG (leV h) xs) = true) (pm : bs.Perm xs) : bs.mergeSort (dataLe false (toD h 20)) = isortG (leV h) xs := by
  have e2 := sortOk_sub e fun y hy => pm.mem_iff.mp hy
  rw [sortOk_sort e] at st ⊢
  have p1 := List.mergeSort_perm bs (dataLe false (toD h 20))
  have p2 := List.mergeSort_perm xs (dataLe false (toD h 20))
  have T := dataLe_total (toD h 20)
  have s1 : (bs.mergeSort (dataLe false (toD h 20))).Pairwise (fun x y => dataLe false (toD h 20) x y = true) := by
    rw [← isortG_merge T]; exact isortG_pw T bs
  have s2 : (xs.mergeSort (dataLe false (toD h 20))).Pairwise (fun x y => dataLe false (toD h 20) x y = true) := by
    rw [← isortG_merge T]; exact isortG_pw T xs
  have s3 := strictP_pw st
  have mem : ∀ a, a ∈ xs.mergeSort (dataLe false (toD h 20)) → a ∈ xs := fun a ha => p2.mem_iff.mp ha
  refine List.Perm.eq_of_pairwise (fun a b ha hb h1 h2 => ?_) s1 s2 (p1.trans (pm.trans p2.symm))
  have ha' : a ∈ xs.mergeSort (dataLe false (toD h 20)) := p2.mem_iff.mpr (pm.mem_iff.mp (p1.mem_iff.mp ha))
  have lt : ∀ x y, x ∈ xs → y ∈ xs → vl h 20 x y = true → dataLe false (toD h 20) y x = true → False := fun x y hx hy l le => by
    have q := (vk_ok h 20 x y (sortOk_d e x hx) (sortOk_d e y hy) (sortOk_k e x hx y hy)).2
    have r : dataLe false (toD h 20) y x = !dataLt (toD h 20 x) (toD h 20 y) := rfl
    rw [r, ← q, l] at le
    cases le
  obtain ⟨i, hi, ei⟩ := List.getElem_of_mem ha'
  obtain ⟨j, hj, ej⟩ := List.getElem_of_mem hb
  rcases Nat.lt_trichotomy i j with c | c | c
  · have := List.pairwise_iff_getElem.mp s3 i j hi hj c
    rw [ei, ej] at this
    exact absurd h2 fun z => lt a b (mem a ha') (mem b hb) this z
  · subst c; rw [← ei, ej]
  · have := List.pairwise_iff_getElem.mp s3 j i hj hi c
    rw [ei, ej] at this
    exact absurd h1 fun z => lt b a (mem b hb) (mem a ha') this z
theorem each_perm {α β : Type} {R : α → β → Prop} {as as' : List α} (p : as'.Perm as) : ∀ {bs : List β}, EachIs R as bs → ∃ bs', bs'.Perm bs ∧ EachIs R as' bs' := by
  induction p with
  | nil => intro bs r; exact ⟨bs, .refl _, r⟩
  | cons x p ih =>
    intro bs r
    cases r with
    | cons h t =>
      obtain ⟨bs', q1, q2⟩ := ih t
      exact ⟨_, q1.cons _, .cons h q2⟩
  | swap x y l =>
    intro bs r
    cases r with
    | cons h t =>
      cases t with
      | cons h2 t2 => exact ⟨_, .swap _ _ _, .cons h2 (.cons h t2)⟩
  | trans p q ih1 ih2 =>
    intro bs r
    obtain ⟨b1, q1, r1⟩ := ih2 r
    obtain ⟨b2, q2, r2⟩ := ih1 r1
    exact ⟨b2, q2.trans q1, r2⟩

/-! ### the set and what we know of it -/
structure TreeP (K : FW) (ρ : List Addr) (H : Hp) (y : Va) (p : KA) : Prop where
  nk : nkOf y = some p.1
  dp : p.1.depth ≤ 8
  rv : RV K ρ H y (.ref p.2)
structure RelS (K : FW) (ρ : List Addr) (H : Hp) (acc : List Va) (L : List KA) : Prop where
  ex : ∃ L0 : List KA, L0.Perm L ∧ EachIs (fun (p : KA) (y : Va) => TreeP K ρ H y p) L0 acc
section
variable {K : FW} {ρ ρ1 : List Addr} {H H1 : Hp}
theorem TreeP.to {y : Va} {p : KA} (t : TreeP K ρ H y p) (f : ∀ {u}, RV K ρ H y u → RV K ρ1 H1 y u) : TreeP K ρ1 H1 y p := ⟨t.nk, t.dp, f t.rv⟩
theorem RelS.ext0 {acc : List Va} {L : List KA} (r : RelS K ρ H acc L) (e : Ext0 K ρ H ρ1 H1) : RelS K ρ1 H1 acc L := by
  obtain ⟨L0, p, q⟩ := r.ex
  exact ⟨L0, p, q.mono fun _ _ t => t.to fun r => RV.ext0 e _ r⟩
theorem RelS.trees {acc : List Va} {L : List KA} (r : RelS K ρ H acc L) : ∀ p ∈ L, TreeAt K H (.ref p.2) p.1 := by
  obtain ⟨L0, pm, q⟩ := r.ex
  intro p hp
  have hp0 := pm.mem_iff.mpr hp
  have key : ∀ {L0 : List KA} {acc : List Va}, EachIs (fun (p : KA) (y : Va) => TreeP K ρ H y p) L0 acc → p ∈ L0 → TreeAt K H (.ref p.2) p.1 := by
    intro L0 acc q
    induction q with
    | nil => intro h; cases h
    | cons t _ ih =>
      intro h
      rcases List.mem_cons.mp h with e | h
      · subst e; exact ⟨ρ, _, t.rv, t.nk, t.dp⟩
      · exact ih h
  exact key q hp0
theorem RelS.has {acc : List Va} {L : List KA} (r : RelS K ρ H acc L) {y : Va} {k : NestedKey} (e : nkOf y = some k) : (acc.any fun x => kq x y) = true ↔ k ∈ L.map Prod.fst := by
  obtain ⟨L0, pm, q⟩ := r.ex
  rw [(pm.map Prod.fst).mem_iff.symm]
  clear pm r
  induction q with
  | nil => simp
  | cons t _ ih =>
    rename_i p x _ _
    rw [List.any_cons, List.map_cons, List.mem_cons, Bool.or_eq_true, ih, kq_eq _ _ t.nk e, decide_eq_true_eq]
    exact or_congr_left eq_comm
theorem RelS.length {acc : List Va} {L : List KA} (r : RelS K ρ H acc L) : acc.length = L.length := by
  obtain ⟨L0, pm, q⟩ := r.ex
  rw [← pm.length_eq, q.length]
theorem EachIs.snoc {α β : Type} {R : α → β → Prop} : ∀ {as : List α} {bs : List β} {a : α} {b : β}, EachIs R as bs → R a b → EachIs R (as ++ [a]) (bs ++ [b])
  | _, _, _, _, .nil, h => .cons h .nil
  | _, _, _, _, .cons x t, h => .cons x (EachIs.snoc t h)
theorem RelS.more {acc : List Va} {L L' : List KA} (r : RelS K ρ H acc L) {y : Va} {p : KA} (t : TreeP K ρ H y p) (pm : L'.Perm (p :: L)) : RelS K ρ H (acc ++ [y]) L' := by
  obtain ⟨L0, p0, q⟩ := r.ex
  refine ⟨L0 ++ [p], ?_, EachIs.snoc q t⟩
  exact (List.perm_append_singleton p L0).trans ((p0.cons p).trans pm.symm)
end
section
open PySem.W (alike alikeAll dataLt dataLe keyToks keyToksAll rowLt AllAlike Sortable SortsAt EachIs TotalLe sameRank dataKind sortVals sortingHeap list_sort_vals sortVals_data sortVals_length sort_unique each_map sortingHeap_old)
variable {prog : Program} {w : World} {A : Around} {E : Value → Shared → Prop} {s : Shared} {β : Type}
theorem sorted_byE {v : Value} {enc : β → PyData} {R : Value → β → Prop} {Q : Value → Shared → Prop} (hc : wpAny (model prog w) A.in1 (collect v) (fun vs s1 => ∃ bs : List β, AllAlike (bs.map enc) ∧ Sortable (bs.map enc) ∧ (∀ b, b ∈ bs → A.units + 2 + (enc b).depth < cLine) ∧ vs.length ≤ sizeLine ∧ EachIs R vs bs ∧ EachIs (fun v b => ∃ as, Reads s1.heap v (enc b) as) vs bs ∧
      ∀ (out : List Value) (h1 : Heap) (d : Addr) (n : Nat), EachIs R out (bs.mergeSort (dataLe false enc)) → (∀ b o, s1.heap.get? b = some o → h1.get? b = some o) → s1.heap.objs.size ≤ d → h1.get? d = some (seqObj "list" out.toArray n) → Q (.ref d) { s1 with heap := h1 }) E s) : wpAny (model prog w) A (call (.builtin "sorted") [v]) Q E s := by
  refine Calls.call_function_entry kind_sorted plain_sorted entry_sorted (args_sorted1 _) ?_
  unfold Builtin.«sorted»
  refine wpAny_bind (m := checkCount "sorted" 1 1 _) (wpAny_pure (wpAny_bind (wpAny_mono hc (fun vs s1 ⟨bs, hal, hk, hu, small, er, rd, done⟩ => ?_) fun _ _ z => z)))
  have fresh : (s1.heap.push (seqObj "list" vs.toArray 0)).get? s1.heap.objs.size = some (seqObj "list" vs.toArray 0) := Heap.get?_push_size _ rfl
  have old : ∀ b o, s1.heap.get? b = some o → b ≠ s1.heap.objs.size ∧ (s1.heap.push (seqObj "list" vs.toArray 0)).get? b = some o := fun b o e => ⟨Nat.ne_of_lt (Heap.lt_size e), Heap.get?_push_of_some _ e⟩
  have rd2 : EachIs (fun v b => ∃ as, Reads (sortingHeap (s1.heap.push (seqObj "list" vs.toArray 0)) s1.heap.objs.size vs) v (enc b) as) vs bs := rd.mono fun _ _ ⟨as, r⟩ => ⟨as, PyProof.Rows.Reads.keeps (fun b o e => sortingHeap_old (old b o e).1 (old b o e).2) r⟩
  refine wpAny_bind (wpAny_newList (wpAny_bind (wpAny_holding (wpAny_call_entry slot_list_sort ⟨_, fresh, rfl⟩ entry_list_sort (list_sort_vals (κ := dataKind (sortingHeap (s1.heap.push (seqObj "list" vs.toArray 0)) s1.heap.objs.size vs) (bs.map enc)) fresh
    (SortsAt.data (s := { s1 with heap := sortingHeap (s1.heap.push (seqObj "list" vs.toArray 0)) s1.heap.objs.size vs }) (each_map (R := fun v d => ∃ as, Reads (sortingHeap (s1.heap.push (seqObj "list" vs.toArray 0)) s1.heap.objs.size vs) v d as) enc rd2) hal hk fun d hd => ?_) small ⟨_, rfl, wpAny_pure ⟨_, rfl, ?_⟩⟩) (args_list_sort _)))) small)
  · obtain ⟨b, hb, rfl⟩ := List.mem_map.mp hd
    exact hu b hb
  · obtain ⟨n, at_⟩ := sortedHeap_at (vs := vs) (out := (sortVals (dataKind (sortingHeap (s1.heap.push (seqObj "list" vs.toArray 0)) s1.heap.objs.size vs) (bs.map enc)) false vs vs).toArray) fresh
    refine done _ _ _ n (sortVals_data false er rd2 hal) (fun b o e => ?_) (Nat.le_refl _) at_
    rw [sortedHeap_old (old b o e).1 (by rw [size_push']; exact Nat.lt_succ_of_lt (Heap.lt_size e))]
    exact (old b o e).2
end
theorem refs_are {K : FW} {ρ : List Addr} {H : Hp} : ∀ {L0 : List KA} {acc : List Va}, EachIs (fun (p : KA) (y : Va) => TreeP K ρ H y p) L0 acc → EachIs (IsV K ρ H) (L0.map fun p => Value.ref p.2) acc
  | _, _, .nil => .nil
  | _, _, .cons t r => .cons ⟨_, t.rv, rfl⟩ (refs_are r)
/-- sorted of it -/
theorem call_sortedTr {X : Cx} (hu : X.A.units + 65 < cLine) (hc : X.calm = true) {pins : List (Addr × Obj)} {σ : L2.St} {H : Hp} {s : Shared} {ρ : List Addr} {h : Hea} {D : Addr} {acc : List Va} {L : List KA} {Q : VK} (I : L2.Inv X pins σ H s) (q : HR X.fw ρ h H) (hD : H D = some (TrSO X.w D L)) (r : RelS X.fw ρ H acc L)
    (ok : sortOk h acc = true) (st : strictP h (isortG (leV h) acc) = true) (go : ∀ (p : Addr) (us : List V), H p = none → RVs X.fw ρ H (isortG (leV h) acc) us → Q (.ref p) (upd H p (.lst us))) :
    wpAny (model X.prog X.w) X.A (call (.builtin "sorted") [.ref D]) (EP X pins σ Q) X.xe s := by
  have R0 : Tr0 X.w s.heap D L := (I.hok D _ hD).1
  obtain ⟨es, ep, t, R⟩ := R0.full fun p hp => tree_key I (r.trees p hp)
  have fewL := R.few
  obtain ⟨L0, pm, eL⟩ := r.ex
  have vals : EachIs (IsV X.fw ρ H) (L0.map fun p => Value.ref p.2) acc := refs_are eL
  have entries : es.toList.map (·.2) = L.map fun p => Value.ref p.2 := by
    rw [R.ents, List.map_map]; rfl
  -- the values as the table gives them
  have key : ∀ (vs : List Value) (s1 : Shared), (∀ b o, s.heap.get? b = some o → s1.heap.get? b = some o) → s1.gens = s.gens → s1.os = s.os → vs.Perm (es.toList.map (·.2)) →
      ∃ bs : List Va, bs.Perm acc ∧ EachIs (IsV X.fw ρ H) vs bs := fun vs s1 _ _ _ p => by
    rw [entries] at p
    exact each_perm (p.trans (pm.map fun p => Value.ref p.2).symm) vals
  obtain ⟨o, ho, hex, hd⟩ := R.ob
  have room : ∀ b ∈ acc, X.A.units + 2 + (toD h 20 b).depth < cLine := fun b hb => by
    obtain ⟨v, iv⟩ := each_right vals hb
    have := toD_depth q iv (sortOk_d ok b hb)
    omega
  refine sorted_byE (enc := toD h 20) (R := IsV X.fw ρ H) (collect_set (I.ok.hd hc) ⟨o, ho, hex.1, hd⟩ R.fits (by rw [R.size]; unfold scanBound; omega) R.tab.ris R.led fun s1 vs k1 _ g1 o1 pv => ?_)
  obtain ⟨bs, pb, eb⟩ := key vs s1 k1 g1 o1 pv
  have sub : ∀ b ∈ bs, b ∈ acc := fun b hb => pb.mem_iff.mp hb
  have ok2 := sortOk_sub ok sub
  have I1 : L2.Inv X pins σ H s1 := I.call' (ch := []) o1 (Un.kept k1) (I.hok.kept k1) (by rw [g1]; exact I.bare) (fun _ z => nomatch z)
  refine ⟨bs, sortOk_alike ok2, sortOk_sortable ok2, fun b hb => room b (sub b hb), ?_, eb, isVs_reads I1 q eb (sortOk_d ok2), fun out h2 d n eo kp2 le at_ => ?_⟩
  · have : vs.length < 64 := by rw [pv.length_eq, entries, List.length_map]; exact fewL
    rw [sizeLine_eq]; omega
  · rw [sorted_any ok st pb] at eo
    obtain ⟨us, r1, r2⟩ := of_isVs eo
    refine ⟨.ref d, upd H d (.lst us), I1.laid (t' := s1.toks) kp2 le ⟨?_, out, n, r2, at_⟩, rfl, go d us (I1.hok.fresh le) r1⟩
    have l1 : out.length = bs.length := by
      rw [eo.length, ← sorted_any ok st pb, List.length_mergeSort]
    rw [r2.length, l1, ← eb.length, pv.length_eq, entries, List.length_map, sizeLine_eq]
    omega

/-! ### sorted({E for tg in I if T}) -/
def scS (src : Sr) (tg : Tg) (l0 : Lo) (T : Tx) (E : Ex) : Nat → Nat → List Va → M Va
  | 0, _, _, _ => .no
  | f + 1, k, acc, h => match stp h k src with
    | none => .no
    | some none => match sortOk h acc with
      | true => match strictP h (isortG (leV h) acc) with
        | true => .ok (.fl (isortG (leV h) acc)) h
        | false => .no
      | false => .no
    | some (some v) => match bnd h tg v with
      | none => .no
      | some ups => (T (setL l0 ups) h).solid.bind fun b h1 => if b = true then (E (setL l0 ups) h1).solid.bind fun y h2 => match tkOf y with
          | some _ => if acc.length + 1 < 64 then (match acc.any fun x => kq x y with
            | true => scS src tg l0 T E f (k + 1) acc h2
            | false => scS src tg l0 T E f (k + 1) (acc ++ [y]) h2) else .no
          | none => .no
        else scS src tg l0 T E f (k + 1) acc h1
def scF (I : Ix) (tg : Tg) (vs : List Nat) (T : Tx) (E : Ex) : Ex := fun l h => (I l h).bind fun src h1 => scS src tg (wipeL l vs) T E bigN 0 [] h1
def rSorT (K : FW) : List V → Hp → VK → Prop := fun us H Q => ∃ ρ h D acc L, us = [.ref D] ∧ HR K ρ h H ∧ H D = some (TrSO K.w D L) ∧ RelS K ρ H acc L ∧ sortOk h acc = true ∧ strictP h (isortG (leV h) acc) = true ∧
  ∀ (p : Addr) (us : List V), H p = none → RVs K ρ H (isortG (leV h) acc) us → Q (.ref p) (upd H p (.lst us))
theorem cr_sorT {X : Cx} (hu : X.A.units + 65 < cLine) (hc : X.calm = true) : CallR X (.builtin "sorted") (rSorT X.fw) := by
  intro pins s σ H us vs Q I rel ⟨ρ, h, D, acc, L, e, q, hD, r, ok, st, go⟩
  subst e
  obtain ⟨v, rfl, rv⟩ := vals1 rel
  cases rv
  exact call_sortedTr hu hc I q hD r ok st go
section
variable {K : FW} {W : XW} {tg : Tg} {T : Tx} {E : Ex} {vs : List Nat} {Q : VK}
theorem tE.scF {I : Ix} (hsl : (tg.slots.all fun i => vs.contains i) = true) {σ : L2.St} {H : Hp} : tE K W (scF I tg vs T E) σ H Q →
    tScT K K.w (tI K W I) (tG K tg) (tT K XF T) (tE K XF E) vs σ H fun v H' => rSorT K [v] H' fun v H' => ∃ as, LkQ Q as v H' := fun ⟨ρ, l, h, L, q, s⟩ => by
  refine ⟨ρ, l, h, L, q, s.bind.mono fun src h1 ρ1 H1 e1 q1 s1 J C Ti c D nD => ?_⟩
  have L1 := L.ext e1
  have nm : D ∉ ρ1 := fun hm => by
    obtain ⟨i, hi⟩ := List.getElem?_of_mem hm
    exact q1.tr i D hi nD
  refine ⟨fun i m H => ∃ ρ h acc N, Ext K ρ1 H1 ρ H ∧ D ∉ ρ ∧ H D = some (TrSO K.w D N) ∧ RelS K ρ H acc N ∧ HR K ρ h H ∧ sat K W ρ1 H1 (scS src tg (wipeL l vs) T E m i acc h) (rv K Q),
    ⟨bigN, ρ1, h1, [], [], Ext.new nD, nm, upd_same, ⟨[], .refl _, .nil⟩, q1.new nD, s1⟩, fun i m H ⟨ρ, h, acc, N, eb, hd, hD, ra, q, s⟩ => ?_⟩
  cases m with
  | zero => exact False.elim s
  | succ m =>
    unfold scS at s
    have c : C ρ H := Ti.ext _ _ _ _ c eb
    have nn : H D ≠ none := by rw [hD]; simp
    cases e : stp h i src with
    | none => simp only [e] at s; exact False.elim s
    | some o =>
      cases o with
      | none =>
        simp only [e] at s
        refine .inl ⟨Ti.stop i h ρ H c q e, ?_⟩
        cases ok : sortOk h acc with
        | false => simp only [ok] at s; exact False.elim s
        | true =>
          simp only [ok] at s
          cases st : strictP h (isortG (leV h) acc) with
          | false => simp only [st] at s; exact False.elim s
          | true =>
            simp only [st] at s
            refine ⟨ρ, h, D, acc, N, rfl, q, hD, ra, ok, st, fun p us np rs => ⟨[p], .inl ⟨_, upd_same, trivial, fun od => ?_⟩⟩⟩
            have out : p ∉ ρ := fun hm => by
              obtain ⟨i, hi⟩ := List.getElem?_of_mem hm
              exact q.tr i p hi np
            have mu : Mut (upd H p (.lst us) p) := by rw [upd_same]; trivial
            have n1 : H1 p = none := by
              cases z : H1 p with
              | none => rfl
              | some o => exact absurd np (eb.there p (by rw [z]; simp))
            have e2 : Ext K ρ H ρ (upd (upd H p (.lst us)) p (.frz od (.lst us))) := (Ext.new np).over np mu
            exact s ρ _ (eb.trans e2) ((q.new np).other mu out) (.ref p) ⟨p, us, rfl, ⟨od, upd_same⟩, RVs.ext e2 _ rs⟩
      | some v =>
        simp only [e] at s
        obtain ⟨go, y⟩ := Ti.go i h ρ H v c q e
        refine .inr ⟨go, fun H' => ∃ ρ h acc N, Ext K ρ1 H1 ρ H' ∧ D ∉ ρ ∧ H' D = some (TrSO K.w D N) ∧ RelS K ρ H' acc N ∧ HR K ρ h H' ∧ sat K W ρ1 H1 (scS src tg (wipeL l vs) T E m (i + 1) acc h) (rv K Q), fun H' z => ⟨m, Nat.lt_succ_self m, z⟩, fun x H' yx => ?_⟩
        obtain ⟨ex, qx, rx⟩ := y x H' yx
        have hD1 := (ex.keep D nn hd).trans hD
        have eb1 := eb.trans ex
        cases e2 : bnd h tg v with
        | none => simp only [e2] at s; exact False.elim s
        | some ups =>
          simp only [e2] at s
          refine ⟨ρ, h, v, ups, qx, rx, e2, fun us U => ⟨?_, ?_⟩⟩
          · rw [wipe_setU fun p hp => ?_, wipe_wipe]
            have h3 : us.map (·.1) = tg.slots := (ups_slots U).trans (bnd_slots tg v ups e2)
            have h5 := List.all_eq_true.mp hsl p.1 (h3 ▸ List.mem_map_of_mem hp)
            simpa using h5
          · have L2 : LR K ρ H' (setL (wipeL l vs) ups) (setU (wipe σ vs) us) := ((L1.ext eb1).wp vs).setL U
            cases eT : T (setL (wipeL l vs) ups) h with
            | no => rw [eT] at s; exact False.elim s
            | err c v h' => rw [eT] at s; exact False.elim s
            | ok b h2 =>
              rw [eT] at s
              simp only [Rs.solid, Rs.bind] at s
              refine ⟨ρ, setL (wipeL l vs) ups, h, L2, qx, ?_⟩
              rw [eT]
              refine fun ρ2 H2 e3 q2 => ?_
              have hD2 := (e3.keep D (by rw [hD1]; simp) hd).trans hD1
              have hd2 : D ∉ ρ2 := e3.to0.out hd hD1
              have eb2 := eb1.trans e3
              cases b with
              | false =>
                rw [if_neg (by decide)] at s
                exact iteF ⟨ρ2, h2, acc, N, eb2, hd2, hD2, ra.ext0 (ex.trans e3).to0, q2, s⟩
              | true =>
                rw [if_pos rfl] at s
                refine iteT ?_
                cases eE : E (setL (wipeL l vs) ups) h2 with
                | no => rw [eE] at s; exact False.elim s
                | err c v h' => rw [eE] at s; exact False.elim s
                | ok y h3 =>
                  rw [eE] at s
                  simp only [Rs.bind] at s
                  refine ⟨ρ2, setL (wipeL l vs) ups, h2, L2.ext e3, q2, ?_⟩
                  rw [eE]
                  refine fun ρ3 H3 e4 q3 u ru => ?_
                  cases tk : tkOf y with
                  | none => simp only [tk] at s; exact False.elim s
                  | some kk =>
                    simp only [tk] at s
                    by_cases few : acc.length + 1 < 64
                    · rw [if_pos few] at s
                      have hD3 := (e4.keep D (by rw [hD2]; simp) hd2).trans hD2
                      have hd3 : D ∉ ρ3 := e4.to0.out hd2 hD2
                      have ra3 := ra.ext0 ((ex.trans e3).trans e4).to0
                      obtain ⟨z, ez, nk, dp⟩ := tk_ref tk ru
                      subst ez
                      have mu : Mut (H3 D) := by rw [hD3]; trivial
                      have has := ra3.has nk
                      refine ⟨z, kk, N, rfl, hD3, by rw [← ra3.length]; exact few, ⟨ρ3, y, ru, nk, dp⟩, ra3.trees, fun N' c1 c2 => ?_⟩
                      have base : ∀ acc', RelS K ρ3 H3 acc' N' → sat K W ρ1 H1 (scS src tg (wipeL l vs) T E m (i + 1) acc' h3) (rv K Q) →
                          ∃ ρ h acc N, Ext K ρ1 H1 ρ (upd H3 D (TrSO K.w D N')) ∧ D ∉ ρ ∧ upd H3 D (TrSO K.w D N') D = some (TrSO K.w D N) ∧ RelS K ρ (upd H3 D (TrSO K.w D N')) acc N ∧ HR K ρ h (upd H3 D (TrSO K.w D N')) ∧ sat K W ρ1 H1 (scS src tg (wipeL l vs) T E m (i + 1) acc h) (rv K Q) := fun acc' r' s' =>
                        ⟨ρ3, h3, acc', N', (eb2.trans e4).over nD mu, hd3, upd_same, r'.ext0 (Ext0.mut mu), q3.other mu hd3, s'⟩
                      cases an : acc.any fun x => kq x y with
                      | true =>
                        simp only [an] at s
                        have m1 := has.mp an
                        rw [c1 m1] at base ⊢
                        exact base acc ra3 s
                      | false =>
                        simp only [an] at s
                        have m1 : kk ∉ N.map Prod.fst := fun z => by
                          have := has.mpr z
                          rw [an] at this; cases this
                        exact base (acc ++ [y]) (ra3.more (p := (kk, z)) ⟨nk, dp, ru⟩ (c2 m1)) s
                    · rw [if_neg few] at s; exact False.elim s
end
section
variable {W : XW} {X : Cx} {pos spos p : Pos} {elt tgx iter : Expr} {ifs : List Expr} {scope : Scope} {own : List (Str × Nat)} {I : Ix} {tg : Tg} {T : Tx} {E : Ex}
theorem ex_sortedSc (hu : X.A.units + 65 < cLine) (vs : List Nat) (hv : own.map (·.2) = vs) (hc : X.calm = true) (hN : X.N.Nodup) (hgl : Gl X "sorted") (hm : X.mg "sorted" = none) (hi : IX W X tgx iter I) (ok : BlkOk X.N X.env.scope scope own) (hsl : (tg.slots.all fun i => vs.contains i) = true)
    (hg : ∀ (s : Shared) (H : Hp) (C : Addr) (cl : List (Str × Addr)) (fp : List Addr), GX (X.blk s H scope (compEnvC scope cl C X.env) fp) tgx tg) (ht : ∀ (s : Shared) (H : Hp) (C : Addr) (cl : List (Str × Addr)) (fp : List Addr), TSX (X.blk s H scope (compEnvC scope cl C X.env) fp) ifs T)
    (he : ∀ (s : Shared) (H : Hp) (C : Addr) (cl : List (Str × Addr)) (fp : List Addr), EX XF (X.blk s H scope (compEnvC scope cl C X.env) fp) elt E) (hs : ∀ x, foldedSetIterable iter X.env x = pure x := by intro _; rfl)
    (hst : starEach [.SetComp elt [⟨tgx, iter, ifs, 0⟩] scope spos] X.env = (false, eval (.SetComp elt [⟨tgx, iter, ifs, 0⟩] scope spos) X.env) :: starEach [] X.env := by rfl) :
    EX W X (.Call (.Name "sorted" p) [.SetComp elt [⟨tgx, iter, ifs, 0⟩] scope spos] [] pos) (scF I tg vs T E) := by
  subst hv
  have pc := pe_scT (g := tG X.fw tg) (tt := tT X.fw XF T) (te := tE X.fw XF E) hu hc hN hi.pi ok (fun s H C cl fp => (hg s H C cl fp).pg) (fun s H C cl fp => (ht s H C cl fp).pt) (fun s H C cl fp => (he s H C cl fp).pe) hs (pos := spos)
  exact ⟨PE.weak (pe_lk (pe_callB (p := p) (pos := pos) (cr_sorT hu hc) hgl hm (by decide +kernel) (pa_cons pc pa_nil hst) (by decide) (by decide) hst)) fun σ H Q z => tE.scF hsl z⟩
end
end Rf

/-! Rf: sorted(d.keys()) of a dict that trees lead. -/
namespace Rf
open PySem PySem.Spec PyProof.Rows L2
open PySem.W (dataLt dataLe EachIs)
theorem rn_keys {K : FW} {ρ : List Addr} {H : Hp} : ∀ {kvs : List (Va × Va)} {xs : List (NestedKey × Addr × Value)}, RN K ρ H kvs xs → EachIs (IsV K ρ H) (xs.map fun x => Value.ref x.2.1) (kvs.map (·.1))
  | _, _, .nil => .nil
  | _, _, .cons r t => .cons ⟨_, r.1.2.2, rfl⟩ (rn_keys t)
/-- what sorted(e.keys()) asks of the dict, and what it gives -/
def tSortKeys (K : FW) (te : TE) : TE := fun σ H Q => te σ H fun x H1 => ∃ ρ h d kvs xs, x = .ref d ∧ HR K ρ h H1 ∧ H1 d = some (.ext (DN K d xs)) ∧ RN K ρ H1 kvs xs ∧ sortOk h (kvs.map (·.1)) = true ∧
  ∀ (p : Addr) (us : List V), H1 p = none → RVs K ρ H1 (isortG (leV h) (kvs.map (·.1))) us → Q (.ref p) (upd H1 p (.lst us))
section
variable {X : Cx} {e : Expr} {te : TE} {p apos cpos pos : Pos}
theorem pe_sortKeys (hu : X.A.units + 65 < cLine) (hc : X.calm = true) (he : PE X e te) (hg : Gl X "sorted") (hm : X.mg "sorted" = none) (hbase : attributeBase e "keys" X.env (eval e X.env) = eval e X.env := by rfl) (hline : (apos.endLine == cpos.line) = true := by rfl)
    (hs : starEach [.Call (.Attribute e "keys" apos) [] [] cpos] X.env = (false, eval (.Call (.Attribute e "keys" apos) [] [] cpos) X.env) :: starEach [] X.env := by rfl) :
    PE X (.Call (.Name "sorted" p) [.Call (.Attribute e "keys" apos) [] [] cpos] [] pos) (tSortKeys X.fw te) := by
  refine ⟨fun pins s σ H Q I hq => ?_⟩
  have hv : bootBuiltins "sorted" = some (.builtin "sorted") := by decide +kernel
  refine wpAny_Call_Name_kw (ld_blt I hg hm hv ?_)
  refine PyProof.Rows.callWith_builtin1 ?_ hs rfl
  rw [hs]
  show wpAny _ _ (spliced ((false, eval (.Call (.Attribute e "keys" apos) [] [] cpos) X.env) :: backTo pos (starEach [] X.env))) _ _ s
  refine Calls.spliced_cons ?_
  refine wpAny_Call_method (T := "dict") (id := "dict.keys") hbase rfl hline F.plainAttrs_dict F.slot_dict_keys F.type_dict_keys (thn (he.run pins s σ H _ I hq) fun u s1 ⟨x, H1, I1, rx, ρ, h, d, kvs, xs, ex, q, hd, rn, ok, go⟩ => ?_)
  subst ex
  obtain rfl : u = Value.ref d := rx
  obtain ⟨hz, hs0, o, es, ep, ho, hex, hdat, hes, hnd⟩ : DN X.fw d xs s1.heap := (I1.hok d _ hd).1
  have raw : s1.heap.DictRaw d es ep := ⟨o, ho, hex, hdat⟩
  refine ⟨raw.typeIs, fun a ea => (by cases ea; exact ⟨o, ho, hex.2.1⟩), ?_⟩
  show wpAny _ _ (callWith cpos (.builtin "dict.keys") [.ref d] [] []) _ X.xe s1
  refine method_meetsIn F.slot_dict_keys F.entry_dict_keys rfl (PySem.evalArgs_none ⟨rfl, raw.typeIs, F.args_dict_keys_1 _, _, PySem.meets_dict_keys_raw d hs0, ⟨⟨es, ep, raw⟩, ?_⟩⟩)
  refine Calls.spliced_nil ?_
  have I2 : Inv X pins σ H1 { s1 with heap := s1.heap.push { cls := .type "dict_keys", data := .fields #[.ref d] } } := I1.kept (t' := s1.toks) fun b ob q => Heap.get?_push_of_some _ q
  have vals := rn_keys rn
  have es_xs : es.size = xs.length := by rw [← Array.length_toList, hes, List.length_map]
  have key_of : ∀ j (hj : j < es.size), es[j].key = Value.ref (xs[j]'(es_xs ▸ hj)).2.1 := fun j hj => by
    have e1 : es.toList[j]'(by rw [Array.length_toList]; exact hj) = es[j] := Array.getElem_toList hj
    rw [← e1]
    simp only [hes, List.getElem_map]
    rfl
  have len : kvs.length = xs.length := Paired.length rn
  refine sorted_byE (enc := toD h 20) (R := IsV X.fw ρ H1) (PySem.W.kdu_collect (PySem.KdlSrc.rawKeys (r := s1.heap.objs.size) (d := d) (es := es) (ep := ep)) (I1.ok.hd hc) ⟨⟨_, Heap.get?_push_size _ rfl, rfl, rfl⟩, raw.push _⟩ (by omega) fun h' tk acc hk hacc => ?_)
  have vs_eq : acc.toList = xs.map fun x => Value.ref x.2.1 := by
    refine List.ext_getElem (by rw [Array.length_toList, hacc.1, es_xs, List.length_map]) fun j h1 h2 => ?_
    rw [Array.getElem_toList, List.getElem_map]
    have hj : j < es.size := by rw [es_xs]; rw [List.length_map] at h2; exact h2
    obtain ⟨_, e2⟩ := hacc.2 j _ (Array.getElem?_eq_getElem (by rw [Array.length_toList] at h1; exact h1))
    rw [e2, key_of j hj]
  rw [vs_eq]
  have I3 : Inv X pins σ H1 { s1 with heap := h', toks := tk } := I2.kept (t' := tk) hk
  have room : ∀ b ∈ kvs.map (·.1), X.A.units + 2 + (toD h 20 b).depth < cLine := fun b hb => by
    obtain ⟨v, iv⟩ := each_right vals hb
    have := toD_depth q iv (sortOk_d ok b hb)
    omega
  refine ⟨kvs.map (·.1), sortOk_alike ok, sortOk_sortable ok, room, by rw [List.length_map]; exact hz, vals, isVs_reads I3 q vals (sortOk_d ok), fun out h2 D n eo kp2 le at_ => ?_⟩
  rw [← sortOk_sort ok] at eo
  obtain ⟨us, r1, r2⟩ := of_isVs eo
  refine ⟨.ref D, upd H1 D (.lst us), I3.laid (t' := tk) kp2 le ⟨?_, out, n, r2, at_⟩, rfl, go D us (I3.hok.fresh le) r1⟩
  have l1 : out.length = kvs.length := by
    rw [eo.length, sortOk_sort ok, List.length_mergeSort, List.length_map]
  rw [r2.length, l1, len]
  exact hz
/-- sorted(e.keys()), as a value that stays -/
def skE (E : Ex) : Ex := fun l h => (E l h).bind fun a h1 => match a with
  | .ref i => match h1.get i with
    | some (.dit kvs) => match sortOk h1 (kvs.map (·.1)) with
      | true => .ok (.fl (isortG (leV h1) (kvs.map (·.1)))) h1
      | false => .no
    | _ => .no
  | _ => .no
theorem ex_sortKeys {W : XW} {E : Ex} (hu : X.A.units + 65 < cLine) (hc : X.calm = true) (hg : Gl X "sorted") (hm : X.mg "sorted" = none) (he : EX W X e E) (hbase : attributeBase e "keys" X.env (eval e X.env) = eval e X.env := by rfl) (hline : (apos.endLine == cpos.line) = true := by rfl)
    (hs : starEach [.Call (.Attribute e "keys" apos) [] [] cpos] X.env = (false, eval (.Call (.Attribute e "keys" apos) [] [] cpos) X.env) :: starEach [] X.env := by rfl) :
    EX W X (.Call (.Name "sorted" p) [.Call (.Attribute e "keys" apos) [] [] cpos] [] pos) (skE E) :=
  ⟨PE.weak (pe_lk (pe_sortKeys hu hc he.pe hg hm hbase hline hs)) fun σ H Q ⟨ρ, l, h, L, q, s⟩ => tE.go L q s fun a h1 ρ1 H1 x e1 L1 q1 rx s1 => by
    cases a with
    | ref i =>
      cases g : h1.get i with
      | none => simp only [g] at s1; exact False.elim s1
      | some o =>
        cases o with
        | dit kvs =>
          simp only [g] at s1
          cases ok : sortOk h1 (kvs.map (·.1)) with
          | false => simp only [ok] at s1; exact False.elim s1
          | true =>
            simp only [ok] at s1
            obtain ⟨d, rfl, hd, xs, hH, hr⟩ := q1.at_ref rx g
            refine ⟨ρ1, h1, d, kvs, xs, rfl, q1, hH, hr, ok, fun p us np rs => ⟨[p], .inl ⟨_, upd_same, trivial, fun od => ?_⟩⟩⟩
            have out : p ∉ ρ1 := fun hm => by
              obtain ⟨i, hi⟩ := List.getElem?_of_mem hm
              exact q1.tr i p hi np
            have mu : Mut (upd H1 p (.lst us) p) := by rw [upd_same]; trivial
            have e2 : Ext X.fw ρ1 H1 ρ1 (upd (upd H1 p (.lst us)) p (.frz od (.lst us))) := (Ext.new np).over np mu
            exact s1 ρ1 _ e2 ((q1.new np).other mu out) (.ref p) ⟨p, us, rfl, ⟨od, upd_same⟩, RVs.ext e2 _ rs⟩
        | _ => simp only [g] at s1; exact False.elim s1
    | _ => exact False.elim s1⟩
end
end Rf

/-! Rf: the drawing of numbers, where own bears the script as a list that stays. -/
namespace Rf.N
open PySem PySem.Spec PyProof.Rows L2 Rf
abbrev ownO (a b c d : Int) (q : Va) : Ob := .lst [.int a, .int b, .int c, .int d, q]
theorem lenF_ok {A : Ex} {l : Lo} {h : Hea} {xs : List Va} (eA : A l h = .ok (.fl xs) h) : callE (fn1 vLen) (aCons A aNil) l h = .ok (.int xs.length) h := by
  unfold callE aCons aNil; rw [eA]
  simp only [Rs.bind, fn1, vLen]
section
variable {h : Hea} {p : Nat} {q : Va} {a b c d many : Int} {ns : List Int}
theorem nxG_ok {x2 x3 x4 : Option Va} (hp : h.get p = some (ownO a b c d q)) (hm : 0 < many ∧ many < 1000000000) (hb : 0 ≤ b ∧ b < 2147483563) (hc : 0 ≤ c ∧ c < 1000000000000) :
    ∃ r b', nxG [some (.ref p), some (.int many), x2, x3, x4] h = .ok (.rt (.int r)) (h.set p (ownO a b' c d q)) ∧ 0 ≤ r ∧ r < many ∧ 0 ≤ b' ∧ b' < 2147483563 := by
  have v0 : ∀ h', vr 0 [some (.ref p), some (.int many), x2, x3, x4] h' = .ok (.ref p) h' := fun h' => vr_ok rfl
  have v1 : ∀ h', vr 1 [some (.ref p), some (.int many), x2, x3, x4] h' = .ok (.int many) h' := fun h' => vr_ok rfl
  refine ⟨((b * b + 40014 * c + 37) % 2147483563 / 8 + 3 * c * c) % many, (b * b + 40014 * c + 37) % 2147483563, (sSeq_nx (stL_ok (v0 h) (iopC_ok (int_ok (add_ok (add_ok (mul_ok (ix_lit (v0 h) hp rfl) (ix_lit (v0 h) hp rfl) (by omega)) (mul_ok' rfl (ix_lit (v0 h) hp rfl) (by omega))) rfl)) rfl rfl) hp rfl)).trans ?_, ?_⟩
  · have hp1 := Hea.get_set_self hp (o' := ownO a ((b * b + 40014 * c + 37) % 2147483563) c d q)
    exact sRet_ok (iopC_ok (int_ok (add_ok (iopC_ok (ix_lit (v0 _) hp1 rfl) rfl rfl) (mul_ok (mul_ok' rfl (ix_lit (v0 _) hp1 rfl) (by omega)) (ix_lit (v0 _) hp1 rfl) (by omega)))) (v1 _) (decide_eq_true hm.1))
  · exact ⟨Int.emod_nonneg _ (by omega), Int.emod_lt_of_pos _ hm.1, Int.emod_nonneg _ (by omega), Int.emod_lt_of_pos _ (by omega)⟩
theorem nxF_ok {x2 x3 x4 : Option Va} (hp : h.get p = some (ownO a b c d q)) (hm : 0 < many ∧ many < 1000000000) (ha : 0 ≤ a) :
    ∃ r a', nxF [some (.ref p), some (.int many), x2, x3, x4] h = .ok (.rt (.int r)) (h.set p (ownO a' b c d q)) ∧ 0 ≤ r ∧ r < many ∧ 0 ≤ a' := by
  have v0 : ∀ h' y4, vr 0 [some (.ref p), some (.int many), x2, x3, y4] h' = .ok (.ref p) h' := fun h' _ => vr_ok rfl
  have v1 : ∀ h' y4, vr 1 [some (.ref p), some (.int many), x2, x3, y4] h' = .ok (.int many) h' := fun h' _ => vr_ok rfl
  refine ⟨a % many, a / many, (sSeq_nx (sSet_ok (iopC_ok (int_ok (ix_lit (v0 h _) hp rfl)) (v1 h _) (decide_eq_true hm.1)))).trans ((sSeq_nx (stL_ok (v0 h _) (iopC_ok (ix_lit (v0 h _) hp rfl) (v1 h _) ?_) hp rfl)).trans (sRet_ok (vr_ok rfl))), Int.emod_nonneg _ (by omega), Int.emod_lt_of_pos _ hm.1, Int.ediv_nonneg ha (by omega)⟩
  rw [Bool.and_eq_true]
  exact ⟨decide_eq_true hm.1, decide_eq_true (by omega)⟩
theorem nxD_ok {n : Int} {x3 x4 : Option Va} (hp : h.get p = some (ownO a b c d q)) (hb : 0 ≤ b ∧ b < 2147483563) (hd : 0 ≤ d ∧ d ≤ 1000) :
    ∃ b' y3, nxD [some (.ref p), some (.int many), some (.int n), x3, x4] h = .ok (.nx [some (.ref p), some (.int many), some (.int n), y3, x4]) (h.set p (ownO a b' c d q)) ∧ 0 ≤ b' ∧ b' < 2147483563 := by
  have v0 : ∀ h' y3, vr 0 [some (.ref p), some (.int many), some (.int n), y3, x4] h' = .ok (.ref p) h' := fun h' _ => vr_ok rfl
  have s0 : 0 ≤ n % 1000000007 := Int.emod_nonneg _ (by omega)
  have s1 : n % 1000000007 < 1000000007 := Int.emod_lt_of_pos _ (by omega)
  have e3 : nxD [some (.ref p), some (.int many), some (.int n), x3, x4] h = stL (vr 0) (cV (.int 1)) (op2 vMod (callE (fn1 vInt) (aCons (op2 vAdd (op2 vAdd (op2 vAdd (op2 vMul (op2 vIx (vr 0) (cV (.int 1))) (cV (.int 30269))) (op2 vMul (vr 3) (vr 3))) (op2 vMul (cV (.int 11)) (vr 3))) (op2 vMul (cV (.int 5)) (op2 vIx (vr 0) (cV (.int 3))))) aNil)) (cV (.int 2147483563))) [some (.ref p), some (.int many), some (.int n), some (.int (n % 1000000007)), x4] h := sSeq_nx (sSet_ok (iopC_ok (int_ok (vr_ok rfl)) rfl rfl))
  generalize n % 1000000007 = m at s0 s1 e3
  have v3 : vr 3 [some (.ref p), some (.int many), some (.int n), some (.int m), x4] h = .ok (.int m) h := vr_ok rfl
  have w := v0 h (some (.int m))
  generalize hL : [some (.ref p), some (.int many), some (.int n), some (.int m), x4] = L at v3 w
  have f1 : op2 vMul (op2 vIx (vr 0) (cV (.int 1))) (cV (.int 30269)) L h = .ok (.int (b * 30269)) h := mul_ok (ix_lit w hp rfl) rfl (by omega)
  have f2 : op2 vMul (vr 3) (vr 3) L h = .ok (.int (m * m)) h := mul_ok v3 v3 (by omega)
  have f3 : op2 vMul (cV (.int 11)) (vr 3) L h = .ok (.int (11 * m)) h := mul_ok' rfl v3 (by omega)
  have f4 : op2 vMul (cV (.int 5)) (op2 vIx (vr 0) (cV (.int 3))) L h = .ok (.int (5 * d)) h := mul_ok' rfl (ix_lit w hp rfl) (by omega)
  have f5 : op2 vMod (callE (fn1 vInt) (aCons (op2 vAdd (op2 vAdd (op2 vAdd (op2 vMul (op2 vIx (vr 0) (cV (.int 1))) (cV (.int 30269))) (op2 vMul (vr 3) (vr 3))) (op2 vMul (cV (.int 11)) (vr 3))) (op2 vMul (cV (.int 5)) (op2 vIx (vr 0) (cV (.int 3))))) aNil)) (cV (.int 2147483563)) L h = .ok (.int ((b * 30269 + m * m + 11 * m + 5 * d) % 2147483563)) h := iopC_ok (int_ok (add_ok (add_ok (add_ok f1 f2) f3) f4)) rfl rfl
  have f6 := stL_ok (i := 1) (j := 1) w f5 hp rfl
  subst hL
  exact ⟨(b * 30269 + m * m + 11 * m + 5 * d) % 2147483563, some (.int m), e3.trans f6, Int.emod_nonneg _ (by omega), Int.emod_lt_of_pos _ (by omega)⟩
theorem nxE_ok {x2 x3 x4 : Option Va} (hp : h.get p = some (ownO a b c d q)) (hq : q = .fl (ns.map .int)) (ha : 0 ≤ a) (hb : 0 ≤ b ∧ b < 2147483563) (hd : 0 ≤ d ∧ d < ns.length) (hl : ns.length ≤ 999) :
    ∃ a' b' d' y2 y3, nxE [some (.ref p), some (.int many), x2, x3, x4] h = .ok (.nx [some (.ref p), some (.int many), y2, y3, x4]) (h.set p (ownO a' b' c d' q)) ∧ 0 ≤ a' ∧ (0 ≤ b' ∧ b' < 2147483563) ∧ (0 ≤ d' ∧ d' ≤ ns.length) := by
  have v0 : ∀ h' y2, vr 0 [some (.ref p), some (.int many), y2, x3, x4] h' = .ok (.ref p) h' := fun h' _ => vr_ok rfl
  have hdn : d.toNat < ns.length := by omega
  have e4 : ∀ y2, op2 vIx (op2 vIx (vr 0) (cV (.int 4))) (op2 vIx (vr 0) (cV (.int 3))) [some (.ref p), some (.int many), y2, x3, x4] h = .ok (.int ns[d.toNat]) h := fun y2 => by
    rw [op2_ok (ix_lit (v0 h _) hp rfl) (ix_lit (v0 h _) hp rfl)]
    have e : atI (ns.map Va.int) d = some (.int ns[d.toNat]) := by
      have e1 : ixN (ns.map Va.int).length d = some d.toNat := by
        unfold ixN
        rw [List.length_map]
        split <;> first | rfl | (exfalso; omega) | (split <;> first | rfl | (exfalso; omega))
      unfold atI
      rw [e1]
      show (ns.map Va.int)[d.toNat]? = _
      rw [List.getElem?_map, List.getElem?_eq_getElem hdn]
      rfl
    unfold vIx
    simp only [hq, atV, e]
  have hp1 := Hea.get_set_self hp (o' := ownO a b c (d + 1) q)
  have st1 : nxE [some (.ref p), some (.int many), x2, x3, x4] h = sIf (isB (op2 vGe (vr 2) (op2 vPow (cV (.int 10)) (cV (.int 18))))) (stL (vr 0) (cV (.int 0)) (op2 vSub (vr 2) (op2 vPow (cV (.int 10)) (cV (.int 18))))) nxD [some (.ref p), some (.int many), some (.int ns[d.toNat]), x3, x4] (h.set p (ownO a b c (d + 1) q)) :=
    (sSeq_nx (sSet_ok (e4 x2))).trans (sSeq_nx (augL_ok (k := 0) (i := 3) (v := 1) (old := d) (j := 3) (v0 h _) rfl hp rfl (by omega) rfl))
  rw [st1]
  generalize ns[d.toNat] = n
  have e18 : ∀ h', op2 vPow (cV (.int 10)) (cV (.int 18)) [some (.ref p), some (.int many), some (.int n), x3, x4] h' = .ok (.int 1000000000000000000) h' := fun h' => (iopC_ok rfl rfl (by decide)).trans (by rfl)
  have eC : isB (op2 vGe (vr 2) (op2 vPow (cV (.int 10)) (cV (.int 18)))) [some (.ref p), some (.int many), some (.int n), x3, x4] (h.set p (ownO a b c (d + 1) q)) = .ok (decide (1000000000000000000 ≤ n)) (h.set p (ownO a b c (d + 1) q)) := isB_ok (iop_ok (vr_ok rfl) (e18 _))
  rw [sIf_b eC]
  by_cases hn : 1000000000000000000 ≤ n
  · rw [if_pos (decide_eq_true hn)]
    refine ⟨n - 1000000000000000000, b, d + 1, some (.int n), x3, (stL_ok (v0 _ _) (iop_ok (vr_ok rfl) (e18 _)) hp1 rfl).trans ?_, ?_⟩
    · rw [Hea.set_set]; rfl
    · exact ⟨by omega, hb, by omega⟩
  · rw [if_neg (by rw [decide_eq_true_eq]; exact hn)]
    obtain ⟨b', y3, e, hb'⟩ := nxD_ok (many := many) (n := n) (x3 := x3) (x4 := x4) hp1 hb (by omega)
    refine ⟨a, b', d + 1, some (.int n), y3, e.trans ?_, ?_⟩
    · rw [Hea.set_set]
    · exact ⟨ha, hb', by omega⟩
theorem next_spec (hp : h.get p = some (ownO a b c d q)) (hq : q = .fl (ns.map .int))
    (hm : 0 < many ∧ many < 1000000000) (ha : 0 ≤ a) (hb : 0 ≤ b ∧ b < 2147483563) (hc : 0 ≤ c ∧ c < 999999999999) (hd : 0 ≤ d ∧ d ≤ ns.length) (hl : ns.length ≤ 999) :
    ∃ r a' b' d', mNext [.ref p, .int many] h = .ok (.int r) (h.set p (ownO a' b' (c + 1) d' q)) ∧ 0 ≤ r ∧ r < many ∧ 0 ≤ a' ∧ (0 ≤ b' ∧ b' < 2147483563) ∧ (0 ≤ d' ∧ d' ≤ ns.length) := by
  have pn := Hea.get_lt hp
  have hp1 := Hea.get_set_self hp (o' := ownO a b (c + 1) d q)
  have hq1 := hq
  have s1 : bdNext [some (.ref p), some (.int many), none, none, none] h = _ := sSeq_nx (augL_ok (k := 0) (vr_ok rfl) rfl hp rfl (by omega) rfl)
  have hs : ∀ o, (h.set p (ownO a b (c + 1) d q)).set p o = h.set p o := fun o => Hea.set_set h p _ o
  have s2 : ∀ r h2, (sSeq (sIf nxC nxE sNil) (sSeq (sIf (isB (op2 vGt (op2 vIx (vr 0) (cV (.int 0))) (cV (.int 0)))) nxF sNil) nxG)) [some (.ref p), some (.int many), none, none, none] (h.set p (ownO a b (c + 1) d q)) = .ok (.rt (.int r)) h2 → mNext [.ref p, .int many] h = .ok (.int r) h2 := fun r h2 e => fnM_rt (s1.trans e)
  have key : ∃ a' b' d' y2 y3, sIf nxC nxE sNil [some (.ref p), some (.int many), none, none, none] (h.set p (ownO a b (c + 1) d q)) = .ok (.nx [some (.ref p), some (.int many), y2, y3, none]) (h.set p (ownO a' b' (c + 1) d' q)) ∧ 0 ≤ a' ∧ (0 ≤ b' ∧ b' < 2147483563) ∧ (0 ≤ d' ∧ d' ≤ ns.length) := by
    have triv : ∃ a' b' d' y2 y3, (Rs.ok (Ou.nx [some (.ref p), some (.int many), none, none, none]) (h.set p (ownO a b (c + 1) d q)) : Rs Ou) = .ok (.nx [some (.ref p), some (.int many), y2, y3, none]) (h.set p (ownO a' b' (c + 1) d' q)) ∧ 0 ≤ a' ∧ (0 ≤ b' ∧ b' < 2147483563) ∧ (0 ≤ d' ∧ d' ≤ ns.length) := ⟨a, b, d, none, none, rfl, ha, hb, hd⟩
    generalize h.set p (ownO a b (c + 1) d q) = h1 at hp1 hs triv
    have e1 : isB (op2 vEq (op2 vIx (vr 0) (cV (.int 0))) (cV (.int 0))) [some (.ref p), some (.int many), none, none, none] h1 = .ok (decide (a = 0)) h1 := isB_ok (eq_ok (ix_lit (vr_ok rfl) hp1 rfl) rfl)
    have e2 : isB (op2 vLt (op2 vIx (vr 0) (cV (.int 3))) (callE (fn1 vLen) (aCons (op2 vIx (vr 0) (cV (.int 4))) aNil))) [some (.ref p), some (.int many), none, none, none] h1 = .ok (decide (d < ((ns.map Va.int).length : Int))) h1 := isB_ok (iop_ok (ix_lit (vr_ok rfl) hp1 rfl) (lenF_ok ((ix_lit (vr_ok rfl) hp1 rfl).trans (by rw [hq1]))))
    rw [List.length_map] at e2
    unfold nxC
    by_cases h0 : a = 0
    · rw [decide_eq_true h0] at e1
      by_cases h3 : d < (ns.length : Int)
      · rw [decide_eq_true h3] at e2
        rw [sIf_t ((tAnd_t e1).trans e2)]
        obtain ⟨a', b', d', y2, y3, e, r⟩ := nxE_ok (many := many) (x2 := none) (x3 := none) (x4 := none) hp1 hq1 ha hb ⟨hd.1, h3⟩ hl
        exact ⟨a', b', d', y2, y3, by rw [e, hs], r⟩
      · rw [decide_eq_false h3] at e2
        rw [sIf_f ((tAnd_t e1).trans e2)]
        exact triv
    · rw [decide_eq_false h0] at e1
      rw [sIf_f (tAnd_f e1)]
      exact triv
  obtain ⟨a', b', d', y2, y3, e, ha', hb', hd'⟩ := key
  have hp2 := Hea.get_set_self hp (o' := ownO a' b' (c + 1) d' q)
  have hs2 : ∀ o, (h.set p (ownO a' b' (c + 1) d' q)).set p o = h.set p o := fun o => Hea.set_set h p _ o
  have e5 : isB (op2 vGt (op2 vIx (vr 0) (cV (.int 0))) (cV (.int 0))) [some (.ref p), some (.int many), y2, y3, none] (h.set p (ownO a' b' (c + 1) d' q)) = .ok (decide (0 < a')) (h.set p (ownO a' b' (c + 1) d' q)) := isB_ok (iop_ok (ix_lit (vr_ok rfl) hp2 rfl) rfl)
  by_cases h6 : 0 < a'
  · rw [decide_eq_true h6] at e5
    obtain ⟨r, a2, e6, r0, r1, r2⟩ := nxF_ok (x2 := y2) (x3 := y3) (x4 := none) hp2 hm ha'
    refine ⟨r, a2, b', d', s2 r _ ((sSeq_nx e).trans (sSeq_rt ((sIf_t e5).trans e6))|>.trans (by rw [hs2])), r0, r1, r2, hb', hd'⟩
  · rw [decide_eq_false h6] at e5
    obtain ⟨r, b2, e6, r0, r1, r2⟩ := nxG_ok (x2 := y2) (x3 := y3) (x4 := none) hp2 hm hb' (by omega)
    refine ⟨r, a', b2, d', s2 r _ ((sSeq_nx e).trans ((sSeq_nx (sIf_f e5)).trans e6)|>.trans (by rw [hs2])), r0, r1, ha', r2, hd'⟩
end

/-! ### own in a law -/
abbrev ownS (ns : List Int) (a b c d : Int) : Ob := ownO a b c d (.fl (ns.map .int))
structure OwnOk (ns : List Int) (k : Int) (h : Hea) : Prop where
  it : ∃ a b c d, h.get 0 = some (ownS ns a b c d) ∧ 0 ≤ a ∧ (0 ≤ b ∧ b < 2147483563) ∧ (0 ≤ c ∧ c ≤ k) ∧ (0 ≤ d ∧ d ≤ ns.length)
theorem OwnOk.next {ns : List Int} {k : Int} {h : Hea} {many : Int} (o : OwnOk ns k h) (hl : ns.length ≤ 999) (hk : k < 100000000000) (hm : 0 < many ∧ many < 1000000000) :
    ∃ r a b c d, mNext [.ref 0, .int many] h = .ok (.int r) (h.set 0 (ownS ns a b c d)) ∧ 0 ≤ r ∧ r < many ∧ OwnOk ns (k + 1) (h.set 0 (ownS ns a b c d)) := by
  obtain ⟨a, b, c, d, e0, ha, hb, hc, hd⟩ := o.it
  obtain ⟨r, a', b', d', e, r0, r1, ha', hb', hd'⟩ := next_spec (h := h) (p := 0) (q := .fl (ns.map .int)) (ns := ns) e0 rfl hm ha hb (by omega) hd hl
  exact ⟨r, a', b', c + 1, d', e, r0, r1, ⟨⟨a', b', c + 1, d', Hea.get_set_self e0, ha', hb', by omega, hd'⟩⟩⟩
theorem OwnOk.mono {ns : List Int} {k k' : Int} {h : Hea} (o : OwnOk ns k h) (hk : k ≤ k') : OwnOk ns k' h := by
  obtain ⟨a, b, c, d, e, ha, hb, hc, hd⟩ := o.it
  exact ⟨⟨a, b, c, d, e, ha, hb, by omega, hd⟩⟩
/-- list(script), kept -/
theorem script_ok (ns : List Int) {l : Lo} {h : Hea} (e : l[0]? = some (some (.sl (ns.map .int)))) : callE (fzC (fn1 vList2)) (aCons (vr 0) aNil) l h = .ok (.fl (ns.map .int)) h := by
  unfold callE aCons aNil
  rw [vr_ok e]
  have q : fzC (fn1 vList2) [.sl (ns.map .int)] h = .ok (.fl (ns.map .int)) h := by
    show (match okVs h.n (ns.map .int) with
      | true => Rs.ok (Va.fl (ns.map .int)) h
      | false => .no) = _
    rw [okVs_ints]
  exact q
/-- own = [0, seed, 0, 0, list(script)] -/
theorem own_ok (ns : List Int) (seed : Int) {l : Lo} (e : l[0]? = some (some (.sl (ns.map .int)))) : lstE (aCons (cV (.int 0)) (aCons (cV (.int seed)) (aCons (cV (.int 0)) (aCons (cV (.int 0)) (aCons (callE (fzC (fn1 vList2)) (aCons (vr 0) aNil)) aNil))))) l ⟨0, []⟩ = .ok (.ref 0) ⟨1, [ownS ns 0 seed 0 0]⟩ := by
  have c : ∀ {v : Va} {B : Ax} {xs : List Va} {h : Hea}, B l h = .ok xs h → aCons (cV v) B l h = .ok (v :: xs) h := fun {v B xs h} eB => by
    unfold aCons cV
    simp only [Rs.bind, eB]
  have c2 : aCons (callE (fzC (fn1 vList2)) (aCons (vr 0) aNil)) aNil l ⟨0, []⟩ = .ok [.fl (ns.map .int)] ⟨0, []⟩ := by
    rw [aCons, script_ok ns e]; rfl
  unfold lstE
  rw [c (c (c (c c2)))]
  rfl
/-- a draw below a number -/
theorem draw_ok {A : Ex} {l : Lo} {h : Hea} {j : Int} {r : Int} {h' : Hea} (hv : l[1]? = some (some (.ref 0))) (eA : A l h = .ok (.int j) h) (e : mNext [.ref 0, .int j] h = .ok (.int r) h') : callF 2 mNext (aCons (vr 1) (aCons A aNil)) l h = .ok (.int r) h' :=
  callF_ok (xs := [.ref 0, .int j]) (h1 := h) (by unfold aCons; rw [vr_ok hv]; simp only [Rs.bind]; rw [eA]; rfl) rfl e
end Rf.N

/-! Rf: loops and comprehensions over values that are not known: what they come to. -/
namespace Rf.N
open PySem PySem.Spec PyProof.Rows L2 Rf

theorem call1 {A : Ex} {l : Lo} {h h1 : Hea} {a : Va} (e : A l h = .ok a h1) : aCons A aNil l h = .ok [a] h1 := by
  unfold aCons aNil; rw [e]; rfl
theorem call2 {A B : Ex} {l : Lo} {h h1 h2 : Hea} {a b : Va} (e : A l h = .ok a h1) (f : B l h1 = .ok b h2) : aCons A (aCons B aNil) l h = .ok [a, b] h2 := by
  unfold aCons; rw [e]; simp only [Rs.bind]; rw [f]; rfl
theorem call3 {A B C : Ex} {l : Lo} {h h1 h2 h3 : Hea} {a b c : Va} (e : A l h = .ok a h1) (f : B l h1 = .ok b h2) (g : C l h2 = .ok c h3) : aCons A (aCons B (aCons C aNil)) l h = .ok [a, b, c] h3 := by
  unfold aCons; rw [e]; simp only [Rs.bind]; rw [f]; simp only [Rs.bind]; rw [g]; rfl
theorem callE_ok {F : Fn} {A : Ax} {l : Lo} {h h1 : Hea} {xs : List Va} (e : A l h = .ok xs h1) : callE F A l h = F xs h1 := by
  unfold callE; rw [e]; rfl
theorem callG_ok {n : Nat} {m : Fn} {B : Ax} {l : Lo} {h h1 : Hea} {xs : List Va} (e : B l h = .ok xs h1) (hn : xs.length = n) : callG n m B l h = frm m xs h1 := by
  unfold callG; rw [e]; simp only [Rs.bind]; rw [if_pos hn]
theorem iVal_ok {A : Ex} {l : Lo} {h h1 : Hea} {xs : List Va} (e : A l h = .ok (.tup xs) h1 ∨ A l h = .ok (.fl xs) h1) : iVal A l h = .ok (.vals xs) h1 := by
  unfold iVal
  rcases e with e | e <;> (rw [e]; rfl)
theorem iVal_str {A : Ex} {l : Lo} {h h1 : Hea} {w : List Nat} (e : A l h = .ok (.str w) h1) : iVal A l h = .ok (.vals (w.map fun c => .str [c])) h1 := by
  unfold iVal; rw [e]; rfl

/-! ### comprehensions -/
theorem lcFS_inv {xs : List Va} {i : Nat} {l0 : Lo} {E : Ex} (P : Nat → List Va → Hea → Prop)
    (step : ∀ k x acc h, xs[k]? = some x → acc.length = k → P k acc h → ∃ y h', E (l0.set i (some x)) h = .ok y h' ∧ P (k + 1) (acc ++ [y]) h') (few : xs.length < sLine) :
    ∀ m k, k + m = xs.length → ∀ fuel, m < fuel → ∀ acc h, acc.length = k → P k acc h →
      ∃ acc' h', lcFS (.vals xs) (.nm i) l0 tTrue E fuel k acc h = .ok (.fl acc') h' ∧ acc'.length = xs.length ∧ P xs.length acc' h'
  | 0, k, e, f + 1, _, acc, h, ea, p => by
    have e : k = xs.length := e
    subst e
    refine ⟨acc, h, ?_, ea, p⟩
    unfold lcFS
    have : stp h xs.length (.vals xs) = some none := by
      show some xs[xs.length]? = _
      rw [List.getElem?_eq_none (Nat.le_refl _)]
    rw [this]
  | m + 1, k, e, f + 1, hf, acc, h, ea, p => by
    have hk : k < xs.length := by omega
    have e1 : xs[k]? = some xs[k] := List.getElem?_eq_getElem hk
    obtain ⟨y, h', e2, p'⟩ := step k xs[k] acc h e1 ea p
    obtain ⟨acc', h2, e3, r⟩ := lcFS_inv P step few m (k + 1) (by omega) f (by omega) (acc ++ [y]) h' (by rw [List.length_append, ea]; rfl) p'
    refine ⟨acc', h2, ?_, r⟩
    unfold lcFS
    have s : stp h k (.vals xs) = some (some xs[k]) := by
      show some xs[k]? = _
      rw [e1]
    simp only [s, bnd, setL, tTrue, Rs.solid, Rs.bind, if_true, e2]
    rw [if_pos (by rw [ea]; omega)]
    exact e3
theorem lcF_inv {I : Ix} {xs : List Va} {i : Nat} {vs : List Nat} {E : Ex} {l : Lo} {h h1 : Hea} (P : Nat → List Va → Hea → Prop) (eI : I l h = .ok (.vals xs) h1) (few : xs.length < 100000)
    (step : ∀ k x acc h, xs[k]? = some x → acc.length = k → P k acc h → ∃ y h', E ((wipeL l vs).set i (some x)) h = .ok y h' ∧ P (k + 1) (acc ++ [y]) h') (p : P 0 [] h1) :
    ∃ acc' h', lcF I (.nm i) vs tTrue E l h = .ok (.fl acc') h' ∧ acc'.length = xs.length ∧ P xs.length acc' h' := by
  have hs : xs.length < sLine := Nat.lt_of_lt_of_le few (by decide +kernel)
  have hb : 100000 ≤ bigN := bigN_le
  obtain ⟨acc', h', e, r⟩ := lcFS_inv P step hs xs.length 0 (by omega) bigN (by omega) [] h1 rfl p
  refine ⟨acc', h', ?_, r⟩
  unfold lcF
  rw [eI]
  exact e
theorem lcF_map {I : Ix} {xs : List Va} {i : Nat} {vs : List Nat} {E : Ex} {l : Lo} {h h1 : Hea} (f : Va → Va) (eI : I l h = .ok (.vals xs) h1) (few : xs.length < 100000)
    (hx : ∀ x ∈ xs, E ((wipeL l vs).set i (some x)) h1 = .ok (f x) h1) : lcF I (.nm i) vs tTrue E l h = .ok (.fl (xs.map f)) h1 := by
  obtain ⟨acc', h', e, _, p⟩ := lcF_inv (P := fun k acc h => h = h1 ∧ acc = (xs.take k).map f) eI few (fun k x acc h ek _ ⟨p1, p2⟩ => by
    subst p1 p2
    refine ⟨f x, h, hx x (List.mem_of_getElem? ek), rfl, ?_⟩
    rw [List.take_add_one, ek, List.map_append]
    rfl) ⟨rfl, rfl⟩
  obtain ⟨p1, p2⟩ := p
  rw [e, p1, p2, List.take_length]

/-! ### loops -/
theorem forS_inv {xs : List Va} {tg : Tg} {B : Sx} (P : Nat → Lo → Hea → Prop)
    (step : ∀ k x l h, xs[k]? = some x → P k l h → ∃ ups l' h', bnd h tg x = some ups ∧ (B (setL l ups) h = .ok (.nx l') h' ∨ B (setL l ups) h = .ok (.ct l') h') ∧ P (k + 1) l' h') :
    ∀ m k, k + m = xs.length → ∀ fuel, m < fuel → ∀ l h, P k l h → ∃ l' h', forS (.vals xs) tg B fuel k l h = .ok (.nx l') h' ∧ P xs.length l' h'
  | 0, k, e, f + 1, _, l, h, p => by
    have e : k = xs.length := e
    subst e
    refine ⟨l, h, ?_, p⟩
    unfold forS
    have : stp h xs.length (.vals xs) = some none := by
      show some xs[xs.length]? = _
      rw [List.getElem?_eq_none (Nat.le_refl _)]
    rw [this]
  | m + 1, k, e, f + 1, hf, l, h, p => by
    have hk : k < xs.length := by omega
    have e1 : xs[k]? = some xs[k] := List.getElem?_eq_getElem hk
    obtain ⟨ups, l', h', e2, e3, p'⟩ := step k xs[k] l h e1 p
    obtain ⟨l2, h2, e4, r⟩ := forS_inv P step m (k + 1) (by omega) f (by omega) l' h' p'
    refine ⟨l2, h2, ?_, r⟩
    unfold forS
    have s : stp h k (.vals xs) = some (some xs[k]) := by
      show some xs[k]? = _
      rw [e1]
    simp only [s, e2]
    rcases e3 with e3 | e3 <;> (rw [e3]; exact e4)
theorem sFor_inv {I : Ix} {xs : List Va} {tg : Tg} {B : Sx} {l : Lo} {h h1 : Hea} (P : Nat → Lo → Hea → Prop) (eI : I l h = .ok (.vals xs) h1) (few : xs.length < 100000)
    (step : ∀ k x l h, xs[k]? = some x → P k l h → ∃ ups l' h', bnd h tg x = some ups ∧ (B (setL l ups) h = .ok (.nx l') h' ∨ B (setL l ups) h = .ok (.ct l') h') ∧ P (k + 1) l' h') (p : P 0 l h1) :
    ∃ l' h', sFor I tg B l h = .ok (.nx l') h' ∧ P xs.length l' h' := by
  have hb : 100000 ≤ bigN := bigN_le
  obtain ⟨l', h', e, r⟩ := forS_inv P step xs.length 0 (by omega) bigN (by omega) l h1 p
  refine ⟨l', h', ?_, r⟩
  unfold sFor
  rw [eI]
  exact e
/-- a loop that runs while something grows -/
theorem whileS_inv {C : Tx} {B : Sx} (P : Lo → Hea → Prop) (meas : Lo → Hea → Nat)
    (step : ∀ l h, P l h → ∃ b, C l h = .ok b h ∧ (b = true → ∃ l' h', (B l h = .ok (.nx l') h' ∨ B l h = .ok (.ct l') h') ∧ P l' h' ∧ meas l' h' < meas l h)) :
    ∀ m l h, meas l h ≤ m → P l h → ∀ fuel, m < fuel → ∃ l' h', whileS C B fuel l h = .ok (.nx l') h' ∧ P l' h' ∧ C l' h' = .ok false h'
  | m, l, h, hm, p, f + 1, hf => by
    obtain ⟨b, e, go⟩ := step l h p
    cases b with
    | false =>
      refine ⟨l, h, ?_, p, e⟩
      unfold whileS
      rw [e]; rfl
    | true =>
      obtain ⟨l', h', e2, p', lt⟩ := go rfl
      match m, hm, hf with
      | 0, hm, hf => omega
      | m + 1, hm, hf =>
        obtain ⟨l2, h2, e3, r⟩ := whileS_inv P meas step m l' h' (by omega) p' f (by omega)
        refine ⟨l2, h2, ?_, r⟩
        unfold whileS
        rw [e]
        rcases e2 with e2 | e2 <;> (simp only [Rs.bind, if_true]; rw [e2]; exact e3)
end Rf.N

/-! Rf: rows of small numbers, permutations; what the mirrors say of them. -/
namespace Rf.N
open PySem PySem.Spec PyProof.Rows L2 Rf

abbrev nV (n : Nat) : Va := .int n
abbrev pV (p : List Nat) : Va := .tup (p.map nV)
abbrev tV (ps : List (List Nat)) : Va := .tup (ps.map pV)
theorem ixN_nat {n k : Nat} (hk : k < n) : ixN n (k : Int) = some k := by
  unfold ixN
  split <;> first | rfl | (exfalso; omega) | (split <;> first | rfl | (exfalso; omega)) | (simp; omega) | skip
theorem atI_nat {xs : List Va} {k : Nat} {v : Va} (e : xs[k]? = some v) : atI xs (k : Int) = some v := by
  have hk : k < xs.length := by
    rcases Nat.lt_or_ge k xs.length with h | h
    · exact h
    · rw [List.getElem?_eq_none h] at e; cases e
  unfold atI
  rw [ixN_nat hk]
  exact e
theorem ixF_lst {h : Hea} {i k : Nat} {xs : List Va} {v : Va} (g : h.get i = some (.lst xs)) (e : xs[k]? = some v) : vIxF (.ref i) (nV k) h = .ok v h := by
  have a : vIxF (.ref i) (nV k) h = vIx (.ref i) (nV k) h := by
    show (match isD h (.ref i) with
      | true => vDix (.ref i) (nV k) h
      | false => vIx (.ref i) (nV k) h) = _
    have : isD h (.ref i) = false := by unfold isD; simp only [g]
    rw [this]
  rw [a]
  unfold vIx
  simp only [g, atV, atI_nat e]
theorem ixF_tup {h : Hea} {k : Nat} {xs : List Va} {v : Va} (e : xs[k]? = some v) : vIxF (.tup xs) (nV k) h = .ok v h := by
  show atV xs (k : Int) h = _
  unfold atV
  rw [atI_nat e]
theorem ixF_fl {h : Hea} {k : Nat} {xs : List Va} {v : Va} (e : xs[k]? = some v) : vIxF (.fl xs) (nV k) h = .ok v h := by
  show atV xs (k : Int) h = _
  unfold atV
  rw [atI_nat e]
theorem setA_lst {h : Hea} {i k : Nat} {xs : List Va} {v : Va} (g : h.get i = some (.lst xs)) (hk : k < xs.length) : setA h (.ref i) (nV k) v = some (h.set i (.lst (xs.set k v))) := by
  unfold setA
  simp only [g, ixN_nat hk]
theorem stA_ok {A B V : Ex} {l : Lo} {h h4 : Hea} {a i v : Va} (eV : V l h = .ok v h) (eA : A l h = .ok a h) (eB : B l h = .ok i h) (e : setA h a i v = some h4) : stA A B V l h = .ok (.nx l) h4 := by
  unfold stA
  rw [eV]; simp only [Rs.bind]; rw [eA]; simp only []; rw [eB]; simp only [e]
theorem okVs_nats (n : Nat) : ∀ p : List Nat, okVs n (p.map nV) = true
  | [] => rfl
  | x :: r => by
    show (okV n (.int x) && okVs n (r.map nV)) = true
    rw [okVs_nats n r]; rfl
theorem okV_p (n : Nat) (p : List Nat) : okV n (pV p) = true := by
  unfold okV; exact okVs_nats n p
theorem okVs_ps (n : Nat) : ∀ ps : List (List Nat), okVs n (ps.map pV) = true
  | [] => rfl
  | p :: r => by
    show (okV n (pV p) && okVs n (r.map pV)) = true
    rw [okVs_ps n r, okV_p]; rfl
theorem okV_t (n : Nat) (ps : List (List Nat)) : okV n (tV ps) = true := by
  unfold okV; exact okVs_ps n ps
theorem okO_own (n : Nat) (ns : List Int) (a b c d : Int) : okO n (ownS ns a b c d) = true := by
  have : okVs n [Va.int a, .int b, .int c, .int d, .fl (ns.map .int)] = true := by
    show (okV n (.int a) && (okV n (.int b) && (okV n (.int c) && (okV n (.int d) && (okV n (.fl (ns.map .int)) && true))))) = true
    have h1 : okV n (.fl (ns.map .int)) = true := by unfold okV; exact okVs_ints n ns
    rw [h1]; rfl
  exact this
/-- a def that is called with own: what it gives, the heap cut back -/
theorem runT_ok {m : Fn} {xs : List Va} {h h' : Hea} {v : Va} {O : Ob} {rest : List Ob} (e : m xs h = .ok v h') (hn : h.n = 1) (he : h' = ⟨rest.length + 1, rest ++ [O]⟩) (hv : okV 1 v = true) (hO : okO 1 O = true) : runT m xs h = .ok v ⟨1, [O]⟩ := by
  unfold runT
  rw [e]
  have e1 : fzT h.n h' v = some v := by
    unfold fzT
    rw [hn, hv]
  have e2 : truncH h.n h' = some ⟨1, [O]⟩ := by
    unfold truncH
    rw [hn, he]
    have d : (rest ++ [O]).drop (rest.length + 1 - 1) = [O] := by simp
    rw [if_pos (by show 1 ≤ rest.length + 1; omega)]
    simp only [d]
    rw [if_pos (by simp [hO])]
  simp only [e1, e2]
theorem callT_ok {n : Nat} {m : Fn} {B : Ax} {l : Lo} {h h1 : Hea} {xs : List Va} (e : B l h = .ok xs h1) (hn : xs.length = n) : callT n m B l h = runT m xs h1 := by
  unfold callT; rw [e]; simp only [Rs.bind]; rw [if_pos hn]

theorem sPar_ok {is : List Nat} {A : Ax} {l : Lo} {h h1 : Hea} {xs : List Va} (e : A l h = .ok xs h1) (hn : xs.length = is.length) : sPar is A l h = .ok (.nx (setL l (is.zip xs))) h1 := by
  unfold sPar; rw [e]; simp only [Rs.bind]; rw [if_pos hn]
theorem sDrop_ok {A : Ex} {l : Lo} {h h1 : Hea} {a : Va} (e : A l h = .ok a h1) : sDrop A l h = .ok (.nx l) h1 := by
  unfold sDrop; rw [e]; rfl

theorem OwnOk.to {ns : List Int} {c : Int} {h h' : Hea} (o : OwnOk ns c h) (e : h'.get 0 = h.get 0) : OwnOk ns c h' := by
  obtain ⟨a, b, c, d, e0, r⟩ := o.it
  exact ⟨⟨a, b, c, d, e.trans e0, r⟩⟩
theorem OwnOk.okO {ns : List Int} {c : Int} {O : Ob} (o : OwnOk ns c ⟨1, [O]⟩) (n : Nat) : okO n O = true := by
  obtain ⟨a, b, c, d, e0, r⟩ := o.it
  have : O = ownS ns a b c d := Option.some.inj e0
  rw [this]
  exact okO_own n ns a b c d
theorem rangeV_get {d k : Nat} {x : Va} (e : (rangeV 0 d)[k]? = some x) : k < d ∧ x = nV k := by
  unfold rangeV at e
  rw [List.getElem?_map] at e
  have hk : k < d := by
    rcases Nat.lt_or_ge k d with h | h
    · exact h
    · rw [List.getElem?_eq_none (by rw [List.length_range]; exact h)] at e; cases e
  rw [List.getElem?_range hk] at e
  refine ⟨hk, ?_⟩
  rw [← Option.some.inj e]
  show Va.int (0 + (k : Int)) = _
  rw [Int.zero_add]
theorem rangeV_len (d : Nat) : (rangeV 0 d).length = d := by unfold rangeV; rw [List.length_map, List.length_range]
theorem range_ok {A : Ex} {l : Lo} {h : Hea} {d : Nat} (e : A l h = .ok (nV d) h) (few : d < 1000000) : iRange1 (aCons A aNil) l h = .ok (.vals (rangeV 0 d)) h := by
  have := iRange1_ok e (by omega) (by omega)
  rw [Int.toNat_natCast] at this
  exact this
theorem rangeV_map (d : Nat) : rangeV 0 d = (List.range d).map nV := by
  unfold rangeV
  refine List.map_congr_left fun i _ => ?_
  show Va.int (0 + (i : Int)) = _
  rw [Int.zero_add]

theorem strsOf_chars : ∀ w : List Nat, strsOf (w.map fun c => Va.str [c]) = some (w.map fun c => [c])
  | [] => rfl
  | c :: r => by
    have ih := strsOf_chars r
    simp only [List.map_cons, strsOf, ih]
    rfl
theorem joinN_chars : ∀ w : List Nat, joinN [] (w.map fun c => [c]) = w
  | [] => rfl
  | [c] => rfl
  | c :: d :: r => by
    have ih := joinN_chars (d :: r)
    show [c] ++ [] ++ joinN [] ((d :: r).map fun c => [c]) = _
    rw [ih]; rfl
theorem sum_chars : ∀ w : List Nat, ((w.map fun c => [c]).map List.length).sum = w.length
  | [] => rfl
  | c :: r => by
    show 1 + ((r.map fun c => [c]).map List.length).sum = r.length + 1
    rw [sum_chars r]; omega
theorem join_ok {A : Ex} {l : Lo} {h h1 : Hea} {w : List Nat} (e : A l h = .ok (.fl (w.map fun c => .str [c])) h1) (few : w.length ≤ 100000) : methE .str vJoin (cV (.str [])) (aCons A aNil) l h = .ok (.str w) h1 := by
  unfold methE
  have f : aCons A aNil l h = .ok [.fl (w.map fun c => .str [c])] h1 := call1 e
  show (if vTy h (.str []) = some .str then (aCons A aNil l h).bind fun xs h2 => vJoin (.str []) xs h2 else .no) = _
  have t : vTy h (.str []) = some .str := rfl
  rw [if_pos t, f]
  show vJoin (.str []) [.fl (w.map fun c => .str [c])] h1 = _
  unfold vJoin
  have g : seqV h1 (.fl (w.map fun c => .str [c])) = some (w.map fun c => .str [c]) := rfl
  have big : 100000 ≤ sLine := by decide +kernel
  simp only [g, strsOf_chars, joinN_chars, sum_chars]
  rw [if_pos (by simp; omega)]
theorem iRange1_ok2 {A : Ex} {l : Lo} {h h1 : Hea} {j : Int} (e : A l h = .ok (.int j) h1) (h0 : -1000000 < j) (h2 : j < 1000000) : iRange1 (aCons A aNil) l h = .ok (.vals (rangeV 0 j.toNat)) h1 := by
  have c : (decide (-1000000 < j) && decide (j < 1000000)) = true := by rw [Bool.and_eq_true]; exact ⟨decide_eq_true h0, decide_eq_true h2⟩
  unfold iRange1 aCons aNil
  rw [e]
  simp only [Rs.bind]
  rw [if_pos c]
theorem range_ok2 {A : Ex} {l : Lo} {h h1 : Hea} {d : Nat} (e : A l h = .ok (nV d) h1) (few : d < 1000000) : iRange1 (aCons A aNil) l h = .ok (.vals (rangeV 0 d)) h1 := by
  have := iRange1_ok2 e (by omega) (by omega)
  rw [Int.toNat_natCast] at this
  exact this
def sgs (n : Nat) : List Nat := [97, 65, 98, 66, 99, 67].take (2 * n)

/-! ### permutations -/
structure IsP (d : Nat) (p : List Nat) : Prop where
  len : p.length = d
  nd : p.Nodup
  lt : ∀ x ∈ p, x < d
theorem IsP.range (d : Nat) : IsP d (List.range d) := ⟨List.length_range, List.nodup_range, fun x h => List.mem_range.mp h⟩
theorem IsP.perm {d : Nat} {p q : List Nat} (h : IsP d p) (e : q.Perm p) : IsP d q := ⟨e.length_eq.trans h.len, e.nodup_iff.mpr h.nd, fun x hx => h.lt x (e.mem_iff.mp hx)⟩
theorem IsP.swap {d : Nat} {p : List Nat} (h : IsP d p) {i j : Nat} (hi : i < d) (hj : j < d) : IsP d ((p.set i (p[j]'(by rw [h.len]; exact hj))).set j (p[i]'(by rw [h.len]; exact hi))) :=
  h.perm (List.set_set_perm (by rw [h.len]; exact hi) (by rw [h.len]; exact hj))
/-- all rows of so many numbers below d, no two alike -/
def lsD (d : Nat) : Nat → List (List Nat)
  | 0 => [[]]
  | k + 1 => (lsD d k).flatMap fun p => ((List.range d).filter fun x => !p.contains x).map fun x => x :: p
theorem lsD_mem {d : Nat} : ∀ {p : List Nat}, p.Nodup → (∀ x ∈ p, x < d) → p ∈ lsD d p.length
  | [], _, _ => List.mem_singleton.mpr rfl
  | x :: p, nd, lt => by
    have nd' := List.nodup_cons.mp nd
    refine List.mem_flatMap.mpr ⟨p, lsD_mem nd'.2 fun y h => lt y (List.mem_cons_of_mem _ h), List.mem_map.mpr ⟨x, List.mem_filter.mpr ⟨List.mem_range.mpr (lt x List.mem_cons_self), ?_⟩, rfl⟩⟩
    simpa using nd'.1
theorem IsP.mem {d : Nat} {p : List Nat} (h : IsP d p) : p ∈ lsD d d := by
  have := lsD_mem h.nd h.lt
  rw [h.len] at this
  exact this
/-- what holds of each permutation that is tried -/
theorem IsP.all {d : Nat} {p : List Nat} (h : IsP d p) {f : List Nat → Bool} (e : (lsD d d).all f = true) : f p = true := List.all_eq_true.mp e p h.mem
end Rf.N

/-! Rf: calls whose answer is a bool, tests, lengths. -/
namespace Rf.N
open PySem PySem.Spec PyProof.Rows L2 Rf
def isT (r : Rs Va) : Bool := match r with
  | .ok (.bl true) _ => true
  | _ => false
def isF (r : Rs Va) : Bool := match r with
  | .ok (.bl false) _ => true
  | _ => false
theorem frm_T {m : Fn} {xs : List Va} {h : Hea} (e : isT (m xs ⟨0, []⟩) = true) (o : okVs 0 xs = true) : frm m xs h = .ok (.bl true) h := by
  unfold frm
  rw [o]
  match q : m xs ⟨0, []⟩, e with
  | .ok (.bl true) h', _ => rfl
theorem frm_F {m : Fn} {xs : List Va} {h : Hea} (e : isF (m xs ⟨0, []⟩) = true) (o : okVs 0 xs = true) : frm m xs h = .ok (.bl false) h := by
  unfold frm
  rw [o]
  match q : m xs ⟨0, []⟩, e with
  | .ok (.bl false) h', _ => rfl
theorem tOr_t {A B : Tx} {l : Lo} {h h1 : Hea} (e : A l h = .ok true h1) : tOr A B l h = .ok true h1 := by
  unfold tOr; rw [e]; rfl
theorem tOr_f {A B : Tx} {l : Lo} {h h1 : Hea} (e : A l h = .ok false h1) : tOr A B l h = B l h1 := by
  unfold tOr; rw [e]; rfl
theorem tNot_ok {A : Tx} {l : Lo} {h h1 : Hea} {b : Bool} (e : A l h = .ok b h1) : tNot A l h = .ok (!b) h1 := by
  unfold tNot; rw [e]; rfl
theorem trB_bl {A : Ex} {l : Lo} {h h1 : Hea} {b : Bool} (e : A l h = .ok (.bl b) h1) : trB A l h = .ok b h1 := by
  unfold trB; rw [e]; rfl
theorem inst_ok {A : Ex} {l : Lo} {h h1 : Hea} {a : Va} {t : Ty} (e : A l h = .ok a h1) (f : vTy h1 a = some t) (c : Ty) : instE [c] A l h = .ok (.bl (isInst c t)) h1 := by
  unfold instE; rw [e]; simp only [Rs.bind, f]
  simp
theorem lenF_tup {A : Ex} {l : Lo} {h h1 : Hea} {xs : List Va} (e : A l h = .ok (.tup xs) h1) : callE (fn1 vLenF) (aCons A aNil) l h = .ok (.int xs.length) h1 :=
  (callE_ok (call1 e)).trans rfl
theorem lenF_fl {A : Ex} {l : Lo} {h h1 : Hea} {xs : List Va} (e : A l h = .ok (.fl xs) h1) : callE (fn1 vLenF) (aCons A aNil) l h = .ok (.int xs.length) h1 :=
  (callE_ok (call1 e)).trans rfl
theorem ne_ok {A B : Ex} {l : Lo} {h : Hea} {i j : Int} (eA : A l h = .ok (.int i) h) (eB : B l h = .ok (.int j) h) : op2 vNe A B l h = .ok (.bl (decide (i ≠ j))) h := by
  rw [op2_ok eA eB]
  have e : vq h 20 (.int i) (.int j) = decide (i = j) := by
    unfold vq view PyData.eqv
    first | rfl | (simp; done) | (by_cases q : i = j <;> simp [q])
  unfold vNe
  rw [e]
  by_cases q : i = j <;> simp [q] <;> rfl
/-- of so many bools: whether all are true -/
theorem all_ok {A : Ex} {l : Lo} {h h1 : Hea} {bs : List Bool} (e : A l h = .ok (.fl (bs.map .bl)) h1) : callE (fn1 vAll) (aCons A aNil) l h = .ok (.bl (bs.all id)) h1 := by
  refine (callE_ok (call1 e)).trans ?_
  have f : ∀ bs : List Bool, blsOf (bs.map .bl) = some bs := by
    intro bs
    induction bs with
    | nil => rfl
    | cons b r ih => simp only [List.map_cons, blsOf, ih]; rfl
  show vAll (.fl (bs.map .bl)) h1 = _
  unfold vAll onBls lstV
  simp only [f]
theorem isB_ne {A B : Ex} {l : Lo} {h : Hea} {i j : Int} (eA : A l h = .ok (.int i) h) (eB : B l h = .ok (.int j) h) {b : Bool} (e : decide (i ≠ j) = b) : isB (op2 vNe A B) l h = .ok b h := by
  rw [isB_ok (ne_ok eA eB), e]
theorem isB_eq {A B : Ex} {l : Lo} {h : Hea} {i j : Int} (eA : A l h = .ok (.int i) h) (eB : B l h = .ok (.int j) h) {b : Bool} (e : decide (i = j) = b) : isB (op2 vEq A B) l h = .ok b h := by
  rw [isB_ok (eq_ok eA eB), e]
theorem notInst {A : Ex} {l : Lo} {h h1 : Hea} {a : Va} {t : Ty} (e : A l h = .ok a h1) (f : vTy h1 a = some t) (c : Ty) {b : Bool} (q : (!isInst c t) = b) : tNot (trB (instE [c] A)) l h = .ok b h1 := by
  rw [tNot_ok (trB_bl (inst_ok e f c)), q]
theorem seq_as {A B C : Sx} : sSeq A (sSeq B C) = sSeq (sSeq A B) C := by
  funext l h
  unfold sSeq
  cases A l h with
  | no => rfl
  | err c v h' => rfl
  | ok o h1 =>
    cases o with
    | nx l1 => simp only [Rs.bind]
    | _ => rfl
mutual
theorem okV_up {n m : Nat} (le : n ≤ m) : ∀ {v : Va}, okV n v = true → okV m v = true
  | .ref i, o => by
    unfold okV at o ⊢
    exact decide_eq_true (Nat.lt_of_lt_of_le (of_decide_eq_true o) le)
  | .tup xs, o => by unfold okV at o ⊢; exact okVs_up le o
  | .fl xs, o => by unfold okV at o ⊢; exact okVs_up le o
  | .pr xs, o => by unfold okV at o ⊢; exact okVs_up le o
  | .fd _ xs, o => by unfold okV at o ⊢; exact okVs_up le o
  | .sl xs, o => by unfold okV at o ⊢; exact okVs_up le o
  | .non, _ => rfl
  | .bl _, _ => rfl
  | .int _, _ => rfl
  | .str _, _ => rfl
theorem okVs_up {n m : Nat} (le : n ≤ m) : ∀ {vs : List Va}, okVs n vs = true → okVs m vs = true
  | [], _ => rfl
  | v :: r, o => by
    have o : (okV n v && okVs n r) = true := o
    show (okV m v && okVs m r) = true
    rw [Bool.and_eq_true] at o ⊢
    exact ⟨okV_up le o.1, okVs_up le o.2⟩
end
end Rf.N

/-! Rf: where letters and words lead places, by a table. -/
namespace Rf.N
open PySem PySem.Spec PyProof.Rows L2 Rf
def ltr (c : Nat) : Nat := if c < 97 then c - 65 else c - 97
def low (c : Nat) : Bool := decide (97 ≤ c)
def act (p : List Nat) (b : Bool) (i : Nat) : Nat := if b = true then p.getD i 0 else p.idxOf i
def at1 (ps : List (List Nat)) (i c : Nat) : Nat := act (ps.getD (ltr c) []) (low c) i
def atW (ps : List (List Nat)) (i : Nat) (w : List Nat) : Nat := w.foldl (at1 ps) i
structure IsTab (n d : Nat) (ps : List (List Nat)) : Prop where
  len : ps.length = n
  row : ∀ p ∈ ps, IsP d p
theorem IsP.has {d : Nat} {p : List Nat} (h : IsP d p) {i : Nat} (hi : i < d) : i ∈ p := by
  -- a row of d numbers below d, no two alike, has each
  rcases Decidable.em (i ∈ p) with q | q
  · exact q
  · have := List.Nodup.length_le_of_subset (l₁ := i :: p) (l₂ := List.range d) (List.nodup_cons.mpr ⟨q, h.nd⟩) fun x hx => by
      rcases List.mem_cons.mp hx with rfl | hx
      · exact List.mem_range.mpr hi
      · exact List.mem_range.mpr (h.lt x hx)
    rw [List.length_cons, List.length_range, h.len] at this
    omega
theorem IsP.act_lt {d : Nat} {p : List Nat} (h : IsP d p) (b : Bool) {i : Nat} (hi : i < d) : act p b i < d := by
  unfold act
  cases b with
  | true =>
    have hp : i < p.length := by rw [h.len]; exact hi
    rw [if_pos rfl, List.getD_eq_getElem?_getD, List.getElem?_eq_getElem hp]
    exact h.lt _ (List.getElem_mem hp)
  | false =>
    rw [if_neg (by decide)]
    have := List.idxOf_lt_length_of_mem (h.has hi)
    rw [h.len] at this
    exact this
theorem IsP.act_back {d : Nat} {p : List Nat} (h : IsP d p) (b : Bool) {i : Nat} (hi : i < d) : act p (!b) (act p b i) = i := by
  cases b with
  | true =>
    have hp : i < p.length := by rw [h.len]; exact hi
    show p.idxOf (p.getD i 0) = i
    rw [List.getD_eq_getElem?_getD, List.getElem?_eq_getElem hp]
    exact h.nd.idxOf_getElem i hp
  | false =>
    show p.getD (p.idxOf i) 0 = i
    have hp := List.idxOf_lt_length_of_mem (h.has hi)
    rw [List.getD_eq_getElem?_getD, List.getElem?_eq_getElem hp]
    exact List.getElem_idxOf hp
theorem IsP.act_inj {d : Nat} {p : List Nat} (h : IsP d p) (b : Bool) {i j : Nat} (hi : i < d) (hj : j < d) (e : act p b i = act p b j) : i = j := by
  rw [← h.act_back b hi, ← h.act_back b hj, e]
theorem ltr_lt {n c : Nat} (hn : n ≤ 3) (h : c ∈ sgs n) : ltr c < n ∧ (c = 97 ∨ c = 65 ∨ c = 98 ∨ c = 66 ∨ c = 99 ∨ c = 67) := by
  have nn : n = 0 ∨ n = 1 ∨ n = 2 ∨ n = 3 := by omega
  rcases nn with rfl | rfl | rfl | rfl <;> simp [sgs] at h <;> rcases h with h | h <;> (try (rcases h with h | h)) <;> (try (rcases h with h | h)) <;> (try (rcases h with h | h)) <;> (try (rcases h with h | h)) <;> subst_vars <;> simp [ltr]
theorem IsTab.row_at {n d : Nat} {ps : List (List Nat)} (t : IsTab n d ps) {k : Nat} (hk : k < n) : IsP d (ps.getD k []) ∧ ps[k]? = some (ps.getD k []) := by
  have hp : k < ps.length := by rw [t.len]; exact hk
  rw [List.getD_eq_getElem?_getD, List.getElem?_eq_getElem hp]
  exact ⟨t.row _ (List.getElem_mem hp), rfl⟩
theorem IsTab.at1_lt {n d : Nat} {ps : List (List Nat)} (t : IsTab n d ps) (hn : n ≤ 3) {c i : Nat} (hc : c ∈ sgs n) (hi : i < d) : at1 ps i c < d :=
  (t.row_at (ltr_lt hn hc).1).1.act_lt _ hi
theorem IsTab.at1_inj {n d : Nat} {ps : List (List Nat)} (t : IsTab n d ps) (hn : n ≤ 3) {c i j : Nat} (hc : c ∈ sgs n) (hi : i < d) (hj : j < d) (e : at1 ps i c = at1 ps j c) : i = j :=
  (t.row_at (ltr_lt hn hc).1).1.act_inj _ hi hj e
theorem IsTab.atW_lt {n d : Nat} {ps : List (List Nat)} (t : IsTab n d ps) (hn : n ≤ 3) : ∀ {w : List Nat} {i : Nat}, (∀ c ∈ w, c ∈ sgs n) → i < d → atW ps i w < d
  | [], _, _, hi => hi
  | c :: w, i, hw, hi => t.atW_lt hn (w := w) (fun x hx => hw x (List.mem_cons_of_mem _ hx)) (t.at1_lt hn (hw c List.mem_cons_self) hi)
theorem IsTab.atW_inj {n d : Nat} {ps : List (List Nat)} (t : IsTab n d ps) (hn : n ≤ 3) : ∀ {w : List Nat} {i j : Nat}, (∀ c ∈ w, c ∈ sgs n) → i < d → j < d → atW ps i w = atW ps j w → i = j
  | [], _, _, _, _, _, e => e
  | c :: w, i, j, hw, hi, hj, e => by
    have hc := hw c List.mem_cons_self
    exact t.at1_inj hn hc hi hj (t.atW_inj hn (w := w) (fun x hx => hw x (List.mem_cons_of_mem _ hx)) (t.at1_lt hn hc hi) (t.at1_lt hn hc hj) e)
/-- the places to which a word leads the places -/
def mvW (ps : List (List Nat)) (d : Nat) (w : List Nat) : List Nat := (List.range d).map fun i => atW ps i w
theorem IsTab.mvW_p {n d : Nat} {ps : List (List Nat)} (t : IsTab n d ps) (hn : n ≤ 3) {w : List Nat} (hw : ∀ c ∈ w, c ∈ sgs n) : IsP d (mvW ps d w) := by
  refine ⟨by unfold mvW; rw [List.length_map, List.length_range], ?_, fun x hx => ?_⟩
  · unfold mvW
    refine List.pairwise_map.mpr ?_
    refine List.Pairwise.imp_of_mem (R := fun a b => a ≠ b) (fun {a b} ha hb ne e => ne (t.atW_inj hn hw (List.mem_range.mp ha) (List.mem_range.mp hb) e)) List.nodup_range
  · unfold mvW at hx
    obtain ⟨i, hi, rfl⟩ := List.mem_map.mp hx
    exact t.atW_lt hn hw (List.mem_range.mp hi)

/-! ### .index of a tuple of numbers -/
theorem firstI_idx (i : Nat) : ∀ (p : List Nat) (k : Nat), i ∈ p → firstI (fun z : Int => decide (z = (i : Int))) k (p.map fun (n : Nat) => (n : Int)) = some (k + p.idxOf i)
  | x :: r, k, h => by
    rw [List.map_cons]
    unfold firstI
    by_cases e : x = i
    · subst e
      simp
    · have : decide ((x : Int) = (i : Int)) = false := decide_eq_false (by omega)
      rw [this]
      have h' : i ∈ r := by
        rcases List.mem_cons.mp h with h | h
        · exact absurd h.symm e
        · exact h
      rw [firstI_idx i r (k + 1) h', List.idxOf_cons]
      have : (x == i) = false := by simpa using e
      rw [this]
      simp
      omega
theorem intsOf_nats : ∀ p : List Nat, intsOf (p.map nV) = some (p.map fun (n : Nat) => (n : Int))
  | [] => rfl
  | x :: r => by
    show intsOf (.int (x : Int) :: r.map nV) = _
    unfold intsOf
    rw [intsOf_nats r]; rfl
theorem idx_tup {A : Ex} {B : Ax} {l : Lo} {h : Hea} {p : List Nat} {i : Nat} (eA : A l h = .ok (pV p) h) (eB : B l h = .ok [nV i] h) (hi : i ∈ p) : idxE A B l h = .ok (nV (p.idxOf i)) h := by
  unfold idxE orTy isTyB vTy tmE
  rw [eA]
  simp only [Rs.bind]
  rw [eB]
  simp only [vIndexT, intsOf_nats, firstI_idx i p 0 hi]
  simp
theorem setL_nm (l : Lo) (i : Nat) (v : Va) : setL l [(i, v)] = l.set i (some v) := rfl
end Rf.N

/-! Rf: dicts: what is found behind a store, and frozen ones. -/
namespace Rf.N
open PySem PySem.Spec PyProof.Rows L2 Rf
theorem lk_put (k : Ke) (v : Va) (k' : Ke) : ∀ kvs : List (Ke × Va), lkK (ptK kvs k v) k' = if k.key = k'.key then some v else lkK kvs k' := by
  have mp : ∀ kvs : List (Ke × Va), lkK (mpK kvs k v) k' = if k.key = k'.key then (lkK kvs k).map (fun _ => v) else lkK kvs k' := by
    intro kvs
    induction kvs with
    | nil => by_cases e : k.key = k'.key <;> simp [mpK, lkK, e]
    | cons p r ih =>
      unfold mpK
      by_cases e : p.1.key = k.key
      · have q : keq p.1 k = true := by rw [keq_eq]; exact decide_eq_true e
        rw [q]
        unfold lkK
        by_cases e2 : k.key = k'.key
        · have q2 : keq p.1 k' = true := by rw [keq_eq]; exact decide_eq_true (e.trans e2)
          simp only [q2, q, e2, if_true]; rfl
        · have q2 : keq p.1 k' = false := by rw [keq_eq]; exact decide_eq_false (fun z => e2 (e.symm.trans z))
          simp only [q2, if_neg e2, ih]
      · have q : keq p.1 k = false := by rw [keq_eq]; exact decide_eq_false e
        rw [q]
        unfold lkK
        by_cases e3 : p.1.key = k'.key
        · have q3 : keq p.1 k' = true := by rw [keq_eq]; exact decide_eq_true e3
          have e2 : ¬ k.key = k'.key := fun z => e (e3.trans z.symm)
          simp only [q3, if_neg e2]
        · have q3 : keq p.1 k' = false := by rw [keq_eq]; exact decide_eq_false e3
          simp only [q3, q, ih]
  have ap : ∀ kvs : List (Ke × Va), lkK kvs k = none → lkK (kvs ++ [(k, v)]) k' = if k.key = k'.key then some v else lkK kvs k' := by
    intro kvs
    induction kvs with
    | nil =>
      intro _
      show lkK [(k, v)] k' = _
      unfold lkK
      by_cases e : k.key = k'.key
      · have q : keq k k' = true := by rw [keq_eq]; exact decide_eq_true e
        simp only [q, if_pos e]
      · have q : keq k k' = false := by rw [keq_eq]; exact decide_eq_false e
        simp only [q, if_neg e, lkK]
    | cons p r ih =>
      intro h
      unfold lkK at h
      cases q : keq p.1 k with
      | true => rw [q] at h; cases h
      | false =>
        rw [q] at h
        have e : ¬ p.1.key = k.key := by rw [keq_eq] at q; exact of_decide_eq_false q
        show lkK (p :: (r ++ [(k, v)])) k' = _
        unfold lkK
        by_cases e3 : p.1.key = k'.key
        · have q3 : keq p.1 k' = true := by rw [keq_eq]; exact decide_eq_true e3
          have e2 : ¬ k.key = k'.key := fun z => e (e3.trans z.symm)
          simp only [q3, if_neg e2]
        · have q3 : keq p.1 k' = false := by rw [keq_eq]; exact decide_eq_false e3
          simp only [q3, ih h]
  intro kvs
  unfold ptK
  cases e : lkK kvs k with
  | none => exact ap kvs e
  | some w => exact (mp kvs).trans (by rw [e]; rfl)
theorem put_len (kvs : List (Ke × Va)) (k : Ke) (v : Va) : (ptK kvs k v).length ≤ kvs.length + 1 := by
  unfold ptK
  split
  · rw [mpK_len]; omega
  · rw [List.length_append]; exact Nat.le_refl _
def IntsD (kvs : List (Ke × Va)) : Prop := ∀ p ∈ kvs, ∃ j : Nat, p.2 = nV j
theorem IntsD.put {kvs : List (Ke × Va)} (h : IntsD kvs) (k : Ke) (j : Nat) : IntsD (ptK kvs k (nV j)) := by
  have mp : ∀ kvs : List (Ke × Va), IntsD kvs → IntsD (mpK kvs k (nV j)) := by
    intro kvs
    induction kvs with
    | nil => exact fun h => h
    | cons p r ih =>
      intro h q hq
      unfold mpK at hq
      rcases List.mem_cons.mp hq with hq | hq
      · cases e : keq p.1 k with
        | true => rw [e] at hq; exact ⟨j, by rw [hq]⟩
        | false => rw [e] at hq; rw [hq]; exact h p List.mem_cons_self
      · exact ih (fun x hx => h x (List.mem_cons_of_mem _ hx)) q hq
  unfold ptK
  split
  · exact mp kvs h
  · intro q hq
    rcases List.mem_append.mp hq with hq | hq
    · exact h q hq
    · rw [List.mem_singleton.mp hq]; exact ⟨j, rfl⟩
theorem setA_dic {h : Hea} {i : Nat} {kvs : List (Ke × Va)} {k v : Va} {ke : Ke} (g : h.get i = some (.dic kvs)) (e : keV k = some ke) (few : kvs.length < 10000) : setA h (.ref i) k v = some (h.set i (.dic (ptK kvs ke v))) := by
  have big : 10000 ≤ sLine := by decide +kernel
  unfold setA dPut
  simp only [g, e]
  rw [if_pos (by omega)]
theorem fdOk_ints {kvs : List (Ke × Va)} (h : IntsD kvs) : fdOk (kvs.map (·.2)) = true := by
  have key : ∀ kvs : List (Ke × Va), IntsD kvs → noFds (kvs.map (·.2)) = true ∧ okVs 0 (kvs.map (·.2)) = true := by
    intro kvs
    induction kvs with
    | nil => exact fun _ => ⟨rfl, rfl⟩
    | cons p r ih =>
      intro h
      obtain ⟨j, ej⟩ := h p List.mem_cons_self
      obtain ⟨h1, h2⟩ := ih fun x hx => h x (List.mem_cons_of_mem _ hx)
      rw [List.map_cons, ej]
      refine ⟨?_, ?_⟩
      · show (match noFd (nV j) with | true => noFds (r.map (·.2)) | false => false) = true
        exact h1
      · show (okV 0 (nV j) && okVs 0 (r.map (·.2))) = true
        rw [h2]; rfl
  unfold fdOk
  rw [(key kvs h).1, (key kvs h).2]
/-- the frozen dict -/
def fdV (kvs : List (Ke × Va)) : Va := .fd (kvs.map (·.1)) (kvs.map (·.2))
theorem zip_split : ∀ kvs : List (Ke × Va), (kvs.map (·.1)).zip (kvs.map (·.2)) = kvs
  | [] => rfl
  | p :: r => by
    rw [List.map_cons, List.map_cons, List.zip_cons_cons, zip_split r]
theorem ixF_fd {h : Hea} {kvs : List (Ke × Va)} {s : List Nat} {j : Nat} (hi : IntsD kvs) (e : lkK kvs (.s s) = some (nV j)) : vIxF (fdV kvs) (.str s) h = .ok (nV j) h := by
  have d : vDix (.ref 0) (.str s) (fdHea (kvs.map (·.1)) (kvs.map (·.2))) = .ok (nV j) (fdHea (kvs.map (·.1)) (kvs.map (·.2))) := by
    unfold vDix dAt
    have g : (fdHea (kvs.map (·.1)) (kvs.map (·.2))).get 0 = some (.dlk kvs) := by
      unfold fdHea; rw [zip_split]; rfl
    simp only [g, keV, e]
  show fdA vDix (fdV kvs) (.str s) h = _
  unfold fdV fdA
  have p : plV (.str s) = true := rfl
  simp only [fdOk_ints hi, p, d]
  rfl
theorem fzV_dic {h : Hea} {i : Nat} {kvs : List (Ke × Va)} (g : h.get i = some (.dic kvs)) (hi : IntsD kvs) (n : Nat) : fzV h (n + 2) (.ref i) = some (fdV kvs) := by
  have key : ∀ kvs : List (Ke × Va), IntsD kvs → mapO (fzV h (n + 1)) (kvs.map (·.2)) = some (kvs.map (·.2)) := by
    intro kvs
    induction kvs with
    | nil => exact fun _ => rfl
    | cons p r ih =>
      intro h'
      obtain ⟨j, ej⟩ := h' p List.mem_cons_self
      rw [List.map_cons, ej]
      unfold mapO
      have e1 : fzV h (n + 1) (nV j) = some (nV j) := rfl
      rw [e1]
      simp only [ih fun x hx => h' x (List.mem_cons_of_mem _ hx)]
  unfold fzV
  simp only [g, key kvs hi]
  rfl
end Rf.N

/-! Rf: tests in dicts and lists, sets of numbers, comprehensions that choose. -/
namespace Rf.N
open PySem PySem.Spec PyProof.Rows L2 Rf
theorem dget_fd {A : Ex} {B : Ax} {l : Lo} {h : Hea} {kvs : List (Ke × Va)} {s : List Nat} {j : Nat} (eA : A l h = .ok (fdV kvs) h) (eB : B l h = .ok [.str s] h) (hi : IntsD kvs) (e : lkK kvs (.s s) = some (nV j)) : dmF vDget A B l h = .ok (nV j) h := by
  have d : vDget (.ref 0) [.str s] (fdHea (kvs.map (·.1)) (kvs.map (·.2))) = .ok (nV j) (fdHea (kvs.map (·.1)) (kvs.map (·.2))) := by
    have g : dAt (fdHea (kvs.map (·.1)) (kvs.map (·.2))) 0 (.str s) = some (some (nV j)) := by
      unfold dAt
      have g : (fdHea (kvs.map (·.1)) (kvs.map (·.2))).get 0 = some (.dlk kvs) := by
        unfold fdHea; rw [zip_split]; rfl
      simp only [g, keV, e]
    unfold vDget
    simp only [g]
    rfl
  have m : fdM vDget (fdV kvs) [.str s] h = .ok (nV j) h := by
    unfold fdV fdM
    have p : plVs [.str s] = true := rfl
    simp only [fdOk_ints hi, p, d]
    rfl
  have f : isDF h (fdV kvs) = true := fdOk_ints hi
  unfold dmF
  rw [eA]
  simp only [Rs.bind, f]
  rw [eB]
  exact m
theorem notin_dic {h : Hea} {i x : Nat} {kvs : List (Ke × Va)} (g : h.get i = some (.dic kvs)) : fdB vNotIn (nV x) (.ref i) h = .ok (.bl (!(lkK kvs (.i x)).isSome)) h := by
  show vNotIn (nV x) (.ref i) h = _
  unfold vNotIn inB dAt
  simp only [g, keV]
theorem vq_nat (h : Hea) (x y : Nat) : vq h 19 (nV x) (nV y) = decide (x = y) := by
  have e : vq h 19 (.int x) (.int y) = decide ((x : Int) = y) := by
    unfold vq view PyData.eqv
    first | rfl | (simp; done) | (by_cases q : (x : Int) = y <;> simp [q])
  rw [e]
  by_cases q : x = y
  · rw [decide_eq_true q, decide_eq_true (by omega)]
  · rw [decide_eq_false q, decide_eq_false (by omega)]
theorem inSq_nat (h : Hea) (x : Nat) (F : List Nat) : inSq h (nV x) (F.map nV) = some (F.contains x) := by
  have d : ∀ y : Nat, dOk h 19 (nV y) = true := fun y => rfl
  unfold inSq
  have al : (F.map nV).all (dOk h 19) = true := by
    rw [List.all_eq_true]
    intro z hz
    obtain ⟨y, _, rfl⟩ := List.mem_map.mp hz
    exact d y
  have tt : (true && true) = true := rfl
  rw [d, al, if_pos tt]
  congr 1
  clear al
  induction F with
  | nil => rfl
  | cons y r ih =>
    rw [List.map_cons, List.any_cons, vq_nat, ih, List.contains_cons]
    congr 1
    by_cases q : y = x
    · subst q; simp
    · have : ¬ x = y := fun z => q z.symm
      simp [q, this]
theorem notin_fl {h : Hea} {x : Nat} {F : List Nat} : fdB vNotIn (nV x) (.fl (F.map nV)) h = .ok (.bl (!F.contains x)) h := by
  show vNotIn (nV x) (.fl (F.map nV)) h = _
  unfold vNotIn inB
  simp only [inSq_nat]
def mkN : Nat → List Nat → List (Ke × Va)
  | _, [] => []
  | k, x :: r => (.i x, nV k) :: mkN (k + 1) r
theorem mkN_snoc : ∀ (o : List Nat) (k x : Nat), mkN k (o ++ [x]) = mkN k o ++ [(.i x, nV (k + o.length))]
  | [], k, x => rfl
  | y :: r, k, x => by
    show (Ke.i y, nV k) :: mkN (k + 1) (r ++ [x]) = (Ke.i y, nV k) :: (mkN (k + 1) r ++ [(.i x, nV (k + (r.length + 1)))])
    rw [mkN_snoc r (k + 1) x]
    have : k + 1 + r.length = k + (r.length + 1) := by omega
    rw [this]
theorem mkN_has : ∀ (o : List Nat) (k x : Nat), (lkK (mkN k o) (.i x)).isSome = o.contains x
  | [], _, _ => rfl
  | y :: r, k, x => by
    show (lkK ((Ke.i y, nV k) :: mkN (k + 1) r) (.i x)).isSome = _
    unfold lkK
    have ke : keq (.i y) (.i x) = decide ((y : Int) = x) := rfl
    rw [List.contains_cons]
    by_cases q : y = x
    · subst q
      simp [ke]
    · have : ¬ ((y : Int) = x) := by omega
      have q2 : (x == y) = false := by simpa using fun z : x = y => q z.symm
      simp only [ke, decide_eq_false this, q2, Bool.false_or]
      exact mkN_has r (k + 1) x
theorem mkN_len : ∀ (o : List Nat) (k : Nat), (mkN k o).length = o.length
  | [], _ => rfl
  | y :: r, k => by show (mkN (k + 1) r).length + 1 = r.length + 1; rw [mkN_len r]
theorem mkN_nums : ∀ (o : List Nat) (k : Nat), IntsD (mkN k o)
  | [], _, _, h => absurd h List.not_mem_nil
  | y :: r, k, p, h => by
    rcases List.mem_cons.mp h with rfl | h
    · exact ⟨k, rfl⟩
    · exact mkN_nums r (k + 1) p h
theorem mkN_put {o : List Nat} {x : Nat} (h : x ∉ o) : ptK (mkN 0 o) (.i x) (nV o.length) = mkN 0 (o ++ [x]) := by
  have : lkK (mkN 0 o) (.i x) = none := by
    have := mkN_has o 0 x
    cases e : lkK (mkN 0 o) (.i x) with
    | none => rfl
    | some v =>
      rw [e] at this
      have h2 : o.contains x = false := by simpa using h
      rw [h2] at this; cases this
  unfold ptK
  rw [this, mkN_snoc, Nat.zero_add]

/-! ### sets of numbers -/
theorem intsOf_map (ns : List Int) : intsOf (ns.map .int) = some ns := by
  induction ns with
  | nil => rfl
  | cons x r ih => simp only [List.map_cons, intsOf, ih]; rfl
/-- sorted(set(F)): those of F, no two alike -/
theorem sortedSet_ok {A : Ex} {l : Lo} {h : Hea} {F : List Nat} (e : A l h = .ok (.fl (F.map nV)) h) (few : F.length < 60) :
    ∃ S : List Nat, ∃ h', callE (fzC (fn1 vSortedS)) (aCons (callE (fn1 vSet) (aCons A aNil)) aNil) l h = .ok (.fl (S.map nV)) h' ∧ S.Nodup ∧ (∀ x, x ∈ S ↔ x ∈ F) := by
  have e1 : callE (fn1 vSet) (aCons A aNil) l h = .ok (.ref h.n) (h.push (.st (ddI (F.map fun (n : Nat) => (n : Int))))) := by
    refine (callE_ok (call1 e)).trans ?_
    show vSet (.fl (F.map nV)) h = _
    unfold vSet lstV
    simp only [intsOf_nats]
    rw [if_pos (by rw [List.length_map]; omega)]
  have dl : ∀ ns : List Int, (ddI ns).length ≤ ns.length := fun ns => List.Nodup.length_le_of_subset (nodup_ddI ns) fun x hx => mem_ddI.mp hx
  have back : ∀ ns : List Int, (∀ x ∈ ns, 0 ≤ x) → ∃ S : List Nat, S.map (fun (n : Nat) => (n : Int)) = ns := fun ns h => by
    refine ⟨ns.map Int.toNat, ?_⟩
    rw [List.map_map]
    conv => rhs; rw [← List.map_id ns]
    exact List.map_congr_left fun x hx => Int.toNat_of_nonneg (h x hx)
  obtain ⟨S, eS⟩ := back (isortI (ddI (ddI (F.map fun (n : Nat) => (n : Int))))) fun x hx => by
    have h1 : x ∈ F.map fun (n : Nat) => (n : Int) := mem_ddI.mp (mem_ddI.mp ((isortI_perm _).mem_iff.mp hx))
    obtain ⟨y, _, rfl⟩ := List.mem_map.mp h1
    omega
  have mem : ∀ x : Nat, x ∈ S ↔ x ∈ F := fun x => by
    have h1 : x ∈ S ↔ (x : Int) ∈ S.map (fun (n : Nat) => (n : Int)) := by
      constructor
      · intro h; exact List.mem_map.mpr ⟨x, h, rfl⟩
      · intro h
        obtain ⟨y, hy, e⟩ := List.mem_map.mp h
        have : y = x := by omega
        rw [← this]; exact hy
    rw [h1, eS, (isortI_perm _).mem_iff, mem_ddI, mem_ddI]
    constructor
    · intro h
      obtain ⟨y, hy, e⟩ := List.mem_map.mp h
      have : y = x := by omega
      rw [← this]; exact hy
    · intro h; exact List.mem_map.mpr ⟨x, h, rfl⟩
  have nd : S.Nodup := by
    have : (S.map (fun (n : Nat) => (n : Int))).Nodup := by
      rw [eS]; exact (isortI_perm _).nodup_iff.mpr (nodup_ddI _)
    exact (List.pairwise_map.mp this).imp fun h e => h (by rw [e])
  refine ⟨S, h.push (.st (ddI (F.map fun (n : Nat) => (n : Int)))), (callE_ok (call1 e1)).trans ?_, nd, mem⟩
  have sv : setV (h.push (.st (ddI (F.map fun (n : Nat) => (n : Int))))) (.ref h.n) = some (ddI (ddI (F.map fun (n : Nat) => (n : Int)))) := by
    unfold setV
    simp only [Hea.get_push_self]
  have ss : (isortI (ddI (ddI (F.map fun (n : Nat) => (n : Int))))).map Va.int = S.map nV := by
    rw [← eS, List.map_map]; rfl
  have few2 : (ddI (ddI (F.map fun (n : Nat) => (n : Int)))).length < 64 := by
    have h1 := dl (ddI (F.map fun (n : Nat) => (n : Int)))
    have h2 := dl (F.map fun (n : Nat) => (n : Int))
    rw [List.length_map] at h2
    omega
  have vs : fn1 vSortedS [.ref h.n] (h.push (.st (ddI (F.map fun (n : Nat) => (n : Int))))) = .ok (.ref (h.n + 1)) ((h.push (.st (ddI (F.map fun (n : Nat) => (n : Int))))).push (.lst (S.map nV))) := by
    show vSortedS (.ref h.n) _ = _
    unfold vSortedS
    simp only [sv]
    rw [if_pos few2, ss]
    rfl
  unfold fzC
  rw [vs]
  show (match okVs (h.n + 1) (S.map nV) with
    | true => Rs.ok (Va.fl (S.map nV)) (h.push (.st (ddI (F.map fun (n : Nat) => (n : Int)))))
    | false => .no) = _
  rw [okVs_nats]
theorem lenSet_ok {A : Ex} {l : Lo} {h : Hea} {F : List Nat} (e : A l h = .ok (.fl (F.map nV)) h) (few : F.length < 60) (nd : F.Nodup) : ∃ h', callE (fn1 vLenS) (aCons (callE (fn1 vSet) (aCons A aNil)) aNil) l h = .ok (nV F.length) h' := by
  have e1 : callE (fn1 vSet) (aCons A aNil) l h = .ok (.ref h.n) (h.push (.st (ddI (F.map fun (n : Nat) => (n : Int))))) := by
    refine (callE_ok (call1 e)).trans ?_
    show vSet (.fl (F.map nV)) h = _
    unfold vSet lstV
    simp only [intsOf_nats]
    rw [if_pos (by rw [List.length_map]; omega)]
  refine ⟨h.push (.st (ddI (F.map fun (n : Nat) => (n : Int)))), (callE_ok (call1 e1)).trans ?_⟩
  have sv : setV (h.push (.st (ddI (F.map fun (n : Nat) => (n : Int))))) (.ref h.n) = some (ddI (ddI (F.map fun (n : Nat) => (n : Int)))) := by
    unfold setV
    simp only [Hea.get_push_self]
  show vLenS (.ref h.n) _ = _
  unfold vLenS
  simp only [sv]
  have nd2 : (F.map fun (n : Nat) => (n : Int)).Nodup := List.pairwise_map.mpr (nd.imp fun h e => h (by omega))
  have p : (ddI (ddI (F.map fun (n : Nat) => (n : Int)))).Perm (F.map fun (n : Nat) => (n : Int)) := perm_of_mem (nodup_ddI _) nd2 fun k => by rw [mem_ddI, mem_ddI]
  rw [p.length_eq, List.length_map]

/-! ### comprehensions that choose -/
theorem lcF_filter {I : Ix} {xs : List Va} {i : Nat} {vs : List Nat} {T : Tx} {E : Ex} {l : Lo} {h h1 : Hea} (q : Va → Bool) (f : Va → Va) (eI : I l h = .ok (.vals xs) h1) (few : xs.length < 100000)
    (hT : ∀ x ∈ xs, T ((wipeL l vs).set i (some x)) h1 = .ok (q x) h1) (hE : ∀ x ∈ xs, q x = true → E ((wipeL l vs).set i (some x)) h1 = .ok (f x) h1) : lcF I (.nm i) vs T E l h = .ok (.fl ((xs.filter q).map f)) h1 := by
  have hs : xs.length < sLine := Nat.lt_of_lt_of_le few (by decide +kernel)
  have key : ∀ m k, k + m = xs.length → ∀ fuel, m < fuel → lcFS (.vals xs) (.nm i) (wipeL l vs) T E fuel k (((xs.take k).filter q).map f) h1 = .ok (.fl ((xs.filter q).map f)) h1 := by
    intro m
    induction m with
    | zero =>
      intro k e fuel hf
      match fuel, hf with
      | fuel + 1, _ =>
        have e : k = xs.length := e
        subst e
        unfold lcFS
        have : stp h1 xs.length (.vals xs) = some none := by
          show some xs[xs.length]? = _
          rw [List.getElem?_eq_none (Nat.le_refl _)]
        rw [this, List.take_length]
    | succ m ih =>
      intro k e fuel hf
      match fuel, hf with
      | fuel + 1, hf =>
        have hk : k < xs.length := by omega
        have e1 : xs[k]? = some xs[k] := List.getElem?_eq_getElem hk
        have mem := List.getElem_mem hk
        have nx := ih (k + 1) (by omega) fuel (by omega)
        rw [List.take_add_one, e1, List.filter_append, List.map_append] at nx
        unfold lcFS
        have s : stp h1 k (.vals xs) = some (some xs[k]) := by
          show some xs[k]? = _
          rw [e1]
        have small : (((xs.take k).filter q).map f).length < sLine := by
          rw [List.length_map]
          have h1 := List.length_filter_le q (xs.take k)
          rw [List.length_take] at h1
          omega
        simp only [s, bnd, setL, hT _ mem, Rs.solid, Rs.bind]
        cases c : q xs[k] with
        | true =>
          simp only [if_true, hE _ mem c]
          rw [if_pos small]
          have : (([xs[k]] : List Va).filter q).map f = [f xs[k]] := by simp [c]
          have e2 : (some xs[k]).toList = [xs[k]] := rfl
          rw [e2, this] at nx
          exact nx
        | false =>
          have : (([xs[k]] : List Va).filter q).map f = [] := by simp [c]
          have e2 : (some xs[k]).toList = [xs[k]] := rfl
          rw [e2, this, List.append_nil] at nx
          simp only [Bool.false_eq_true, if_false]
          exact nx
  have hb : 100000 ≤ bigN := bigN_le
  have k0 := key xs.length 0 (by omega) bigN (by omega)
  have z : ((xs.take 0).filter q).map f = [] := by rw [List.take_zero]; rfl
  rw [z] at k0
  unfold lcF
  rw [eI]
  exact k0
theorem append_ok {A B : Ex} {l : Lo} {h : Hea} {i : Nat} {zs : List Va} {y : Va} (eA : A l h = .ok (.ref i) h) (eB : B l h = .ok y h) (g : h.get i = some (.lst zs)) (few : zs.length < 10000) : methE .list vAppend A (aCons B aNil) l h = .ok .non (h.set i (.lst (zs ++ [y]))) := by
  have big : 10000 ≤ sLine := by decide +kernel
  unfold methE
  rw [eA]
  have t : vTy h (.ref i) = some .list := by unfold vTy; simp only [g]
  simp only [Rs.bind, t, if_true]
  rw [call1 eB]
  show vAppend (.ref i) [y] h = _
  unfold vAppend
  simp only [g]
  rw [if_pos (by omega)]
theorem addF_ok {h : Hea} {xs ys : List Va} (few : xs.length + ys.length < 10000) : vAddF (.fl xs) (.fl ys) h = .ok (.fl (xs ++ ys)) h := by
  have big : 10000 ≤ sLine := by decide +kernel
  unfold vAddF lstV
  simp only []
  rw [if_pos (by omega)]
end Rf.N

namespace LK
open PySem PySem.Spec PyProof.Rows L2 Rf
def topS (i : Nat) : Stmt := PySem.Challenge.pw_wholefree_k73_tables_and_words.main.body.getD i (.Pass ⟨0, 0, 0, 0⟩)
/-! ### is_integer -/
abbrev s_is_integer : Stmt := topS 7
abbrev N_is_integer : List Str := ["value"]
theorem sc_is_integer : FnScope N_is_integer ["value"] (defScope s_is_integer) := ⟨rfl, rfl, rfl, by decide +kernel, rfl, by decide +kernel, by decide +kernel⟩
def bd_is_integer : Sx := (sRet (vAnd (instE [.int] (vr 0)) (vNot (instE [.bool] (vr 0)))))
def m_is_integer : Fn := fnM 1 bd_is_integer
theorem ok_is_integer {P : Program} {w : World} {K : PySem.W.Frag} {mg : Str → Option Value} {base : Heap} {f : Addr} {fd : FuncData} (b_isinstance : mg "isinstance" = none) (b_int : mg "int" = none) (b_bool : mg "bool" = none) (F : Fun K "is_integer" "is_integer" s_is_integer f fd) (hm : mg "is_integer" = some (.ref f)) : Callee P w K mg base "is_integer" s_is_integer ["value"] 1 m_is_integer :=
  Callee.mk' (k := 0) F hm sc_is_integer rfl (by decide) (fun _ _ _ _ _ _ us hl => match us, hl with | [_], _ => rfl) fun cdv A outer s H E hr => by
  have nd : List.Nodup N_is_integer := sc_is_integer.nd
  have hu := hu65 hr
  exact (sxs_one (sx_ret (ex_and (ex_inst .int (by rfl) b_isinstance (ex_var 0 (pv 0)) (by rfl) b_int (by decide +kernel)) (ex_one (ex_not (ex_inst .bool (by rfl) b_isinstance (ex_var 0 (pv 0)) (by rfl) b_bool (by decide +kernel)))))))
/-! ### is_natural -/
abbrev s_is_natural : Stmt := topS 8
abbrev N_is_natural : List Str := ["value"]
theorem sc_is_natural : FnScope N_is_natural ["value"] (defScope s_is_natural) := ⟨rfl, rfl, rfl, by decide +kernel, rfl, by decide +kernel, by decide +kernel⟩
def bd_is_natural : Sx := (sRet (vAnd (callG 1 m_is_integer (aCons (vr 0) aNil)) (op2 vGe (vr 0) (cV (.int 0)))))
def m_is_natural : Fn := fnM 1 bd_is_natural
theorem ok_is_natural {P : Program} {w : World} {K : PySem.W.Frag} {mg : Str → Option Value} {base : Heap} {f : Addr} {fd : FuncData} (c_is_integer : Callee P w K mg base "is_integer" s_is_integer ["value"] 1 m_is_integer) (F : Fun K "is_natural" "is_natural" s_is_natural f fd) (hm : mg "is_natural" = some (.ref f)) : Callee P w K mg base "is_natural" s_is_natural ["value"] 2 m_is_natural :=
  Callee.mk' (k := 1) F hm sc_is_natural rfl (by decide) (fun _ _ _ _ _ _ us hl => match us, hl with | [_], _ => rfl) fun cdv A outer s H E hr => by
  have nd : List.Nodup N_is_natural := sc_is_natural.nd
  have hu := hu65 hr
  exact (sxs_one (sx_ret (ex_and (ex_callG c_is_integer (hr.mono (by decide)) (by rfl) (ax_cons (ex_var 0 (pv 0)) ax_nil)) (ex_one (ex_ge (ex_var 0 (pv 0)) ex_int)))))
/-! ### is_size -/
abbrev s_is_size : Stmt := topS 9
abbrev N_is_size : List Str := ["value"]
theorem sc_is_size : FnScope N_is_size ["value"] (defScope s_is_size) := ⟨rfl, rfl, rfl, by decide +kernel, rfl, by decide +kernel, by decide +kernel⟩
def bd_is_size : Sx := (sRet (vAnd (callG 1 m_is_integer (aCons (vr 0) aNil)) (chn vLe vLe (cV (.int 1)) (vr 0) (callE (fn1 vLenF) (aCons (cV (.str [97, 98, 99, 100, 101, 102, 103, 104, 105, 106, 107, 108, 109, 110, 111, 112, 113, 114, 115, 116, 117, 118, 119, 120, 121, 122])) aNil)))))
def m_is_size : Fn := fnM 1 bd_is_size
theorem ok_is_size {P : Program} {w : World} {K : PySem.W.Frag} {mg : Str → Option Value} {base : Heap} {f : Addr} {fd : FuncData} (c_is_integer : Callee P w K mg base "is_integer" s_is_integer ["value"] 1 m_is_integer) (b_len : mg "len" = none) {t_ALPHABET : Tok} (g_ALPHABET : mg "ALPHABET" = some (.str "abcdefghijklmnopqrstuvwxyz" t_ALPHABET)) (F : Fun K "is_size" "is_size" s_is_size f fd) (hm : mg "is_size" = some (.ref f)) : Callee P w K mg base "is_size" s_is_size ["value"] 2 m_is_size :=
  Callee.mk' (k := 1) F hm sc_is_size rfl (by decide) (fun _ _ _ _ _ _ us hl => match us, hl with | [_], _ => rfl) fun cdv A outer s H E hr => by
  have nd : List.Nodup N_is_size := sc_is_size.nd
  have hu := hu65 hr
  exact (sxs_one (sx_ret (ex_and (ex_callG c_is_integer (hr.mono (by decide)) (by rfl) (ax_cons (ex_var 0 (pv 0)) ax_nil)) (ex_one (ex_leLe ex_int (ex_var 0 (pv 0)) (ex_lenF (by rfl) b_len (ex_gstr (by rfl) g_ALPHABET rfl)))))))
/-! ### check_size -/
abbrev s_check_size : Stmt := topS 10
abbrev N_check_size : List Str := ["size"]
theorem sc_check_size : FnScope N_check_size ["size"] (defScope s_check_size) := ⟨rfl, rfl, rfl, by decide +kernel, rfl, by decide +kernel, by decide +kernel⟩
def bd_check_size : Sx := (sIf (tNot (trB (callG 1 m_is_size (aCons (vr 0) aNil)))) sNever sNil)
def m_check_size : Fn := fnM 1 bd_check_size
theorem ok_check_size {P : Program} {w : World} {K : PySem.W.Frag} {mg : Str → Option Value} {base : Heap} {f : Addr} {fd : FuncData} (c_is_size : Callee P w K mg base "is_size" s_is_size ["value"] 2 m_is_size) (F : Fun K "check_size" "check_size" s_check_size f fd) (hm : mg "check_size" = some (.ref f)) : Callee P w K mg base "check_size" s_check_size ["size"] 3 m_check_size :=
  Callee.mk' (k := 2) F hm sc_check_size rfl (by decide) (fun _ _ _ _ _ _ us hl => match us, hl with | [_], _ => rfl) fun cdv A outer s H E hr => by
  have nd : List.Nodup N_check_size := sc_check_size.nd
  have hu := hu65 hr
  exact (sxs_one (sx_if (tx_not (tx_truth (ex_callG c_is_size (hr.mono (by decide)) (by rfl) (ax_cons (ex_var 0 (pv 0)) ax_nil)))) (sxs_one sx_never) sxs_nil))
/-! ### is_word_of -/
abbrev s_is_word_of : Stmt := topS 11
abbrev N_is_word_of : List Str := ["size", "value", "sign"]
theorem sc_is_word_of : FnScope N_is_word_of ["size", "value"] (defScope s_is_word_of) := ⟨rfl, rfl, rfl, by decide +kernel, rfl, by decide +kernel, by decide +kernel⟩
def bd_is_word_of : Sx := (sRet (vAnd (instE [.str] (vr 1)) (callE (fn1 vAll) (aCons (lcF (iVal (vr 1)) (.nm 2) [2] tTrue (op2 (fdB vIn) (methE .str vLower (vr 2) aNil) (slF (cV (.str [97, 98, 99, 100, 101, 102, 103, 104, 105, 106, 107, 108, 109, 110, 111, 112, 113, 114, 115, 116, 117, 118, 119, 120, 121, 122])) noPart (aPart (vr 0))))) aNil))))
def m_is_word_of : Fn := fnM 3 bd_is_word_of
theorem ok_is_word_of {P : Program} {w : World} {K : PySem.W.Frag} {mg : Str → Option Value} {base : Heap} {f : Addr} {fd : FuncData} (b_isinstance : mg "isinstance" = none) (b_str : mg "str" = none) (b_all : mg "all" = none) {t_ALPHABET : Tok} (g_ALPHABET : mg "ALPHABET" = some (.str "abcdefghijklmnopqrstuvwxyz" t_ALPHABET)) (F : Fun K "is_word_of" "is_word_of" s_is_word_of f fd) (hm : mg "is_word_of" = some (.ref f)) : Callee P w K mg base "is_word_of" s_is_word_of ["size", "value"] 1 m_is_word_of :=
  Callee.mk' (k := 0) F hm sc_is_word_of rfl (by decide) (fun _ _ _ _ _ _ us hl => match us, hl with | [_, _], _ => rfl) fun cdv A outer s H E hr => by
  have nd : List.Nodup N_is_word_of := sc_is_word_of.nd
  have hu := hu65 hr
  exact (sxs_one (sx_ret (ex_and (ex_inst .str (by rfl) b_isinstance (ex_var 1 (pv 1)) (by rfl) b_str (by decide +kernel)) (ex_one (ex_all rfl (by rfl) b_all (ex_lcF (own := [("sign", 2)]) [2] rfl rfl nd (ix_val (ex_var 1 (pv 1))) (blkOk_by (N := N_is_word_of) (sc := defScope s_is_word_of) (by decide +kernel)) (by decide) (fun _ _ _ _ _ => (gx_name 2 (pg_name (i := 2) nd rfl (by first | exact Or.inl rfl | exact Or.inr rfl)))) (fun _ _ _ _ _ => tsx_nil) (fun _ _ _ _ _ => (ex_inF hu (ex_lower (ex_var 2 (pv 2))) (ex_sliceF (ex_gstr (by rfl) g_ALPHABET rfl) px_none (px_some (ex_var 0 (pv 0))))))))))))
/-! ### check_word -/
abbrev s_check_word : Stmt := topS 12
abbrev N_check_word : List Str := ["size", "word"]
theorem sc_check_word : FnScope N_check_word ["size", "word"] (defScope s_check_word) := ⟨rfl, rfl, rfl, by decide +kernel, rfl, by decide +kernel, by decide +kernel⟩
def bd_check_word : Sx := (sIf (tNot (trB (callG 2 m_is_word_of (aCons (vr 0) (aCons (vr 1) aNil))))) sNever sNil)
def m_check_word : Fn := fnM 2 bd_check_word
theorem ok_check_word {P : Program} {w : World} {K : PySem.W.Frag} {mg : Str → Option Value} {base : Heap} {f : Addr} {fd : FuncData} (c_is_word_of : Callee P w K mg base "is_word_of" s_is_word_of ["size", "value"] 1 m_is_word_of) (F : Fun K "check_word" "check_word" s_check_word f fd) (hm : mg "check_word" = some (.ref f)) : Callee P w K mg base "check_word" s_check_word ["size", "word"] 2 m_check_word :=
  Callee.mk' (k := 1) F hm sc_check_word rfl (by decide) (fun _ _ _ _ _ _ us hl => match us, hl with | [_, _], _ => rfl) fun cdv A outer s H E hr => by
  have nd : List.Nodup N_check_word := sc_check_word.nd
  have hu := hu65 hr
  exact (sxs_one (sx_if (tx_not (tx_truth (ex_callG c_is_word_of (hr.mono (by decide)) (by rfl) (ax_cons (ex_var 0 (pv 0)) (ax_cons (ex_var 1 (pv 1)) ax_nil))))) (sxs_one sx_never) sxs_nil))
/-! ### signs_of -/
abbrev s_signs_of : Stmt := topS 14
abbrev N_signs_of : List Str := ["size", "letter"]
theorem sc_signs_of : FnScope N_signs_of ["size"] (defScope s_signs_of) := ⟨rfl, rfl, rfl, by decide +kernel, rfl, by decide +kernel, by decide +kernel⟩
def bd_signs_of : Sx := (sRet (methE .str vJoin (cV (.str [])) (aCons (lcF (iVal (slF (cV (.str [97, 98, 99, 100, 101, 102, 103, 104, 105, 106, 107, 108, 109, 110, 111, 112, 113, 114, 115, 116, 117, 118, 119, 120, 121, 122])) noPart (aPart (vr 0)))) (.nm 1) [1] tTrue (op2 vAddF (vr 1) (methE .str vUpper (vr 1) aNil))) aNil)))
def m_signs_of : Fn := fnM 2 bd_signs_of
theorem ok_signs_of {P : Program} {w : World} {K : PySem.W.Frag} {mg : Str → Option Value} {base : Heap} {f : Addr} {fd : FuncData} {t_ALPHABET : Tok} (g_ALPHABET : mg "ALPHABET" = some (.str "abcdefghijklmnopqrstuvwxyz" t_ALPHABET)) (F : Fun K "signs_of" "signs_of" s_signs_of f fd) (hm : mg "signs_of" = some (.ref f)) : Callee P w K mg base "signs_of" s_signs_of ["size"] 1 m_signs_of :=
  Callee.mk' (k := 0) F hm sc_signs_of rfl (by decide) (fun _ _ _ _ _ _ us hl => match us, hl with | [_], _ => rfl) fun cdv A outer s H E hr => by
  have nd : List.Nodup N_signs_of := sc_signs_of.nd
  have hu := hu65 hr
  exact (sxs_one (sx_ret (ex_join (ex_str (s := []) rfl) (ax_cons (ex_lcF (own := [("letter", 1)]) [1] rfl rfl nd (ix_val (ex_sliceF (ex_gstr (by rfl) g_ALPHABET rfl) px_none (px_some (ex_var 0 (pv 0))))) (blkOk_by (N := N_signs_of) (sc := defScope s_signs_of) (by decide +kernel)) (by decide) (fun _ _ _ _ _ => (gx_name 1 (pg_name (i := 1) nd rfl (by first | exact Or.inl rfl | exact Or.inr rfl)))) (fun _ _ _ _ _ => tsx_nil) (fun _ _ _ _ _ => (ex_addF (ex_var 1 (pv 1)) (ex_upper (ex_var 1 (pv 1)))))) ax_nil))))
/-! ### met_from -/
abbrev s_met_from : Stmt := topS 16
abbrev N_met_from : List Str := ["size", "rows", "root", "number", "order", "at", "sign", "end"]
theorem sc_met_from : FnScope N_met_from ["size", "rows", "root"] (defScope s_met_from) := ⟨rfl, rfl, rfl, by decide +kernel, rfl, by decide +kernel, by decide +kernel⟩
def bd_met_from : Sx := (sSeq (sPar [3, 4, 5] (aCons (dispE [((vr 2), (cV (.int 0)))]) (aCons (lstE (aCons (vr 2) aNil)) (aCons (cV (.int 0)) aNil))))
  (sSeq (whileS (isB (op2 vLt (vr 5) (callE (fn1 vLenF) (aCons (vr 4) aNil)))) (sSeq (sFor (iVal (callG 1 m_signs_of (aCons (vr 0) aNil))) (.nm 6) (sSeq (sSet 7 (dmF vDget (op2 vIxF (vr 1) (op2 vIxF (vr 4) (vr 5))) (aCons (vr 6) aNil)))
  (sIf (tAnd (isB (op2 vIsNot (vr 7) (cV .non))) (isB (op2 (fdB vNotIn) (vr 7) (vr 3)))) (sSeq (stA (vr 3) (vr 7) (callE (fn1 vLenF) (aCons (vr 4) aNil)))
  (sDrop (methE .list vAppend (vr 4) (aCons (vr 7) aNil)))) sNil)))
  (sAug 5 vIAdd (cV (.int 1)))) bigN)
  (sRet (vr 3))))
def m_met_from : Fn := fnM 8 bd_met_from
theorem ok_met_from {P : Program} {w : World} {K : PySem.W.Frag} {mg : Str → Option Value} {base : Heap} {f : Addr} {fd : FuncData} (c_signs_of : Callee P w K mg base "signs_of" s_signs_of ["size"] 1 m_signs_of) (b_len : mg "len" = none) (F : Fun K "met_from" "met_from" s_met_from f fd) (hm : mg "met_from" = some (.ref f)) : Callee P w K mg base "met_from" s_met_from ["size", "rows", "root"] 2 m_met_from :=
  Callee.mk' (k := 1) F hm sc_met_from rfl (by decide) (fun _ _ _ _ _ _ us hl => match us, hl with | [_, _, _], _ => rfl) fun cdv A outer s H E hr => by
  have nd : List.Nodup N_met_from := sc_met_from.nd
  have hu := hu65 hr
  exact (sxs_cons (sx_par3 (i := 3) (j := 4) (k := 5) rfl nd rfl rfl rfl (by decide) (by decide) (by decide) rfl rfl rfl (ax_cons (ex_disp (ppx_cons (ex_var 2 (pv 2)) ex_int ppx_nil)) (ax_cons (ex_lst (ax_cons (ex_var 2 (pv 2)) ax_nil)) (ax_cons ex_int ax_nil))))
  (sxs_cons (sx_while PassesOwn.never (tx_lt (ex_var 5 (pv 5)) (ex_lenF (by rfl) b_len (ex_var 4 (pv 4)))) (sxs_cons (sx_for PassesOwn.never rfl (ix_val (ex_callG c_signs_of (hr.mono (by decide)) (by rfl) (ax_cons (ex_var 0 (pv 0)) ax_nil))) (gx_name 6 (pg_name (i := 6) nd rfl (by first | exact Or.inl rfl | exact Or.inr rfl))) (sxs_cons (sx_set 7 (fun te h => ps_set (i := 7) nd rfl (by first | exact Or.inl rfl | exact Or.inr rfl) h) (ex_dgetF hu (ex_ixF hu (ex_var 1 (pv 1)) (ex_ixF hu (ex_var 4 (pv 4)) (ex_var 5 (pv 5)))) (ax_cons (ex_var 6 (pv 6)) ax_nil)))
  (sxs_one (sx_if (tx_w (wx_and (tx_isNot (ex_var 7 (pv 7)) ex_non) (wx_and1 (tx_notInF hu (ex_var 7 (pv 7)) (ex_var 3 (pv 3)))))) (sxs_cons (sx_stA hu (ex_var 3 (pv 3)) (ex_var 7 (pv 7)) (ex_lenF (by rfl) b_len (ex_var 4 (pv 4))))
  (sxs_one (sx_expr (ex_append (ex_var 4 (pv 4)) (ax_cons (ex_var 7 (pv 7)) ax_nil))))) sxs_nil))))
  (sxs_one (sx_aug 5 (fun te h => ps_aug (i := 5) nd rfl (by first | exact Or.inl rfl | exact Or.inr rfl) h ip_addA) s_iadd ex_int))))
  (sxs_one (sx_ret (ex_var 3 (pv 3))))))
/-! ### is_permutation -/
abbrev s_is_permutation : Stmt := topS 18
abbrev N_is_permutation : List Str := ["degree", "value", "own"]
theorem sc_is_permutation : FnScope N_is_permutation ["degree", "value"] (defScope s_is_permutation) := ⟨rfl, rfl, rfl, by decide +kernel, rfl, by decide +kernel, by decide +kernel⟩
def bd_is_permutation : Sx := (sSeq (sIf (tOr (tNot (trB (instE [.tuple] (vr 1)))) (tOr (isB (op2 vNe (callE (fn1 vLenF) (aCons (vr 1) aNil)) (vr 0))) (tNot (trB (callE (fn1 vAll) (aCons (lcF (iVal (vr 1)) (.nm 2) [2] tTrue (callG 1 m_is_natural (aCons (vr 2) aNil))) aNil)))))) (sRet (cV (.bl false))) sNil)
  (sRet (op2 vEq (callE (fzC (fn1 vSorted)) (aCons (vr 1) aNil)) (lstRgF (rg1 (vr 0))))))
def m_is_permutation : Fn := fnM 3 bd_is_permutation
theorem ok_is_permutation {P : Program} {w : World} {K : PySem.W.Frag} {mg : Str → Option Value} {base : Heap} {f : Addr} {fd : FuncData} (c_is_natural : Callee P w K mg base "is_natural" s_is_natural ["value"] 2 m_is_natural) (b_isinstance : mg "isinstance" = none) (b_tuple : mg "tuple" = none) (b_len : mg "len" = none) (b_all : mg "all" = none) (b_sorted : mg "sorted" = none) (b_range : mg "range" = none) (b_list : mg "list" = none) (F : Fun K "is_permutation" "is_permutation" s_is_permutation f fd) (hm : mg "is_permutation" = some (.ref f)) : Callee P w K mg base "is_permutation" s_is_permutation ["degree", "value"] 3 m_is_permutation :=
  Callee.mk' (k := 2) F hm sc_is_permutation rfl (by decide) (fun _ _ _ _ _ _ us hl => match us, hl with | [_, _], _ => rfl) fun cdv A outer s H E hr => by
  have nd : List.Nodup N_is_permutation := sc_is_permutation.nd
  have hu := hu65 hr
  exact (sxs_cons (sx_if (tx_w (wx_or (tx_not (tx_truth (ex_inst .tuple (by rfl) b_isinstance (ex_var 1 (pv 1)) (by rfl) b_tuple (by decide +kernel)))) (wx_or (tx_ne hu (ex_lenF (by rfl) b_len (ex_var 1 (pv 1))) (ex_var 0 (pv 0))) (wx_or1 (tx_not (tx_truth (ex_all rfl (by rfl) b_all (ex_lcF (own := [("own", 2)]) [2] rfl rfl nd (ix_val (ex_var 1 (pv 1))) (blkOk_by (N := N_is_permutation) (sc := defScope s_is_permutation) (by decide +kernel)) (by decide) (fun _ _ _ _ _ => (gx_name 2 (pg_name (i := 2) nd rfl (by first | exact Or.inl rfl | exact Or.inr rfl)))) (fun _ _ _ _ _ => tsx_nil) (fun _ _ _ _ _ => (ex_callG c_is_natural (hr.mono (by decide)) (by rfl) (ax_cons (ex_var 2 (pv 2)) ax_nil))))))))))) (sxs_one (sx_ret ex_bl)) sxs_nil)
  (sxs_one (sx_ret (ex_eq hu (ex_sortedF (by rfl) b_sorted (ex_var 1 (pv 1))) (ex_lstRgF rfl (by rfl) b_list (rx_1 (by rfl) b_range (ex_var 0 (pv 0))))))))
/-! ### is_table_of -/
abbrev s_is_table_of : Stmt := topS 19
abbrev N_is_table_of : List Str := ["size", "value", "own"]
theorem sc_is_table_of : FnScope N_is_table_of ["size", "value"] (defScope s_is_table_of) := ⟨rfl, rfl, rfl, by decide +kernel, rfl, by decide +kernel, by decide +kernel⟩
def bd_is_table_of : Sx := (sSeq (sIf (tOr (tNot (trB (instE [.tuple] (vr 1)))) (tOr (isB (op2 vNe (callE (fn1 vLenF) (aCons (vr 1) aNil)) (vr 0))) (tOr (tNot (trB (instE [.tuple] (op2 vIxF (vr 1) (cV (.int 0)))))) (isB (op2 vEq (callE (fn1 vLenF) (aCons (op2 vIxF (vr 1) (cV (.int 0))) aNil)) (cV (.int 0))))))) (sRet (cV (.bl false))) sNil)
  (sRet (callE (fn1 vAll) (aCons (lcF (iVal (vr 1)) (.nm 2) [2] tTrue (callG 2 m_is_permutation (aCons (callE (fn1 vLenF) (aCons (op2 vIxF (vr 1) (cV (.int 0))) aNil)) (aCons (vr 2) aNil)))) aNil))))
def m_is_table_of : Fn := fnM 3 bd_is_table_of
theorem ok_is_table_of {P : Program} {w : World} {K : PySem.W.Frag} {mg : Str → Option Value} {base : Heap} {f : Addr} {fd : FuncData} (c_is_permutation : Callee P w K mg base "is_permutation" s_is_permutation ["degree", "value"] 3 m_is_permutation) (b_isinstance : mg "isinstance" = none) (b_tuple : mg "tuple" = none) (b_len : mg "len" = none) (b_all : mg "all" = none) (F : Fun K "is_table_of" "is_table_of" s_is_table_of f fd) (hm : mg "is_table_of" = some (.ref f)) : Callee P w K mg base "is_table_of" s_is_table_of ["size", "value"] 4 m_is_table_of :=
  Callee.mk' (k := 3) F hm sc_is_table_of rfl (by decide) (fun _ _ _ _ _ _ us hl => match us, hl with | [_, _], _ => rfl) fun cdv A outer s H E hr => by
  have nd : List.Nodup N_is_table_of := sc_is_table_of.nd
  have hu := hu65 hr
  exact (sxs_cons (sx_if (tx_w (wx_or (tx_not (tx_truth (ex_inst .tuple (by rfl) b_isinstance (ex_var 1 (pv 1)) (by rfl) b_tuple (by decide +kernel)))) (wx_or (tx_ne hu (ex_lenF (by rfl) b_len (ex_var 1 (pv 1))) (ex_var 0 (pv 0))) (wx_or (tx_not (tx_truth (ex_inst .tuple (by rfl) b_isinstance (ex_ixF hu (ex_var 1 (pv 1)) ex_int) (by rfl) b_tuple (by decide +kernel)))) (wx_or1 (tx_eq hu (ex_lenF (by rfl) b_len (ex_ixF hu (ex_var 1 (pv 1)) ex_int)) ex_int)))))) (sxs_one (sx_ret ex_bl)) sxs_nil)
  (sxs_one (sx_ret (ex_all rfl (by rfl) b_all (ex_lcF (own := [("own", 2)]) [2] rfl rfl nd (ix_val (ex_var 1 (pv 1))) (blkOk_by (N := N_is_table_of) (sc := defScope s_is_table_of) (by decide +kernel)) (by decide) (fun _ _ _ _ _ => (gx_name 2 (pg_name (i := 2) nd rfl (by first | exact Or.inl rfl | exact Or.inr rfl)))) (fun _ _ _ _ _ => tsx_nil) (fun _ _ _ _ _ => (ex_callG c_is_permutation (hr.mono (by decide)) (by rfl) (ax_cons (ex_lenF (by rfl) b_len (ex_ixF hu (ex_var 1 (pv 1)) ex_int)) (ax_cons (ex_var 2 (pv 2)) ax_nil)))))))))
/-! ### check_table -/
abbrev s_check_table : Stmt := topS 20
abbrev N_check_table : List Str := ["size", "table"]
theorem sc_check_table : FnScope N_check_table ["size", "table"] (defScope s_check_table) := ⟨rfl, rfl, rfl, by decide +kernel, rfl, by decide +kernel, by decide +kernel⟩
def bd_check_table : Sx := (sIf (tNot (trB (callG 2 m_is_table_of (aCons (vr 0) (aCons (vr 1) aNil))))) sNever sNil)
def m_check_table : Fn := fnM 2 bd_check_table
theorem ok_check_table {P : Program} {w : World} {K : PySem.W.Frag} {mg : Str → Option Value} {base : Heap} {f : Addr} {fd : FuncData} (c_is_table_of : Callee P w K mg base "is_table_of" s_is_table_of ["size", "value"] 4 m_is_table_of) (F : Fun K "check_table" "check_table" s_check_table f fd) (hm : mg "check_table" = some (.ref f)) : Callee P w K mg base "check_table" s_check_table ["size", "table"] 5 m_check_table :=
  Callee.mk' (k := 4) F hm sc_check_table rfl (by decide) (fun _ _ _ _ _ _ us hl => match us, hl with | [_, _], _ => rfl) fun cdv A outer s H E hr => by
  have nd : List.Nodup N_check_table := sc_check_table.nd
  have hu := hu65 hr
  exact (sxs_one (sx_if (tx_not (tx_truth (ex_callG c_is_table_of (hr.mono (by decide)) (by rfl) (ax_cons (ex_var 0 (pv 0)) (ax_cons (ex_var 1 (pv 1)) ax_nil))))) (sxs_one sx_never) sxs_nil))
/-! ### table_rows -/
abbrev s_table_rows : Stmt := topS 21
abbrev N_table_rows : List Str := ["table", "rows", "letter", "own", "place", "end"]
theorem sc_table_rows : FnScope N_table_rows ["table"] (defScope s_table_rows) := ⟨rfl, rfl, rfl, by decide +kernel, rfl, by decide +kernel, by decide +kernel⟩
def bd_table_rows : Sx := (sSeq (sSet 1 (lcF (iVal (op2 vIxF (vr 0) (cV (.int 0)))) (.nm 4) [4] tTrue dNewK))
  (sSeq (sFor (iZipF (aCons (cV (.str [97, 98, 99, 100, 101, 102, 103, 104, 105, 106, 107, 108, 109, 110, 111, 112, 113, 114, 115, 116, 117, 118, 119, 120, 121, 122])) (aCons (vr 0) aNil))) (.tp [(.nm 2), (.nm 3)]) (sFor (iEnumF (aCons (vr 3) aNil)) (.tp [(.nm 4), (.nm 5)]) (sSeq (stA (op2 vIxF (vr 1) (vr 4)) (vr 2) (vr 5))
  (stA (op2 vIxF (vr 1) (vr 5)) (methE .str vUpper (vr 2) aNil) (vr 4)))))
  (sRet (vr 1))))
def m_table_rows : Fn := fnM 6 bd_table_rows
theorem ok_table_rows {P : Program} {w : World} {K : PySem.W.Frag} {mg : Str → Option Value} {base : Heap} {f : Addr} {fd : FuncData} (b_zip : mg "zip" = none) (b_enumerate : mg "enumerate" = none) {t_ALPHABET : Tok} (g_ALPHABET : mg "ALPHABET" = some (.str "abcdefghijklmnopqrstuvwxyz" t_ALPHABET)) (F : Fun K "table_rows" "table_rows" s_table_rows f fd) (hm : mg "table_rows" = some (.ref f)) : Callee P w K mg base "table_rows" s_table_rows ["table"] 1 m_table_rows :=
  Callee.mk' (k := 0) F hm sc_table_rows rfl (by decide) (fun _ _ _ _ _ _ us hl => match us, hl with | [_], _ => rfl) fun cdv A outer s H E hr => by
  have nd : List.Nodup N_table_rows := sc_table_rows.nd
  have hu := hu65 hr
  exact (sxs_cons (sx_setLcF 1 (own := [("place", 4)]) [4] rfl rfl nd rfl rfl (sw_true rfl rfl rfl (by decide +kernel)) (ix_val (ex_ixF hu (ex_var 0 (pv 0)) ex_int)) (blkOk_by (N := N_table_rows) (sc := defScope s_table_rows) (by decide +kernel)) (by decide) (fun _ _ _ _ _ => (gx_name 4 (pg_name (i := 4) nd rfl (by first | exact Or.inl rfl | exact Or.inr rfl)))) (fun _ _ _ _ _ => tsx_nil) (fun _ _ _ _ _ => ex_dnewK))
  (sxs_cons (sx_for PassesOwn.never rfl (ix_zipF (by rfl) b_zip (ax_cons (ex_gstr (by rfl) g_ALPHABET rfl) (ax_cons (ex_var 0 (pv 0)) ax_nil))) (gx_tup rfl (gxs_cons (gx_name 2 (pg_name (i := 2) nd rfl (by first | exact Or.inl rfl | exact Or.inr rfl))) (gxs_cons (gx_name 3 (pg_name (i := 3) nd rfl (by first | exact Or.inl rfl | exact Or.inr rfl))) gxs_nil))) (sxs_one (sx_for PassesOwn.never rfl (ix_enumF (by rfl) b_enumerate (ax_cons (ex_var 3 (pv 3)) ax_nil)) (gx_tup rfl (gxs_cons (gx_name 4 (pg_name (i := 4) nd rfl (by first | exact Or.inl rfl | exact Or.inr rfl))) (gxs_cons (gx_name 5 (pg_name (i := 5) nd rfl (by first | exact Or.inl rfl | exact Or.inr rfl))) gxs_nil))) (sxs_cons (sx_stA hu (ex_ixF hu (ex_var 1 (pv 1)) (ex_var 4 (pv 4))) (ex_var 2 (pv 2)) (ex_var 5 (pv 5)))
  (sxs_one (sx_stA hu (ex_ixF hu (ex_var 1 (pv 1)) (ex_var 5 (pv 5))) (ex_upper (ex_var 2 (pv 2))) (ex_var 4 (pv 4))))))))
  (sxs_one (sx_ret (ex_var 1 (pv 1))))))
/-! ### walked -/
abbrev s_walked : Stmt := topS 22
abbrev N_walked : List Str := ["rows", "place", "word", "sign"]
theorem sc_walked : FnScope N_walked ["rows", "place", "word"] (defScope s_walked) := ⟨rfl, rfl, rfl, by decide +kernel, rfl, by decide +kernel, by decide +kernel⟩
def bd_walked : Sx := (sSeq (sFor (iVal (vr 2)) (.nm 3) (sSet 1 (op2 vIxF (op2 vIxF (vr 0) (vr 1)) (vr 3))))
  (sRet (vr 1)))
def m_walked : Fn := fnM 4 bd_walked
theorem ok_walked {P : Program} {w : World} {K : PySem.W.Frag} {mg : Str → Option Value} {base : Heap} {f : Addr} {fd : FuncData} (F : Fun K "walked" "walked" s_walked f fd) (hm : mg "walked" = some (.ref f)) : Callee P w K mg base "walked" s_walked ["rows", "place", "word"] 1 m_walked :=
  Callee.mk' (k := 0) F hm sc_walked rfl (by decide) (fun _ _ _ _ _ _ us hl => match us, hl with | [_, _, _], _ => rfl) fun cdv A outer s H E hr => by
  have nd : List.Nodup N_walked := sc_walked.nd
  have hu := hu65 hr
  exact (sxs_cons (sx_for PassesOwn.never rfl (ix_val (ex_var 2 (pv 2))) (gx_name 3 (pg_name (i := 3) nd rfl (by first | exact Or.inl rfl | exact Or.inr rfl))) (sxs_one (sx_set 1 (fun te h => ps_set (i := 1) nd rfl (by first | exact Or.inl rfl | exact Or.inr rfl) h) (ex_ixF hu (ex_ixF hu (ex_var 0 (pv 0)) (ex_var 1 (pv 1))) (ex_var 3 (pv 3))))))
  (sxs_one (sx_ret (ex_var 1 (pv 1)))))
/-! ### moved_of -/
abbrev s_moved_of : Stmt := topS 23
abbrev N_moved_of : List Str := ["table", "word", "rows", "place"]
theorem sc_moved_of : FnScope N_moved_of ["table", "word"] (defScope s_moved_of) := ⟨rfl, rfl, rfl, by decide +kernel, rfl, by decide +kernel, by decide +kernel⟩
def bd_moved_of : Sx := (sSeq (sSet 2 (callG 1 m_table_rows (aCons (vr 0) aNil)))
  (sRet (callE (fn1 vTuple) (aCons (lcF (iRange1 (aCons (callE (fn1 vLenF) (aCons (vr 2) aNil)) aNil)) (.nm 3) [3] tTrue (callG 3 m_walked (aCons (vr 2) (aCons (vr 3) (aCons (vr 1) aNil))))) aNil))))
def m_moved_of : Fn := fnM 4 bd_moved_of
theorem ok_moved_of {P : Program} {w : World} {K : PySem.W.Frag} {mg : Str → Option Value} {base : Heap} {f : Addr} {fd : FuncData} (c_table_rows : Callee P w K mg base "table_rows" s_table_rows ["table"] 1 m_table_rows) (c_walked : Callee P w K mg base "walked" s_walked ["rows", "place", "word"] 1 m_walked) (b_len : mg "len" = none) (b_range : mg "range" = none) (b_tuple : mg "tuple" = none) (F : Fun K "moved_of" "moved_of" s_moved_of f fd) (hm : mg "moved_of" = some (.ref f)) : Callee P w K mg base "moved_of" s_moved_of ["table", "word"] 2 m_moved_of :=
  Callee.mk' (k := 1) F hm sc_moved_of rfl (by decide) (fun _ _ _ _ _ _ us hl => match us, hl with | [_, _], _ => rfl) fun cdv A outer s H E hr => by
  have nd : List.Nodup N_moved_of := sc_moved_of.nd
  have hu := hu65 hr
  exact (sxs_cons (sx_set 2 (fun te h => ps_set (i := 2) nd rfl (by first | exact Or.inl rfl | exact Or.inr rfl) h) (ex_callG c_table_rows (hr.mono (by decide)) (by rfl) (ax_cons (ex_var 0 (pv 0)) ax_nil)))
  (sxs_one (sx_ret (ex_tuple1 (by rfl) b_tuple (ex_lcF (own := [("place", 3)]) [3] rfl rfl nd (ix_range1 (by rfl) b_range (ax_cons (ex_lenF (by rfl) b_len (ex_var 2 (pv 2))) ax_nil)) (blkOk_by (N := N_moved_of) (sc := defScope s_moved_of) (by decide +kernel)) (by decide) (fun _ _ _ _ _ => (gx_name 3 (pg_name (i := 3) nd rfl (by first | exact Or.inl rfl | exact Or.inr rfl)))) (fun _ _ _ _ _ => tsx_nil) (fun _ _ _ _ _ => (ex_callG c_walked (hr.mono (by decide)) (by rfl) (ax_cons (ex_var 2 (pv 2)) (ax_cons (ex_var 3 (pv 3)) (ax_cons (ex_var 1 (pv 1)) ax_nil))))))))))
/-! ### cycle_lengths -/
abbrev s_cycle_lengths : Stmt := topS 25
abbrev N_cycle_lengths : List Str := ["row", "found", "met", "start", "many", "place"]
theorem sc_cycle_lengths : FnScope N_cycle_lengths ["row"] (defScope s_cycle_lengths) := ⟨rfl, rfl, rfl, by decide +kernel, rfl, by decide +kernel, by decide +kernel⟩
def bd_cycle_lengths : Sx := (sSeq (sPar [1, 2] (aCons (lstE aNil) (aCons dNewK aNil)))
  (sSeq (sFor (iRange1 (aCons (callE (fn1 vLenF) (aCons (vr 0) aNil)) aNil)) (.nm 3) (sSeq (sPar [4, 5] (aCons (cV (.int 0)) (aCons (vr 3) aNil)))
  (sSeq (whileS (isB (op2 (fdB vNotIn) (vr 5) (vr 2))) (sSeq (stA (vr 2) (vr 5) (cV (.bl true)))
  (sPar [5, 4] (aCons (op2 vIxF (vr 0) (vr 5)) (aCons (op2 vAddF (vr 4) (cV (.int 1))) aNil)))) bigN)
  (sIf (isB (op2 vGt (vr 4) (cV (.int 0)))) (sDrop (methE .list vAppend (vr 1) (aCons (vr 4) aNil))) sNil))))
  (sRet (callE (fzC (fn1 vSorted)) (aCons (vr 1) aNil)))))
def m_cycle_lengths : Fn := fnM 6 bd_cycle_lengths
theorem ok_cycle_lengths {P : Program} {w : World} {K : PySem.W.Frag} {mg : Str → Option Value} {base : Heap} {f : Addr} {fd : FuncData} (b_len : mg "len" = none) (b_range : mg "range" = none) (b_sorted : mg "sorted" = none) (F : Fun K "cycle_lengths" "cycle_lengths" s_cycle_lengths f fd) (hm : mg "cycle_lengths" = some (.ref f)) : Callee P w K mg base "cycle_lengths" s_cycle_lengths ["row"] 1 m_cycle_lengths :=
  Callee.mk' (k := 0) F hm sc_cycle_lengths rfl (by decide) (fun _ _ _ _ _ _ us hl => match us, hl with | [_], _ => rfl) fun cdv A outer s H E hr => by
  have nd : List.Nodup N_cycle_lengths := sc_cycle_lengths.nd
  have hu := hu65 hr
  exact (sxs_cons (sx_par (i := 1) (j := 2) rfl nd rfl rfl (by decide) rfl rfl (ax_cons (ex_lst ax_nil) (ax_cons ex_dnewK ax_nil)))
  (sxs_cons (sx_for PassesOwn.never rfl (ix_range1 (by rfl) b_range (ax_cons (ex_lenF (by rfl) b_len (ex_var 0 (pv 0))) ax_nil)) (gx_name 3 (pg_name (i := 3) nd rfl (by first | exact Or.inl rfl | exact Or.inr rfl))) (sxs_cons (sx_par (i := 4) (j := 5) rfl nd rfl rfl (by decide) rfl rfl (ax_cons ex_int (ax_cons (ex_var 3 (pv 3)) ax_nil)))
  (sxs_cons (sx_while PassesOwn.never (tx_notInF hu (ex_var 5 (pv 5)) (ex_var 2 (pv 2))) (sxs_cons (sx_stA hu (ex_var 2 (pv 2)) (ex_var 5 (pv 5)) ex_bl)
  (sxs_one (sx_par (i := 5) (j := 4) rfl nd rfl rfl (by decide) rfl rfl (ax_cons (ex_ixF hu (ex_var 0 (pv 0)) (ex_var 5 (pv 5))) (ax_cons (ex_addF (ex_var 4 (pv 4)) ex_int) ax_nil))))))
  (sxs_one (sx_if (tx_gt (ex_var 4 (pv 4)) ex_int) (sxs_one (sx_expr (ex_append (ex_var 1 (pv 1)) (ax_cons (ex_var 4 (pv 4)) ax_nil)))) sxs_nil)))))
  (sxs_one (sx_ret (ex_sortedF (by rfl) b_sorted (ex_var 1 (pv 1)))))))
/-! ### checked_rows -/
abbrev s_checked_rows : Stmt := topS 26
abbrev N_checked_rows : List Str := ["size", "table"]
theorem sc_checked_rows : FnScope N_checked_rows ["size", "table"] (defScope s_checked_rows) := ⟨rfl, rfl, rfl, by decide +kernel, rfl, by decide +kernel, by decide +kernel⟩
def bd_checked_rows : Sx := (sSeq (sDrop (callG 1 m_check_size (aCons (vr 0) aNil)))
  (sSeq (sDrop (callG 2 m_check_table (aCons (vr 0) (aCons (vr 1) aNil))))
  (sRet (callG 1 m_table_rows (aCons (vr 1) aNil)))))
def m_checked_rows : Fn := fnM 2 bd_checked_rows
theorem ok_checked_rows {P : Program} {w : World} {K : PySem.W.Frag} {mg : Str → Option Value} {base : Heap} {f : Addr} {fd : FuncData} (c_check_size : Callee P w K mg base "check_size" s_check_size ["size"] 3 m_check_size) (c_check_table : Callee P w K mg base "check_table" s_check_table ["size", "table"] 5 m_check_table) (c_table_rows : Callee P w K mg base "table_rows" s_table_rows ["table"] 1 m_table_rows) (F : Fun K "checked_rows" "checked_rows" s_checked_rows f fd) (hm : mg "checked_rows" = some (.ref f)) : Callee P w K mg base "checked_rows" s_checked_rows ["size", "table"] 6 m_checked_rows :=
  Callee.mk' (k := 5) F hm sc_checked_rows rfl (by decide) (fun _ _ _ _ _ _ us hl => match us, hl with | [_, _], _ => rfl) fun cdv A outer s H E hr => by
  have nd : List.Nodup N_checked_rows := sc_checked_rows.nd
  have hu := hu65 hr
  exact (sxs_cons (sx_expr (ex_callG c_check_size (hr.mono (by decide)) (by rfl) (ax_cons (ex_var 0 (pv 0)) ax_nil)))
  (sxs_cons (sx_expr (ex_callG c_check_table (hr.mono (by decide)) (by rfl) (ax_cons (ex_var 0 (pv 0)) (ax_cons (ex_var 1 (pv 1)) ax_nil))))
  (sxs_one (sx_ret (ex_callG c_table_rows (hr.mono (by decide)) (by rfl) (ax_cons (ex_var 1 (pv 1)) ax_nil))))))
/-! ### is_table -/
abbrev s_is_table : Stmt := topS 27
abbrev N_is_table : List Str := ["size", "value"]
theorem sc_is_table : FnScope N_is_table ["size", "value"] (defScope s_is_table) := ⟨rfl, rfl, rfl, by decide +kernel, rfl, by decide +kernel, by decide +kernel⟩
def bd_is_table : Sx := (sSeq (sDrop (callG 1 m_check_size (aCons (vr 0) aNil)))
  (sRet (callG 2 m_is_table_of (aCons (vr 0) (aCons (vr 1) aNil)))))
def m_is_table : Fn := fnM 2 bd_is_table
theorem ok_is_table {P : Program} {w : World} {K : PySem.W.Frag} {mg : Str → Option Value} {base : Heap} {f : Addr} {fd : FuncData} (c_check_size : Callee P w K mg base "check_size" s_check_size ["size"] 3 m_check_size) (c_is_table_of : Callee P w K mg base "is_table_of" s_is_table_of ["size", "value"] 4 m_is_table_of) (F : Fun K "is_table" "is_table" s_is_table f fd) (hm : mg "is_table" = some (.ref f)) : Callee P w K mg base "is_table" s_is_table ["size", "value"] 5 m_is_table :=
  Callee.mk' (k := 4) F hm sc_is_table rfl (by decide) (fun _ _ _ _ _ _ us hl => match us, hl with | [_, _], _ => rfl) fun cdv A outer s H E hr => by
  have nd : List.Nodup N_is_table := sc_is_table.nd
  have hu := hu65 hr
  exact (sxs_cons (sx_expr (ex_callG c_check_size (hr.mono (by decide)) (by rfl) (ax_cons (ex_var 0 (pv 0)) ax_nil)))
  (sxs_one (sx_ret (ex_callG c_is_table_of (hr.mono (by decide)) (by rfl) (ax_cons (ex_var 0 (pv 0)) (ax_cons (ex_var 1 (pv 1)) ax_nil))))))
/-! ### moved -/
abbrev s_moved : Stmt := topS 28
abbrev N_moved : List Str := ["size", "table", "word"]
theorem sc_moved : FnScope N_moved ["size", "table", "word"] (defScope s_moved) := ⟨rfl, rfl, rfl, by decide +kernel, rfl, by decide +kernel, by decide +kernel⟩
def bd_moved : Sx := (sSeq (sDrop (callG 2 m_checked_rows (aCons (vr 0) (aCons (vr 1) aNil))))
  (sSeq (sDrop (callG 2 m_check_word (aCons (vr 0) (aCons (vr 2) aNil))))
  (sRet (callG 2 m_moved_of (aCons (vr 1) (aCons (vr 2) aNil))))))
def m_moved : Fn := fnM 3 bd_moved
theorem ok_moved {P : Program} {w : World} {K : PySem.W.Frag} {mg : Str → Option Value} {base : Heap} {f : Addr} {fd : FuncData} (c_checked_rows : Callee P w K mg base "checked_rows" s_checked_rows ["size", "table"] 6 m_checked_rows) (c_check_word : Callee P w K mg base "check_word" s_check_word ["size", "word"] 2 m_check_word) (c_moved_of : Callee P w K mg base "moved_of" s_moved_of ["table", "word"] 2 m_moved_of) (F : Fun K "moved" "moved" s_moved f fd) (hm : mg "moved" = some (.ref f)) : Callee P w K mg base "moved" s_moved ["size", "table", "word"] 7 m_moved :=
  Callee.mk' (k := 6) F hm sc_moved rfl (by decide) (fun _ _ _ _ _ _ us hl => match us, hl with | [_, _, _], _ => rfl) fun cdv A outer s H E hr => by
  have nd : List.Nodup N_moved := sc_moved.nd
  have hu := hu65 hr
  exact (sxs_cons (sx_expr (ex_callG c_checked_rows (hr.mono (by decide)) (by rfl) (ax_cons (ex_var 0 (pv 0)) (ax_cons (ex_var 1 (pv 1)) ax_nil))))
  (sxs_cons (sx_expr (ex_callG c_check_word (hr.mono (by decide)) (by rfl) (ax_cons (ex_var 0 (pv 0)) (ax_cons (ex_var 2 (pv 2)) ax_nil))))
  (sxs_one (sx_ret (ex_callG c_moved_of (hr.mono (by decide)) (by rfl) (ax_cons (ex_var 1 (pv 1)) (ax_cons (ex_var 2 (pv 2)) ax_nil)))))))
/-! ### cycles -/
abbrev s_cycles : Stmt := topS 29
abbrev N_cycles : List Str := ["size", "table", "word"]
theorem sc_cycles : FnScope N_cycles ["size", "table", "word"] (defScope s_cycles) := ⟨rfl, rfl, rfl, by decide +kernel, rfl, by decide +kernel, by decide +kernel⟩
def bd_cycles : Sx := (sSeq (sDrop (callG 2 m_checked_rows (aCons (vr 0) (aCons (vr 1) aNil))))
  (sSeq (sDrop (callG 2 m_check_word (aCons (vr 0) (aCons (vr 2) aNil))))
  (sRet (callE (fn1 vTuple) (aCons (callG 1 m_cycle_lengths (aCons (callG 2 m_moved_of (aCons (vr 1) (aCons (vr 2) aNil))) aNil)) aNil)))))
def m_cycles : Fn := fnM 3 bd_cycles
theorem ok_cycles {P : Program} {w : World} {K : PySem.W.Frag} {mg : Str → Option Value} {base : Heap} {f : Addr} {fd : FuncData} (c_checked_rows : Callee P w K mg base "checked_rows" s_checked_rows ["size", "table"] 6 m_checked_rows) (c_check_word : Callee P w K mg base "check_word" s_check_word ["size", "word"] 2 m_check_word) (c_cycle_lengths : Callee P w K mg base "cycle_lengths" s_cycle_lengths ["row"] 1 m_cycle_lengths) (c_moved_of : Callee P w K mg base "moved_of" s_moved_of ["table", "word"] 2 m_moved_of) (b_tuple : mg "tuple" = none) (F : Fun K "cycles" "cycles" s_cycles f fd) (hm : mg "cycles" = some (.ref f)) : Callee P w K mg base "cycles" s_cycles ["size", "table", "word"] 7 m_cycles :=
  Callee.mk' (k := 6) F hm sc_cycles rfl (by decide) (fun _ _ _ _ _ _ us hl => match us, hl with | [_, _, _], _ => rfl) fun cdv A outer s H E hr => by
  have nd : List.Nodup N_cycles := sc_cycles.nd
  have hu := hu65 hr
  exact (sxs_cons (sx_expr (ex_callG c_checked_rows (hr.mono (by decide)) (by rfl) (ax_cons (ex_var 0 (pv 0)) (ax_cons (ex_var 1 (pv 1)) ax_nil))))
  (sxs_cons (sx_expr (ex_callG c_check_word (hr.mono (by decide)) (by rfl) (ax_cons (ex_var 0 (pv 0)) (ax_cons (ex_var 2 (pv 2)) ax_nil))))
  (sxs_one (sx_ret (ex_tuple1 (by rfl) b_tuple (ex_callG c_cycle_lengths (hr.mono (by decide)) (by rfl) (ax_cons (ex_callG c_moved_of (hr.mono (by decide)) (by rfl) (ax_cons (ex_var 1 (pv 1)) (ax_cons (ex_var 2 (pv 2)) ax_nil))) ax_nil)))))))
/-! ### is_transitive -/
abbrev s_is_transitive : Stmt := topS 30
abbrev N_is_transitive : List Str := ["size", "table", "rows"]
theorem sc_is_transitive : FnScope N_is_transitive ["size", "table"] (defScope s_is_transitive) := ⟨rfl, rfl, rfl, by decide +kernel, rfl, by decide +kernel, by decide +kernel⟩
def bd_is_transitive : Sx := (sSeq (sSet 2 (callG 2 m_checked_rows (aCons (vr 0) (aCons (vr 1) aNil))))
  (sRet (op2 vEq (callE (fn1 vLenF) (aCons (callG 3 m_met_from (aCons (vr 0) (aCons (vr 2) (aCons (cV (.int 0)) aNil)))) aNil)) (callE (fn1 vLenF) (aCons (vr 2) aNil)))))
def m_is_transitive : Fn := fnM 3 bd_is_transitive
theorem ok_is_transitive {P : Program} {w : World} {K : PySem.W.Frag} {mg : Str → Option Value} {base : Heap} {f : Addr} {fd : FuncData} (c_checked_rows : Callee P w K mg base "checked_rows" s_checked_rows ["size", "table"] 6 m_checked_rows) (c_met_from : Callee P w K mg base "met_from" s_met_from ["size", "rows", "root"] 2 m_met_from) (b_len : mg "len" = none) (F : Fun K "is_transitive" "is_transitive" s_is_transitive f fd) (hm : mg "is_transitive" = some (.ref f)) : Callee P w K mg base "is_transitive" s_is_transitive ["size", "table"] 7 m_is_transitive :=
  Callee.mk' (k := 6) F hm sc_is_transitive rfl (by decide) (fun _ _ _ _ _ _ us hl => match us, hl with | [_, _], _ => rfl) fun cdv A outer s H E hr => by
  have nd : List.Nodup N_is_transitive := sc_is_transitive.nd
  have hu := hu65 hr
  exact (sxs_cons (sx_set 2 (fun te h => ps_set (i := 2) nd rfl (by first | exact Or.inl rfl | exact Or.inr rfl) h) (ex_callG c_checked_rows (hr.mono (by decide)) (by rfl) (ax_cons (ex_var 0 (pv 0)) (ax_cons (ex_var 1 (pv 1)) ax_nil))))
  (sxs_one (sx_ret (ex_eq hu (ex_lenF (by rfl) b_len (ex_callG c_met_from (hr.mono (by decide)) (by rfl) (ax_cons (ex_var 0 (pv 0)) (ax_cons (ex_var 2 (pv 2)) (ax_cons ex_int ax_nil))))) (ex_lenF (by rfl) b_len (ex_var 2 (pv 2)))))))
/-! ### _law_next -/
abbrev s__law_next : Stmt := topS 32
abbrev N__law_next : List Str := ["own", "many", "cell", "small", "digit"]
theorem sc__law_next : FnScope N__law_next ["own", "many"] (defScope s__law_next) := ⟨rfl, rfl, rfl, by decide +kernel, rfl, by decide +kernel, by decide +kernel⟩
def bd__law_next : Sx := (sSeq (augL (vr 0) (cV (.int 2)) vIAdd (cV (.int 1)))
  (sSeq (sIf (tAnd (isB (op2 vEq (op2 vIx (vr 0) (cV (.int 0))) (cV (.int 0)))) (isB (op2 vLt (op2 vIx (vr 0) (cV (.int 3))) (callE (fn1 vLen) (aCons (op2 vIx (vr 0) (cV (.int 4))) aNil))))) (sSeq (sSet 2 (op2 vIx (op2 vIx (vr 0) (cV (.int 4))) (op2 vIx (vr 0) (cV (.int 3)))))
  (sSeq (augL (vr 0) (cV (.int 3)) vIAdd (cV (.int 1)))
  (sIf (isB (op2 vGe (vr 2) (op2 vPow (cV (.int 10)) (cV (.int 18))))) (stL (vr 0) (cV (.int 0)) (op2 vSub (vr 2) (op2 vPow (cV (.int 10)) (cV (.int 18))))) (sSeq (sSet 3 (op2 vMod (callE (fn1 vInt) (aCons (vr 2) aNil)) (cV (.int 1000000007))))
  (stL (vr 0) (cV (.int 1)) (op2 vMod (callE (fn1 vInt) (aCons (op2 vAdd (op2 vAdd (op2 vAdd (op2 vMul (op2 vIx (vr 0) (cV (.int 1))) (cV (.int 30269))) (op2 vMul (vr 3) (vr 3))) (op2 vMul (cV (.int 11)) (vr 3))) (op2 vMul (cV (.int 5)) (op2 vIx (vr 0) (cV (.int 3))))) aNil)) (cV (.int 2147483563)))))))) sNil)
  (sSeq (sIf (isB (op2 vGt (op2 vIx (vr 0) (cV (.int 0))) (cV (.int 0)))) (sSeq (sSet 4 (op2 vMod (callE (fn1 vInt) (aCons (op2 vIx (vr 0) (cV (.int 0))) aNil)) (vr 1)))
  (sSeq (stL (vr 0) (cV (.int 0)) (op2 vDiv (op2 vIx (vr 0) (cV (.int 0))) (vr 1)))
  (sRet (vr 4)))) sNil)
  (sSeq (stL (vr 0) (cV (.int 1)) (op2 vMod (callE (fn1 vInt) (aCons (op2 vAdd (op2 vAdd (op2 vMul (op2 vIx (vr 0) (cV (.int 1))) (op2 vIx (vr 0) (cV (.int 1)))) (op2 vMul (cV (.int 40014)) (op2 vIx (vr 0) (cV (.int 2))))) (cV (.int 37))) aNil)) (cV (.int 2147483563))))
  (sRet (op2 vMod (callE (fn1 vInt) (aCons (op2 vAdd (op2 vDiv (op2 vIx (vr 0) (cV (.int 1))) (cV (.int 8))) (op2 vMul (op2 vMul (cV (.int 3)) (op2 vIx (vr 0) (cV (.int 2)))) (op2 vIx (vr 0) (cV (.int 2))))) aNil)) (vr 1)))))))
def m__law_next : Fn := fnM 5 bd__law_next
theorem ok__law_next {P : Program} {w : World} {K : PySem.W.Frag} {mg : Str → Option Value} {base : Heap} {f : Addr} {fd : FuncData} (b_len : mg "len" = none) (b_int : mg "int" = none) (F : Fun K "_law_next" "_law_next" s__law_next f fd) (hm : mg "_law_next" = some (.ref f)) : Callee P w K mg base "_law_next" s__law_next ["own", "many"] 1 m__law_next :=
  Callee.mk' (k := 0) F hm sc__law_next rfl (by decide) (fun _ _ _ _ _ _ us hl => match us, hl with | [_, _], _ => rfl) fun cdv A outer s H E hr => by
  have nd : List.Nodup N__law_next := sc__law_next.nd
  have hu := hu65 hr
  exact (sxs_cons (sx_augL ip_addA s_iadd (ex_var 0 (pv 0)) ex_int ex_int)
  (sxs_cons (sx_if (tx_w (wx_and (tx_eq hu (ex_ixS (ex_var 0 (pv 0)) ex_int) ex_int) (wx_and1 (tx_lt (ex_ixS (ex_var 0 (pv 0)) ex_int) (ex_len (by rfl) b_len (ex_ixS (ex_var 0 (pv 0)) ex_int)))))) (sxs_cons (sx_set 2 (fun te h => ps_set (i := 2) nd rfl (by first | exact Or.inl rfl | exact Or.inr rfl) h) (ex_ixS (ex_ixS (ex_var 0 (pv 0)) ex_int) (ex_ixS (ex_var 0 (pv 0)) ex_int)))
  (sxs_cons (sx_augL ip_addA s_iadd (ex_var 0 (pv 0)) ex_int ex_int)
  (sxs_one (sx_if (tx_ge (ex_var 2 (pv 2)) (ex_pow ex_int ex_int)) (sxs_one (sx_stL (ex_var 0 (pv 0)) ex_int (ex_sub (ex_var 2 (pv 2)) (ex_pow ex_int ex_int)))) (sxs_cons (sx_set 3 (fun te h => ps_set (i := 3) nd rfl (by first | exact Or.inl rfl | exact Or.inr rfl) h) (ex_mod (ex_int1 (by rfl) b_int (ex_var 2 (pv 2))) ex_int))
  (sxs_one (sx_stL (ex_var 0 (pv 0)) ex_int (ex_mod (ex_int1 (by rfl) b_int (ex_add (ex_add (ex_add (ex_mul (ex_ixS (ex_var 0 (pv 0)) ex_int) ex_int) (ex_mul (ex_var 3 (pv 3)) (ex_var 3 (pv 3)))) (ex_mul ex_int (ex_var 3 (pv 3)))) (ex_mul ex_int (ex_ixS (ex_var 0 (pv 0)) ex_int)))) ex_int)))))))) sxs_nil)
  (sxs_cons (sx_if (tx_gt (ex_ixS (ex_var 0 (pv 0)) ex_int) ex_int) (sxs_cons (sx_set 4 (fun te h => ps_set (i := 4) nd rfl (by first | exact Or.inl rfl | exact Or.inr rfl) h) (ex_mod (ex_int1 (by rfl) b_int (ex_ixS (ex_var 0 (pv 0)) ex_int)) (ex_var 1 (pv 1))))
  (sxs_cons (sx_stL (ex_var 0 (pv 0)) ex_int (ex_div (ex_ixS (ex_var 0 (pv 0)) ex_int) (ex_var 1 (pv 1))))
  (sxs_one (sx_ret (ex_var 4 (pv 4)))))) sxs_nil)
  (sxs_cons (sx_stL (ex_var 0 (pv 0)) ex_int (ex_mod (ex_int1 (by rfl) b_int (ex_add (ex_add (ex_mul (ex_ixS (ex_var 0 (pv 0)) ex_int) (ex_ixS (ex_var 0 (pv 0)) ex_int)) (ex_mul ex_int (ex_ixS (ex_var 0 (pv 0)) ex_int))) ex_int)) ex_int))
  (sxs_one (sx_ret (ex_mod (ex_int1 (by rfl) b_int (ex_add (ex_div (ex_ixS (ex_var 0 (pv 0)) ex_int) ex_int) (ex_mul (ex_mul ex_int (ex_ixS (ex_var 0 (pv 0)) ex_int)) (ex_ixS (ex_var 0 (pv 0)) ex_int)))) (ex_var 1 (pv 1)))))))))
/-! ### _law_like -/
abbrev s__law_like : Stmt := topS 33
abbrev N__law_like : List Str := ["got", "due", "k"]
theorem sc__law_like : FnScope N__law_like ["got", "due"] (defScope s__law_like) := ⟨rfl, rfl, rfl, by decide +kernel, rfl, by decide +kernel, by decide +kernel⟩
def bd__law_like (m__law_like_d : Fn) : Sx := (sSeq (sIf (trB (instE [.list, .tuple] (vr 1))) (sSeq (sIf (tOr (tNot (trB (instE [.list, .tuple] (vr 0)))) (tOr (isB (op2 vNe (instE [.list] (vr 0)) (instE [.list] (vr 1)))) (isB (op2 vNe (callE (fn1 vLenF) (aCons (vr 0) aNil)) (callE (fn1 vLenF) (aCons (vr 1) aNil)))))) (sRet (cV (.bl false))) sNil)
  (sRet (callE (fn1 vAll) (aCons (lcF (iRange1 (aCons (callE (fn1 vLenF) (aCons (vr 1) aNil)) aNil)) (.nm 2) [2] tTrue (callG 2 m__law_like_d (aCons (op2 vIxF (vr 0) (vr 2)) (aCons (op2 vIxF (vr 1) (vr 2)) aNil)))) aNil)))) sNil)
  (sSeq (sIf (isB (op2 vIs (vr 1) (cV .non))) (sRet (op2 vIs (vr 0) (cV .non))) sNil)
  (sSeq (sIf (trB (instE [.bool] (vr 1))) (sRet (vAnd (instE [.bool] (vr 0)) (op2 vEq (vr 0) (vr 1)))) sNil)
  (sSeq (sIf (trB (instE [.str] (vr 1))) (sRet (vAnd (instE [.str] (vr 0)) (op2 vEq (vr 0) (vr 1)))) sNil)
  (sRet (vAnd (instE [.int] (vr 0)) (vAnd (vNot (instE [.bool] (vr 0))) (op2 vEq (vr 0) (vr 1)))))))))
def m__law_like : Nat → Fn
  | 0 => fun _ _ => .no
  | d + 1 => fnM 3 (bd__law_like (m__law_like d))
theorem ok__law_like {P : Program} {w : World} {K : PySem.W.Frag} {mg : Str → Option Value} {base : Heap} {f : Addr} {fd : FuncData} (b_isinstance : mg "isinstance" = none) (b_list : mg "list" = none) (b_tuple : mg "tuple" = none) (b_len : mg "len" = none) (b_range : mg "range" = none) (b_all : mg "all" = none) (b_bool : mg "bool" = none) (b_str : mg "str" = none) (b_int : mg "int" = none) (F : Fun K "_law_like" "_law_like" s__law_like f fd) (hm : mg "_law_like" = some (.ref f)) : ∀ d : Nat, Callee P w K mg base "_law_like" s__law_like ["got", "due"] (1 + d) (m__law_like d)
  | 0 => Callee.zero F hm (fun _ _ _ _ _ _ us hl => match us, hl with | [_, _], _ => rfl)
  | d + 1 => Callee.mk' (k := 1 + d) F hm sc__law_like rfl (by decide) (fun _ _ _ _ _ _ us hl => match us, hl with | [_, _], _ => rfl) fun cdv A outer s H E hr => by
    have nd : List.Nodup N__law_like := sc__law_like.nd
    have hu := hu65 hr
    have c__law_like := ok__law_like (P := P) (w := w) (base := base) b_isinstance b_list b_tuple b_len b_range b_all b_bool b_str b_int F hm d
    exact (sxs_cons (sx_if (tx_truth (ex_inst2 .list .tuple (by rfl) b_isinstance (ex_var 1 (pv 1)) (by rfl) b_list (by decide +kernel) (by rfl) b_tuple (by decide +kernel))) (sxs_cons (sx_if (tx_w (wx_or (tx_not (tx_truth (ex_inst2 .list .tuple (by rfl) b_isinstance (ex_var 0 (pv 0)) (by rfl) b_list (by decide +kernel) (by rfl) b_tuple (by decide +kernel)))) (wx_or (tx_ne hu (ex_inst .list (by rfl) b_isinstance (ex_var 0 (pv 0)) (by rfl) b_list (by decide +kernel)) (ex_inst .list (by rfl) b_isinstance (ex_var 1 (pv 1)) (by rfl) b_list (by decide +kernel))) (wx_or1 (tx_ne hu (ex_lenF (by rfl) b_len (ex_var 0 (pv 0))) (ex_lenF (by rfl) b_len (ex_var 1 (pv 1)))))))) (sxs_one (sx_ret ex_bl)) sxs_nil)
  (sxs_one (sx_ret (ex_all rfl (by rfl) b_all (ex_lcF (own := [("k", 2)]) [2] rfl rfl nd (ix_range1 (by rfl) b_range (ax_cons (ex_lenF (by rfl) b_len (ex_var 1 (pv 1))) ax_nil)) (blkOk_by (N := N__law_like) (sc := defScope s__law_like) (by decide +kernel)) (by decide) (fun _ _ _ _ _ => (gx_name 2 (pg_name (i := 2) nd rfl (by first | exact Or.inl rfl | exact Or.inr rfl)))) (fun _ _ _ _ _ => tsx_nil) (fun _ _ _ _ _ => (ex_callG c__law_like (hr.mono (by omega)) (by rfl) (ax_cons (ex_ixF hu (ex_var 0 (pv 0)) (ex_var 2 (pv 2))) (ax_cons (ex_ixF hu (ex_var 1 (pv 1)) (ex_var 2 (pv 2))) ax_nil))))))))) sxs_nil)
  (sxs_cons (sx_if (tx_is (ex_var 1 (pv 1)) ex_non) (sxs_one (sx_ret (ex_is (ex_var 0 (pv 0)) ex_non))) sxs_nil)
  (sxs_cons (sx_if (tx_truth (ex_inst .bool (by rfl) b_isinstance (ex_var 1 (pv 1)) (by rfl) b_bool (by decide +kernel))) (sxs_one (sx_ret (ex_and (ex_inst .bool (by rfl) b_isinstance (ex_var 0 (pv 0)) (by rfl) b_bool (by decide +kernel)) (ex_one (ex_eq hu (ex_var 0 (pv 0)) (ex_var 1 (pv 1))))))) sxs_nil)
  (sxs_cons (sx_if (tx_truth (ex_inst .str (by rfl) b_isinstance (ex_var 1 (pv 1)) (by rfl) b_str (by decide +kernel))) (sxs_one (sx_ret (ex_and (ex_inst .str (by rfl) b_isinstance (ex_var 0 (pv 0)) (by rfl) b_str (by decide +kernel)) (ex_one (ex_eq hu (ex_var 0 (pv 0)) (ex_var 1 (pv 1))))))) sxs_nil)
  (sxs_one (sx_ret (ex_and (ex_inst .int (by rfl) b_isinstance (ex_var 0 (pv 0)) (by rfl) b_int (by decide +kernel)) (ex_and (ex_not (ex_inst .bool (by rfl) b_isinstance (ex_var 0 (pv 0)) (by rfl) b_bool (by decide +kernel))) (ex_one (ex_eq hu (ex_var 0 (pv 0)) (ex_var 1 (pv 1))))))))))))
/-! ### _law_word -/
abbrev s__law_word : Stmt := topS 34
abbrev N__law_word : List Str := ["own", "size", "most", "k"]
theorem sc__law_word : FnScope N__law_word ["own", "size", "most"] (defScope s__law_word) := ⟨rfl, rfl, rfl, by decide +kernel, rfl, by decide +kernel, by decide +kernel⟩
def bd__law_word : Sx := (sRet (methE .str vJoin (cV (.str [])) (aCons (lcF (iRange1 (aCons (callF 2 m__law_next (aCons (vr 0) (aCons (op2 vAddF (vr 2) (cV (.int 1))) aNil))) aNil)) (.nm 3) [3] tTrue (op2 vIx (cV (.str [97, 65, 98, 66, 99, 67])) (callF 2 m__law_next (aCons (vr 0) (aCons (op2 vMulF (cV (.int 2)) (vr 1)) aNil))))) aNil)))
def m__law_word : Fn := fnM 4 bd__law_word
theorem ok__law_word {P : Program} {w : World} {K : PySem.W.Frag} {mg : Str → Option Value} {base : Heap} {f : Addr} {fd : FuncData} (c__law_next : Callee P w K mg base "_law_next" s__law_next ["own", "many"] 1 m__law_next) (b_range : mg "range" = none) (F : Fun K "_law_word" "_law_word" s__law_word f fd) (hm : mg "_law_word" = some (.ref f)) : Callee P w K mg base "_law_word" s__law_word ["own", "size", "most"] 2 m__law_word :=
  Callee.mk' (k := 1) F hm sc__law_word rfl (by decide) (fun _ _ _ _ _ _ us hl => match us, hl with | [_, _, _], _ => rfl) fun cdv A outer s H E hr => by
  have nd : List.Nodup N__law_word := sc__law_word.nd
  have hu := hu65 hr
  exact (sxs_one (sx_ret (ex_join (ex_str (s := []) rfl) (ax_cons (ex_lcF (own := [("k", 3)]) [3] rfl rfl nd (ix_range1 (by rfl) b_range (ax_cons (ex_call c__law_next (hr.mono (by decide)) (by rfl) (ax_cons (ex_var 0 (pv 0)) (ax_cons (ex_addF (ex_var 2 (pv 2)) ex_int) ax_nil))) ax_nil)) (blkOk_by (N := N__law_word) (sc := defScope s__law_word) (by decide +kernel)) (by decide) (fun _ _ _ _ _ => (gx_name 3 (pg_name (i := 3) nd rfl (by first | exact Or.inl rfl | exact Or.inr rfl)))) (fun _ _ _ _ _ => tsx_nil) (fun _ _ _ _ _ => (ex_ixS (ex_str (s := [97, 65, 98, 66, 99, 67]) rfl) (ex_call c__law_next (hr.mono (by decide)) (by rfl) (ax_cons (ex_var 0 (pv 0)) (ax_cons (ex_mulF ex_int (ex_var 1 (pv 1))) ax_nil)))))) ax_nil))))
/-! ### _law_permutation -/
abbrev s__law_permutation : Stmt := topS 35
abbrev N__law_permutation : List Str := ["own", "degree", "found", "k", "other", "kept"]
theorem sc__law_permutation : FnScope N__law_permutation ["own", "degree"] (defScope s__law_permutation) := ⟨rfl, rfl, rfl, by decide +kernel, rfl, by decide +kernel, by decide +kernel⟩
def bd__law_permutation : Sx := (sSeq (sSet 2 (lcE (iRange1 (aCons (vr 1) aNil)) (.nm 3) [3] tTrue (vr 3)))
  (sSeq (sFor (iRange1 (aCons (vr 1) aNil)) (.nm 3) (sSeq (sPar [4, 5] (aCons (callF 2 m__law_next (aCons (vr 0) (aCons (vr 1) aNil))) (aCons (op2 vIxF (vr 2) (vr 3)) aNil)))
  (sSeq (stA (vr 2) (vr 3) (op2 vIxF (vr 2) (vr 4)))
  (stA (vr 2) (vr 4) (vr 5)))))
  (sRet (callE (fn1 vTuple) (aCons (vr 2) aNil)))))
def m__law_permutation : Fn := fnM 6 bd__law_permutation
theorem ok__law_permutation {P : Program} {w : World} {K : PySem.W.Frag} {mg : Str → Option Value} {base : Heap} {f : Addr} {fd : FuncData} (c__law_next : Callee P w K mg base "_law_next" s__law_next ["own", "many"] 1 m__law_next) (b_range : mg "range" = none) (b_tuple : mg "tuple" = none) (F : Fun K "_law_permutation" "_law_permutation" s__law_permutation f fd) (hm : mg "_law_permutation" = some (.ref f)) : Callee P w K mg base "_law_permutation" s__law_permutation ["own", "degree"] 2 m__law_permutation :=
  Callee.mk' (k := 1) F hm sc__law_permutation rfl (by decide) (fun _ _ _ _ _ _ us hl => match us, hl with | [_, _], _ => rfl) fun cdv A outer s H E hr => by
  have nd : List.Nodup N__law_permutation := sc__law_permutation.nd
  have hu := hu65 hr
  exact (sxs_cons (sx_setLc 2 (own := [("k", 3)]) [3] rfl rfl nd rfl rfl (sw_true rfl rfl rfl (by decide +kernel)) (ix_range1 (by rfl) b_range (ax_cons (ex_var 1 (pv 1)) ax_nil)) (blkOk_by (N := N__law_permutation) (sc := defScope s__law_permutation) (by decide +kernel)) (by decide) (fun _ _ _ _ _ => (gx_name 3 (pg_name (i := 3) nd rfl (by first | exact Or.inl rfl | exact Or.inr rfl)))) (fun _ _ _ _ _ => tsx_nil) (fun _ _ _ _ _ => (ex_var 3 (pv 3))))
  (sxs_cons (sx_for PassesOwn.never rfl (ix_range1 (by rfl) b_range (ax_cons (ex_var 1 (pv 1)) ax_nil)) (gx_name 3 (pg_name (i := 3) nd rfl (by first | exact Or.inl rfl | exact Or.inr rfl))) (sxs_cons (sx_par (i := 4) (j := 5) rfl nd rfl rfl (by decide) rfl rfl (ax_cons (ex_call c__law_next (hr.mono (by decide)) (by rfl) (ax_cons (ex_var 0 (pv 0)) (ax_cons (ex_var 1 (pv 1)) ax_nil))) (ax_cons (ex_ixF hu (ex_var 2 (pv 2)) (ex_var 3 (pv 3))) ax_nil)))
  (sxs_cons (sx_stA hu (ex_var 2 (pv 2)) (ex_var 3 (pv 3)) (ex_ixF hu (ex_var 2 (pv 2)) (ex_var 4 (pv 4))))
  (sxs_one (sx_stA hu (ex_var 2 (pv 2)) (ex_var 4 (pv 4)) (ex_var 5 (pv 5)))))))
  (sxs_one (sx_ret (ex_tuple1 (by rfl) b_tuple (ex_var 2 (pv 2)))))))
/-! ### _law_table -/
abbrev s__law_table : Stmt := topS 36
abbrev N__law_table : List Str := ["own", "size", "degree", "k"]
theorem sc__law_table : FnScope N__law_table ["own", "size", "degree"] (defScope s__law_table) := ⟨rfl, rfl, rfl, by decide +kernel, rfl, by decide +kernel, by decide +kernel⟩
def bd__law_table : Sx := (sRet (callE (fn1 vTuple) (aCons (lcF (iRange1 (aCons (vr 1) aNil)) (.nm 3) [3] tTrue (callT 2 m__law_permutation (aCons (vr 0) (aCons (vr 2) aNil)))) aNil)))
def m__law_table : Fn := fnM 4 bd__law_table
theorem ok__law_table {P : Program} {w : World} {K : PySem.W.Frag} {mg : Str → Option Value} {base : Heap} {f : Addr} {fd : FuncData} (c__law_permutation : Callee P w K mg base "_law_permutation" s__law_permutation ["own", "degree"] 2 m__law_permutation) (b_range : mg "range" = none) (b_tuple : mg "tuple" = none) (F : Fun K "_law_table" "_law_table" s__law_table f fd) (hm : mg "_law_table" = some (.ref f)) : Callee P w K mg base "_law_table" s__law_table ["own", "size", "degree"] 3 m__law_table :=
  Callee.mk' (k := 2) F hm sc__law_table rfl (by decide) (fun _ _ _ _ _ _ us hl => match us, hl with | [_, _, _], _ => rfl) fun cdv A outer s H E hr => by
  have nd : List.Nodup N__law_table := sc__law_table.nd
  have hu := hu65 hr
  exact (sxs_one (sx_ret (ex_tuple1 (by rfl) b_tuple (ex_lcF (own := [("k", 3)]) [3] rfl rfl nd (ix_range1 (by rfl) b_range (ax_cons (ex_var 1 (pv 1)) ax_nil)) (blkOk_by (N := N__law_table) (sc := defScope s__law_table) (by decide +kernel)) (by decide) (fun _ _ _ _ _ => (gx_name 3 (pg_name (i := 3) nd rfl (by first | exact Or.inl rfl | exact Or.inr rfl)))) (fun _ _ _ _ _ => tsx_nil) (fun _ _ _ _ _ => (ex_callT c__law_permutation (hr.mono (by decide)) (by rfl) (ax_cons (ex_var 0 (pv 0)) (ax_cons (ex_var 2 (pv 2)) ax_nil))))))))
/-! ### _law_at -/
abbrev s__law_at : Stmt := topS 37
abbrev N__law_at : List Str := ["table", "place", "word", "sign", "one"]
theorem sc__law_at : FnScope N__law_at ["table", "place", "word"] (defScope s__law_at) := ⟨rfl, rfl, rfl, by decide +kernel, rfl, by decide +kernel, by decide +kernel⟩
def bd__law_at : Sx := (sSeq (sFor (iVal (vr 2)) (.nm 3) (sSeq (sSet 4 (op2 vIxF (vr 0) (idxE (cV (.str [97, 98, 99])) (aCons (methE .str vLower (vr 3) aNil) aNil))))
  (sSet 1 (ifE (trB (methE .str vIsLower (vr 3) aNil)) (op2 vIxF (vr 4) (vr 1)) (idxE (vr 4) (aCons (vr 1) aNil))))))
  (sRet (vr 1)))
def m__law_at : Fn := fnM 5 bd__law_at
theorem ok__law_at {P : Program} {w : World} {K : PySem.W.Frag} {mg : Str → Option Value} {base : Heap} {f : Addr} {fd : FuncData} (F : Fun K "_law_at" "_law_at" s__law_at f fd) (hm : mg "_law_at" = some (.ref f)) : Callee P w K mg base "_law_at" s__law_at ["table", "place", "word"] 1 m__law_at :=
  Callee.mk' (k := 0) F hm sc__law_at rfl (by decide) (fun _ _ _ _ _ _ us hl => match us, hl with | [_, _, _], _ => rfl) fun cdv A outer s H E hr => by
  have nd : List.Nodup N__law_at := sc__law_at.nd
  have hu := hu65 hr
  exact (sxs_cons (sx_for PassesOwn.never rfl (ix_val (ex_var 2 (pv 2))) (gx_name 3 (pg_name (i := 3) nd rfl (by first | exact Or.inl rfl | exact Or.inr rfl))) (sxs_cons (sx_set 4 (fun te h => ps_set (i := 4) nd rfl (by first | exact Or.inl rfl | exact Or.inr rfl) h) (ex_ixF hu (ex_var 0 (pv 0)) (ex_index hu (ex_str (s := [97, 98, 99]) rfl) (ax_cons (ex_lower (ex_var 3 (pv 3))) ax_nil))))
  (sxs_one (sx_set 1 (fun te h => ps_set (i := 1) nd rfl (by first | exact Or.inl rfl | exact Or.inr rfl) h) (ex_if (tx_truth (ex_islower (ex_var 3 (pv 3)))) (ex_ixF hu (ex_var 4 (pv 4)) (ex_var 1 (pv 1))) (ex_index hu (ex_var 4 (pv 4)) (ax_cons (ex_var 1 (pv 1)) ax_nil)))))))
  (sxs_one (sx_ret (ex_var 1 (pv 1)))))
/-! ### _law_moved -/
abbrev s__law_moved : Stmt := topS 38
abbrev N__law_moved : List Str := ["table", "word", "place"]
theorem sc__law_moved : FnScope N__law_moved ["table", "word"] (defScope s__law_moved) := ⟨rfl, rfl, rfl, by decide +kernel, rfl, by decide +kernel, by decide +kernel⟩
def bd__law_moved : Sx := (sRet (callE (fn1 vTuple) (aCons (lcF (iRange1 (aCons (callE (fn1 vLenF) (aCons (op2 vIxF (vr 0) (cV (.int 0))) aNil)) aNil)) (.nm 2) [2] tTrue (callG 3 m__law_at (aCons (vr 0) (aCons (vr 2) (aCons (vr 1) aNil))))) aNil)))
def m__law_moved : Fn := fnM 3 bd__law_moved
theorem ok__law_moved {P : Program} {w : World} {K : PySem.W.Frag} {mg : Str → Option Value} {base : Heap} {f : Addr} {fd : FuncData} (c__law_at : Callee P w K mg base "_law_at" s__law_at ["table", "place", "word"] 1 m__law_at) (b_len : mg "len" = none) (b_range : mg "range" = none) (b_tuple : mg "tuple" = none) (F : Fun K "_law_moved" "_law_moved" s__law_moved f fd) (hm : mg "_law_moved" = some (.ref f)) : Callee P w K mg base "_law_moved" s__law_moved ["table", "word"] 2 m__law_moved :=
  Callee.mk' (k := 1) F hm sc__law_moved rfl (by decide) (fun _ _ _ _ _ _ us hl => match us, hl with | [_, _], _ => rfl) fun cdv A outer s H E hr => by
  have nd : List.Nodup N__law_moved := sc__law_moved.nd
  have hu := hu65 hr
  exact (sxs_one (sx_ret (ex_tuple1 (by rfl) b_tuple (ex_lcF (own := [("place", 2)]) [2] rfl rfl nd (ix_range1 (by rfl) b_range (ax_cons (ex_lenF (by rfl) b_len (ex_ixF hu (ex_var 0 (pv 0)) ex_int)) ax_nil)) (blkOk_by (N := N__law_moved) (sc := defScope s__law_moved) (by decide +kernel)) (by decide) (fun _ _ _ _ _ => (gx_name 2 (pg_name (i := 2) nd rfl (by first | exact Or.inl rfl | exact Or.inr rfl)))) (fun _ _ _ _ _ => tsx_nil) (fun _ _ _ _ _ => (ex_callG c__law_at (hr.mono (by decide)) (by rfl) (ax_cons (ex_var 0 (pv 0)) (ax_cons (ex_var 2 (pv 2)) (ax_cons (ex_var 1 (pv 1)) ax_nil)))))))))
/-! ### _law_rounds -/
abbrev s__law_rounds : Stmt := topS 39
abbrev N__law_rounds : List Str := ["one", "left", "found", "start", "many", "place", "turn", "end"]
theorem sc__law_rounds : FnScope N__law_rounds ["one"] (defScope s__law_rounds) := ⟨rfl, rfl, rfl, by decide +kernel, rfl, by decide +kernel, by decide +kernel⟩
def bd__law_rounds : Sx := (sSeq (sPar [1, 2] (aCons (callE (fn1 vList2) (aCons (vr 0) aNil)) (aCons (lstF aNil) aNil)))
  (sSeq (sFor (iRange1 (aCons (callE (fn1 vLenF) (aCons (vr 0) aNil)) aNil)) (.nm 3) (sSeq (sPar [4, 5] (aCons (cV (.int 0)) (aCons (vr 3) aNil)))
  (sSeq (sFor (iRange1 (aCons (callE (fn1 vLenF) (aCons (vr 0) aNil)) aNil)) (.nm 6) (sIf (isB (op2 vGe (op2 vIxF (vr 1) (vr 5)) (cV (.int 0)))) (sSeq (sSet 7 (op2 vIxF (vr 1) (vr 5)))
  (sSeq (stA (vr 1) (vr 5) (op1 vNeg (cV (.int 1))))
  (sPar [5, 4] (aCons (vr 7) (aCons (op2 vAddF (vr 4) (cV (.int 1))) aNil))))) sNil))
  (sSet 2 (op2 vAddF (vr 2) (ifE (isB (op2 vGt (vr 4) (cV (.int 0)))) (lstF (aCons (vr 4) aNil)) (lstF aNil)))))))
  (sRet (callE (fn1 vTuple) (aCons (callE (fzC (fn1 vSorted)) (aCons (vr 2) aNil)) aNil)))))
def m__law_rounds : Fn := fnM 8 bd__law_rounds
theorem ok__law_rounds {P : Program} {w : World} {K : PySem.W.Frag} {mg : Str → Option Value} {base : Heap} {f : Addr} {fd : FuncData} (b_list : mg "list" = none) (b_len : mg "len" = none) (b_range : mg "range" = none) (b_sorted : mg "sorted" = none) (b_tuple : mg "tuple" = none) (F : Fun K "_law_rounds" "_law_rounds" s__law_rounds f fd) (hm : mg "_law_rounds" = some (.ref f)) : Callee P w K mg base "_law_rounds" s__law_rounds ["one"] 1 m__law_rounds :=
  Callee.mk' (k := 0) F hm sc__law_rounds rfl (by decide) (fun _ _ _ _ _ _ us hl => match us, hl with | [_], _ => rfl) fun cdv A outer s H E hr => by
  have nd : List.Nodup N__law_rounds := sc__law_rounds.nd
  have hu := hu65 hr
  exact (sxs_cons (sx_par (i := 1) (j := 2) rfl nd rfl rfl (by decide) rfl rfl (ax_cons (ex_list2 rfl (by rfl) b_list (ex_var 0 (pv 0))) (ax_cons (ex_lstF ax_nil) ax_nil)))
  (sxs_cons (sx_for PassesOwn.never rfl (ix_range1 (by rfl) b_range (ax_cons (ex_lenF (by rfl) b_len (ex_var 0 (pv 0))) ax_nil)) (gx_name 3 (pg_name (i := 3) nd rfl (by first | exact Or.inl rfl | exact Or.inr rfl))) (sxs_cons (sx_par (i := 4) (j := 5) rfl nd rfl rfl (by decide) rfl rfl (ax_cons ex_int (ax_cons (ex_var 3 (pv 3)) ax_nil)))
  (sxs_cons (sx_for PassesOwn.never rfl (ix_range1 (by rfl) b_range (ax_cons (ex_lenF (by rfl) b_len (ex_var 0 (pv 0))) ax_nil)) (gx_name 6 (pg_name (i := 6) nd rfl (by first | exact Or.inl rfl | exact Or.inr rfl))) (sxs_one (sx_if (tx_ge (ex_ixF hu (ex_var 1 (pv 1)) (ex_var 5 (pv 5))) ex_int) (sxs_cons (sx_set 7 (fun te h => ps_set (i := 7) nd rfl (by first | exact Or.inl rfl | exact Or.inr rfl) h) (ex_ixF hu (ex_var 1 (pv 1)) (ex_var 5 (pv 5))))
  (sxs_cons (sx_stA hu (ex_var 1 (pv 1)) (ex_var 5 (pv 5)) (ex_neg ex_int))
  (sxs_one (sx_par (i := 5) (j := 4) rfl nd rfl rfl (by decide) rfl rfl (ax_cons (ex_var 7 (pv 7)) (ax_cons (ex_addF (ex_var 4 (pv 4)) ex_int) ax_nil)))))) sxs_nil)))
  (sxs_one (sx_set 2 (fun te h => ps_set (i := 2) nd rfl (by first | exact Or.inl rfl | exact Or.inr rfl) h) (ex_addF (ex_var 2 (pv 2)) (ex_if (tx_gt (ex_var 4 (pv 4)) ex_int) (ex_lstF (ax_cons (ex_var 4 (pv 4)) ax_nil)) (ex_lstF ax_nil))))))))
  (sxs_one (sx_ret (ex_tuple1 (by rfl) b_tuple (ex_sortedF (by rfl) b_sorted (ex_var 2 (pv 2))))))))
/-! ### _law_reach -/
abbrev s__law_reach : Stmt := topS 40
abbrev N__law_reach : List Str := ["table", "found", "turn", "one", "place"]
theorem sc__law_reach : FnScope N__law_reach ["table"] (defScope s__law_reach) := ⟨rfl, rfl, rfl, by decide +kernel, rfl, by decide +kernel, by decide +kernel⟩
def bd__law_reach : Sx := (sSeq (sSet 1 (lstF (aCons (cV (.int 0)) aNil)))
  (sSeq (sFor (iRange1 (aCons (callE (fn1 vLenF) (aCons (op2 vIxF (vr 0) (cV (.int 0))) aNil)) aNil)) (.nm 2) (sFor (iVal (vr 0)) (.nm 3) (sSet 1 (op2 vAddF (vr 1) (lcF (iVal (callE (fzC (fn1 vSortedS)) (aCons (callE (fn1 vSet) (aCons (vr 1) aNil)) aNil))) (.nm 4) [4] (isB (op2 (fdB vNotIn) (op2 vIxF (vr 3) (vr 4)) (vr 1))) (op2 vIxF (vr 3) (vr 4)))))))
  (sRet (callE (fn1 vLenS) (aCons (callE (fn1 vSet) (aCons (vr 1) aNil)) aNil)))))
def m__law_reach : Fn := fnM 5 bd__law_reach
theorem ok__law_reach {P : Program} {w : World} {K : PySem.W.Frag} {mg : Str → Option Value} {base : Heap} {f : Addr} {fd : FuncData} (b_len : mg "len" = none) (b_range : mg "range" = none) (b_set : mg "set" = none) (b_sorted : mg "sorted" = none) (F : Fun K "_law_reach" "_law_reach" s__law_reach f fd) (hm : mg "_law_reach" = some (.ref f)) : Callee P w K mg base "_law_reach" s__law_reach ["table"] 1 m__law_reach :=
  Callee.mk' (k := 0) F hm sc__law_reach rfl (by decide) (fun _ _ _ _ _ _ us hl => match us, hl with | [_], _ => rfl) fun cdv A outer s H E hr => by
  have nd : List.Nodup N__law_reach := sc__law_reach.nd
  have hu := hu65 hr
  exact (sxs_cons (sx_set 1 (fun te h => ps_set (i := 1) nd rfl (by first | exact Or.inl rfl | exact Or.inr rfl) h) (ex_lstF (ax_cons ex_int ax_nil)))
  (sxs_cons (sx_for PassesOwn.never rfl (ix_range1 (by rfl) b_range (ax_cons (ex_lenF (by rfl) b_len (ex_ixF hu (ex_var 0 (pv 0)) ex_int)) ax_nil)) (gx_name 2 (pg_name (i := 2) nd rfl (by first | exact Or.inl rfl | exact Or.inr rfl))) (sxs_one (sx_for PassesOwn.never rfl (ix_val (ex_var 0 (pv 0))) (gx_name 3 (pg_name (i := 3) nd rfl (by first | exact Or.inl rfl | exact Or.inr rfl))) (sxs_one (sx_set 1 (fun te h => ps_set (i := 1) nd rfl (by first | exact Or.inl rfl | exact Or.inr rfl) h) (ex_addF (ex_var 1 (pv 1)) (ex_lcF (own := [("place", 4)]) [4] rfl rfl nd (ix_val (ex_sortedSF rfl (by rfl) b_sorted (ex_set1 rfl (by rfl) b_set (ex_var 1 (pv 1))))) (blkOk_by (N := N__law_reach) (sc := defScope s__law_reach) (by decide +kernel)) (by decide) (fun _ _ _ _ _ => (gx_name 4 (pg_name (i := 4) nd rfl (by first | exact Or.inl rfl | exact Or.inr rfl)))) (fun _ _ _ _ _ => (tsx_one (tx_notInF hu (ex_ixF hu (ex_var 3 (pv 3)) (ex_var 4 (pv 4))) (ex_var 1 (pv 1))))) (fun _ _ _ _ _ => (ex_ixF hu (ex_var 3 (pv 3)) (ex_var 4 (pv 4)))))))))))
  (sxs_one (sx_ret (ex_lenS (by rfl) b_len (ex_set1 rfl (by rfl) b_set (ex_var 1 (pv 1))))))))
/-! ### _law_bent -/
abbrev s__law_bent : Stmt := topS 41
abbrev N__law_bent : List Str := ["own", "table", "degree", "some"]
theorem sc__law_bent : FnScope N__law_bent ["own", "table"] (defScope s__law_bent) := ⟨rfl, rfl, rfl, by decide +kernel, rfl, by decide +kernel, by decide +kernel⟩
def bd__law_bent : Sx := (sSeq (sSet 2 (callE (fn1 vLenF) (aCons (op2 vIxF (vr 1) (cV (.int 0))) aNil)))
  (sSeq (sSet 3 (lstF (aCons (callE (fzC (fn1 vList2)) (aCons (vr 1) aNil)) (aCons (slF (vr 1) noPart (aPart (op1 vNeg (cV (.int 1))))) (aCons (op2 vAddF (vr 1) (slF (vr 1) noPart (aPart (cV (.int 1))))) (aCons (tupE aNil) (aCons (cV .non) (aCons (op2 vAddF (tupE (aCons (callE (fzC (fn1 vList2)) (aCons (op2 vIxF (vr 1) (cV (.int 0))) aNil)) aNil)) (slF (vr 1) (aPart (cV (.int 1))) noPart)) (aCons (op2 vAddF (tupE (aCons (op2 vAddF (tupE (aCons (vr 2) aNil)) (slF (op2 vIxF (vr 1) (cV (.int 0))) (aPart (cV (.int 1))) noPart)) aNil)) (slF (vr 1) (aPart (cV (.int 1))) noPart)) aNil)))))))))
  (sSeq (sSet 3 (op2 vAddF (vr 3) (lstF (aCons (op2 vAddF (tupE (aCons (op2 vAddF (tupE (aCons (op1 vNeg (cV (.int 1))) aNil)) (slF (op2 vIxF (vr 1) (cV (.int 0))) (aPart (cV (.int 1))) noPart)) aNil)) (slF (vr 1) (aPart (cV (.int 1))) noPart)) (aCons (op2 vAddF (op2 vAddF (slF (vr 1) noPart (aPart (op1 vNeg (cV (.int 1))))) (tupE (aCons (op2 vAddF (op2 vIxF (vr 1) (op1 vNeg (cV (.int 1)))) (tupE (aCons (vr 2) aNil))) aNil))) (tupE (aCons (tupE (aCons (cV (.int 0)) aNil)) aNil))) (aCons (op2 vAddF (tupE (aCons (op2 vMulF (tupE (aCons (cV (.bl true)) aNil)) (vr 2)) aNil)) (slF (vr 1) (aPart (cV (.int 1))) noPart)) (aCons (op2 vIxF (vr 1) (cV (.int 0))) aNil)))))))
  (sSeq (sSet 3 (op2 vAddF (vr 3) (lstF (aCons (op2 vMulF (tupE (aCons (tupE aNil) aNil)) (callE (fn1 vLenF) (aCons (vr 1) aNil))) (aCons (op2 vAddF (tupE (aCons (op2 vMulF (tupE (aCons (cV (.str [48])) aNil)) (vr 2)) aNil)) (slF (vr 1) (aPart (cV (.int 1))) noPart)) (aCons (op2 vAddF (tupE (aCons (op2 vMulF (tupE (aCons (cV (.int 0)) aNil)) (op2 vAddF (vr 2) (cV (.int 1)))) aNil)) (slF (vr 1) (aPart (cV (.int 1))) noPart)) (aCons (op2 vAddF (tupE (aCons (cV .non) aNil)) (slF (vr 1) (aPart (cV (.int 1))) noPart)) (aCons (op2 vMulF (tupE (aCons (tupE (aCons (cV (.int 0)) (aCons (cV (.int 0)) aNil))) aNil)) (callE (fn1 vLenF) (aCons (vr 1) aNil))) aNil))))))))
  (sRet (op2 vIxF (vr 3) (callF 2 m__law_next (aCons (vr 0) (aCons (callE (fn1 vLenF) (aCons (vr 3) aNil)) aNil)))))))))
def m__law_bent : Fn := fnM 4 bd__law_bent
theorem ok__law_bent {P : Program} {w : World} {K : PySem.W.Frag} {mg : Str → Option Value} {base : Heap} {f : Addr} {fd : FuncData} (c__law_next : Callee P w K mg base "_law_next" s__law_next ["own", "many"] 1 m__law_next) (b_len : mg "len" = none) (b_list : mg "list" = none) (F : Fun K "_law_bent" "_law_bent" s__law_bent f fd) (hm : mg "_law_bent" = some (.ref f)) : Callee P w K mg base "_law_bent" s__law_bent ["own", "table"] 2 m__law_bent :=
  Callee.mk' (k := 1) F hm sc__law_bent rfl (by decide) (fun _ _ _ _ _ _ us hl => match us, hl with | [_, _], _ => rfl) fun cdv A outer s H E hr => by
  have nd : List.Nodup N__law_bent := sc__law_bent.nd
  have hu := hu65 hr
  exact (sxs_cons (sx_set 2 (fun te h => ps_set (i := 2) nd rfl (by first | exact Or.inl rfl | exact Or.inr rfl) h) (ex_lenF (by rfl) b_len (ex_ixF hu (ex_var 1 (pv 1)) ex_int)))
  (sxs_cons (sx_set 3 (fun te h => ps_set (i := 3) nd rfl (by first | exact Or.inl rfl | exact Or.inr rfl) h) (ex_lstF (ax_cons (ex_list2F rfl (by rfl) b_list (ex_var 1 (pv 1))) (ax_cons (ex_sliceF (ex_var 1 (pv 1)) px_none (px_some (ex_neg ex_int))) (ax_cons (ex_addF (ex_var 1 (pv 1)) (ex_sliceF (ex_var 1 (pv 1)) px_none (px_some ex_int))) (ax_cons (ex_tup ax_nil) (ax_cons ex_non (ax_cons (ex_addF (ex_tup (ax_cons (ex_list2F rfl (by rfl) b_list (ex_ixF hu (ex_var 1 (pv 1)) ex_int)) ax_nil)) (ex_sliceF (ex_var 1 (pv 1)) (px_some ex_int) px_none)) (ax_cons (ex_addF (ex_tup (ax_cons (ex_addF (ex_tup (ax_cons (ex_var 2 (pv 2)) ax_nil)) (ex_sliceF (ex_ixF hu (ex_var 1 (pv 1)) ex_int) (px_some ex_int) px_none)) ax_nil)) (ex_sliceF (ex_var 1 (pv 1)) (px_some ex_int) px_none)) ax_nil)))))))))
  (sxs_cons (sx_set 3 (fun te h => ps_set (i := 3) nd rfl (by first | exact Or.inl rfl | exact Or.inr rfl) h) (ex_addF (ex_var 3 (pv 3)) (ex_lstF (ax_cons (ex_addF (ex_tup (ax_cons (ex_addF (ex_tup (ax_cons (ex_neg ex_int) ax_nil)) (ex_sliceF (ex_ixF hu (ex_var 1 (pv 1)) ex_int) (px_some ex_int) px_none)) ax_nil)) (ex_sliceF (ex_var 1 (pv 1)) (px_some ex_int) px_none)) (ax_cons (ex_addF (ex_addF (ex_sliceF (ex_var 1 (pv 1)) px_none (px_some (ex_neg ex_int))) (ex_tup (ax_cons (ex_addF (ex_ixF hu (ex_var 1 (pv 1)) (ex_neg ex_int)) (ex_tup (ax_cons (ex_var 2 (pv 2)) ax_nil))) ax_nil))) (ex_tup (ax_cons (ex_tup (ax_cons ex_int ax_nil)) ax_nil))) (ax_cons (ex_addF (ex_tup (ax_cons (ex_mulF (ex_tup (ax_cons ex_bl ax_nil)) (ex_var 2 (pv 2))) ax_nil)) (ex_sliceF (ex_var 1 (pv 1)) (px_some ex_int) px_none)) (ax_cons (ex_ixF hu (ex_var 1 (pv 1)) ex_int) ax_nil)))))))
  (sxs_cons (sx_set 3 (fun te h => ps_set (i := 3) nd rfl (by first | exact Or.inl rfl | exact Or.inr rfl) h) (ex_addF (ex_var 3 (pv 3)) (ex_lstF (ax_cons (ex_mulF (ex_tup (ax_cons (ex_tup ax_nil) ax_nil)) (ex_lenF (by rfl) b_len (ex_var 1 (pv 1)))) (ax_cons (ex_addF (ex_tup (ax_cons (ex_mulF (ex_tup (ax_cons (ex_str (s := [48]) rfl) ax_nil)) (ex_var 2 (pv 2))) ax_nil)) (ex_sliceF (ex_var 1 (pv 1)) (px_some ex_int) px_none)) (ax_cons (ex_addF (ex_tup (ax_cons (ex_mulF (ex_tup (ax_cons ex_int ax_nil)) (ex_addF (ex_var 2 (pv 2)) ex_int)) ax_nil)) (ex_sliceF (ex_var 1 (pv 1)) (px_some ex_int) px_none)) (ax_cons (ex_addF (ex_tup (ax_cons ex_non ax_nil)) (ex_sliceF (ex_var 1 (pv 1)) (px_some ex_int) px_none)) (ax_cons (ex_mulF (ex_tup (ax_cons (ex_tup (ax_cons ex_int (ax_cons ex_int ax_nil))) ax_nil)) (ex_lenF (by rfl) b_len (ex_var 1 (pv 1)))) ax_nil))))))))
  (sxs_one (sx_ret (ex_ixF hu (ex_var 3 (pv 3)) (ex_call c__law_next (hr.mono (by decide)) (by rfl) (ax_cons (ex_var 0 (pv 0)) (ax_cons (ex_lenF (by rfl) b_len (ex_var 3 (pv 3))) ax_nil))))))))))
/-! ### law -/
abbrev s_law : Stmt := topS 42
abbrev N_law : List Str := ["script", "own", "turn", "size", "degree", "table", "word", "got", "due", "rounds", "right"]
theorem sc_law : FnScope N_law ["script"] (defScope s_law) := ⟨rfl, rfl, rfl, by decide +kernel, rfl, by decide +kernel, by decide +kernel⟩
def lb0_11 : Sx := (sIf (tNot (trB (callG 2 (m__law_like 10) (aCons (lstF (aCons (callG 2 m_is_transitive (aCons (vr 3) (aCons (vr 5) aNil))) (aCons (callGK 2 0 [1, 0] m_is_transitive aNil (aCons (vr 5) (aCons (vr 3) aNil))) aNil))) (aCons (lstF (aCons (vr 10) (aCons (vr 10) aNil))) aNil))))) (sRet (cV (.bl false))) sNil)
def lb0_10 : Sx := (sSeq (sSet 10 (op2 vEq (callG 1 m__law_reach (aCons (vr 5) aNil)) (vr 4)))
  lb0_11)
def lb0_9 : Sx := (sSeq (sIf (tNot (trB (callG 2 (m__law_like 10) (aCons (lstF (aCons (callG 3 m_cycles (aCons (vr 3) (aCons (vr 5) (aCons (vr 6) aNil)))) (aCons (callGK 3 0 [1, 2, 0] m_cycles aNil (aCons (vr 6) (aCons (vr 3) (aCons (vr 5) aNil)))) aNil))) (aCons (lstF (aCons (vr 9) (aCons (vr 9) aNil))) aNil))))) (sRet (cV (.bl false))) sNil)
  lb0_10)
def lb0_8 : Sx := (sSeq (sSet 9 (callG 1 m__law_rounds (aCons (vr 8) aNil)))
  lb0_9)
def lb0_7 : Sx := (sSeq (sIf (tNot (trB (callG 2 (m__law_like 10) (aCons (vr 7) (aCons (lstF (aCons (vr 8) (aCons (vr 8) (aCons (tupRg (rg1 (vr 4))) aNil)))) aNil))))) (sRet (cV (.bl false))) sNil)
  lb0_8)
def lb0_6 : Sx := (sSeq (sSet 7 (lstF (aCons (callG 3 m_moved (aCons (vr 3) (aCons (vr 5) (aCons (vr 6) aNil)))) (aCons (callGK 3 0 [2, 1, 0] m_moved aNil (aCons (vr 6) (aCons (vr 5) (aCons (vr 3) aNil)))) (aCons (callG 3 m_moved (aCons (vr 3) (aCons (vr 5) (aCons (cV (.str [])) aNil)))) aNil)))))
  lb0_7)
def lb0_5 : Sx := (sSeq (sSet 8 (callG 2 m__law_moved (aCons (vr 5) (aCons (vr 6) aNil))))
  lb0_6)
def lb0_4 : Sx := (sSeq (sIf (tNot (trB (callG 2 (m__law_like 10) (aCons (vr 7) (aCons (lstF (aCons (cV (.bl true)) (aCons (cV (.bl true)) (aCons (cV (.bl false)) (aCons (cV (.bl false)) aNil))))) aNil))))) (sRet (cV (.bl false))) sNil)
  lb0_5)
def lb0_3 : Sx := (sSeq (sSet 7 (lstF (aCons (callG 2 m_is_table (aCons (vr 3) (aCons (vr 5) aNil))) (aCons (callGK 2 0 [1, 0] m_is_table aNil (aCons (vr 5) (aCons (vr 3) aNil))) (aCons (callG 2 m_is_table (aCons (vr 3) (aCons (callT 2 m__law_bent (aCons (vr 1) (aCons (vr 5) aNil))) aNil))) (aCons (callG 2 m_is_table (aCons (op2 vAddF (op2 vMod (callE (fn1 vInt) (aCons (vr 3) aNil)) (cV (.int 3))) (cV (.int 1))) (aCons (vr 5) aNil))) aNil))))))
  lb0_4)
def lb0_2 : Sx := (sSeq (sIf (isB (op2 vEq (callF 2 m__law_next (aCons (vr 1) (aCons (cV (.int 3)) aNil))) (cV (.int 0)))) (sSet 5 (op2 vAddF (callE (fn1 vTuple) (aCons (op2 vMulF (lstF (aCons (tupRg (rg1 (vr 4))) aNil)) (op2 vSub (vr 3) (cV (.int 1)))) aNil)) (slF (vr 5) (aPart (op1 vNeg (cV (.int 1)))) noPart))) sNil)
  lb0_3)
def lb0_1 : Sx := (sSeq (sPar [5, 6] (aCons (callT 3 m__law_table (aCons (vr 1) (aCons (vr 3) (aCons (vr 4) aNil)))) (aCons (callT 3 m__law_word (aCons (vr 1) (aCons (vr 3) (aCons (cV (.int 10)) aNil)))) aNil)))
  lb0_2)
def lb0_0 : Sx := (sSeq (sPar [3, 4] (aCons (op2 vAddF (cV (.int 1)) (callF 2 m__law_next (aCons (vr 1) (aCons (cV (.int 3)) aNil)))) (aCons (op2 vAddF (cV (.int 1)) (callF 2 m__law_next (aCons (vr 1) (aCons (cV (.int 6)) aNil)))) aNil)))
  lb0_1)
def lw_2 : Sx := (sRet (cV (.bl true)))
def lw_1 : Sx := (sSeq (sFor (iRange1 (aCons (cV (.int 3)) aNil)) (.nm 2) lb0_0)
  lw_2)
def lw_0 : Sx := (sSeq (sSet 1 (lstE (aCons (cV (.int 0)) (aCons (cV (.int 73)) (aCons (cV (.int 0)) (aCons (cV (.int 0)) (aCons (callE (fzC (fn1 vList2)) (aCons (vr 0) aNil)) aNil)))))))
  lw_1)
def bd_law : Sx := lw_0
def m_law : Fn := fnM 11 bd_law
theorem ok_law {P : Program} {w : World} {K : PySem.W.Frag} {mg : Str → Option Value} {base : Heap} {f : Addr} {fd : FuncData} (c__law_next : Callee P w K mg base "_law_next" s__law_next ["own", "many"] 1 m__law_next) (c__law_word : Callee P w K mg base "_law_word" s__law_word ["own", "size", "most"] 2 m__law_word) (c__law_table : Callee P w K mg base "_law_table" s__law_table ["own", "size", "degree"] 3 m__law_table) (c_is_table : Callee P w K mg base "is_table" s_is_table ["size", "value"] 5 m_is_table) (c__law_bent : Callee P w K mg base "_law_bent" s__law_bent ["own", "table"] 2 m__law_bent) (c__law_like : Callee P w K mg base "_law_like" s__law_like ["got", "due"] 11 (m__law_like 10)) (c__law_moved : Callee P w K mg base "_law_moved" s__law_moved ["table", "word"] 2 m__law_moved) (c_moved : Callee P w K mg base "moved" s_moved ["size", "table", "word"] 7 m_moved) (c__law_rounds : Callee P w K mg base "_law_rounds" s__law_rounds ["one"] 1 m__law_rounds) (c_cycles : Callee P w K mg base "cycles" s_cycles ["size", "table", "word"] 7 m_cycles) (c__law_reach : Callee P w K mg base "_law_reach" s__law_reach ["table"] 1 m__law_reach) (c_is_transitive : Callee P w K mg base "is_transitive" s_is_transitive ["size", "table"] 7 m_is_transitive) (b_list : mg "list" = none) (b_range : mg "range" = none) (b_tuple : mg "tuple" = none) (b_int : mg "int" = none) (F : Fun K "law" "law" s_law f fd) (hm : mg "law" = some (.ref f)) : Callee P w K mg base "law" s_law ["script"] 12 m_law :=
  Callee.mk' (k := 11) F hm sc_law rfl (by decide) (fun _ _ _ _ _ _ us hl => match us, hl with | [_], _ => rfl) fun cdv A outer s H E hr => by
  have nd : List.Nodup N_law := sc_law.nd
  have hu := hu65 hr
  exact (sxs_cons (sx_set 1 (fun te h => ps_set (i := 1) nd rfl (by first | exact Or.inl rfl | exact Or.inr rfl) h) (ex_lst (ax_cons ex_int (ax_cons ex_int (ax_cons ex_int (ax_cons ex_int (ax_cons (ex_list2F rfl (by rfl) b_list (ex_var 0 (pv 0))) ax_nil)))))))
  (sxs_cons (sx_for PassesOwn.never rfl (ix_range1 (by rfl) b_range (ax_cons ex_int ax_nil)) (gx_name 2 (pg_name (i := 2) nd rfl (by first | exact Or.inl rfl | exact Or.inr rfl))) (sxs_cons (sx_par (i := 3) (j := 4) rfl nd rfl rfl (by decide) rfl rfl (ax_cons (ex_addF ex_int (ex_call c__law_next (hr.mono (by decide)) (by rfl) (ax_cons (ex_var 1 (pv 1)) (ax_cons ex_int ax_nil)))) (ax_cons (ex_addF ex_int (ex_call c__law_next (hr.mono (by decide)) (by rfl) (ax_cons (ex_var 1 (pv 1)) (ax_cons ex_int ax_nil)))) ax_nil)))
  (sxs_cons (sx_par (i := 5) (j := 6) rfl nd rfl rfl (by decide) rfl rfl (ax_cons (ex_callT c__law_table (hr.mono (by decide)) (by rfl) (ax_cons (ex_var 1 (pv 1)) (ax_cons (ex_var 3 (pv 3)) (ax_cons (ex_var 4 (pv 4)) ax_nil)))) (ax_cons (ex_callT c__law_word (hr.mono (by decide)) (by rfl) (ax_cons (ex_var 1 (pv 1)) (ax_cons (ex_var 3 (pv 3)) (ax_cons ex_int ax_nil)))) ax_nil)))
  (sxs_cons (sx_if (tx_eq hu (ex_call c__law_next (hr.mono (by decide)) (by rfl) (ax_cons (ex_var 1 (pv 1)) (ax_cons ex_int ax_nil))) ex_int) (sxs_one (sx_set 5 (fun te h => ps_set (i := 5) nd rfl (by first | exact Or.inl rfl | exact Or.inr rfl) h) (ex_addF (ex_tuple1 (by rfl) b_tuple (ex_mulF (ex_lstF (ax_cons (ex_tupRg rfl (by rfl) b_tuple (rx_1 (by rfl) b_range (ex_var 4 (pv 4)))) ax_nil)) (ex_sub (ex_var 3 (pv 3)) ex_int))) (ex_sliceF (ex_var 5 (pv 5)) (px_some (ex_neg ex_int)) px_none)))) sxs_nil)
  (sxs_cons (sx_set 7 (fun te h => ps_set (i := 7) nd rfl (by first | exact Or.inl rfl | exact Or.inr rfl) h) (ex_lstF (ax_cons (ex_callG c_is_table (hr.mono (by decide)) (by rfl) (ax_cons (ex_var 3 (pv 3)) (ax_cons (ex_var 5 (pv 5)) ax_nil))) (ax_cons (ex_callGK0 (ks := ["value", "size"]) [1, 0] c_is_table (hr.mono (by decide)) (by rfl) (kx_cons (ex_var 5 (pv 5)) (kx_cons (ex_var 3 (pv 3)) kx_nil)) rfl (fun _ _ _ _ _ _ us ws h1 h2 => match us, ws, h1, h2 with | [], [_, _], _, _ => rfl)) (ax_cons (ex_callG c_is_table (hr.mono (by decide)) (by rfl) (ax_cons (ex_var 3 (pv 3)) (ax_cons (ex_callT c__law_bent (hr.mono (by decide)) (by rfl) (ax_cons (ex_var 1 (pv 1)) (ax_cons (ex_var 5 (pv 5)) ax_nil))) ax_nil))) (ax_cons (ex_callG c_is_table (hr.mono (by decide)) (by rfl) (ax_cons (ex_addF (ex_mod (ex_int1 (by rfl) b_int (ex_var 3 (pv 3))) ex_int) ex_int) (ax_cons (ex_var 5 (pv 5)) ax_nil))) ax_nil))))))
  (sxs_cons (sx_if (tx_not (tx_truth (ex_callG c__law_like (hr.mono (by decide)) (by rfl) (ax_cons (ex_var 7 (pv 7)) (ax_cons (ex_lstF (ax_cons ex_bl (ax_cons ex_bl (ax_cons ex_bl (ax_cons ex_bl ax_nil))))) ax_nil))))) (sxs_one (sx_ret ex_bl)) sxs_nil)
  (sxs_cons (sx_set 8 (fun te h => ps_set (i := 8) nd rfl (by first | exact Or.inl rfl | exact Or.inr rfl) h) (ex_callG c__law_moved (hr.mono (by decide)) (by rfl) (ax_cons (ex_var 5 (pv 5)) (ax_cons (ex_var 6 (pv 6)) ax_nil))))
  (sxs_cons (sx_set 7 (fun te h => ps_set (i := 7) nd rfl (by first | exact Or.inl rfl | exact Or.inr rfl) h) (ex_lstF (ax_cons (ex_callG c_moved (hr.mono (by decide)) (by rfl) (ax_cons (ex_var 3 (pv 3)) (ax_cons (ex_var 5 (pv 5)) (ax_cons (ex_var 6 (pv 6)) ax_nil)))) (ax_cons (ex_callGK0 (ks := ["word", "table", "size"]) [2, 1, 0] c_moved (hr.mono (by decide)) (by rfl) (kx_cons (ex_var 6 (pv 6)) (kx_cons (ex_var 5 (pv 5)) (kx_cons (ex_var 3 (pv 3)) kx_nil))) rfl (fun _ _ _ _ _ _ us ws h1 h2 => match us, ws, h1, h2 with | [], [_, _, _], _, _ => rfl)) (ax_cons (ex_callG c_moved (hr.mono (by decide)) (by rfl) (ax_cons (ex_var 3 (pv 3)) (ax_cons (ex_var 5 (pv 5)) (ax_cons (ex_str (s := []) rfl) ax_nil)))) ax_nil)))))
  (sxs_cons (sx_if (tx_not (tx_truth (ex_callG c__law_like (hr.mono (by decide)) (by rfl) (ax_cons (ex_var 7 (pv 7)) (ax_cons (ex_lstF (ax_cons (ex_var 8 (pv 8)) (ax_cons (ex_var 8 (pv 8)) (ax_cons (ex_tupRg rfl (by rfl) b_tuple (rx_1 (by rfl) b_range (ex_var 4 (pv 4)))) ax_nil)))) ax_nil))))) (sxs_one (sx_ret ex_bl)) sxs_nil)
  (sxs_cons (sx_set 9 (fun te h => ps_set (i := 9) nd rfl (by first | exact Or.inl rfl | exact Or.inr rfl) h) (ex_callG c__law_rounds (hr.mono (by decide)) (by rfl) (ax_cons (ex_var 8 (pv 8)) ax_nil)))
  (sxs_cons (sx_if (tx_not (tx_truth (ex_callG c__law_like (hr.mono (by decide)) (by rfl) (ax_cons (ex_lstF (ax_cons (ex_callG c_cycles (hr.mono (by decide)) (by rfl) (ax_cons (ex_var 3 (pv 3)) (ax_cons (ex_var 5 (pv 5)) (ax_cons (ex_var 6 (pv 6)) ax_nil)))) (ax_cons (ex_callGK0 (ks := ["word", "size", "table"]) [1, 2, 0] c_cycles (hr.mono (by decide)) (by rfl) (kx_cons (ex_var 6 (pv 6)) (kx_cons (ex_var 3 (pv 3)) (kx_cons (ex_var 5 (pv 5)) kx_nil))) rfl (fun _ _ _ _ _ _ us ws h1 h2 => match us, ws, h1, h2 with | [], [_, _, _], _, _ => rfl)) ax_nil))) (ax_cons (ex_lstF (ax_cons (ex_var 9 (pv 9)) (ax_cons (ex_var 9 (pv 9)) ax_nil))) ax_nil))))) (sxs_one (sx_ret ex_bl)) sxs_nil)
  (sxs_cons (sx_set 10 (fun te h => ps_set (i := 10) nd rfl (by first | exact Or.inl rfl | exact Or.inr rfl) h) (ex_eq hu (ex_callG c__law_reach (hr.mono (by decide)) (by rfl) (ax_cons (ex_var 5 (pv 5)) ax_nil)) (ex_var 4 (pv 4))))
  (sxs_one (sx_if (tx_not (tx_truth (ex_callG c__law_like (hr.mono (by decide)) (by rfl) (ax_cons (ex_lstF (ax_cons (ex_callG c_is_transitive (hr.mono (by decide)) (by rfl) (ax_cons (ex_var 3 (pv 3)) (ax_cons (ex_var 5 (pv 5)) ax_nil))) (ax_cons (ex_callGK0 (ks := ["table", "size"]) [1, 0] c_is_transitive (hr.mono (by decide)) (by rfl) (kx_cons (ex_var 5 (pv 5)) (kx_cons (ex_var 3 (pv 3)) kx_nil)) rfl (fun _ _ _ _ _ _ us ws h1 h2 => match us, ws, h1, h2 with | [], [_, _], _, _ => rfl)) ax_nil))) (ax_cons (ex_lstF (ax_cons (ex_var 10 (pv 10)) (ax_cons (ex_var 10 (pv 10)) ax_nil))) ax_nil))))) (sxs_one (sx_ret ex_bl)) sxs_nil))))))))))))))
  (sxs_one (sx_ret ex_bl))))
end LK

namespace LK
open PySem PySem.Spec PyProof.Rows L2 Rf Rf.N
/-! ### what is drawn -/
theorem perm_loop {ns : List Int} {c : Int} {d : Nat} (hl : ns.length ≤ 63) (hd : 1 ≤ d ∧ d ≤ 6) (c0 : 0 ≤ c ∧ c ≤ 10000) (O : Ob) (o : N.OwnOk ns c ⟨2, [.lst ((List.range d).map nV), O]⟩) :
    ∃ l' h', sFor (iRange1 (aCons (vr 1) aNil)) (.nm 3) (sSeq (sPar [4, 5] (aCons (callF 2 m__law_next (aCons (vr 0) (aCons (vr 1) aNil))) (aCons (op2 vIxF (vr 2) (vr 3)) aNil)))
  (sSeq (stA (vr 2) (vr 3) (op2 vIxF (vr 2) (vr 4)))
  (stA (vr 2) (vr 4) (vr 5)))) [some (.ref 0), some (nV d), some (.ref 1), none, none, none] ⟨2, [.lst ((List.range d).map nV), O]⟩ = .ok (.nx l') h' ∧
      ∃ p O y3 y4 y5, l' = [some (.ref 0), some (nV d), some (.ref 1), y3, y4, y5] ∧ h' = ⟨2, [.lst (p.map nV), O]⟩ ∧ IsP d p ∧ N.OwnOk ns (c + d) ⟨2, [.lst (p.map nV), O]⟩ := by
  have eI : iRange1 (aCons (vr 1) aNil) [some (.ref 0), some (nV d), some (.ref 1), none, none, none] ⟨2, [.lst ((List.range d).map nV), O]⟩ = .ok (.vals (rangeV 0 d)) ⟨2, [.lst ((List.range d).map nV), O]⟩ := by
    have := iRange1_ok (A := vr 1) (l := [some (.ref 0), some (nV d), some (.ref 1), none, none, none]) (h := ⟨2, [.lst ((List.range d).map nV), O]⟩) (j := d) rfl (by omega) (by omega)
    rw [Int.toNat_natCast] at this
    exact this
  have len : (rangeV 0 d).length = d := by unfold rangeV; rw [List.length_map, List.length_range]
  obtain ⟨l', h', e, p⟩ := sFor_inv (tg := .nm 3) (B := sSeq (sPar [4, 5] (aCons (callF 2 m__law_next (aCons (vr 0) (aCons (vr 1) aNil))) (aCons (op2 vIxF (vr 2) (vr 3)) aNil)))
      (sSeq (stA (vr 2) (vr 3) (op2 vIxF (vr 2) (vr 4))) (stA (vr 2) (vr 4) (vr 5))))
    (P := fun k l h => ∃ p O y3 y4 y5, l = [some (.ref 0), some (nV d), some (.ref 1), y3, y4, y5] ∧ h = ⟨2, [.lst (p.map nV), O]⟩ ∧ IsP d p ∧ N.OwnOk ns (c + k) ⟨2, [.lst (p.map nV), O]⟩) eI (by rw [len]; omega)
    (fun k x l h ek ⟨p, O, y3, y4, y5, el, eh, ip, ow⟩ => by
      subst el eh
      have hk : k < d := by
        rcases Nat.lt_or_ge k d with h | h
        · exact h
        · rw [List.getElem?_eq_none (by rw [len]; exact h)] at ek; cases ek
      have ex : x = nV k := by
        unfold rangeV at ek
        rw [List.getElem?_map, List.getElem?_range hk] at ek
        have := Option.some.inj ek
        rw [← this]
        show Va.int (0 + (k : Int)) = _
        rw [Int.zero_add]
      subst ex
      obtain ⟨r, a, b, c2, d2, e1, r0, r1, o1⟩ := N.OwnOk.next (many := (d : Int)) ow (by omega) (by omega) (by omega)
      obtain ⟨j, rfl⟩ := Int.eq_ofNat_of_zero_le r0
      have hj : j < d := by omega
      have kp : k < p.length := by rw [ip.len]; exact hk
      have jp : j < p.length := by rw [ip.len]; exact hj
      have gk : (p.map nV)[k]? = some (nV p[k]) := by rw [List.getElem?_map, List.getElem?_eq_getElem kp]; rfl
      have gj : (p.map nV)[j]? = some (nV p[j]) := by rw [List.getElem?_map, List.getElem?_eq_getElem jp]; rfl
      refine ⟨[(3, nV k)], [some (.ref 0), some (nV d), some (.ref 1), some (nV k), some (nV j), some (nV p[k])], ⟨2, [.lst (((p.set k p[j]).set j p[k]).map nV), ownS ns a b c2 d2]⟩, rfl, .inl ?_, _, _, _, _, _, rfl, rfl, ip.swap hk hj, ?_⟩
      · show sSeq _ _ [some (.ref 0), some (nV d), some (.ref 1), some (nV k), y4, y5] ⟨2, [.lst (p.map nV), O]⟩ = _
        have s1 : sPar [4, 5] (aCons (callF 2 m__law_next (aCons (vr 0) (aCons (vr 1) aNil))) (aCons (op2 vIxF (vr 2) (vr 3)) aNil)) [some (.ref 0), some (nV d), some (.ref 1), some (nV k), y4, y5] ⟨2, [.lst (p.map nV), O]⟩ = .ok (.nx [some (.ref 0), some (nV d), some (.ref 1), some (nV k), some (nV j), some (nV p[k])]) ⟨2, [.lst (p.map nV), ownS ns a b c2 d2]⟩ :=
          sPar_ok (xs := [nV j, nV p[k]]) (call2 (h1 := ⟨2, [.lst (p.map nV), ownS ns a b c2 d2]⟩) (callF_ok (xs := [.ref 0, nV d]) (h1 := ⟨2, [.lst (p.map nV), O]⟩) rfl rfl e1) ((op2_ok (F := vIxF) rfl rfl).trans (ixF_lst rfl gk))) rfl
        refine (sSeq_nx s1).trans ((sSeq_nx (stA_ok (v := nV p[j]) ((op2_ok (F := vIxF) rfl rfl).trans (ixF_lst rfl gj)) rfl rfl (setA_lst (k := k) rfl (by rw [List.length_map]; exact kp)))).trans ?_)
        refine (stA_ok (v := nV p[k]) rfl rfl rfl (setA_lst (k := j) rfl (by rw [List.length_set, List.length_map]; exact jp))).trans ?_
        show _ = Rs.ok (Ou.nx _) (⟨2, [.lst (((p.set k p[j]).set j p[k]).map nV), ownS ns a b c2 d2]⟩ : Hea)
        rw [List.map_set, List.map_set]
        rfl
      · obtain ⟨a', b', c', d', e0, i1, i2, i3, i4⟩ := o1.it
        exact ⟨⟨a', b', c', d', e0, i1, i2, ⟨i3.1, by have := i3.2; omega⟩, i4⟩⟩)
    ⟨List.range d, O, none, none, none, rfl, rfl, .range d, by simpa using o⟩
  rw [len] at p
  exact ⟨l', h', e, p⟩
theorem perm_ok {ns : List Int} {c : Int} {d : Nat} (hl : ns.length ≤ 63) (hd : 1 ≤ d ∧ d ≤ 6) (c0 : 0 ≤ c ∧ c ≤ 10000) {O : Ob} (o : N.OwnOk ns c ⟨1, [O]⟩) :
    ∃ p O', runT m__law_permutation [.ref 0, nV d] ⟨1, [O]⟩ = .ok (pV p) ⟨1, [O']⟩ ∧ IsP d p ∧ N.OwnOk ns (c + d) ⟨1, [O']⟩ := by
  have s1 : lcE (iRange1 (aCons (vr 1) aNil)) (.nm 3) [3] tTrue (vr 3) [some (.ref 0), some (nV d), none, none, none, none] ⟨1, [O]⟩ = .ok (.ref 1) ⟨2, [.lst ((List.range d).map nV), O]⟩ := by
    have ds : d = 1 ∨ d = 2 ∨ d = 3 ∨ d = 4 ∨ d = 5 ∨ d = 6 := by omega
    rcases ds with rfl | rfl | rfl | rfl | rfl | rfl <;> kernel_rfl
  obtain ⟨l', h', e, p, O', y3, y4, y5, el, eh, ip, o'⟩ := perm_loop hl hd c0 O (o.to rfl)
  subst el eh
  refine ⟨p, O', runT_ok (h' := ⟨2, [.lst (p.map nV), O']⟩) (rest := [.lst (p.map nV)]) (fnM_rt ?_) rfl rfl (okV_p 1 p) ((o'.to (h' := ⟨1, [O']⟩) rfl).okO 1), ip, o'.to rfl⟩
  exact (sSeq_nx (sSet_ok s1)).trans ((sSeq_nx e).trans (sRet_ok ((callE_ok (call1 (a := .ref 1) rfl)).trans rfl)))
theorem table_ok {ns : List Int} {c : Int} {n d : Nat} (hl : ns.length ≤ 63) (hd : 1 ≤ d ∧ d ≤ 6) (hn : n ≤ 3) (c0 : 0 ≤ c ∧ c ≤ 9000) {O : Ob} (o : N.OwnOk ns c ⟨1, [O]⟩) :
    ∃ ps O', runT m__law_table [.ref 0, nV n, nV d] ⟨1, [O]⟩ = .ok (tV ps) ⟨1, [O']⟩ ∧ ps.length = n ∧ (∀ p ∈ ps, IsP d p) ∧ N.OwnOk ns (c + 18) ⟨1, [O']⟩ := by
  obtain ⟨acc, h', e, len, ps, O', ea, eh, lp, hp, o'⟩ := lcF_inv (i := 3) (vs := [3]) (E := callT 2 m__law_permutation (aCons (vr 0) (aCons (vr 2) aNil))) (l := [some (.ref 0), some (nV n), some (nV d), none]) (h := ⟨1, [O]⟩)
    (P := fun k acc h => ∃ (ps : List (List Nat)) (O' : Ob), acc = ps.map pV ∧ h = ⟨1, [O']⟩ ∧ ps.length = k ∧ (∀ p ∈ ps, IsP d p) ∧ N.OwnOk ns (c + 6 * k) ⟨1, [O']⟩)
    (range_ok (A := vr 1) rfl (by omega)) (by rw [rangeV_len]; omega)
    (fun k x acc h ek _ ⟨ps, O', ea, eh, lp, hp, o'⟩ => by
      subst ea eh
      obtain ⟨hk, rfl⟩ := rangeV_get ek
      obtain ⟨p, O2, e2, ip, o2⟩ := perm_ok hl hd (by omega) o'
      refine ⟨pV p, ⟨1, [O2]⟩, (callT_ok (call2 (a := .ref 0) (b := nV d) rfl rfl) rfl).trans e2, ps ++ [p], O2, by rw [List.map_append]; rfl, rfl, by rw [List.length_append, lp]; rfl, fun q hq => ?_, o2.mono (by omega)⟩
      rcases List.mem_append.mp hq with hq | hq
      · exact hp q hq
      · rw [List.mem_singleton.mp hq]; exact ip)
    ⟨[], O, rfl, rfl, rfl, fun _ h => absurd h List.not_mem_nil, o.mono (by omega)⟩
  subst ea eh
  rw [rangeV_len] at lp o'
  refine ⟨ps, O', runT_ok (h' := ⟨1, [O']⟩) (rest := []) (fnM_rt (sRet_ok ((callE_ok (call1 e)).trans rfl))) rfl rfl (okV_t 1 ps) (o'.okO 1), lp, hp, o'.mono (by omega)⟩
theorem word_ok {ns : List Int} {c : Int} {n most : Nat} (hl : ns.length ≤ 63) (hn : 1 ≤ n ∧ n ≤ 3) (hm : most ≤ 20) (c0 : 0 ≤ c ∧ c ≤ 9000) {O : Ob} (o : N.OwnOk ns c ⟨1, [O]⟩) :
    ∃ w O', runT m__law_word [.ref 0, nV n, nV most] ⟨1, [O]⟩ = .ok (.str w) ⟨1, [O']⟩ ∧ w.length ≤ most ∧ (∀ x ∈ w, x ∈ sgs n) ∧ N.OwnOk ns (c + 21) ⟨1, [O']⟩ := by
  obtain ⟨r, a, b, c1, d, e1, r0, r1, o1⟩ := N.OwnOk.next (many := (most : Int) + 1) o (by omega) (by omega) (by omega)
  obtain ⟨many, rfl⟩ := Int.eq_ofNat_of_zero_le r0
  have fact : ∀ j : Nat, j < 2 * n → vIx (.str [97, 65, 98, 66, 99, 67]) (nV j) = (fun h => .ok (.str [[97, 65, 98, 66, 99, 67].getD j 0]) h) ∧ [97, 65, 98, 66, 99, 67].getD j 0 ∈ sgs n := by
    intro j hj
    have js : j = 0 ∨ j = 1 ∨ j = 2 ∨ j = 3 ∨ j = 4 ∨ j = 5 := by omega
    have nn : n = 1 ∨ n = 2 ∨ n = 3 := by omega
    refine ⟨?_, ?_⟩
    · rcases js with rfl | rfl | rfl | rfl | rfl | rfl <;> rfl
    · rcases nn with rfl | rfl | rfl <;> rcases js with rfl | rfl | rfl | rfl | rfl | rfl <;> first | decide | omega
  have twice : ∀ (x0 x2 x3 : Option Va) (h : Hea), op2 vMulF (cV (.int 2)) (vr 1) [x0, some (nV n), x2, x3] h = .ok (.int (2 * n)) h := by
    intro x0 x2 x3 h
    have nn : n = 1 ∨ n = 2 ∨ n = 3 := by omega
    rcases nn with rfl | rfl | rfl <;> rfl
  have first : callF 2 m__law_next (aCons (vr 0) (aCons (op2 vAddF (vr 2) (cV (.int 1))) aNil)) [some (.ref 0), some (nV n), some (nV most), none] ⟨1, [O]⟩ = .ok (nV many) ⟨1, [ownS ns a b c1 d]⟩ :=
    callF_ok (xs := [.ref 0, .int (most + 1)]) (h1 := ⟨1, [O]⟩) (call2 (a := .ref 0) (b := .int (most + 1)) rfl rfl) rfl e1
  obtain ⟨acc, h', e, len, w, O', ea, eh, lw, hw, o'⟩ := lcF_inv (i := 3) (vs := [3]) (E := op2 vIx (cV (.str [97, 65, 98, 66, 99, 67])) (callF 2 m__law_next (aCons (vr 0) (aCons (op2 vMulF (cV (.int 2)) (vr 1)) aNil)))) (l := [some (.ref 0), some (nV n), some (nV most), none]) (h := ⟨1, [O]⟩)
    (P := fun k acc h => ∃ (w : List Nat) (O' : Ob), acc = w.map (fun c => .str [c]) ∧ h = ⟨1, [O']⟩ ∧ w.length = k ∧ (∀ x ∈ w, x ∈ sgs n) ∧ N.OwnOk ns (c + 1 + k) ⟨1, [O']⟩)
    (range_ok2 first (by omega)) (by rw [rangeV_len]; omega)
    (fun k x acc h ek _ ⟨w, O', ea, eh, lw, hw, o'⟩ => by
      subst ea eh
      obtain ⟨hk, rfl⟩ := rangeV_get ek
      obtain ⟨r, a, b, c2, d, e2, r0, r1, o2⟩ := N.OwnOk.next (many := 2 * (n : Int)) o' (by omega) (by omega) (by omega)
      obtain ⟨j, rfl⟩ := Int.eq_ofNat_of_zero_le r0
      obtain ⟨f1, f2⟩ := fact j (by omega)
      refine ⟨.str [[97, 65, 98, 66, 99, 67].getD j 0], ⟨1, [ownS ns a b c2 d]⟩, ?_, w ++ [[97, 65, 98, 66, 99, 67].getD j 0], ownS ns a b c2 d, by rw [List.map_append]; rfl, rfl, by rw [List.length_append, lw]; rfl, fun q hq => ?_, o2.mono (by omega)⟩
      · refine (op2_ok (F := vIx) (a := .str [97, 65, 98, 66, 99, 67]) (b := nV j) rfl (callF_ok (xs := [.ref 0, .int (2 * n)]) (h1 := ⟨1, [O']⟩) (call2 (a := .ref 0) (b := .int (2 * n)) rfl (twice _ _ _ _)) rfl e2)).trans ?_
        rw [f1]; rfl
      · rcases List.mem_append.mp hq with hq | hq
        · exact hw q hq
        · rw [List.mem_singleton.mp hq]; exact f2)
    ⟨[], ownS ns a b c1 d, rfl, rfl, rfl, fun _ h => absurd h List.not_mem_nil, o1.mono (by omega)⟩
  subst ea eh
  rw [rangeV_len] at lw o'
  exact ⟨w, O', runT_ok (h' := ⟨1, [O']⟩) (rest := []) (fnM_rt (sRet_ok (join_ok e (by omega)))) rfl rfl rfl (o'.okO 1), by omega, hw, o'.mono (by omega)⟩
end LK

namespace LK
open PySem PySem.Spec PyProof.Rows L2 Rf Rf.N
/-! ### tables told apart -/
theorem isP_T {d : Nat} {p : List Nat} (hd : 1 ≤ d ∧ d ≤ 6) (h : IsP d p) : isT (m_is_permutation [nV d, pV p] ⟨0, []⟩) = true := by
  have ds : d = 1 ∨ d = 2 ∨ d = 3 ∨ d = 4 ∨ d = 5 ∨ d = 6 := by omega
  rcases ds with rfl | rfl | rfl | rfl | rfl | rfl <;> exact h.all (f := fun p => isT (m_is_permutation [nV _, pV p] ⟨0, []⟩)) (by decide +kernel)
theorem tab_none {n : Nat} {a : Va} {t : Ty} (e : vTy ⟨0, []⟩ a = some t) (ht : isInst .tuple t = false) : isF (m_is_table_of [nV n, a] ⟨0, []⟩) = true := by
  have : m_is_table_of [nV n, a] ⟨0, []⟩ = .ok (.bl false) ⟨0, []⟩ := fnM_rt (sSeq_rt ((sIf_t (tOr_t ((tNot_ok (trB_bl (inst_ok (a := a) rfl e .tuple))).trans (by rw [ht]; rfl)))).trans (sRet_ok rfl)))
  rw [this]; rfl
theorem tab_len {n : Nat} {rows : List Va} (e : rows.length ≠ n) : isF (m_is_table_of [nV n, .tup rows] ⟨0, []⟩) = true := by
  have : m_is_table_of [nV n, .tup rows] ⟨0, []⟩ = .ok (.bl false) ⟨0, []⟩ := by
    refine fnM_rt (sSeq_rt ((sIf_t ((tOr_f ((tNot_ok (trB_bl (inst_ok (a := .tup rows) rfl rfl .tuple))).trans rfl)).trans (tOr_t ((isB_ok (ne_ok (lenF_tup rfl) rfl)).trans ?_)))).trans (sRet_ok rfl)))
    rw [decide_eq_true (by omega)]
  rw [this]; rfl
theorem tab_row {n : Nat} {r0 : Va} {rest : List Va} {t : Ty} (e : rest.length + 1 = n) (f : vTy ⟨0, []⟩ r0 = some t) (ht : isInst .tuple t = false) : isF (m_is_table_of [nV n, .tup (r0 :: rest)] ⟨0, []⟩) = true := by
  have : m_is_table_of [nV n, .tup (r0 :: rest)] ⟨0, []⟩ = .ok (.bl false) ⟨0, []⟩ := by
    refine fnM_rt (sSeq_rt ((sIf_t ((tOr_f ((tNot_ok (trB_bl (inst_ok (a := .tup (r0 :: rest)) rfl rfl .tuple))).trans rfl)).trans ((tOr_f ((isB_ok (ne_ok (lenF_tup rfl) rfl)).trans ?_)).trans (tOr_t ((tNot_ok (trB_bl (inst_ok (a := r0) ((op2_ok (F := vIxF) rfl rfl).trans (ixF_tup (k := 0) rfl)) f .tuple))).trans (by rw [ht]; rfl)))))).trans (sRet_ok rfl)))
    rw [decide_eq_false (by rw [List.length_cons]; omega)]
  rw [this]; rfl
theorem tab_nil {n : Nat} {rest : List Va} (e : rest.length + 1 = n) : isF (m_is_table_of [nV n, .tup (.tup [] :: rest)] ⟨0, []⟩) = true := by
  have : m_is_table_of [nV n, .tup (.tup [] :: rest)] ⟨0, []⟩ = .ok (.bl false) ⟨0, []⟩ := by
    refine fnM_rt (sSeq_rt ((sIf_t ((tOr_f ((tNot_ok (trB_bl (inst_ok (a := .tup (.tup [] :: rest)) rfl rfl .tuple))).trans rfl)).trans ((tOr_f ((isB_ok (ne_ok (lenF_tup rfl) rfl)).trans ?_)).trans ((tOr_f ((tNot_ok (trB_bl (inst_ok (a := .tup []) ((op2_ok (F := vIxF) rfl rfl).trans (ixF_tup (k := 0) rfl)) rfl .tuple))).trans rfl)).trans ((isB_ok (eq_ok (lenF_tup ((op2_ok (F := vIxF) rfl rfl).trans (ixF_tup (k := 0) rfl))) rfl)).trans rfl))))).trans (sRet_ok rfl)))
    rw [decide_eq_false (by rw [List.length_cons]; omega)]
  rw [this]; rfl
theorem tab_rows {n : Nat} {x : Va} {xs rest : List Va} (e : rest.length + 1 = n) (few : n < 1000) (g : Va → Bool) (hg : ∀ r ∈ (.tup (x :: xs) : Va) :: rest, frm m_is_permutation [.int ((x :: xs).length : Nat), r] ⟨0, []⟩ = .ok (.bl (g r)) ⟨0, []⟩) :
    m_is_table_of [nV n, .tup (.tup (x :: xs) :: rest)] ⟨0, []⟩ = .ok (.bl ((((.tup (x :: xs) : Va) :: rest).map g).all id)) ⟨0, []⟩ := by
  have s1 : sIf (tOr (tNot (trB (instE [.tuple] (vr 1)))) (tOr (isB (op2 vNe (callE (fn1 vLenF) (aCons (vr 1) aNil)) (vr 0))) (tOr (tNot (trB (instE [.tuple] (op2 vIxF (vr 1) (cV (.int 0)))))) (isB (op2 vEq (callE (fn1 vLenF) (aCons (op2 vIxF (vr 1) (cV (.int 0))) aNil)) (cV (.int 0))))))) (sRet (cV (.bl false))) sNil [some (nV n), some (.tup (.tup (x :: xs) :: rest)), none] ⟨0, []⟩ = .ok (.nx [some (nV n), some (.tup (.tup (x :: xs) :: rest)), none]) ⟨0, []⟩ := by
    have v0 : op2 vIxF (vr 1) (cV (.int 0)) [some (nV n), some (.tup (.tup (x :: xs) :: rest)), none] ⟨0, []⟩ = .ok (.tup (x :: xs)) ⟨0, []⟩ := (op2_ok (F := vIxF) rfl rfl).trans (ixF_tup (k := 0) rfl)
    have c1 := tOr_f (B := tOr (isB (op2 vNe (callE (fn1 vLenF) (aCons (vr 1) aNil)) (vr 0))) (tOr (tNot (trB (instE [.tuple] (op2 vIxF (vr 1) (cV (.int 0)))))) (isB (op2 vEq (callE (fn1 vLenF) (aCons (op2 vIxF (vr 1) (cV (.int 0))) aNil)) (cV (.int 0)))))) (notInst (A := vr 1) (l := [some (nV n), some (.tup (.tup (x :: xs) :: rest)), none]) (h := ⟨0, []⟩) (a := .tup (.tup (x :: xs) :: rest)) rfl rfl .tuple rfl)
    have c2 := tOr_f (B := tOr (tNot (trB (instE [.tuple] (op2 vIxF (vr 1) (cV (.int 0)))))) (isB (op2 vEq (callE (fn1 vLenF) (aCons (op2 vIxF (vr 1) (cV (.int 0))) aNil)) (cV (.int 0))))) (isB_ne (A := callE (fn1 vLenF) (aCons (vr 1) aNil)) (B := vr 0) (l := [some (nV n), some (.tup (.tup (x :: xs) :: rest)), none]) (h := ⟨0, []⟩) (i := ((.tup (x :: xs) :: rest : List Va).length : Nat)) (j := n) (lenF_tup rfl) rfl (decide_eq_false (by rw [List.length_cons]; omega)))
    have c3 := tOr_f (B := isB (op2 vEq (callE (fn1 vLenF) (aCons (op2 vIxF (vr 1) (cV (.int 0))) aNil)) (cV (.int 0)))) (notInst v0 rfl .tuple rfl)
    have c4 := isB_eq (i := ((x :: xs).length : Nat)) (j := 0) (B := cV (.int 0)) (lenF_tup v0) rfl (decide_eq_false (by rw [List.length_cons]; omega))
    exact (sIf_f (c1.trans (c2.trans (c3.trans c4)))).trans rfl
  refine fnM_rt ((sSeq_nx s1).trans (sRet_ok (all_ok (bs := ((.tup (x :: xs) : Va) :: rest).map g) ?_)))
  rw [List.map_map]
  refine lcF_map (xs := .tup (x :: xs) :: rest) (fun r => .bl (g r)) (iVal_ok (.inl rfl)) (by rw [List.length_cons]; omega) fun r hr => ?_
  exact (callG_ok (call2 (a := .int ((x :: xs).length : Nat)) (b := r) (lenF_tup ((op2_ok (F := vIxF) rfl rfl).trans (ixF_tup (k := 0) rfl))) rfl) rfl).trans (hg r hr)
end LK

namespace LK
open PySem PySem.Spec PyProof.Rows L2 Rf Rf.N

/-! ### values that are no tables -/
def bents (n d : Nat) (T : List Va) (p0 pe : List Va) : List Va :=
  [.fl T, .tup T.dropLast, .tup (T ++ T.take 1), .tup [], .non, .tup (.fl p0 :: T.tail), .tup (.tup (nV d :: p0.tail) :: T.tail), .tup (.tup (.int (-1) :: p0.tail) :: T.tail),
   .tup (T.dropLast ++ [.tup (pe ++ [nV d])] ++ [.tup [.int 0]]), .tup (.tup (List.replicate d (.bl true)) :: T.tail), .tup p0, .tup (List.replicate n (.tup [])), .tup (.tup (List.replicate d (.str [48])) :: T.tail),
   .tup (.tup (List.replicate (d + 1) (.int 0)) :: T.tail), .tup (.non :: T.tail), .tup (List.replicate n (.tup [.int 0, .int 0]))]
def bent_0 : Sx := (sSet 2 (callE (fn1 vLenF) (aCons (op2 vIxF (vr 1) (cV (.int 0))) aNil)))
def bent_1 : Sx := (sSet 3 (lstF (aCons (callE (fzC (fn1 vList2)) (aCons (vr 1) aNil)) (aCons (slF (vr 1) noPart (aPart (op1 vNeg (cV (.int 1))))) (aCons (op2 vAddF (vr 1) (slF (vr 1) noPart (aPart (cV (.int 1))))) (aCons (tupE aNil) (aCons (cV .non) (aCons (op2 vAddF (tupE (aCons (callE (fzC (fn1 vList2)) (aCons (op2 vIxF (vr 1) (cV (.int 0))) aNil)) aNil)) (slF (vr 1) (aPart (cV (.int 1))) noPart)) (aCons (op2 vAddF (tupE (aCons (op2 vAddF (tupE (aCons (vr 2) aNil)) (slF (op2 vIxF (vr 1) (cV (.int 0))) (aPart (cV (.int 1))) noPart)) aNil)) (slF (vr 1) (aPart (cV (.int 1))) noPart)) aNil)))))))))
def bent_2 : Sx := (sSet 3 (op2 vAddF (vr 3) (lstF (aCons (op2 vAddF (tupE (aCons (op2 vAddF (tupE (aCons (op1 vNeg (cV (.int 1))) aNil)) (slF (op2 vIxF (vr 1) (cV (.int 0))) (aPart (cV (.int 1))) noPart)) aNil)) (slF (vr 1) (aPart (cV (.int 1))) noPart)) (aCons (op2 vAddF (op2 vAddF (slF (vr 1) noPart (aPart (op1 vNeg (cV (.int 1))))) (tupE (aCons (op2 vAddF (op2 vIxF (vr 1) (op1 vNeg (cV (.int 1)))) (tupE (aCons (vr 2) aNil))) aNil))) (tupE (aCons (tupE (aCons (cV (.int 0)) aNil)) aNil))) (aCons (op2 vAddF (tupE (aCons (op2 vMulF (tupE (aCons (cV (.bl true)) aNil)) (vr 2)) aNil)) (slF (vr 1) (aPart (cV (.int 1))) noPart)) (aCons (op2 vIxF (vr 1) (cV (.int 0))) aNil)))))))
def bent_3 : Sx := (sSet 3 (op2 vAddF (vr 3) (lstF (aCons (op2 vMulF (tupE (aCons (tupE aNil) aNil)) (callE (fn1 vLenF) (aCons (vr 1) aNil))) (aCons (op2 vAddF (tupE (aCons (op2 vMulF (tupE (aCons (cV (.str [48])) aNil)) (vr 2)) aNil)) (slF (vr 1) (aPart (cV (.int 1))) noPart)) (aCons (op2 vAddF (tupE (aCons (op2 vMulF (tupE (aCons (cV (.int 0)) aNil)) (op2 vAddF (vr 2) (cV (.int 1)))) aNil)) (slF (vr 1) (aPart (cV (.int 1))) noPart)) (aCons (op2 vAddF (tupE (aCons (cV .non) aNil)) (slF (vr 1) (aPart (cV (.int 1))) noPart)) (aCons (op2 vMulF (tupE (aCons (tupE (aCons (cV (.int 0)) (aCons (cV (.int 0)) aNil))) aNil)) (callE (fn1 vLenF) (aCons (vr 1) aNil))) aNil))))))))
def bent_4 : Sx := (sRet (op2 vIxF (vr 3) (callF 2 m__law_next (aCons (vr 0) (aCons (callE (fn1 vLenF) (aCons (vr 3) aNil)) aNil)))))
theorem bent_bd : bd__law_bent = sSeq bent_0 (sSeq bent_1 (sSeq bent_2 (sSeq bent_3 bent_4))) := rfl
theorem bent_1_1 (x0 : Nat) (O : Ob) : ∃ y, sSeq bent_0 (sSeq bent_1 (sSeq bent_2 bent_3)) [some (.ref 0), some (.tup [.tup [nV x0]]), none, none] ⟨1, [O]⟩ = .ok (.nx [some (.ref 0), some (.tup [.tup [nV x0]]), y, some (.fl (bents 1 1 [.tup [nV x0]] [nV x0] [nV x0]))]) ⟨1, [O]⟩ := ⟨some (nV 1), by kernel_rfl⟩
theorem bentok_1_1 (x0 : Nat) : okVs 0 (bents 1 1 [.tup [nV x0]] [nV x0] [nV x0]) = true := by kernel_rfl
theorem bent_1_2 (x0 x1 : Nat) (O : Ob) : ∃ y, sSeq bent_0 (sSeq bent_1 (sSeq bent_2 bent_3)) [some (.ref 0), some (.tup [.tup [nV x0, nV x1]]), none, none] ⟨1, [O]⟩ = .ok (.nx [some (.ref 0), some (.tup [.tup [nV x0, nV x1]]), y, some (.fl (bents 1 2 [.tup [nV x0, nV x1]] [nV x0, nV x1] [nV x0, nV x1]))]) ⟨1, [O]⟩ := ⟨some (nV 2), by kernel_rfl⟩
theorem bentok_1_2 (x0 x1 : Nat) : okVs 0 (bents 1 2 [.tup [nV x0, nV x1]] [nV x0, nV x1] [nV x0, nV x1]) = true := by kernel_rfl
theorem bent_1_3 (x0 x1 x2 : Nat) (O : Ob) : ∃ y, sSeq bent_0 (sSeq bent_1 (sSeq bent_2 bent_3)) [some (.ref 0), some (.tup [.tup [nV x0, nV x1, nV x2]]), none, none] ⟨1, [O]⟩ = .ok (.nx [some (.ref 0), some (.tup [.tup [nV x0, nV x1, nV x2]]), y, some (.fl (bents 1 3 [.tup [nV x0, nV x1, nV x2]] [nV x0, nV x1, nV x2] [nV x0, nV x1, nV x2]))]) ⟨1, [O]⟩ := ⟨some (nV 3), by kernel_rfl⟩
theorem bentok_1_3 (x0 x1 x2 : Nat) : okVs 0 (bents 1 3 [.tup [nV x0, nV x1, nV x2]] [nV x0, nV x1, nV x2] [nV x0, nV x1, nV x2]) = true := by kernel_rfl
theorem bent_1_4 (x0 x1 x2 x3 : Nat) (O : Ob) : ∃ y, sSeq bent_0 (sSeq bent_1 (sSeq bent_2 bent_3)) [some (.ref 0), some (.tup [.tup [nV x0, nV x1, nV x2, nV x3]]), none, none] ⟨1, [O]⟩ = .ok (.nx [some (.ref 0), some (.tup [.tup [nV x0, nV x1, nV x2, nV x3]]), y, some (.fl (bents 1 4 [.tup [nV x0, nV x1, nV x2, nV x3]] [nV x0, nV x1, nV x2, nV x3] [nV x0, nV x1, nV x2, nV x3]))]) ⟨1, [O]⟩ := ⟨some (nV 4), by kernel_rfl⟩
theorem bentok_1_4 (x0 x1 x2 x3 : Nat) : okVs 0 (bents 1 4 [.tup [nV x0, nV x1, nV x2, nV x3]] [nV x0, nV x1, nV x2, nV x3] [nV x0, nV x1, nV x2, nV x3]) = true := by kernel_rfl
theorem bent_1_5 (x0 x1 x2 x3 x4 : Nat) (O : Ob) : ∃ y, sSeq bent_0 (sSeq bent_1 (sSeq bent_2 bent_3)) [some (.ref 0), some (.tup [.tup [nV x0, nV x1, nV x2, nV x3, nV x4]]), none, none] ⟨1, [O]⟩ = .ok (.nx [some (.ref 0), some (.tup [.tup [nV x0, nV x1, nV x2, nV x3, nV x4]]), y, some (.fl (bents 1 5 [.tup [nV x0, nV x1, nV x2, nV x3, nV x4]] [nV x0, nV x1, nV x2, nV x3, nV x4] [nV x0, nV x1, nV x2, nV x3, nV x4]))]) ⟨1, [O]⟩ := ⟨some (nV 5), by kernel_rfl⟩
theorem bentok_1_5 (x0 x1 x2 x3 x4 : Nat) : okVs 0 (bents 1 5 [.tup [nV x0, nV x1, nV x2, nV x3, nV x4]] [nV x0, nV x1, nV x2, nV x3, nV x4] [nV x0, nV x1, nV x2, nV x3, nV x4]) = true := by kernel_rfl
theorem bent_1_6 (x0 x1 x2 x3 x4 x5 : Nat) (O : Ob) : ∃ y, sSeq bent_0 (sSeq bent_1 (sSeq bent_2 bent_3)) [some (.ref 0), some (.tup [.tup [nV x0, nV x1, nV x2, nV x3, nV x4, nV x5]]), none, none] ⟨1, [O]⟩ = .ok (.nx [some (.ref 0), some (.tup [.tup [nV x0, nV x1, nV x2, nV x3, nV x4, nV x5]]), y, some (.fl (bents 1 6 [.tup [nV x0, nV x1, nV x2, nV x3, nV x4, nV x5]] [nV x0, nV x1, nV x2, nV x3, nV x4, nV x5] [nV x0, nV x1, nV x2, nV x3, nV x4, nV x5]))]) ⟨1, [O]⟩ := ⟨some (nV 6), by kernel_rfl⟩
theorem bentok_1_6 (x0 x1 x2 x3 x4 x5 : Nat) : okVs 0 (bents 1 6 [.tup [nV x0, nV x1, nV x2, nV x3, nV x4, nV x5]] [nV x0, nV x1, nV x2, nV x3, nV x4, nV x5] [nV x0, nV x1, nV x2, nV x3, nV x4, nV x5]) = true := by kernel_rfl
theorem bent_2_1 (x0 y0 : Nat) (O : Ob) : ∃ y, sSeq bent_0 (sSeq bent_1 (sSeq bent_2 bent_3)) [some (.ref 0), some (.tup [.tup [nV x0], .tup [nV y0]]), none, none] ⟨1, [O]⟩ = .ok (.nx [some (.ref 0), some (.tup [.tup [nV x0], .tup [nV y0]]), y, some (.fl (bents 2 1 [.tup [nV x0], .tup [nV y0]] [nV x0] [nV y0]))]) ⟨1, [O]⟩ := ⟨some (nV 1), by kernel_rfl⟩
theorem bentok_2_1 (x0 y0 : Nat) : okVs 0 (bents 2 1 [.tup [nV x0], .tup [nV y0]] [nV x0] [nV y0]) = true := by kernel_rfl
theorem bent_2_2 (x0 x1 y0 y1 : Nat) (O : Ob) : ∃ y, sSeq bent_0 (sSeq bent_1 (sSeq bent_2 bent_3)) [some (.ref 0), some (.tup [.tup [nV x0, nV x1], .tup [nV y0, nV y1]]), none, none] ⟨1, [O]⟩ = .ok (.nx [some (.ref 0), some (.tup [.tup [nV x0, nV x1], .tup [nV y0, nV y1]]), y, some (.fl (bents 2 2 [.tup [nV x0, nV x1], .tup [nV y0, nV y1]] [nV x0, nV x1] [nV y0, nV y1]))]) ⟨1, [O]⟩ := ⟨some (nV 2), by kernel_rfl⟩
theorem bentok_2_2 (x0 x1 y0 y1 : Nat) : okVs 0 (bents 2 2 [.tup [nV x0, nV x1], .tup [nV y0, nV y1]] [nV x0, nV x1] [nV y0, nV y1]) = true := by kernel_rfl
theorem bent_2_3 (x0 x1 x2 y0 y1 y2 : Nat) (O : Ob) : ∃ y, sSeq bent_0 (sSeq bent_1 (sSeq bent_2 bent_3)) [some (.ref 0), some (.tup [.tup [nV x0, nV x1, nV x2], .tup [nV y0, nV y1, nV y2]]), none, none] ⟨1, [O]⟩ = .ok (.nx [some (.ref 0), some (.tup [.tup [nV x0, nV x1, nV x2], .tup [nV y0, nV y1, nV y2]]), y, some (.fl (bents 2 3 [.tup [nV x0, nV x1, nV x2], .tup [nV y0, nV y1, nV y2]] [nV x0, nV x1, nV x2] [nV y0, nV y1, nV y2]))]) ⟨1, [O]⟩ := ⟨some (nV 3), by kernel_rfl⟩
theorem bentok_2_3 (x0 x1 x2 y0 y1 y2 : Nat) : okVs 0 (bents 2 3 [.tup [nV x0, nV x1, nV x2], .tup [nV y0, nV y1, nV y2]] [nV x0, nV x1, nV x2] [nV y0, nV y1, nV y2]) = true := by kernel_rfl
theorem bent_2_4 (x0 x1 x2 x3 y0 y1 y2 y3 : Nat) (O : Ob) : ∃ y, sSeq bent_0 (sSeq bent_1 (sSeq bent_2 bent_3)) [some (.ref 0), some (.tup [.tup [nV x0, nV x1, nV x2, nV x3], .tup [nV y0, nV y1, nV y2, nV y3]]), none, none] ⟨1, [O]⟩ = .ok (.nx [some (.ref 0), some (.tup [.tup [nV x0, nV x1, nV x2, nV x3], .tup [nV y0, nV y1, nV y2, nV y3]]), y, some (.fl (bents 2 4 [.tup [nV x0, nV x1, nV x2, nV x3], .tup [nV y0, nV y1, nV y2, nV y3]] [nV x0, nV x1, nV x2, nV x3] [nV y0, nV y1, nV y2, nV y3]))]) ⟨1, [O]⟩ := ⟨some (nV 4), by kernel_rfl⟩
theorem bentok_2_4 (x0 x1 x2 x3 y0 y1 y2 y3 : Nat) : okVs 0 (bents 2 4 [.tup [nV x0, nV x1, nV x2, nV x3], .tup [nV y0, nV y1, nV y2, nV y3]] [nV x0, nV x1, nV x2, nV x3] [nV y0, nV y1, nV y2, nV y3]) = true := by kernel_rfl
theorem bent_2_5 (x0 x1 x2 x3 x4 y0 y1 y2 y3 y4 : Nat) (O : Ob) : ∃ y, sSeq bent_0 (sSeq bent_1 (sSeq bent_2 bent_3)) [some (.ref 0), some (.tup [.tup [nV x0, nV x1, nV x2, nV x3, nV x4], .tup [nV y0, nV y1, nV y2, nV y3, nV y4]]), none, none] ⟨1, [O]⟩ = .ok (.nx [some (.ref 0), some (.tup [.tup [nV x0, nV x1, nV x2, nV x3, nV x4], .tup [nV y0, nV y1, nV y2, nV y3, nV y4]]), y, some (.fl (bents 2 5 [.tup [nV x0, nV x1, nV x2, nV x3, nV x4], .tup [nV y0, nV y1, nV y2, nV y3, nV y4]] [nV x0, nV x1, nV x2, nV x3, nV x4] [nV y0, nV y1, nV y2, nV y3, nV y4]))]) ⟨1, [O]⟩ := ⟨some (nV 5), by kernel_rfl⟩
theorem bentok_2_5 (x0 x1 x2 x3 x4 y0 y1 y2 y3 y4 : Nat) : okVs 0 (bents 2 5 [.tup [nV x0, nV x1, nV x2, nV x3, nV x4], .tup [nV y0, nV y1, nV y2, nV y3, nV y4]] [nV x0, nV x1, nV x2, nV x3, nV x4] [nV y0, nV y1, nV y2, nV y3, nV y4]) = true := by kernel_rfl
theorem bent_2_6 (x0 x1 x2 x3 x4 x5 y0 y1 y2 y3 y4 y5 : Nat) (O : Ob) : ∃ y, sSeq bent_0 (sSeq bent_1 (sSeq bent_2 bent_3)) [some (.ref 0), some (.tup [.tup [nV x0, nV x1, nV x2, nV x3, nV x4, nV x5], .tup [nV y0, nV y1, nV y2, nV y3, nV y4, nV y5]]), none, none] ⟨1, [O]⟩ = .ok (.nx [some (.ref 0), some (.tup [.tup [nV x0, nV x1, nV x2, nV x3, nV x4, nV x5], .tup [nV y0, nV y1, nV y2, nV y3, nV y4, nV y5]]), y, some (.fl (bents 2 6 [.tup [nV x0, nV x1, nV x2, nV x3, nV x4, nV x5], .tup [nV y0, nV y1, nV y2, nV y3, nV y4, nV y5]] [nV x0, nV x1, nV x2, nV x3, nV x4, nV x5] [nV y0, nV y1, nV y2, nV y3, nV y4, nV y5]))]) ⟨1, [O]⟩ := ⟨some (nV 6), by kernel_rfl⟩
theorem bentok_2_6 (x0 x1 x2 x3 x4 x5 y0 y1 y2 y3 y4 y5 : Nat) : okVs 0 (bents 2 6 [.tup [nV x0, nV x1, nV x2, nV x3, nV x4, nV x5], .tup [nV y0, nV y1, nV y2, nV y3, nV y4, nV y5]] [nV x0, nV x1, nV x2, nV x3, nV x4, nV x5] [nV y0, nV y1, nV y2, nV y3, nV y4, nV y5]) = true := by kernel_rfl
theorem bent_3_1 (x0 y0 z0 : Nat) (O : Ob) : ∃ y, sSeq bent_0 (sSeq bent_1 (sSeq bent_2 bent_3)) [some (.ref 0), some (.tup [.tup [nV x0], .tup [nV y0], .tup [nV z0]]), none, none] ⟨1, [O]⟩ = .ok (.nx [some (.ref 0), some (.tup [.tup [nV x0], .tup [nV y0], .tup [nV z0]]), y, some (.fl (bents 3 1 [.tup [nV x0], .tup [nV y0], .tup [nV z0]] [nV x0] [nV z0]))]) ⟨1, [O]⟩ := ⟨some (nV 1), by kernel_rfl⟩
theorem bentok_3_1 (x0 y0 z0 : Nat) : okVs 0 (bents 3 1 [.tup [nV x0], .tup [nV y0], .tup [nV z0]] [nV x0] [nV z0]) = true := by kernel_rfl
theorem bent_3_2 (x0 x1 y0 y1 z0 z1 : Nat) (O : Ob) : ∃ y, sSeq bent_0 (sSeq bent_1 (sSeq bent_2 bent_3)) [some (.ref 0), some (.tup [.tup [nV x0, nV x1], .tup [nV y0, nV y1], .tup [nV z0, nV z1]]), none, none] ⟨1, [O]⟩ = .ok (.nx [some (.ref 0), some (.tup [.tup [nV x0, nV x1], .tup [nV y0, nV y1], .tup [nV z0, nV z1]]), y, some (.fl (bents 3 2 [.tup [nV x0, nV x1], .tup [nV y0, nV y1], .tup [nV z0, nV z1]] [nV x0, nV x1] [nV z0, nV z1]))]) ⟨1, [O]⟩ := ⟨some (nV 2), by kernel_rfl⟩
theorem bentok_3_2 (x0 x1 y0 y1 z0 z1 : Nat) : okVs 0 (bents 3 2 [.tup [nV x0, nV x1], .tup [nV y0, nV y1], .tup [nV z0, nV z1]] [nV x0, nV x1] [nV z0, nV z1]) = true := by kernel_rfl
theorem bent_3_3 (x0 x1 x2 y0 y1 y2 z0 z1 z2 : Nat) (O : Ob) : ∃ y, sSeq bent_0 (sSeq bent_1 (sSeq bent_2 bent_3)) [some (.ref 0), some (.tup [.tup [nV x0, nV x1, nV x2], .tup [nV y0, nV y1, nV y2], .tup [nV z0, nV z1, nV z2]]), none, none] ⟨1, [O]⟩ = .ok (.nx [some (.ref 0), some (.tup [.tup [nV x0, nV x1, nV x2], .tup [nV y0, nV y1, nV y2], .tup [nV z0, nV z1, nV z2]]), y, some (.fl (bents 3 3 [.tup [nV x0, nV x1, nV x2], .tup [nV y0, nV y1, nV y2], .tup [nV z0, nV z1, nV z2]] [nV x0, nV x1, nV x2] [nV z0, nV z1, nV z2]))]) ⟨1, [O]⟩ := ⟨some (nV 3), by kernel_rfl⟩
theorem bentok_3_3 (x0 x1 x2 y0 y1 y2 z0 z1 z2 : Nat) : okVs 0 (bents 3 3 [.tup [nV x0, nV x1, nV x2], .tup [nV y0, nV y1, nV y2], .tup [nV z0, nV z1, nV z2]] [nV x0, nV x1, nV x2] [nV z0, nV z1, nV z2]) = true := by kernel_rfl
theorem bent_3_4 (x0 x1 x2 x3 y0 y1 y2 y3 z0 z1 z2 z3 : Nat) (O : Ob) : ∃ y, sSeq bent_0 (sSeq bent_1 (sSeq bent_2 bent_3)) [some (.ref 0), some (.tup [.tup [nV x0, nV x1, nV x2, nV x3], .tup [nV y0, nV y1, nV y2, nV y3], .tup [nV z0, nV z1, nV z2, nV z3]]), none, none] ⟨1, [O]⟩ = .ok (.nx [some (.ref 0), some (.tup [.tup [nV x0, nV x1, nV x2, nV x3], .tup [nV y0, nV y1, nV y2, nV y3], .tup [nV z0, nV z1, nV z2, nV z3]]), y, some (.fl (bents 3 4 [.tup [nV x0, nV x1, nV x2, nV x3], .tup [nV y0, nV y1, nV y2, nV y3], .tup [nV z0, nV z1, nV z2, nV z3]] [nV x0, nV x1, nV x2, nV x3] [nV z0, nV z1, nV z2, nV z3]))]) ⟨1, [O]⟩ := ⟨some (nV 4), by kernel_rfl⟩
theorem bentok_3_4 (x0 x1 x2 x3 y0 y1 y2 y3 z0 z1 z2 z3 : Nat) : okVs 0 (bents 3 4 [.tup [nV x0, nV x1, nV x2, nV x3], .tup [nV y0, nV y1, nV y2, nV y3], .tup [nV z0, nV z1, nV z2, nV z3]] [nV x0, nV x1, nV x2, nV x3] [nV z0, nV z1, nV z2, nV z3]) = true := by kernel_rfl
theorem bent_3_5 (x0 x1 x2 x3 x4 y0 y1 y2 y3 y4 z0 z1 z2 z3 z4 : Nat) (O : Ob) : ∃ y, sSeq bent_0 (sSeq bent_1 (sSeq bent_2 bent_3)) [some (.ref 0), some (.tup [.tup [nV x0, nV x1, nV x2, nV x3, nV x4], .tup [nV y0, nV y1, nV y2, nV y3, nV y4], .tup [nV z0, nV z1, nV z2, nV z3, nV z4]]), none, none] ⟨1, [O]⟩ = .ok (.nx [some (.ref 0), some (.tup [.tup [nV x0, nV x1, nV x2, nV x3, nV x4], .tup [nV y0, nV y1, nV y2, nV y3, nV y4], .tup [nV z0, nV z1, nV z2, nV z3, nV z4]]), y, some (.fl (bents 3 5 [.tup [nV x0, nV x1, nV x2, nV x3, nV x4], .tup [nV y0, nV y1, nV y2, nV y3, nV y4], .tup [nV z0, nV z1, nV z2, nV z3, nV z4]] [nV x0, nV x1, nV x2, nV x3, nV x4] [nV z0, nV z1, nV z2, nV z3, nV z4]))]) ⟨1, [O]⟩ := ⟨some (nV 5), by kernel_rfl⟩
theorem bentok_3_5 (x0 x1 x2 x3 x4 y0 y1 y2 y3 y4 z0 z1 z2 z3 z4 : Nat) : okVs 0 (bents 3 5 [.tup [nV x0, nV x1, nV x2, nV x3, nV x4], .tup [nV y0, nV y1, nV y2, nV y3, nV y4], .tup [nV z0, nV z1, nV z2, nV z3, nV z4]] [nV x0, nV x1, nV x2, nV x3, nV x4] [nV z0, nV z1, nV z2, nV z3, nV z4]) = true := by kernel_rfl
theorem bent_3_6 (x0 x1 x2 x3 x4 x5 y0 y1 y2 y3 y4 y5 z0 z1 z2 z3 z4 z5 : Nat) (O : Ob) : ∃ y, sSeq bent_0 (sSeq bent_1 (sSeq bent_2 bent_3)) [some (.ref 0), some (.tup [.tup [nV x0, nV x1, nV x2, nV x3, nV x4, nV x5], .tup [nV y0, nV y1, nV y2, nV y3, nV y4, nV y5], .tup [nV z0, nV z1, nV z2, nV z3, nV z4, nV z5]]), none, none] ⟨1, [O]⟩ = .ok (.nx [some (.ref 0), some (.tup [.tup [nV x0, nV x1, nV x2, nV x3, nV x4, nV x5], .tup [nV y0, nV y1, nV y2, nV y3, nV y4, nV y5], .tup [nV z0, nV z1, nV z2, nV z3, nV z4, nV z5]]), y, some (.fl (bents 3 6 [.tup [nV x0, nV x1, nV x2, nV x3, nV x4, nV x5], .tup [nV y0, nV y1, nV y2, nV y3, nV y4, nV y5], .tup [nV z0, nV z1, nV z2, nV z3, nV z4, nV z5]] [nV x0, nV x1, nV x2, nV x3, nV x4, nV x5] [nV z0, nV z1, nV z2, nV z3, nV z4, nV z5]))]) ⟨1, [O]⟩ := ⟨some (nV 6), by kernel_rfl⟩
theorem bentok_3_6 (x0 x1 x2 x3 x4 x5 y0 y1 y2 y3 y4 y5 z0 z1 z2 z3 z4 z5 : Nat) : okVs 0 (bents 3 6 [.tup [nV x0, nV x1, nV x2, nV x3, nV x4, nV x5], .tup [nV y0, nV y1, nV y2, nV y3, nV y4, nV y5], .tup [nV z0, nV z1, nV z2, nV z3, nV z4, nV z5]] [nV x0, nV x1, nV x2, nV x3, nV x4, nV x5] [nV z0, nV z1, nV z2, nV z3, nV z4, nV z5]) = true := by kernel_rfl
end LK

namespace LK
open PySem PySem.Spec PyProof.Rows L2 Rf Rf.N
theorem okVs2 {n : Nat} {v : Va} (o : okV 0 v = true) : okVs 0 [nV n, v] = true := by
  show (okV 0 (nV n) && (okV 0 v && true)) = true
  rw [o]; rfl
theorem size_ok {n : Nat} (hn : 1 ≤ n ∧ n ≤ 3) (h : Hea) : frm m_check_size [nV n] h = .ok .non h := by
  have nn : n = 1 ∨ n = 2 ∨ n = 3 := by omega
  rcases nn with rfl | rfl | rfl <;> kernel_rfl
theorem istab_F {n : Nat} {v : Va} (hn : 1 ≤ n ∧ n ≤ 3) (o : okV 0 v = true) (e : isF (m_is_table_of [nV n, v] ⟨0, []⟩) = true) : isF (m_is_table [nV n, v] ⟨0, []⟩) = true := by
  have : m_is_table [nV n, v] ⟨0, []⟩ = .ok (.bl false) ⟨0, []⟩ :=
    fnM_rt ((sSeq_nx (sDrop_ok ((callG_ok (call1 (a := nV n) rfl) rfl).trans (size_ok hn _)))).trans (sRet_ok ((callG_ok (call2 (a := nV n) (b := v) rfl rfl) rfl).trans (frm_F e (okVs2 o)))))
  rw [this]; rfl
theorem istab_T {n : Nat} {v : Va} (hn : 1 ≤ n ∧ n ≤ 3) (o : okV 0 v = true) (e : isT (m_is_table_of [nV n, v] ⟨0, []⟩) = true) : isT (m_is_table [nV n, v] ⟨0, []⟩) = true := by
  have : m_is_table [nV n, v] ⟨0, []⟩ = .ok (.bl true) ⟨0, []⟩ :=
    fnM_rt ((sSeq_nx (sDrop_ok ((callG_ok (call1 (a := nV n) rfl) rfl).trans (size_ok hn _)))).trans (sRet_ok ((callG_ok (call2 (a := nV n) (b := v) rfl rfl) rfl).trans (frm_T e (okVs2 o)))))
  rw [this]; rfl
/-- a row of length k with entries that are told apart -/
theorem rows_F {n k : Nat} {xs rest : List Va} (hk : xs.length = k) (k0 : 1 ≤ k) (e : rest.length + 1 = n) (few : n < 1000) (o : okVs 0 (.tup xs :: rest) = true) (f0 : isF (m_is_permutation [nV k, .tup xs] ⟨0, []⟩) = true)
    (hr : ∀ r ∈ rest, isT (m_is_permutation [nV k, r] ⟨0, []⟩) = true ∨ isF (m_is_permutation [nV k, r] ⟨0, []⟩) = true) : isF (m_is_table_of [nV n, .tup (.tup xs :: rest)] ⟨0, []⟩) = true := by
  cases xs with
  | nil => exact absurd hk (by simp; omega)
  | cons x xs =>
    have okr : ∀ r ∈ .tup (x :: xs) :: rest, okV 0 r = true := by
      have : ∀ l : List Va, okVs 0 l = true → ∀ r ∈ l, okV 0 r = true := by
        intro l
        induction l with
        | nil => intro _ r h; cases h
        | cons a t ih =>
          intro o r h
          have o : (okV 0 a && okVs 0 t) = true := o
          rw [Bool.and_eq_true] at o
          rcases List.mem_cons.mp h with rfl | h
          · exact o.1
          · exact ih o.2 r h
      exact this _ o
    have hg : ∀ r ∈ (.tup (x :: xs) : Va) :: rest, frm m_is_permutation [.int ((x :: xs).length : Nat), r] ⟨0, []⟩ = .ok (.bl (isT (m_is_permutation [nV k, r] ⟨0, []⟩))) ⟨0, []⟩ := by
      intro r hr'
      rw [hk]
      have c : isT (m_is_permutation [nV k, r] ⟨0, []⟩) = true ∨ isF (m_is_permutation [nV k, r] ⟨0, []⟩) = true := by
        rcases List.mem_cons.mp hr' with h | h
        · right; rw [h]; exact f0
        · exact hr r h
      rcases c with c | c
      · rw [c]; exact frm_T c (okVs2 (okr r hr'))
      · have : isT (m_is_permutation [nV k, r] ⟨0, []⟩) = false := by
          match q : m_is_permutation [nV k, r] ⟨0, []⟩, c with
          | .ok (.bl false) h', _ => rfl
        rw [this]; exact frm_F c (okVs2 (okr r hr'))
    rw [tab_rows e few (fun r => isT (m_is_permutation [nV k, r] ⟨0, []⟩)) hg]
    have ff : isT (m_is_permutation [nV k, .tup (x :: xs)] ⟨0, []⟩) = false := by
      match q : m_is_permutation [nV k, .tup (x :: xs)] ⟨0, []⟩, f0 with
      | .ok (.bl false) h', _ => rfl
    simp only [List.map_cons, ff, List.all_cons, id, Bool.false_and]
    rfl
theorem tab_T {n d : Nat} {ps : List (List Nat)} (hn : 1 ≤ n ∧ n ≤ 3) (hd : 1 ≤ d ∧ d ≤ 6) (t : IsTab n d ps) : m_is_table_of [nV n, tV ps] ⟨0, []⟩ = .ok (.bl true) ⟨0, []⟩ := by
  match ps, t with
  | [], t => exact absurd t.len (by simp; omega)
  | p :: rest, t =>
    have ip := t.row p List.mem_cons_self
    match p, ip with
    | [], ip => exact absurd ip.len (by simp; omega)
    | x :: xs, ip =>
      have lx : ((nV x :: xs.map nV).length : Nat) = d := by rw [List.length_cons, List.length_map]; exact ip.len
      have hg : ∀ r ∈ (.tup (nV x :: xs.map nV) : Va) :: rest.map pV, frm m_is_permutation [.int ((nV x :: xs.map nV).length : Nat), r] ⟨0, []⟩ = .ok (.bl true) ⟨0, []⟩ := by
        intro r hr
        rw [lx]
        have : ∃ q, q ∈ (x :: xs) :: rest ∧ r = pV q := by
          rcases List.mem_cons.mp hr with h | h
          · exact ⟨x :: xs, List.mem_cons_self, h⟩
          · obtain ⟨q, h1, h2⟩ := List.mem_map.mp h
            exact ⟨q, List.mem_cons_of_mem _ h1, h2.symm⟩
        obtain ⟨q, hq, rfl⟩ := this
        exact frm_T (isP_T hd (t.row q hq)) (okVs2 (okV_p 0 q))
      have := tab_rows (n := n) (x := nV x) (xs := xs.map nV) (rest := rest.map pV) (by rw [List.length_map]; exact t.len) (by omega) (fun _ => true) hg
      refine this.trans ?_
      have al : ∀ l : List Va, (l.map fun _ => true).all id = true := fun l => by
        induction l with
        | nil => rfl
        | cons a t ih => simpa using ih
      rw [al]
/-- what the kernel says of each permutation -/
def bentF (d : Nat) (p : List Nat) : Bool :=
  isF (m_is_permutation [nV d, .tup (nV d :: (p.map nV).tail)] ⟨0, []⟩) && (isF (m_is_permutation [nV d, .tup (.int (-1) :: (p.map nV).tail)] ⟨0, []⟩) &&
  (isF (m_is_permutation [nV (d + 1), pV p] ⟨0, []⟩) && (isT (m_is_permutation [nV 2, pV p] ⟨0, []⟩) || isF (m_is_permutation [nV 2, pV p] ⟨0, []⟩))))
theorem bentF_ok {d : Nat} {p : List Nat} (hd : 1 ≤ d ∧ d ≤ 6) (h : IsP d p) : bentF d p = true := by
  have ds : d = 1 ∨ d = 2 ∨ d = 3 ∨ d = 4 ∨ d = 5 ∨ d = 6 := by omega
  rcases ds with rfl | rfl | rfl | rfl | rfl | rfl <;> exact h.all (f := bentF _) (by decide +kernel)
end LK

namespace LK
open PySem PySem.Spec PyProof.Rows L2 Rf Rf.N
theorem okVs_mem : ∀ {l : List Va}, okVs 0 l = true → ∀ r ∈ l, okV 0 r = true
  | a :: t, o, r, h => by
    have o : (okV 0 a && okVs 0 t) = true := o
    rw [Bool.and_eq_true] at o
    rcases List.mem_cons.mp h with rfl | h
    · exact o.1
    · exact okVs_mem o.2 r h
theorem bents_F {n d : Nat} {p : List Nat} {rest : List (List Nat)} {pe : List Va} (hn : 1 ≤ n ∧ n ≤ 3) (hd : 1 ≤ d ∧ d ≤ 6) (t : IsTab n d (p :: rest)) (ok : okVs 0 (bents n d (pV p :: rest.map pV) (p.map nV) pe) = true) :
    ∀ b ∈ bents n d (pV p :: rest.map pV) (p.map nV) pe, isF (m_is_table_of [nV n, b] ⟨0, []⟩) = true := by
  have ip := t.row p List.mem_cons_self
  have len : rest.length + 1 = n := t.len
  have lr : (rest.map pV).length + 1 = n := by rw [List.length_map]; exact len
  have bf := bentF_ok hd ip
  unfold bentF at bf
  rw [Bool.and_eq_true, Bool.and_eq_true, Bool.and_eq_true] at bf
  obtain ⟨f1, f2, f3, f4⟩ := bf
  have okm := okVs_mem ok
  have restT : ∀ r ∈ rest.map pV, isT (m_is_permutation [nV d, r] ⟨0, []⟩) = true ∨ isF (m_is_permutation [nV d, r] ⟨0, []⟩) = true := fun r hr => by
    obtain ⟨q, h1, rfl⟩ := List.mem_map.mp hr
    exact .inl (isP_T hd (t.row q (List.mem_cons_of_mem _ h1)))
  have lp : (p.map nV).tail.length + 1 = d := by
    rw [List.length_tail, List.length_map, ip.len]; omega
  have ds : d = 1 ∨ d = 2 ∨ d = 3 ∨ d = 4 ∨ d = 5 ∨ d = 6 := by omega
  have kT : isF (m_is_permutation [nV d, .tup (List.replicate d (.bl true))] ⟨0, []⟩) = true := by
    rcases ds with rfl | rfl | rfl | rfl | rfl | rfl <;> decide +kernel
  have kS : isF (m_is_permutation [nV d, .tup (List.replicate d (.str [48]))] ⟨0, []⟩) = true := by
    rcases ds with rfl | rfl | rfl | rfl | rfl | rfl <;> decide +kernel
  have kZ : isF (m_is_permutation [nV (d + 1), .tup (List.replicate (d + 1) (.int 0))] ⟨0, []⟩) = true := by
    rcases ds with rfl | rfl | rfl | rfl | rfl | rfl <;> decide +kernel
  have kO : isF (m_is_permutation [nV 2, .tup [.int 0, .int 0]] ⟨0, []⟩) = true := by decide +kernel
  have tup : ∀ {rows : List Va}, okV 0 (.tup rows) = true → okVs 0 rows = true := fun {rows} h => by unfold okV at h; exact h
  intro b hb
  have ob := okm b hb
  unfold bents at hb
  simp only [List.mem_cons, List.not_mem_nil, or_false] at hb
  rcases hb with rfl | rfl | rfl | rfl | rfl | rfl | rfl | rfl | rfl | rfl | rfl | rfl | rfl | rfl | rfl | rfl
  · exact tab_none (t := .list) rfl rfl
  · exact tab_len (by rw [List.length_dropLast, List.length_cons]; omega)
  · exact tab_len (by rw [List.length_append, List.length_cons, List.take_succ_cons, List.length_cons]; omega)
  · exact tab_len (by simp; omega)
  · exact tab_none (t := .non) rfl rfl
  · exact tab_row (t := .list) lr rfl rfl
  · exact rows_F (k := d) (by rw [List.length_cons]; exact lp) hd.1 lr (by omega) (tup ob) f1 restT
  · exact rows_F (k := d) (by rw [List.length_cons]; exact lp) hd.1 lr (by omega) (tup ob) f2 restT
  · exact tab_len (by rw [List.length_append, List.length_append, List.length_dropLast, List.length_cons, List.length_singleton, List.length_singleton]; omega)
  · exact rows_F (k := d) List.length_replicate hd.1 lr (by omega) (tup ob) kT restT
  · match p, ip with
    | [], ip => exact absurd ip.len (by simp; omega)
    | x :: xs, ip =>
      by_cases e : xs.length + 1 = n
      · exact tab_row (r0 := nV x) (rest := xs.map nV) (t := .int) (by rw [List.length_map]; exact e) rfl rfl
      · exact tab_len (by rw [List.length_map]; exact e)
  · obtain ⟨m, rfl⟩ : ∃ m, n = m + 1 := ⟨n - 1, by omega⟩
    exact tab_nil (rest := List.replicate m (.tup [])) (by rw [List.length_replicate])
  · exact rows_F (k := d) List.length_replicate hd.1 lr (by omega) (tup ob) kS restT
  · refine rows_F (k := d + 1) List.length_replicate (by omega) lr (by omega) (tup ob) kZ fun r hr => ?_
    obtain ⟨q, h1, rfl⟩ := List.mem_map.mp hr
    have bq := bentF_ok hd (t.row q (List.mem_cons_of_mem _ h1))
    unfold bentF at bq
    rw [Bool.and_eq_true, Bool.and_eq_true, Bool.and_eq_true] at bq
    exact .inr bq.2.2.1
  · exact tab_row (t := .non) lr rfl rfl
  · obtain ⟨m, rfl⟩ : ∃ m, n = m + 1 := ⟨n - 1, by omega⟩
    refine rows_F (k := 2) (xs := [.int 0, .int 0]) (rest := List.replicate m (.tup [.int 0, .int 0])) rfl (by omega) (by rw [List.length_replicate]) (by omega) (tup ob) kO fun r hr => ?_
    rw [List.eq_of_mem_replicate hr]
    exact .inr kO
end LK

namespace LK
open PySem PySem.Spec PyProof.Rows L2 Rf Rf.N
theorem of_len1 {α : Type} {p : List α} (h : p.length = 1) : ∃ a, p = [a] := match p, h with
  | [a], _ => ⟨a, rfl⟩
theorem of_len2 {α : Type} {p : List α} (h : p.length = 2) : ∃ a b, p = [a, b] := match p, h with
  | [a, b], _ => ⟨a, b, rfl⟩
theorem of_len3 {α : Type} {p : List α} (h : p.length = 3) : ∃ a b c, p = [a, b, c] := match p, h with
  | [a, b, c], _ => ⟨a, b, c, rfl⟩
theorem of_len4 {α : Type} {p : List α} (h : p.length = 4) : ∃ a b c d, p = [a, b, c, d] := match p, h with
  | [a, b, c, d], _ => ⟨a, b, c, d, rfl⟩
theorem of_len5 {α : Type} {p : List α} (h : p.length = 5) : ∃ a b c d e, p = [a, b, c, d, e] := match p, h with
  | [a, b, c, d, e], _ => ⟨a, b, c, d, e, rfl⟩
theorem of_len6 {α : Type} {p : List α} (h : p.length = 6) : ∃ a b c d e f, p = [a, b, c, d, e, f] := match p, h with
  | [a, b, c, d, e, f], _ => ⟨a, b, c, d, e, f, rfl⟩
theorem bent_list {n d : Nat} {ps : List (List Nat)} (hn : 1 ≤ n ∧ n ≤ 3) (hd : 1 ≤ d ∧ d ≤ 6) (t : IsTab n d ps) (O : Ob) : ∃ p rest pe y, ps = p :: rest ∧
    sSeq bent_0 (sSeq bent_1 (sSeq bent_2 bent_3)) [some (.ref 0), some (tV ps), none, none] ⟨1, [O]⟩ = .ok (.nx [some (.ref 0), some (tV ps), y, some (.fl (bents n d (pV p :: rest.map pV) (p.map nV) pe))]) ⟨1, [O]⟩ ∧ okVs 0 (bents n d (pV p :: rest.map pV) (p.map nV) pe) = true := by
  have nn : n = 1 ∨ n = 2 ∨ n = 3 := by omega
  have ds : d = 1 ∨ d = 2 ∨ d = 3 ∨ d = 4 ∨ d = 5 ∨ d = 6 := by omega
  rcases nn with rfl | rfl | rfl
  · obtain ⟨p, rfl⟩ := of_len1 t.len
    have hp := (t.row p (by simp)).len
    rcases ds with rfl | rfl | rfl | rfl | rfl | rfl
    · obtain ⟨x0, rfl⟩ := of_len1 hp
      obtain ⟨y, e⟩ := bent_1_1 x0 O
      exact ⟨_, _, [nV x0], y, rfl, e, bentok_1_1 x0⟩
    · obtain ⟨x0, x1, rfl⟩ := of_len2 hp
      obtain ⟨y, e⟩ := bent_1_2 x0 x1 O
      exact ⟨_, _, [nV x0, nV x1], y, rfl, e, bentok_1_2 x0 x1⟩
    · obtain ⟨x0, x1, x2, rfl⟩ := of_len3 hp
      obtain ⟨y, e⟩ := bent_1_3 x0 x1 x2 O
      exact ⟨_, _, [nV x0, nV x1, nV x2], y, rfl, e, bentok_1_3 x0 x1 x2⟩
    · obtain ⟨x0, x1, x2, x3, rfl⟩ := of_len4 hp
      obtain ⟨y, e⟩ := bent_1_4 x0 x1 x2 x3 O
      exact ⟨_, _, [nV x0, nV x1, nV x2, nV x3], y, rfl, e, bentok_1_4 x0 x1 x2 x3⟩
    · obtain ⟨x0, x1, x2, x3, x4, rfl⟩ := of_len5 hp
      obtain ⟨y, e⟩ := bent_1_5 x0 x1 x2 x3 x4 O
      exact ⟨_, _, [nV x0, nV x1, nV x2, nV x3, nV x4], y, rfl, e, bentok_1_5 x0 x1 x2 x3 x4⟩
    · obtain ⟨x0, x1, x2, x3, x4, x5, rfl⟩ := of_len6 hp
      obtain ⟨y, e⟩ := bent_1_6 x0 x1 x2 x3 x4 x5 O
      exact ⟨_, _, [nV x0, nV x1, nV x2, nV x3, nV x4, nV x5], y, rfl, e, bentok_1_6 x0 x1 x2 x3 x4 x5⟩
  · obtain ⟨p, q, rfl⟩ := of_len2 t.len
    have hp := (t.row p (by simp)).len
    have hq := (t.row q (by simp)).len
    rcases ds with rfl | rfl | rfl | rfl | rfl | rfl
    · obtain ⟨x0, rfl⟩ := of_len1 hp
      obtain ⟨y0, rfl⟩ := of_len1 hq
      obtain ⟨y, e⟩ := bent_2_1 x0 y0 O
      exact ⟨_, _, [nV y0], y, rfl, e, bentok_2_1 x0 y0⟩
    · obtain ⟨x0, x1, rfl⟩ := of_len2 hp
      obtain ⟨y0, y1, rfl⟩ := of_len2 hq
      obtain ⟨y, e⟩ := bent_2_2 x0 x1 y0 y1 O
      exact ⟨_, _, [nV y0, nV y1], y, rfl, e, bentok_2_2 x0 x1 y0 y1⟩
    · obtain ⟨x0, x1, x2, rfl⟩ := of_len3 hp
      obtain ⟨y0, y1, y2, rfl⟩ := of_len3 hq
      obtain ⟨y, e⟩ := bent_2_3 x0 x1 x2 y0 y1 y2 O
      exact ⟨_, _, [nV y0, nV y1, nV y2], y, rfl, e, bentok_2_3 x0 x1 x2 y0 y1 y2⟩
    · obtain ⟨x0, x1, x2, x3, rfl⟩ := of_len4 hp
      obtain ⟨y0, y1, y2, y3, rfl⟩ := of_len4 hq
      obtain ⟨y, e⟩ := bent_2_4 x0 x1 x2 x3 y0 y1 y2 y3 O
      exact ⟨_, _, [nV y0, nV y1, nV y2, nV y3], y, rfl, e, bentok_2_4 x0 x1 x2 x3 y0 y1 y2 y3⟩
    · obtain ⟨x0, x1, x2, x3, x4, rfl⟩ := of_len5 hp
      obtain ⟨y0, y1, y2, y3, y4, rfl⟩ := of_len5 hq
      obtain ⟨y, e⟩ := bent_2_5 x0 x1 x2 x3 x4 y0 y1 y2 y3 y4 O
      exact ⟨_, _, [nV y0, nV y1, nV y2, nV y3, nV y4], y, rfl, e, bentok_2_5 x0 x1 x2 x3 x4 y0 y1 y2 y3 y4⟩
    · obtain ⟨x0, x1, x2, x3, x4, x5, rfl⟩ := of_len6 hp
      obtain ⟨y0, y1, y2, y3, y4, y5, rfl⟩ := of_len6 hq
      obtain ⟨y, e⟩ := bent_2_6 x0 x1 x2 x3 x4 x5 y0 y1 y2 y3 y4 y5 O
      exact ⟨_, _, [nV y0, nV y1, nV y2, nV y3, nV y4, nV y5], y, rfl, e, bentok_2_6 x0 x1 x2 x3 x4 x5 y0 y1 y2 y3 y4 y5⟩
  · obtain ⟨p, q, r, rfl⟩ := of_len3 t.len
    have hp := (t.row p (by simp)).len
    have hq := (t.row q (by simp)).len
    have hr := (t.row r (by simp)).len
    rcases ds with rfl | rfl | rfl | rfl | rfl | rfl
    · obtain ⟨x0, rfl⟩ := of_len1 hp
      obtain ⟨y0, rfl⟩ := of_len1 hq
      obtain ⟨z0, rfl⟩ := of_len1 hr
      obtain ⟨y, e⟩ := bent_3_1 x0 y0 z0 O
      exact ⟨_, _, [nV z0], y, rfl, e, bentok_3_1 x0 y0 z0⟩
    · obtain ⟨x0, x1, rfl⟩ := of_len2 hp
      obtain ⟨y0, y1, rfl⟩ := of_len2 hq
      obtain ⟨z0, z1, rfl⟩ := of_len2 hr
      obtain ⟨y, e⟩ := bent_3_2 x0 x1 y0 y1 z0 z1 O
      exact ⟨_, _, [nV z0, nV z1], y, rfl, e, bentok_3_2 x0 x1 y0 y1 z0 z1⟩
    · obtain ⟨x0, x1, x2, rfl⟩ := of_len3 hp
      obtain ⟨y0, y1, y2, rfl⟩ := of_len3 hq
      obtain ⟨z0, z1, z2, rfl⟩ := of_len3 hr
      obtain ⟨y, e⟩ := bent_3_3 x0 x1 x2 y0 y1 y2 z0 z1 z2 O
      exact ⟨_, _, [nV z0, nV z1, nV z2], y, rfl, e, bentok_3_3 x0 x1 x2 y0 y1 y2 z0 z1 z2⟩
    · obtain ⟨x0, x1, x2, x3, rfl⟩ := of_len4 hp
      obtain ⟨y0, y1, y2, y3, rfl⟩ := of_len4 hq
      obtain ⟨z0, z1, z2, z3, rfl⟩ := of_len4 hr
      obtain ⟨y, e⟩ := bent_3_4 x0 x1 x2 x3 y0 y1 y2 y3 z0 z1 z2 z3 O
      exact ⟨_, _, [nV z0, nV z1, nV z2, nV z3], y, rfl, e, bentok_3_4 x0 x1 x2 x3 y0 y1 y2 y3 z0 z1 z2 z3⟩
    · obtain ⟨x0, x1, x2, x3, x4, rfl⟩ := of_len5 hp
      obtain ⟨y0, y1, y2, y3, y4, rfl⟩ := of_len5 hq
      obtain ⟨z0, z1, z2, z3, z4, rfl⟩ := of_len5 hr
      obtain ⟨y, e⟩ := bent_3_5 x0 x1 x2 x3 x4 y0 y1 y2 y3 y4 z0 z1 z2 z3 z4 O
      exact ⟨_, _, [nV z0, nV z1, nV z2, nV z3, nV z4], y, rfl, e, bentok_3_5 x0 x1 x2 x3 x4 y0 y1 y2 y3 y4 z0 z1 z2 z3 z4⟩
    · obtain ⟨x0, x1, x2, x3, x4, x5, rfl⟩ := of_len6 hp
      obtain ⟨y0, y1, y2, y3, y4, y5, rfl⟩ := of_len6 hq
      obtain ⟨z0, z1, z2, z3, z4, z5, rfl⟩ := of_len6 hr
      obtain ⟨y, e⟩ := bent_3_6 x0 x1 x2 x3 x4 x5 y0 y1 y2 y3 y4 y5 z0 z1 z2 z3 z4 z5 O
      exact ⟨_, _, [nV z0, nV z1, nV z2, nV z3, nV z4, nV z5], y, rfl, e, bentok_3_6 x0 x1 x2 x3 x4 x5 y0 y1 y2 y3 y4 y5 z0 z1 z2 z3 z4 z5⟩
theorem bent_ok {ns : List Int} {c : Int} {n d : Nat} {ps : List (List Nat)} (hl : ns.length ≤ 63) (hn : 1 ≤ n ∧ n ≤ 3) (hd : 1 ≤ d ∧ d ≤ 6) (t : IsTab n d ps) (c0 : 0 ≤ c ∧ c ≤ 9000) {O : Ob} (o : N.OwnOk ns c ⟨1, [O]⟩) :
    ∃ b O', runT m__law_bent [.ref 0, tV ps] ⟨1, [O]⟩ = .ok b ⟨1, [O']⟩ ∧ okV 0 b = true ∧ isF (m_is_table [nV n, b] ⟨0, []⟩) = true ∧ N.OwnOk ns (c + 1) ⟨1, [O']⟩ := by
  obtain ⟨p, rest, pe, y, rfl, e, ok⟩ := bent_list hn hd t O
  have len : (bents n d (pV p :: rest.map pV) (p.map nV) pe).length = 16 := rfl
  have F := bents_F hn hd t ok
  generalize bents n d (pV p :: rest.map pV) (p.map nV) pe = bs at e ok len F
  obtain ⟨r, a, b, c1, d1, e1, r0, r1, o1⟩ := N.OwnOk.next (many := 16) o (by omega) (by omega) (by omega)
  obtain ⟨j, rfl⟩ := Int.eq_ofNat_of_zero_le r0
  have hj : j < bs.length := by omega
  have e2 : bs[j]? = some bs[j] := List.getElem?_eq_getElem hj
  have mem := List.getElem_mem hj
  have okj := okVs_mem ok _ mem
  have okj1 : okV 1 bs[j] = true := okV_up (Nat.zero_le 1) okj
  refine ⟨bs[j], ownS ns a b c1 d1, runT_ok (h' := ⟨1, [ownS ns a b c1 d1]⟩) (rest := []) (fnM_rt ?_) rfl rfl okj1 (okO_own 1 ns a b c1 d1), okj, istab_F hn okj (F _ mem), o1.to rfl⟩
  have as4 : ∀ (l : Lo) (h : Hea), bd__law_bent l h = sSeq (sSeq bent_0 (sSeq bent_1 (sSeq bent_2 bent_3))) bent_4 l h := fun l h => by
    rw [bent_bd]; simp only [seq_as]
  rw [as4]
  have ln : callE (fn1 vLenF) (aCons (vr 3) aNil) [some (.ref 0), some (tV (p :: rest)), y, some (.fl bs)] ⟨1, [O]⟩ = .ok (.int 16) ⟨1, [O]⟩ := by
    rw [lenF_fl (xs := bs) rfl, len]; rfl
  have dr : callF 2 m__law_next (aCons (vr 0) (aCons (callE (fn1 vLenF) (aCons (vr 3) aNil)) aNil)) [some (.ref 0), some (tV (p :: rest)), y, some (.fl bs)] ⟨1, [O]⟩ = .ok (nV j) ⟨1, [ownS ns a b c1 d1]⟩ :=
    callF_ok (xs := [.ref 0, .int 16]) (h1 := ⟨1, [O]⟩) (call2 (a := .ref 0) (b := .int 16) rfl ln) rfl e1
  exact (sSeq_nx e).trans (sRet_ok ((op2_ok (F := vIxF) (a := .fl bs) (b := nV j) (h1 := ⟨1, [O]⟩) (h2 := ⟨1, [ownS ns a b c1 d1]⟩) rfl dr).trans (ixF_fl e2)))
end LK

namespace LK
open PySem PySem.Spec PyProof.Rows L2 Rf Rf.N
/-! ### where a word leads a place, by the law -/
def atB : Sx := (sSeq (sSet 4 (op2 vIxF (vr 0) (idxE (cV (.str [97, 98, 99])) (aCons (methE .str vLower (vr 3) aNil) aNil))))
  (sSet 1 (ifE (trB (methE .str vIsLower (vr 3) aNil)) (op2 vIxF (vr 4) (vr 1)) (idxE (vr 4) (aCons (vr 1) aNil)))))
theorem at_step {n d i c : Nat} {ps : List (List Nat)} (hn : n ≤ 3) (t : IsTab n d ps) (hc : c ∈ sgs n) (hi : i < d) (w y : Option Va) :
    atB [some (tV ps), some (nV i), w, some (.str [c]), y] ⟨0, []⟩ = .ok (.nx [some (tV ps), some (nV (at1 ps i c)), w, some (.str [c]), some (pV (ps.getD (ltr c) []))]) ⟨0, []⟩ := by
  obtain ⟨lt, cs⟩ := ltr_lt hn hc
  obtain ⟨ip, e⟩ := t.row_at lt
  have eT : (ps.map pV)[ltr c]? = some (pV (ps.getD (ltr c) [])) := by rw [List.getElem?_map, e]; rfl
  have s1 : ∀ y, idxE (cV (.str [97, 98, 99])) (aCons (methE .str vLower (vr 3) aNil) aNil) [some (tV ps), some (nV i), w, some (.str [c]), y] ⟨0, []⟩ = .ok (nV (ltr c)) ⟨0, []⟩ := fun y => by
    rcases cs with rfl | rfl | rfl | rfl | rfl | rfl <;> rfl
  have s2 : trB (methE .str vIsLower (vr 3) aNil) [some (tV ps), some (nV i), w, some (.str [c]), some (pV (ps.getD (ltr c) []))] ⟨0, []⟩ = .ok (low c) ⟨0, []⟩ := by
    rcases cs with rfl | rfl | rfl | rfl | rfl | rfl <;> rfl
  have hp : i < (ps.getD (ltr c) []).length := by rw [ip.len]; exact hi
  have fin : ifE (trB (methE .str vIsLower (vr 3) aNil)) (op2 vIxF (vr 4) (vr 1)) (idxE (vr 4) (aCons (vr 1) aNil)) [some (tV ps), some (nV i), w, some (.str [c]), some (pV (ps.getD (ltr c) []))] ⟨0, []⟩ = .ok (nV (at1 ps i c)) ⟨0, []⟩ := by
    unfold ifE
    rw [s2]
    have q1 : op2 vIxF (vr 4) (vr 1) [some (tV ps), some (nV i), w, some (.str [c]), some (pV (ps.getD (ltr c) []))] ⟨0, []⟩ = .ok (nV ((ps.getD (ltr c) []).getD i 0)) ⟨0, []⟩ := by
      refine (op2_ok (F := vIxF) (h1 := ⟨0, []⟩) (h2 := ⟨0, []⟩) (a := pV (ps.getD (ltr c) [])) (b := nV i) rfl rfl).trans (ixF_tup ?_)
      rw [List.getElem?_map, List.getD_eq_getElem?_getD (l := ps.getD (ltr c) []), List.getElem?_eq_getElem hp]
      rfl
    have q2 : idxE (vr 4) (aCons (vr 1) aNil) [some (tV ps), some (nV i), w, some (.str [c]), some (pV (ps.getD (ltr c) []))] ⟨0, []⟩ = .ok (nV ((ps.getD (ltr c) []).idxOf i)) ⟨0, []⟩ :=
      idx_tup (p := ps.getD (ltr c) []) rfl rfl (ip.has hi)
    show (if low c = true then _ else _) = _
    rw [q1, q2]
    unfold at1 act
    cases low c with
    | true => rfl
    | false => rfl
  exact (sSeq_nx (sSet_ok ((op2_ok (F := vIxF) (a := tV ps) rfl (s1 y)).trans (ixF_tup eT)))).trans (sSet_ok fin)
theorem lawat_ok {n d i : Nat} {ps : List (List Nat)} {w : List Nat} (hn : n ≤ 3) (t : IsTab n d ps) (hw : ∀ c ∈ w, c ∈ sgs n) (hi : i < d) (few : w.length < 1000) :
    m__law_at [tV ps, nV i, .str w] ⟨0, []⟩ = .ok (nV (atW ps i w)) ⟨0, []⟩ := by
  obtain ⟨l', h', e, p⟩ := sFor_inv (I := iVal (vr 2)) (xs := w.map fun c => .str [c]) (tg := .nm 3) (B := atB) (l := [some (tV ps), some (nV i), some (.str w), none, none]) (h := ⟨0, []⟩) (h1 := ⟨0, []⟩)
    (P := fun k l h => ∃ y3 y4, l = [some (tV ps), some (nV (atW ps i (w.take k))), some (.str w), y3, y4] ∧ h = ⟨0, []⟩) (iVal_str rfl) (by rw [List.length_map]; omega)
    (fun k x l h ek ⟨y3, y4, el, eh⟩ => by
      subst el eh
      rw [List.getElem?_map] at ek
      cases q : w[k]? with
      | none => rw [q] at ek; cases ek
      | some c =>
        rw [q] at ek
        have ex : x = .str [c] := (Option.some.inj ek).symm
        subst ex
        have mem := List.mem_of_getElem? q
        refine ⟨[(3, .str [c])], _, _, rfl, .inl (at_step hn t (hw c mem) (t.atW_lt hn (fun x hx => hw x (List.mem_of_mem_take hx)) hi) (some (.str w)) y4), some (.str [c]), some (pV (ps.getD (ltr c) [])), ?_, rfl⟩
        rw [List.take_add_one, q]
        show [some (tV ps), some (nV (at1 ps (atW ps i (w.take k)) c)), _, _, _] = [some (tV ps), some (nV (atW ps i (w.take k ++ [c]))), _, _, _]
        unfold atW
        rw [List.foldl_append]; rfl)
    ⟨none, none, rfl, rfl⟩
  obtain ⟨y3, y4, el, eh⟩ := p
  subst el eh
  rw [List.length_map, List.take_length] at e
  exact fnM_rt ((sSeq_nx e).trans (sRet_ok rfl))
theorem okVs_at {i : Nat} {ps : List (List Nat)} {w : List Nat} : okVs 0 [tV ps, nV i, .str w] = true := by
  show (okV 0 (tV ps) && true) = true
  rw [okV_t]; rfl
theorem frm_i {m : Fn} {xs : List Va} {h h' : Hea} {v : Va} (o : okVs 0 xs = true) (e : m xs ⟨0, []⟩ = .ok v h') (f : okV 0 v = true) (g : noFd v = true) : frm m xs h = .ok v h := by
  unfold frm
  rw [o, e]
  have : fzR h' v = some v := by unfold fzR; rw [f]
  simp only [this, g]
theorem noFd_p (p : List Nat) : noFd (pV p) = true := by
  have : ∀ p : List Nat, noFds (p.map nV) = true := fun p => by
    induction p with
    | nil => rfl
    | cons x r ih =>
      show (noFd (nV x) && noFds (r.map nV)) = true
      rw [ih]; rfl
  unfold noFd
  exact this p
theorem lawmoved_ok {n d : Nat} {ps : List (List Nat)} {w : List Nat} (hn : 1 ≤ n ∧ n ≤ 3) (hd : 1 ≤ d ∧ d ≤ 6) (t : IsTab n d ps) (hw : ∀ c ∈ w, c ∈ sgs n) (few : w.length < 1000) (h : Hea) :
    frm m__law_moved [tV ps, .str w] h = .ok (pV (mvW ps d w)) h := by
  obtain ⟨ip, e0⟩ := t.row_at (k := 0) (by omega)
  have eT : (ps.map pV)[0]? = some (pV (ps.getD 0 [])) := by rw [List.getElem?_map, e0]; rfl
  have ln : callE (fn1 vLenF) (aCons (op2 vIxF (vr 0) (cV (.int 0))) aNil) [some (tV ps), some (.str w), none] ⟨0, []⟩ = .ok (nV d) ⟨0, []⟩ := by
    rw [lenF_tup (xs := (ps.getD 0 []).map nV) ((op2_ok (F := vIxF) (a := tV ps) (b := nV 0) rfl rfl).trans (ixF_tup eT)), List.length_map, ip.len]
  have lc := lcF_map (i := 2) (vs := [2]) (E := callG 3 m__law_at (aCons (vr 0) (aCons (vr 2) (aCons (vr 1) aNil)))) (xs := rangeV 0 d) (fun x => match x with
      | .int i => nV (atW ps i.toNat w)
      | _ => .non) (range_ok ln (by omega)) (by rw [rangeV_len]; omega) (fun x hx => by
    rw [rangeV_map] at hx
    obtain ⟨i, hi, rfl⟩ := List.mem_map.mp hx
    refine (callG_ok (call3 (a := tV ps) (b := nV i) (c := .str w) rfl rfl rfl) rfl).trans ?_
    rw [frm_i okVs_at (lawat_ok hn.2 t hw (List.mem_range.mp hi) few) rfl rfl]
    rfl)
  have : m__law_moved [tV ps, .str w] ⟨0, []⟩ = .ok (pV (mvW ps d w)) ⟨0, []⟩ := by
    refine fnM_rt (sRet_ok ((callE_ok (call1 lc)).trans ?_))
    rw [rangeV_map, List.map_map]
    show Rs.ok (Va.tup ((List.range d).map _)) _ = _
    unfold mvW pV
    rw [List.map_map]
    rfl
  exact frm_i (by show (okV 0 (tV ps) && true) = true; rw [okV_t]; rfl) this (okV_p 0 _) (noFd_p _)
end LK

namespace LK
open PySem PySem.Spec PyProof.Rows L2 Rf Rf.N
/-! ### the rows of a table -/
def refsV (d : Nat) : List Va := (List.range d).map fun i => .ref i
structure RowOk (ps : List (List Nat)) (k m i many : Nat) (kvs : List (Ke × Va)) : Prop where
  len : kvs.length ≤ many
  nums : IntsD kvs
  old : ∀ c ∈ sgs k, lkK kvs (.s [c]) = some (nV (at1 ps i c))
  lo : i < m → lkK kvs (.s [97 + k]) = some (nV (at1 ps i (97 + k)))
  up : at1 ps i (65 + k) < m → lkK kvs (.s [65 + k]) = some (nV (at1 ps i (65 + k)))
def RowsOk (ps : List (List Nat)) (d k m many : Nat) (h : Hea) : Prop := h.n = d ∧ ∀ i, i < d → ∃ kvs, h.get i = some (.dic kvs) ∧ RowOk ps k m i many kvs
theorem key_ne {a b : Nat} (h : a ≠ b) : ¬ (Ke.s [a]).key = (Ke.s [b]).key := fun e => by
  have := Ke.key_inj e
  injection this with h1
  injection h1 with h2
  exact h h2
theorem lk_ne {kvs : List (Ke × Va)} {a b : Nat} (v : Va) (h : a ≠ b) : lkK (ptK kvs (.s [a]) v) (.s [b]) = lkK kvs (.s [b]) := by
  rw [lk_put, if_neg (key_ne h)]
theorem lk_eq {kvs : List (Ke × Va)} {a : Nat} (v : Va) : lkK (ptK kvs (.s [a]) v) (.s [a]) = some v := by
  rw [lk_put, if_pos rfl]
theorem sgs_ne {k c : Nat} (hk : k < 3) (hc : c ∈ sgs k) : 97 + k ≠ c ∧ 65 + k ≠ c := by
  obtain ⟨lt, cs⟩ := ltr_lt (by omega) hc
  unfold ltr at lt
  split at lt <;> omega
def rowB : Sx := (sSeq (stA (op2 vIxF (vr 1) (vr 4)) (vr 2) (vr 5))
  (stA (op2 vIxF (vr 1) (vr 5)) (methE .str vUpper (vr 2) aNil) (vr 4)))
theorem refs_get {d i : Nat} (hi : i < d) : (refsV d)[i]? = some (.ref i) := by
  unfold refsV
  rw [List.getElem?_map, List.getElem?_range hi]; rfl
theorem row_step {n d k m many : Nat} {ps : List (List Nat)} (hn : n ≤ 3) (t : IsTab n d ps) (hk : k < n) (hm : m < d) (few : many < 9000) (x0 x3 : Option Va) {h : Hea} (r : RowsOk ps d k m many h) :
    ∃ h', rowB [x0, some (.fl (refsV d)), some (.str [97 + k]), x3, some (nV m), some (nV (at1 ps m (97 + k)))] h = .ok (.nx [x0, some (.fl (refsV d)), some (.str [97 + k]), x3, some (nV m), some (nV (at1 ps m (97 + k)))]) h' ∧ RowsOk ps d k (m + 1) (many + 2) h' := by
  obtain ⟨hN, rows⟩ := r
  obtain ⟨ip, e⟩ := t.row_at hk
  have ks : k = 0 ∨ k = 1 ∨ k = 2 := by omega
  have al : at1 ps m (97 + k) = act (ps.getD k []) true m := by rcases ks with rfl | rfl | rfl <;> rfl
  have au : ∀ i, at1 ps i (65 + k) = act (ps.getD k []) false i := fun i => by rcases ks with rfl | rfl | rfl <;> rfl
  have el : at1 ps m (97 + k) < d := by rw [al]; exact ip.act_lt _ hm
  have back : at1 ps (at1 ps m (97 + k)) (65 + k) = m := by rw [au, al]; exact ip.act_back true hm
  have only : ∀ i, i < d → at1 ps i (65 + k) = m → i = at1 ps m (97 + k) := fun i hi q => by
    rw [al, ← q, au]; exact (ip.act_back false hi).symm
  obtain ⟨z, ez⟩ : ∃ z, at1 ps m (97 + k) = z := ⟨_, rfl⟩
  rw [ez] at el back only ⊢
  obtain ⟨km, gm, rm⟩ := rows m hm
  have g1 : ∀ j, j < d → ∃ kvs, (h.set m (.dic (ptK km (.s [97 + k]) (nV z)))).get j = some (.dic kvs) ∧ kvs.length ≤ many + 1 ∧ IntsD kvs ∧ (∀ c ∈ sgs k, lkK kvs (.s [c]) = some (nV (at1 ps j c))) ∧ (j < m → lkK kvs (.s [97 + k]) = some (nV (at1 ps j (97 + k)))) ∧ (j = m → lkK kvs (.s [97 + k]) = some (nV z)) ∧ (at1 ps j (65 + k) < m → lkK kvs (.s [65 + k]) = some (nV (at1 ps j (65 + k)))) := by
    intro j hj
    by_cases q : m = j
    · subst q
      refine ⟨_, Hea.get_set_self gm, Nat.le_trans (put_len ..) (by have := rm.len; omega), rm.nums.put _ _, fun c hc => ?_, fun q => absurd q (Nat.lt_irrefl _), fun _ => lk_eq _, fun q => ?_⟩
      · rw [lk_ne _ (sgs_ne (by omega) hc).1]; exact rm.old c hc
      · rw [lk_ne _ (by omega)]; exact rm.up q
    · obtain ⟨kj, gj, rj⟩ := rows j hj
      exact ⟨kj, by rw [Hea.get_set_ne (by rw [hN]; exact hm) q]; exact gj, Nat.le_trans rj.len (by omega), rj.nums, rj.old, rj.lo, fun q2 => absurd q2.symm q, rj.up⟩
  obtain ⟨kz, gz, lz, iz, oz, loz, loz2, uz⟩ := g1 z el
  have n1 : (h.set m (.dic (ptK km (.s [97 + k]) (nV z)))).n = d := hN
  refine ⟨(h.set m (.dic (ptK km (.s [97 + k]) (nV z)))).set z (.dic (ptK kz (.s [65 + k]) (nV m))), ?_, hN, fun j hj => ?_⟩
  · have up : methE .str vUpper (vr 2) aNil [x0, some (.fl (refsV d)), some (.str [97 + k]), x3, some (nV m), some (nV z)] (h.set m (.dic (ptK km (.s [97 + k]) (nV z)))) = .ok (.str [65 + k]) (h.set m (.dic (ptK km (.s [97 + k]) (nV z)))) := by
      rcases ks with rfl | rfl | rfl <;> rfl
    have s1 : stA (op2 vIxF (vr 1) (vr 4)) (vr 2) (vr 5) [x0, some (.fl (refsV d)), some (.str [97 + k]), x3, some (nV m), some (nV z)] h = .ok (.nx [x0, some (.fl (refsV d)), some (.str [97 + k]), x3, some (nV m), some (nV z)]) (h.set m (.dic (ptK km (.s [97 + k]) (nV z)))) :=
      stA_ok (a := .ref m) (i := .str [97 + k]) (v := nV z) rfl ((op2_ok (F := vIxF) (a := .fl (refsV d)) (b := nV m) rfl rfl).trans (ixF_fl (refs_get hm))) rfl (setA_dic gm rfl (by have := rm.len; omega))
    have s2 : stA (op2 vIxF (vr 1) (vr 5)) (methE .str vUpper (vr 2) aNil) (vr 4) [x0, some (.fl (refsV d)), some (.str [97 + k]), x3, some (nV m), some (nV z)] (h.set m (.dic (ptK km (.s [97 + k]) (nV z)))) = .ok (.nx [x0, some (.fl (refsV d)), some (.str [97 + k]), x3, some (nV m), some (nV z)]) ((h.set m (.dic (ptK km (.s [97 + k]) (nV z)))).set z (.dic (ptK kz (.s [65 + k]) (nV m)))) :=
      stA_ok (a := .ref z) (i := .str [65 + k]) (v := nV m) rfl ((op2_ok (F := vIxF) (a := .fl (refsV d)) (b := nV z) rfl rfl).trans (ixF_fl (refs_get el))) up (setA_dic gz rfl (by omega))
    exact (sSeq_nx s1).trans s2
  · by_cases q : z = j
    · subst q
      refine ⟨_, Hea.get_set_self gz, Nat.le_trans (put_len ..) (by omega), iz.put _ _, fun c hc => ?_, fun q => ?_, fun q => ?_⟩
      · rw [lk_ne _ (sgs_ne (by omega) hc).2]; exact oz c hc
      · rw [lk_ne _ (by omega)]
        rcases Nat.lt_or_ge z m with q2 | q2
        · exact loz q2
        · have e1 : z = m := by omega
          rw [loz2 e1]
          have e2 : at1 ps z (97 + k) = z := (congrArg (fun x => at1 ps x (97 + k)) e1).trans ez
          rw [e2]
      · rw [lk_eq, back]
    · obtain ⟨kj, gj, lj, ij, oj, loj, loj2, uj⟩ := g1 j hj
      refine ⟨kj, by rw [Hea.get_set_ne (by rw [n1]; exact el) q]; exact gj, by omega, ij, oj, fun q2 => ?_, fun q2 => ?_⟩
      · rcases Nat.lt_or_ge j m with q3 | q3
        · exact loj q3
        · have e1 : j = m := by omega
          rw [loj2 e1]
          have e2 : at1 ps j (97 + k) = z := (congrArg (fun x => at1 ps x (97 + k)) e1).trans ez
          rw [e2]
      · rcases Nat.lt_or_ge (at1 ps j (65 + k)) m with q3 | q3
        · exact uj q3
        · exact absurd (only j hj (by omega)).symm q
end LK

namespace LK
open PySem PySem.Spec PyProof.Rows L2 Rf Rf.N
theorem enumL_get : ∀ (xs : List Va) (k i : Nat), (enumL k xs)[i]? = xs[i]?.map fun v => .pr [nV (k + i), v]
  | [], _, _ => rfl
  | x :: r, k, 0 => rfl
  | x :: r, k, i + 1 => by
    show (enumL (k + 1) r)[i]? = r[i]?.map _
    rw [enumL_get r (k + 1) i]
    congr 1
    funext v
    have : k + 1 + i = k + (i + 1) := by omega
    rw [this]
theorem enumL_len : ∀ (xs : List Va) (k : Nat), (enumL k xs).length = xs.length
  | [], _ => rfl
  | x :: r, k => by show (enumL (k + 1) r).length + 1 = r.length + 1; rw [enumL_len r]
def rowS : Sx := sFor (iEnumF (aCons (vr 3) aNil)) (.tp [(.nm 4), (.nm 5)]) rowB
theorem rowS_ok {n d k : Nat} {ps : List (List Nat)} (hn : n ≤ 3) (hd : d ≤ 6) (t : IsTab n d ps) (hk : k < n) (x0 x4 x5 : Option Va) {h : Hea} (r : RowsOk ps d k 0 (12 * k) h) :
    ∃ x4' x5' h', rowS [x0, some (.fl (refsV d)), some (.str [97 + k]), some (pV (ps.getD k [])), x4, x5] h = .ok (.nx [x0, some (.fl (refsV d)), some (.str [97 + k]), some (pV (ps.getD k [])), x4', x5']) h' ∧ RowsOk ps d (k + 1) 0 (12 * (k + 1)) h' := by
  obtain ⟨ip, e⟩ := t.row_at hk
  have len : (enumL 0 ((ps.getD k []).map nV)).length = d := by rw [enumL_len, List.length_map, ip.len]
  have ks : k = 0 ∨ k = 1 ∨ k = 2 := by omega
  have al : ∀ m, at1 ps m (97 + k) = act (ps.getD k []) true m := fun m => by rcases ks with rfl | rfl | rfl <;> rfl
  have au : ∀ i, at1 ps i (65 + k) = act (ps.getD k []) false i := fun i => by rcases ks with rfl | rfl | rfl <;> rfl
  obtain ⟨l', h', e2, y4, y5, el, rr⟩ := sFor_inv (I := iEnumF (aCons (vr 3) aNil)) (tg := .tp [(.nm 4), (.nm 5)]) (B := rowB) (xs := enumL 0 ((ps.getD k []).map nV)) (l := [x0, some (.fl (refsV d)), some (.str [97 + k]), some (pV (ps.getD k [])), x4, x5]) (h := h) (h1 := h)
    (P := fun m l h => ∃ y4 y5, l = [x0, some (.fl (refsV d)), some (.str [97 + k]), some (pV (ps.getD k [])), y4, y5] ∧ RowsOk ps d k m (12 * k + 2 * m) h) rfl (by rw [len]; omega)
    (fun m x l h em ⟨y4, y5, el, r⟩ => by
      subst el
      have hm : m < d := by
        rcases Nat.lt_or_ge m d with q | q
        · exact q
        · rw [List.getElem?_eq_none (by rw [len]; exact q)] at em; cases em
      have hp : m < (ps.getD k []).length := by rw [ip.len]; exact hm
      rw [enumL_get, List.getElem?_map, List.getElem?_eq_getElem hp] at em
      have ex : x = .pr [nV m, nV (at1 ps m (97 + k))] := by
        rw [al]
        unfold act
        rw [if_pos rfl, List.getD_eq_getElem?_getD (l := ps.getD k []), List.getElem?_eq_getElem hp, ← Option.some.inj em]
        show Va.pr [nV (0 + m), _] = _
        rw [Nat.zero_add]
        rfl
      subst ex
      obtain ⟨h2, e3, r2⟩ := row_step hn t hk hm (by omega) x0 (some (pV (ps.getD k []))) r
      refine ⟨[(4, nV m), (5, nV (at1 ps m (97 + k)))], [x0, some (.fl (refsV d)), some (.str [97 + k]), some (pV (ps.getD k [])), some (nV m), some (nV (at1 ps m (97 + k)))], h2, rfl, .inl e3, _, _, rfl, ?_⟩
      have : 12 * k + 2 * (m + 1) = 12 * k + 2 * m + 2 := by omega
      rw [this]
      exact r2)
    ⟨x4, x5, rfl, r⟩
  subst el
  rw [len] at rr
  refine ⟨y4, y5, h', e2, rr.1, fun i hi => ?_⟩
  obtain ⟨kvs, g, ro⟩ := rr.2 i hi
  refine ⟨kvs, g, by have := ro.len; omega, ro.nums, fun c hc => ?_, fun q => absurd q (Nat.not_lt_zero _), fun q => absurd q (Nat.not_lt_zero _)⟩
  have cc : c ∈ sgs k ∨ c = 97 + k ∨ c = 65 + k := by
    rcases ks with rfl | rfl | rfl <;> simp [sgs] at hc ⊢ <;> omega
  rcases cc with cc | rfl | rfl
  · exact ro.old c cc
  · exact ro.lo hi
  · exact ro.up (by rw [au]; exact ip.act_lt _ hi)
theorem rows_ok {n d : Nat} {ps : List (List Nat)} (hn : 1 ≤ n ∧ n ≤ 3) (hd : 1 ≤ d ∧ d ≤ 6) (t : IsTab n d ps) : ∃ h', m_table_rows [tV ps] ⟨0, []⟩ = .ok (.fl (refsV d)) h' ∧ RowsOk ps d n 0 (12 * n) h' := by
  obtain ⟨ip, e0⟩ := t.row_at (k := 0) (by omega)
  have eT : (ps.map pV)[0]? = some (pV (ps.getD 0 [])) := by rw [List.getElem?_map, e0]; rfl
  -- so many dicts
  obtain ⟨acc, h1, e1, _, ea, eh⟩ := lcF_inv (I := iVal (op2 vIxF (vr 0) (cV (.int 0)))) (i := 4) (vs := [4]) (E := dNewK) (xs := (ps.getD 0 []).map nV) (l := [some (tV ps), none, none, none, none, none]) (h := ⟨0, []⟩) (h1 := ⟨0, []⟩)
    (P := fun k acc h => acc = refsV k ∧ h = ⟨k, List.replicate k (.dic [])⟩) (iVal_ok (.inl ((op2_ok (F := vIxF) (a := tV ps) (b := nV 0) rfl rfl).trans (ixF_tup eT)))) (by rw [List.length_map, ip.len]; omega)
    (fun k x acc h _ _ ⟨ea, eh⟩ => by
      subst ea eh
      refine ⟨.ref k, ⟨k + 1, .dic [] :: List.replicate k (.dic [])⟩, rfl, ?_, ?_⟩
      · unfold refsV; rw [List.range_succ, List.map_append]; rfl
      · rw [List.replicate_succ]) ⟨rfl, rfl⟩
  rw [List.length_map, ip.len] at ea eh
  subst ea eh
  have r0 : RowsOk ps d 0 0 (12 * 0) ⟨d, List.replicate d (.dic [])⟩ := by
    refine ⟨rfl, fun i hi => ⟨[], ?_, Nat.le_refl _, fun p hp => absurd hp List.not_mem_nil, fun c hc => absurd hc (by simp [sgs]), fun q => absurd q (Nat.not_lt_zero _), fun q => absurd q (Nat.not_lt_zero _)⟩⟩
    unfold Hea.get
    rw [if_pos hi]
    show (List.replicate d (Ob.dic []))[d - 1 - i]? = _
    rw [List.getElem?_replicate, if_pos (by omega)]
  have zs : iZipF (aCons (cV (.str [97, 98, 99, 100, 101, 102, 103, 104, 105, 106, 107, 108, 109, 110, 111, 112, 113, 114, 115, 116, 117, 118, 119, 120, 121, 122])) (aCons (vr 0) aNil)) [some (tV ps), some (.fl (refsV d)), none, none, none, none] ⟨d, List.replicate d (.dic [])⟩ = .ok (.vals ((List.range n).map fun k => .pr [.str [97 + k], pV (ps.getD k [])])) ⟨d, List.replicate d (.dic [])⟩ := by
    have nn : n = 1 ∨ n = 2 ∨ n = 3 := by omega
    rcases nn with rfl | rfl | rfl
    · obtain ⟨p, rfl⟩ := of_len1 t.len; rfl
    · obtain ⟨p, q, rfl⟩ := of_len2 t.len; rfl
    · obtain ⟨p, q, r, rfl⟩ := of_len3 t.len; rfl
  obtain ⟨l', h', e2, y2, y3, y4, y5, el, rr⟩ := sFor_inv (tg := .tp [(.nm 2), (.nm 3)]) (B := rowS) (P := fun k l h => ∃ y2 y3 y4 y5, l = [some (tV ps), some (.fl (refsV d)), y2, y3, y4, y5] ∧ RowsOk ps d k 0 (12 * k) h) zs (by rw [List.length_map, List.length_range]; omega)
    (fun k x l h ek ⟨y2, y3, y4, y5, el, r⟩ => by
      subst el
      have hk : k < n := by
        rcases Nat.lt_or_ge k n with q | q
        · exact q
        · rw [List.getElem?_eq_none (by rw [List.length_map, List.length_range]; exact q)] at ek; cases ek
      rw [List.getElem?_map, List.getElem?_range hk] at ek
      have ex := Option.some.inj ek
      subst ex
      obtain ⟨x4, x5, h2, e3, r2⟩ := rowS_ok hn.2 hd.2 t hk (some (tV ps)) y4 y5 r
      exact ⟨[(2, .str [97 + k]), (3, pV (ps.getD k []))], _, h2, rfl, .inl e3, _, _, _, _, rfl, r2⟩)
    ⟨none, none, none, none, rfl, r0⟩
  subst el
  rw [List.length_map, List.length_range] at rr
  exact ⟨h', fnM_rt ((sSeq_nx (sSet_ok e1)).trans ((sSeq_nx e2).trans (sRet_ok rfl))), rr⟩
end LK

namespace LK
open PySem PySem.Spec PyProof.Rows L2 Rf Rf.N
structure RowsV (n d : Nat) (ps : List (List Nat)) (ks : List (List (Ke × Va))) : Prop where
  len : ks.length = d
  row : ∀ i, i < d → ∃ kvs, ks[i]? = some kvs ∧ IntsD kvs ∧ ∀ c ∈ sgs n, lkK kvs (.s [c]) = some (nV (at1 ps i c))
  nums : ∀ kvs ∈ ks, IntsD kvs
abbrev rV (ks : List (List (Ke × Va))) : Va := .fl (ks.map fdV)
theorem choose_list {α : Type} {P : Nat → α → Prop} : ∀ d : Nat, (∀ i, i < d → ∃ x, P i x) → ∃ xs : List α, xs.length = d ∧ ∀ i, i < d → ∃ x, xs[i]? = some x ∧ P i x
  | 0, _ => ⟨[], rfl, fun i h => absurd h (Nat.not_lt_zero i)⟩
  | d + 1, h => by
    obtain ⟨xs, l, f⟩ := choose_list d fun i hi => h i (by omega)
    obtain ⟨x, px⟩ := h d (by omega)
    refine ⟨xs ++ [x], by rw [List.length_append, l]; rfl, fun i hi => ?_⟩
    rcases Nat.lt_or_ge i d with q | q
    · obtain ⟨y, e, py⟩ := f i q
      exact ⟨y, by rw [List.getElem?_append_left (by omega)]; exact e, py⟩
    · have : i = d := by omega
      subst this
      exact ⟨x, by rw [List.getElem?_append_right (by omega), l]; simp, px⟩
theorem mapO_refs {h : Hea} {n : Nat} : ∀ (d : Nat) (ks : List (List (Ke × Va))), ks.length = d → (∀ i, i < d → ∃ kvs, ks[i]? = some kvs ∧ h.get i = some (.dic kvs) ∧ IntsD kvs) → mapO (fzV h (n + 2)) (refsV d) = some (ks.map fdV)
  | 0, ks, l, _ => by
    have : ks = [] := List.length_eq_zero_iff.mp l
    subst this; rfl
  | d + 1, ks, l, f => by
    have ap : ∀ (g : Va → Option Va) (xs ys : List Va) (x y : Va), mapO g xs = some ys → g x = some y → mapO g (xs ++ [x]) = some (ys ++ [y]) := by
      intro g xs
      induction xs with
      | nil =>
        intro ys x y e1 e2
        have : ys = [] := by simpa [mapO] using e1.symm
        subst this
        simp [mapO, e2]
      | cons a r ih =>
        intro ys x y e1 e2
        unfold mapO at e1
        cases q : g a with
        | none => rw [q] at e1; cases e1
        | some b =>
          rw [q] at e1
          cases q2 : mapO g r with
          | none => simp only [q2] at e1; cases e1
          | some s =>
            simp only [q2] at e1
            have := Option.some.inj e1
            subst this
            show mapO g (a :: (r ++ [x])) = _
            unfold mapO
            simp only [q, ih s x y q2 e2]
            rfl
    obtain ⟨kd, e1, e2, e3⟩ := f d (by omega)
    have hks : ks = ks.take d ++ [kd] := by
      have h1 : ks.drop d = [kd] := by
        have hd : d < ks.length := by omega
        rw [List.drop_eq_getElem_cons hd, List.drop_eq_nil_of_le (by omega)]
        rw [List.getElem?_eq_getElem hd] at e1
        rw [Option.some.inj e1]
      rw [← h1, List.take_append_drop]
    have ih := mapO_refs (h := h) (n := n) d (ks.take d) (by rw [List.length_take]; omega) fun i hi => by
      obtain ⟨kv, a1, a2⟩ := f i (by omega)
      exact ⟨kv, by rw [List.getElem?_take_of_lt hi]; exact a1, a2⟩
    have r1 : refsV (d + 1) = refsV d ++ [.ref d] := by unfold refsV; rw [List.range_succ, List.map_append]; rfl
    rw [r1, hks, List.map_append]
    exact ap _ _ _ _ _ ih (fzV_dic e2 e3 n)
theorem okV_fd {kvs : List (Ke × Va)} (h : IntsD kvs) : okV 0 (fdV kvs) = true := by
  have := fdOk_ints h
  unfold fdOk at this
  split at this
  · unfold fdV okV; exact this
  · cases this
theorem okV_r {ks : List (List (Ke × Va))} (h : ∀ kvs ∈ ks, IntsD kvs) : okV 0 (rV ks) = true := by
  have : ∀ ks : List (List (Ke × Va)), (∀ kvs ∈ ks, IntsD kvs) → okVs 0 (ks.map fdV) = true := by
    intro ks
    induction ks with
    | nil => exact fun _ => rfl
    | cons a r ih =>
      intro h
      show (okV 0 (fdV a) && okVs 0 (r.map fdV)) = true
      rw [okV_fd (h a List.mem_cons_self), ih fun x hx => h x (List.mem_cons_of_mem _ hx)]; rfl
  unfold okV
  exact this ks h
theorem rowsV_ok {n d : Nat} {ps : List (List Nat)} (hn : 1 ≤ n ∧ n ≤ 3) (hd : 1 ≤ d ∧ d ≤ 6) (t : IsTab n d ps) : ∃ ks, RowsV n d ps ks ∧ ∀ h, noLock h = true → frm m_table_rows [tV ps] h = .ok (rV ks) h := by
  obtain ⟨h', e, hN, rows⟩ := rows_ok hn hd t
  obtain ⟨ks, len, f⟩ := choose_list d rows
  refine ⟨ks, ⟨len, fun i hi => ?_, fun kvs hk => ?_⟩, fun h nl => ?_⟩
  · obtain ⟨kvs, e1, _, r⟩ := f i hi
    exact ⟨kvs, e1, r.nums, r.old⟩
  · obtain ⟨i, hi, ei⟩ := List.getElem_of_mem hk
    obtain ⟨k2, e1, _, r⟩ := f i (by omega)
    rw [List.getElem?_eq_getElem hi, ei] at e1
    rw [Option.some.inj e1]
    exact r.nums
  · unfold frm
    have o : okVs 0 [tV ps] = true := by show (okV 0 (tV ps) && true) = true; rw [okV_t]; rfl
    rw [o, e]
    have z : okV 0 (.fl (refsV d)) = false := by
      obtain ⟨m, rfl⟩ : ∃ m, d = m + 1 := ⟨d - 1, by omega⟩
      have r1 : refsV (m + 1) = .ref 0 :: (List.range m).map (fun i => Va.ref (i + 1)) := by
        unfold refsV; rw [List.range_succ_eq_map, List.map_cons, List.map_map]; rfl
      rw [r1]; rfl
    have g : fzR h' (.fl (refsV d)) = some (rV ks) := by
      unfold fzR
      rw [z]
      show fzV h' 20 (.fl (refsV d)) = _
      unfold fzV
      simp only [mapO_refs (n := 17) d ks len fun i hi => by
        obtain ⟨kvs, e1, e2, r⟩ := f i hi
        exact ⟨kvs, e1, e2, r.nums⟩]
    simp only [g]
    cases noFd (rV ks) with
    | true => rfl
    | false => simp only [nl]
/-! ### where a word leads a place, by the rows -/
theorem rows_at {n d i c : Nat} {ps : List (List Nat)} {ks : List (List (Ke × Va))} (R : RowsV n d ps ks) (hc : c ∈ sgs n) (hi : i < d) {A B : Ex} {l : Lo} {h : Hea} (C : Ex) (eA : A l h = .ok (rV ks) h) (eB : B l h = .ok (nV i) h) (eC : C l h = .ok (.str [c]) h) :
    op2 vIxF (op2 vIxF A B) C l h = .ok (nV (at1 ps i c)) h := by
  obtain ⟨kvs, e1, e2, e3⟩ := R.row i hi
  have g : (ks.map fdV)[i]? = some (fdV kvs) := by rw [List.getElem?_map, e1]; rfl
  exact (op2_ok (F := vIxF) (a := fdV kvs) (b := .str [c]) ((op2_ok (F := vIxF) (a := rV ks) (b := nV i) eA eB).trans (ixF_fl g)) eC).trans (ixF_fd e2 (e3 c hc))
theorem walked_ok {n d i : Nat} {ps : List (List Nat)} {ks : List (List (Ke × Va))} {w : List Nat} (hn : n ≤ 3) (t : IsTab n d ps) (R : RowsV n d ps ks) (hw : ∀ c ∈ w, c ∈ sgs n) (hi : i < d) (few : w.length < 1000) (h : Hea) :
    frm m_walked [rV ks, nV i, .str w] h = .ok (nV (atW ps i w)) h := by
  obtain ⟨l', h', e, y3, el, eh⟩ := sFor_inv (I := iVal (vr 2)) (xs := w.map fun c => .str [c]) (tg := .nm 3) (B := sSet 1 (op2 vIxF (op2 vIxF (vr 0) (vr 1)) (vr 3))) (l := [some (rV ks), some (nV i), some (.str w), none]) (h := ⟨0, []⟩) (h1 := ⟨0, []⟩)
    (P := fun k l h => ∃ y3, l = [some (rV ks), some (nV (atW ps i (w.take k))), some (.str w), y3] ∧ h = ⟨0, []⟩) (iVal_str rfl) (by rw [List.length_map]; omega)
    (fun k x l h ek ⟨y3, el, eh⟩ => by
      subst el eh
      rw [List.getElem?_map] at ek
      cases q : w[k]? with
      | none => rw [q] at ek; cases ek
      | some c =>
        rw [q] at ek
        have ex : x = .str [c] := (Option.some.inj ek).symm
        subst ex
        have mem := List.mem_of_getElem? q
        have lt := t.atW_lt hn (fun x hx => hw x (List.mem_of_mem_take hx)) hi (w := w.take k)
        refine ⟨[(3, .str [c])], _, _, rfl, .inl (sSet_ok (rows_at R (hw c mem) lt (vr 3) (A := vr 0) (B := vr 1) (l := [some (rV ks), some (nV (atW ps i (w.take k))), some (.str w), some (.str [c])]) (h := ⟨0, []⟩) rfl rfl rfl)), some (.str [c]), ?_, rfl⟩
        rw [List.take_add_one, q]
        show [some (rV ks), some (nV (at1 ps (atW ps i (w.take k)) c)), _, _] = [some (rV ks), some (nV (atW ps i (w.take k ++ [c]))), _, _]
        unfold atW
        rw [List.foldl_append]; rfl)
    ⟨none, rfl, rfl⟩
  subst el eh
  rw [List.length_map, List.take_length] at e
  have : m_walked [rV ks, nV i, .str w] ⟨0, []⟩ = .ok (nV (atW ps i w)) ⟨0, []⟩ := fnM_rt ((sSeq_nx e).trans (sRet_ok rfl))
  exact frm_i (by show (okV 0 (rV ks) && true) = true; rw [okV_r R.nums]; rfl) this rfl rfl
theorem movedof_ok {n d : Nat} {ps : List (List Nat)} {w : List Nat} (hn : 1 ≤ n ∧ n ≤ 3) (hd : 1 ≤ d ∧ d ≤ 6) (t : IsTab n d ps) (hw : ∀ c ∈ w, c ∈ sgs n) (few : w.length < 1000) (h : Hea) :
    frm m_moved_of [tV ps, .str w] h = .ok (pV (mvW ps d w)) h := by
  obtain ⟨ks, R, fr⟩ := rowsV_ok hn hd t
  have ln : callE (fn1 vLenF) (aCons (vr 2) aNil) [some (tV ps), some (.str w), some (rV ks), none] ⟨0, []⟩ = .ok (nV d) ⟨0, []⟩ := by
    rw [lenF_fl (xs := ks.map fdV) rfl, List.length_map, R.len]
  have lc := lcF_map (i := 3) (vs := [3]) (E := callG 3 m_walked (aCons (vr 2) (aCons (vr 3) (aCons (vr 1) aNil)))) (xs := rangeV 0 d) (fun x => match x with
      | .int i => nV (atW ps i.toNat w)
      | _ => .non) (range_ok ln (by omega)) (by rw [rangeV_len]; omega) (fun x hx => by
    rw [rangeV_map] at hx
    obtain ⟨i, hi, rfl⟩ := List.mem_map.mp hx
    refine (callG_ok (call3 (a := rV ks) (b := nV i) (c := .str w) rfl rfl rfl) rfl).trans ?_
    rw [walked_ok hn.2 t R hw (List.mem_range.mp hi) few]
    rfl)
  have : m_moved_of [tV ps, .str w] ⟨0, []⟩ = .ok (pV (mvW ps d w)) ⟨0, []⟩ := by
    refine fnM_rt ((sSeq_nx (sSet_ok ((callG_ok (call1 (a := tV ps) rfl) rfl).trans (fr _ rfl)))).trans (sRet_ok ((callE_ok (call1 lc)).trans ?_)))
    rw [rangeV_map, List.map_map]
    show Rs.ok (Va.tup ((List.range d).map _)) _ = _
    unfold mvW pV
    rw [List.map_map]
    rfl
  exact frm_i (by show (okV 0 (tV ps) && true) = true; rw [okV_t]; rfl) this (okV_p 0 _) (noFd_p _)
end LK

namespace LK
open PySem PySem.Spec PyProof.Rows L2 Rf Rf.N
/-! ### what walks reach, by the program -/
def metB : Sx := (sSeq (sSet 7 (dmF vDget (op2 vIxF (vr 1) (op2 vIxF (vr 4) (vr 5))) (aCons (vr 6) aNil)))
  (sIf (tAnd (isB (op2 vIsNot (vr 7) (cV .non))) (isB (op2 (fdB vNotIn) (vr 7) (vr 3)))) (sSeq (stA (vr 3) (vr 7) (callE (fn1 vLenF) (aCons (vr 4) aNil)))
  (sDrop (methE .list vAppend (vr 4) (aCons (vr 7) aNil)))) sNil))
abbrev mtL (n : Nat) (R : Va) (x2 : Option Va) (at_ : Nat) (y6 y7 : Option Va) : Lo := [some (nV n), some R, x2, some (.ref 0), some (.ref 1), some (nV at_), y6, y7]
abbrev mtH (o : List Nat) : Hea := ⟨2, [.lst (o.map nV), .dic (mkN 0 o)]⟩
theorem met_step {n d at_ x c : Nat} {ps : List (List Nat)} {ks : List (List (Ke × Va))} {o : List Nat} (R : RowsV n d ps ks) (hc : c ∈ sgs n) (hx : o[at_]? = some x) (xd : x < d) (few : o.length < 1000) (x2 y7 : Option Va) :
    ∃ o', metB (mtL n (rV ks) x2 at_ (some (.str [c])) y7) (mtH o) = .ok (.nx (mtL n (rV ks) x2 at_ (some (.str [c])) (some (nV (at1 ps x c))))) (mtH o') ∧ o' = if at1 ps x c ∈ o then o else o ++ [at1 ps x c] := by
  obtain ⟨kvs, e1, e2, e3⟩ := R.row x xd
  have g : (ks.map fdV)[x]? = some (fdV kvs) := by rw [List.getElem?_map, e1]; rfl
  have gx : (o.map nV)[at_]? = some (nV x) := by rw [List.getElem?_map, hx]; rfl
  have s1 : dmF vDget (op2 vIxF (vr 1) (op2 vIxF (vr 4) (vr 5))) (aCons (vr 6) aNil) (mtL n (rV ks) x2 at_ (some (.str [c])) y7) (mtH o) = .ok (nV (at1 ps x c)) (mtH o) :=
    dget_fd ((op2_ok (F := vIxF) (a := rV ks) (b := nV x) rfl ((op2_ok (F := vIxF) (a := .ref 1) (b := nV at_) rfl rfl).trans (ixF_lst rfl gx))).trans (ixF_fl g)) (call1 (a := .str [c]) rfl) e2 (e3 c hc)
  generalize at1 ps x c = z at s1
  have t1 : tAnd (isB (op2 vIsNot (vr 7) (cV .non))) (isB (op2 (fdB vNotIn) (vr 7) (vr 3))) (mtL n (rV ks) x2 at_ (some (.str [c])) (some (nV z))) (mtH o) = .ok (!(o.contains z)) (mtH o) := by
    refine (tAnd_t (isB_ok ((op2_ok (F := vIsNot) (a := nV z) (b := .non) rfl rfl).trans rfl))).trans (isB_ok ((op2_ok (F := fdB vNotIn) (a := nV z) (b := .ref 0) rfl rfl).trans ?_))
    rw [notin_dic (kvs := mkN 0 o) rfl, mkN_has]
  by_cases q : z ∈ o
  · refine ⟨o, (sSeq_nx (sSet_ok s1)).trans ((sIf_f (t1.trans ?_)).trans rfl), by rw [if_pos q]⟩
    have : o.contains z = true := by simpa using q
    rw [this]; rfl
  · have nc : o.contains z = false := by simpa using q
    refine ⟨o ++ [z], (sSeq_nx (sSet_ok s1)).trans ((sIf_t (t1.trans (by rw [nc]; rfl))).trans ?_), by rw [if_neg q]⟩
    have ln : callE (fn1 vLenF) (aCons (vr 4) aNil) (mtL n (rV ks) x2 at_ (some (.str [c])) (some (nV z))) (mtH o) = .ok (nV o.length) (mtH o) := by
      refine (callE_ok (call1 (a := .ref 1) rfl)).trans ?_
      show Rs.ok (Va.int ((o.map nV).length : Nat)) _ = _
      rw [List.length_map]
    have s2 : stA (vr 3) (vr 7) (callE (fn1 vLenF) (aCons (vr 4) aNil)) (mtL n (rV ks) x2 at_ (some (.str [c])) (some (nV z))) (mtH o) = .ok (.nx (mtL n (rV ks) x2 at_ (some (.str [c])) (some (nV z)))) ⟨2, [.lst (o.map nV), .dic (mkN 0 (o ++ [z]))]⟩ := by
      refine (stA_ok (a := .ref 0) (i := nV z) (v := nV o.length) ln rfl rfl (setA_dic (kvs := mkN 0 o) (ke := .i z) rfl rfl (by rw [mkN_len]; omega))).trans ?_
      rw [mkN_put q]; rfl
    refine (sSeq_nx s2).trans ((sDrop_ok (append_ok (i := 1) (zs := o.map nV) (y := nV z) rfl rfl rfl (by rw [List.length_map]; omega))).trans ?_)
    show Rs.ok (Ou.nx _) (⟨2, [.lst (o.map nV ++ [nV z]), .dic (mkN 0 (o ++ [z]))]⟩ : Hea) = _
    have : (o ++ [z]).map nV = o.map nV ++ [nV z] := by rw [List.map_append]; rfl
    show _ = Rs.ok (Ou.nx _) (⟨2, [.lst ((o ++ [z]).map nV), .dic (mkN 0 (o ++ [z]))]⟩ : Hea)
    rw [this]
theorem signs_ok {n : Nat} (hn : 1 ≤ n ∧ n ≤ 3) (h : Hea) : frm m_signs_of [nV n] h = .ok (.str (sgs n)) h := by
  have nn : n = 1 ∨ n = 2 ∨ n = 3 := by omega
  rcases nn with rfl | rfl | rfl <;> kernel_rfl
/-- a set of places that letters do not leave -/
def Shut (n : Nat) (ps : List (List Nat)) (S : List Nat) : Prop := ∀ c ∈ sgs n, ∀ x ∈ S, at1 ps x c ∈ S
structure Met (n d : Nat) (ps : List (List Nat)) (root : Nat) (o : List Nat) : Prop where
  nd : o.Nodup
  has : root ∈ o
  lt : ∀ x ∈ o, x < d
  min : ∀ T : List Nat, root ∈ T → Shut n ps T → ∀ x ∈ o, x ∈ T
theorem Met.len {n d root : Nat} {ps : List (List Nat)} {o : List Nat} (m : Met n d ps root o) : o.length ≤ d := by
  have := List.Nodup.length_le_of_subset m.nd (l₂ := List.range d) fun x hx => List.mem_range.mpr (m.lt x hx)
  rw [List.length_range] at this
  exact this
theorem Met.more {n d root x c : Nat} {ps : List (List Nat)} {o : List Nat} (t : IsTab n d ps) (hn : n ≤ 3) (m : Met n d ps root o) (hx : x ∈ o) (hc : c ∈ sgs n) : Met n d ps root (if at1 ps x c ∈ o then o else o ++ [at1 ps x c]) := by
  by_cases q : at1 ps x c ∈ o
  · rw [if_pos q]; exact m
  · rw [if_neg q]
    refine ⟨List.nodup_append.mpr ⟨m.nd, by simp, fun a ha b hb e => q (by rw [List.mem_singleton.mp hb] at e; rw [← e]; exact ha)⟩, List.mem_append_left _ m.has, fun y hy => ?_, fun T h1 h2 y hy => ?_⟩
    · rcases List.mem_append.mp hy with hy | hy
      · exact m.lt y hy
      · rw [List.mem_singleton.mp hy]; exact t.at1_lt hn hc (m.lt x hx)
    · rcases List.mem_append.mp hy with hy | hy
      · exact m.min T h1 h2 y hy
      · rw [List.mem_singleton.mp hy]; exact h2 c hc x (m.min T h1 h2 x hx)
def metS : Sx := sFor (iVal (callG 1 m_signs_of (aCons (vr 0) aNil))) (.nm 6) metB
theorem metS_ok {n d root at_ x : Nat} {ps : List (List Nat)} {ks : List (List (Ke × Va))} {o : List Nat} (hn : 1 ≤ n ∧ n ≤ 3) (hd : d ≤ 6) (t : IsTab n d ps) (R : RowsV n d ps ks) (m : Met n d ps root o) (hx : o[at_]? = some x) (x2 y6 y7 : Option Va) :
    ∃ o' y6' y7', metS (mtL n (rV ks) x2 at_ y6 y7) (mtH o) = .ok (.nx (mtL n (rV ks) x2 at_ y6' y7')) (mtH o') ∧ Met n d ps root o' ∧ (∃ e, o' = o ++ e) ∧ ∀ c ∈ sgs n, at1 ps x c ∈ o' := by
  obtain ⟨l', h', e, o', y6', y7', el, eh, m', pre, all⟩ := sFor_inv (I := iVal (callG 1 m_signs_of (aCons (vr 0) aNil))) (xs := (sgs n).map fun c => .str [c]) (tg := .nm 6) (B := metB) (l := mtL n (rV ks) x2 at_ y6 y7) (h := mtH o) (h1 := mtH o)
    (P := fun k l h => ∃ o' y6 y7, l = mtL n (rV ks) x2 at_ y6 y7 ∧ h = mtH o' ∧ Met n d ps root o' ∧ (∃ e, o' = o ++ e) ∧ ∀ c ∈ (sgs n).take k, at1 ps x c ∈ o')
    (iVal_str ((callG_ok (call1 (a := nV n) rfl) rfl).trans (signs_ok hn _))) (by rw [List.length_map]; unfold sgs; rw [List.length_take]; simp; omega)
    (fun k v l h ek ⟨o', y6, y7, el, eh, m', ⟨e, pre⟩, all⟩ => by
      subst el eh
      rw [List.getElem?_map] at ek
      cases q : (sgs n)[k]? with
      | none => rw [q] at ek; cases ek
      | some c =>
        rw [q] at ek
        have ex : v = .str [c] := (Option.some.inj ek).symm
        subst ex
        have hc := List.mem_of_getElem? q
        have la : at_ < o.length := by
          rcases Nat.lt_or_ge at_ o.length with z | z
          · exact z
          · rw [List.getElem?_eq_none z] at hx; cases hx
        have hx' : o'[at_]? = some x := by rw [pre, List.getElem?_append_left la]; exact hx
        have mx : x ∈ o' := List.mem_of_getElem? hx'
        obtain ⟨o2, e2, eo⟩ := met_step R hc hx' (m'.lt x mx) (by have := m'.len; omega) x2 y7
        have m2 := m'.more t hn.2 mx hc
        rw [← eo] at m2
        have sub : ∃ e, o2 = o' ++ e := by
          rw [eo]
          by_cases z : at1 ps x c ∈ o'
          · exact ⟨[], by rw [if_pos z, List.append_nil]⟩
          · exact ⟨_, by rw [if_neg z]⟩
        obtain ⟨e', sub⟩ := sub
        refine ⟨[(6, .str [c])], _, _, rfl, .inl e2, o2, some (.str [c]), some (nV (at1 ps x c)), rfl, rfl, m2, ⟨e ++ e', by rw [sub, pre, List.append_assoc]⟩, fun c' hc' => ?_⟩
        rw [List.take_add_one, q] at hc'
        rcases List.mem_append.mp hc' with hc' | hc'
        · rw [sub]; exact List.mem_append_left _ (all c' hc')
        · have : c' = c := by simpa using hc'
          rw [this, eo]
          by_cases z : at1 ps x c ∈ o'
          · rw [if_pos z]; exact z
          · rw [if_neg z]; exact List.mem_append_right _ (List.mem_singleton.mpr rfl))
    ⟨o, y6, y7, rfl, rfl, m, ⟨[], by rw [List.append_nil]⟩, fun c hc => absurd hc (by simp)⟩
  subst el eh
  rw [List.length_map, List.take_length] at all
  exact ⟨o', y6', y7', e, m', pre, all⟩
end LK

namespace LK
open PySem PySem.Spec PyProof.Rows L2 Rf Rf.N
def metW : Sx := whileS (isB (op2 vLt (vr 5) (callE (fn1 vLenF) (aCons (vr 4) aNil)))) (sSeq metS (sAug 5 vIAdd (cV (.int 1)))) bigN
def metM (d : Nat) (l : Lo) (_ : Hea) : Nat := match l[5]? with
  | some (some (Va.int a)) => d - a.toNat
  | _ => 0
theorem met_ok {n d root : Nat} {ps : List (List Nat)} {ks : List (List (Ke × Va))} (hn : 1 ≤ n ∧ n ≤ 3) (hd : d ≤ 6) (hr : root < d) (t : IsTab n d ps) (R : RowsV n d ps ks) :
    ∃ o, Met n d ps root o ∧ Shut n ps o ∧ (∃ e, o = root :: e) ∧ ∀ h, noLock h = true → frm m_met_from [nV n, rV ks, nV root] h = .ok (fdV (mkN 0 o)) h := by
  have lenO : ∀ (o : List Nat) (at_ : Nat) (y6 y7 : Option Va), callE (fn1 vLenF) (aCons (vr 4) aNil) (mtL n (rV ks) (some (nV root)) at_ y6 y7) (mtH o) = .ok (nV o.length) (mtH o) := fun o at_ y6 y7 => by
    refine (callE_ok (call1 (a := .ref 1) rfl)).trans ?_
    show Rs.ok (Va.int ((o.map nV).length : Nat)) _ = _
    rw [List.length_map]
  obtain ⟨l', h', e, ⟨o, at_, y6, y7, el, eh, m, ha, hs, e1⟩, stop⟩ := whileS_inv (C := isB (op2 vLt (vr 5) (callE (fn1 vLenF) (aCons (vr 4) aNil)))) (B := sSeq metS (sAug 5 vIAdd (cV (.int 1))))
    (fun l h => ∃ o at_ y6 y7, l = mtL n (rV ks) (some (nV root)) at_ y6 y7 ∧ h = mtH o ∧ Met n d ps root o ∧ at_ ≤ o.length ∧ (∀ j, j < at_ → ∀ x, o[j]? = some x → ∀ c ∈ sgs n, at1 ps x c ∈ o) ∧ ∃ e, o = root :: e)
    (metM d)
    (fun l h ⟨o, at_, y6, y7, el, eh, m, ha, hs, e1⟩ => by
      subst el eh
      refine ⟨decide ((at_ : Int) < o.length), isB_ok ((op2_ok (F := vLt) (a := nV at_) (b := nV o.length) rfl (lenO o at_ y6 y7)).trans rfl), fun lt => ?_⟩
      have la : at_ < o.length := by
        have := of_decide_eq_true lt
        omega
      obtain ⟨o', y6', y7', e2, m', ⟨ex, pre⟩, all⟩ := metS_ok hn hd t R m (List.getElem?_eq_getElem la) (some (nV root)) y6 y7
      refine ⟨mtL n (rV ks) (some (nV root)) (at_ + 1) y6' y7', mtH o', .inl ((sSeq_nx e2).trans rfl), ⟨o', at_ + 1, y6', y7', rfl, rfl, m', by rw [pre, List.length_append]; omega, fun j hj x ejx c hc => ?_, ?_⟩, ?_⟩
      · rcases Nat.lt_or_ge j at_ with q | q
        · have : o[j]? = some x := by rw [pre, List.getElem?_append_left (by omega)] at ejx; exact ejx
          rw [pre]; exact List.mem_append_left _ (hs j q x this c hc)
        · have : j = at_ := by omega
          subst this
          rw [pre, List.getElem?_append_left la, List.getElem?_eq_getElem la] at ejx
          have := Option.some.inj ejx
          rw [← this]
          exact all c hc
      · obtain ⟨e, e1⟩ := e1
        exact ⟨e ++ ex, by rw [pre, e1]; rfl⟩
      · have := m.len
        show d - ((at_ : Int) + 1).toNat < d - (at_ : Int).toNat
        omega)
    d (mtL n (rV ks) (some (nV root)) 0 none none) (mtH [root]) (by show d - ((0 : Nat) : Int).toNat ≤ d; omega)
    ⟨[root], 0, none, none, rfl, rfl, ⟨by simp, by simp, fun x hx => by rw [List.mem_singleton.mp hx]; exact hr, fun T h1 _ x hx => by rw [List.mem_singleton.mp hx]; exact h1⟩, by simp, fun j hj => absurd hj (Nat.not_lt_zero _), ⟨[], rfl⟩⟩ bigN (by have := bigN_le; omega)
  subst el eh
  have sl : o.length ≤ at_ := by
    have c1 : isB (op2 vLt (vr 5) (callE (fn1 vLenF) (aCons (vr 4) aNil))) (mtL n (rV ks) (some (nV root)) at_ y6 y7) (mtH o) = .ok (decide ((at_ : Int) < o.length)) (mtH o) := isB_ok ((op2_ok (F := vLt) (a := nV at_) (b := nV o.length) rfl (lenO o at_ y6 y7)).trans rfl)
    rw [c1] at stop
    injection stop with s1 _
    have := of_decide_eq_false s1
    omega
  have shut : Shut n ps o := fun c hc x hx => by
    obtain ⟨j, hj, ej⟩ := List.getElem_of_mem hx
    exact hs j (by omega) x (by rw [List.getElem?_eq_getElem hj, ej]) c hc
  refine ⟨o, m, shut, e1, fun h nl => ?_⟩
  have full : m_met_from [nV n, rV ks, nV root] ⟨0, []⟩ = .ok (.ref 0) (mtH o) := by
    have s1 : sPar [3, 4, 5] (aCons (dispE [((vr 2), (cV (.int 0)))]) (aCons (lstE (aCons (vr 2) aNil)) (aCons (cV (.int 0)) aNil))) [some (nV n), some (rV ks), some (nV root), none, none, none, none, none] ⟨0, []⟩ = .ok (.nx (mtL n (rV ks) (some (nV root)) 0 none none)) (mtH [root]) := by
      refine sPar_ok (xs := [.ref 0, .ref 1, nV 0]) (call3 (h1 := ⟨1, [.dic (mkN 0 [root])]⟩) (h2 := mtH [root]) (h3 := mtH [root]) ?_ ?_ rfl) rfl
      · rfl
      · rfl
    exact fnM_rt ((sSeq_nx s1).trans ((sSeq_nx e).trans (sRet_ok rfl)))
  unfold frm
  have o0 : okVs 0 [nV n, rV ks, nV root] = true := by
    show (okV 0 (nV n) && (okV 0 (rV ks) && true)) = true
    rw [okV_r R.nums]; rfl
  rw [o0, full]
  have fz : fzR (mtH o) (.ref 0) = some (fdV (mkN 0 o)) := by
    show fzV (mtH o) 20 (.ref 0) = _
    exact fzV_dic (i := 0) (kvs := mkN 0 o) rfl (mkN_nums o 0) 18
  simp only [fz]
  cases noFd (fdV (mkN 0 o)) with
  | true => rfl
  | false => simp only [nl]
end LK

namespace LK
open PySem PySem.Spec PyProof.Rows L2 Rf Rf.N
/-! ### what walks reach, by the law -/
def rchB : Sx := (sSet 1 (op2 vAddF (vr 1) (lcF (iVal (callE (fzC (fn1 vSortedS)) (aCons (callE (fn1 vSet) (aCons (vr 1) aNil)) aNil))) (.nm 4) [4] (isB (op2 (fdB vNotIn) (op2 vIxF (vr 3) (vr 4)) (vr 1))) (op2 vIxF (vr 3) (vr 4)))))
def stV (p : List Nat) (x : Va) : Va := match x with
  | .int i => nV (act p true i.toNat)
  | _ => .non
def stQ (p F : List Nat) (x : Va) : Bool := match x with
  | .int i => !F.contains (act p true i.toNat)
  | _ => false
structure Grow (p F F' : List Nat) : Prop where
  nd : F'.Nodup
  mem : ∀ y, y ∈ F' ↔ y ∈ F ∨ ∃ x ∈ F, act p true x = y
theorem rch_step {d : Nat} {p F : List Nat} (ip : IsP d p) (hd : d ≤ 6) (nd : F.Nodup) (lt : ∀ x ∈ F, x < d) (x0 y2 y4 : Option Va) (h : Hea) :
    ∃ F' h', rchB [x0, some (.fl (F.map nV)), y2, some (pV p), y4] h = .ok (.nx [x0, some (.fl (F'.map nV)), y2, some (pV p), y4]) h' ∧ Grow p F F' := by
  have fl : F.length ≤ d := by
    have := List.Nodup.length_le_of_subset nd (l₂ := List.range d) fun x hx => List.mem_range.mpr (lt x hx)
    rw [List.length_range] at this
    exact this
  obtain ⟨S, h1, e1, ndS, mem⟩ := sortedSet_ok (A := vr 1) (l := [x0, some (.fl (F.map nV)), y2, some (pV p), y4]) (h := h) (F := F) rfl (by omega)
  have read : ∀ x ∈ S, op2 vIxF (vr 3) (vr 4) ((wipeL [x0, some (.fl (F.map nV)), y2, some (pV p), y4] [4]).set 4 (some (nV x))) h1 = .ok (nV (act p true x)) h1 := fun x hx => by
    have xd := lt x ((mem x).mp hx)
    have hp : x < p.length := by rw [ip.len]; exact xd
    refine (op2_ok (F := vIxF) (a := pV p) (b := nV x) rfl rfl).trans (ixF_tup ?_)
    unfold act
    rw [if_pos rfl, List.getElem?_map, List.getD_eq_getElem?_getD, List.getElem?_eq_getElem hp]
    rfl
  have lc := lcF_filter (T := isB (op2 (fdB vNotIn) (op2 vIxF (vr 3) (vr 4)) (vr 1))) (E := op2 vIxF (vr 3) (vr 4)) (i := 4) (vs := [4]) (stQ p F) (stV p) (iVal_ok (.inr e1)) (by
      have := List.Nodup.length_le_of_subset ndS (l₂ := F) fun x hx => (mem x).mp hx
      rw [List.length_map]; omega)
    (fun v hv => by
      obtain ⟨x, hx, rfl⟩ := List.mem_map.mp hv
      exact isB_ok ((op2_ok (F := fdB vNotIn) (a := nV (act p true x)) (b := .fl (F.map nV)) (read x hx) rfl).trans notin_fl))
    (fun v hv _ => by
      obtain ⟨x, hx, rfl⟩ := List.mem_map.mp hv
      exact read x hx)
  have eq : ((S.map nV).filter (stQ p F)).map (stV p) = ((S.filter fun x => !F.contains (act p true x)).map (act p true)).map nV := by
    rw [List.filter_map, List.map_map, List.map_map]
    rfl
  rw [eq] at lc
  refine ⟨F ++ (S.filter fun x => !F.contains (act p true x)).map (act p true), h1, ?_, ?_, fun y => ?_⟩
  · refine (sSet_ok ((op2_ok (F := vAddF) (a := .fl (F.map nV)) rfl lc).trans (addF_ok ?_))).trans ?_
    · rw [List.length_map, List.length_map, List.length_map]
      have h2 := List.length_filter_le (fun x => !F.contains (act p true x)) S
      have := List.Nodup.length_le_of_subset ndS (l₂ := F) fun x hx => (mem x).mp hx
      omega
    · rw [List.map_append]; rfl
  · refine List.nodup_append.mpr ⟨nd, List.pairwise_map.mpr ?_, fun a ha b hb e => ?_⟩
    · refine List.Pairwise.imp_of_mem (R := fun a b => a ≠ b) (fun {a b} ha hb ne e => ne ?_) (List.Pairwise.filter _ ndS)
      exact ip.act_inj true (lt a ((mem a).mp (List.mem_filter.mp ha).1)) (lt b ((mem b).mp (List.mem_filter.mp hb).1)) e
    · obtain ⟨x, hx, rfl⟩ := List.mem_map.mp hb
      have q := (List.mem_filter.mp hx).2
      have : F.contains (act p true x) = false := by simpa using q
      rw [e] at ha
      simp at this
      exact this ha
  · rw [List.mem_append, List.mem_map]
    constructor
    · rintro (h | ⟨x, hx, e⟩)
      · exact .inl h
      · exact .inr ⟨x, (mem x).mp (List.mem_filter.mp hx).1, e⟩
    · rintro (h | ⟨x, hx, e⟩)
      · exact .inl h
      · by_cases q : act p true x ∈ F
        · rw [← e]; exact .inl q
        · refine .inr ⟨x, List.mem_filter.mpr ⟨(mem x).mpr hx, by simpa using q⟩, e⟩
/-! the sets grow to what is shut -/
def Fwd (ps : List (List Nat)) (F : List Nat) : Prop := ∀ p ∈ ps, ∀ x ∈ F, act p true x ∈ F
theorem Fwd.shut {n d : Nat} {ps : List (List Nat)} {F : List Nat} (hn : n ≤ 3) (t : IsTab n d ps) (nd : F.Nodup) (lt : ∀ x ∈ F, x < d) (f : Fwd ps F) : Shut n ps F := fun c hc x hx => by
  obtain ⟨ip, e⟩ := t.row_at (ltr_lt hn hc).1
  have mp : ps.getD (ltr c) [] ∈ ps := List.mem_of_getElem? e
  unfold at1
  cases q : low c with
  | true => exact f _ mp x hx
  | false =>
    -- finite: the row leads F onto F
    generalize ps.getD (ltr c) [] = p at ip mp
    have ndm : (F.map (act p true)).Nodup := List.pairwise_map.mpr (List.Pairwise.imp_of_mem (R := fun a b => a ≠ b) (fun {a b} ha hb ne e => ne (ip.act_inj true (lt a ha) (lt b hb) e)) nd)
    have on : x ∈ F.map (act p true) := by
      rcases Decidable.em (x ∈ F.map (act p true)) with q | q
      · exact q
      · have := List.Nodup.length_le_of_subset (l₁ := x :: F.map (act p true)) (l₂ := F) (List.nodup_cons.mpr ⟨q, ndm⟩) fun y hy => by
          rcases List.mem_cons.mp hy with rfl | hy
          · exact hx
          · obtain ⟨z, hz, rfl⟩ := List.mem_map.mp hy
            exact f p mp z hz
        rw [List.length_cons, List.length_map] at this
        omega
    obtain ⟨z, hz, ez⟩ := List.mem_map.mp on
    have := ip.act_back true (lt z hz)
    rw [ez] at this
    show act p false x ∈ F
    have e2 : act p false x = z := this
    rw [e2]; exact hz
structure Rd (n d : Nat) (ps : List (List Nat)) (F0 : List Nat) (k : Nat) (F : List Nat) : Prop where
  nd : F.Nodup
  lt : ∀ x ∈ F, x < d
  sub : ∀ x ∈ F0, x ∈ F
  min : ∀ T : List Nat, 0 ∈ T → Shut n ps T → ∀ x ∈ F, x ∈ T
  still : F.length ≤ F0.length → ∀ p ∈ ps.take k, ∀ x ∈ F, act p true x ∈ F
  stay : Fwd ps F0 → ∀ x ∈ F, x ∈ F0
theorem Rd.step {n d k : Nat} {ps : List (List Nat)} {F0 F F' p : List Nat} (hn : n ≤ 3) (t : IsTab n d ps) (nd0 : F0.Nodup) (r : Rd n d ps F0 k F) (hp : ps[k]? = some p) (g : Grow p F F') : Rd n d ps F0 (k + 1) F' := by
  have mp := List.mem_of_getElem? hp
  have ip := t.row p mp
  have hk : k < n := by
    rcases Nat.lt_or_ge k n with q | q
    · exact q
    · rw [List.getElem?_eq_none (by rw [t.len]; exact q)] at hp; cases hp
  have up : ∀ x ∈ F, x ∈ F' := fun x hx => (g.mem x).mpr (.inl hx)
  have lsub : F.length ≤ F'.length := List.Nodup.length_le_of_subset r.nd up
  have l0 : F0.length ≤ F.length := List.Nodup.length_le_of_subset nd0 r.sub
  refine ⟨g.nd, fun y hy => ?_, fun x hx => up x (r.sub x hx), fun T h0 hs y hy => ?_, fun le q hq x hx => ?_, fun f y hy => ?_⟩
  · rcases (g.mem y).mp hy with h | ⟨x, hx, rfl⟩
    · exact r.lt y h
    · exact ip.act_lt true (r.lt x hx)
  · rcases (g.mem y).mp hy with h | ⟨x, hx, rfl⟩
    · exact r.min T h0 hs y h
    · have hc : 97 + k ∈ sgs n ∧ at1 ps x (97 + k) = act p true x := by
        have ks : k = 0 ∨ k = 1 ∨ k = 2 := by omega
        have nn : n = 1 ∨ n = 2 ∨ n = 3 := by omega
        have e : ps.getD k [] = p := by rw [List.getD_eq_getElem?_getD, hp]; rfl
        refine ⟨?_, ?_⟩
        · rcases nn with rfl | rfl | rfl <;> rcases ks with rfl | rfl | rfl <;> first | decide | omega
        · rw [← e]; rcases ks with rfl | rfl | rfl <;> rfl
      have := hs _ hc.1 x (r.min T h0 hs x hx)
      rw [hc.2] at this
      exact this
  · -- nothing new: F' is F
    have down : ∀ y ∈ F', y ∈ F := fun y hy => by
      rcases Decidable.em (y ∈ F) with q | q
      · exact q
      · have := List.Nodup.length_le_of_subset (l₁ := y :: F) (l₂ := F') (List.nodup_cons.mpr ⟨q, r.nd⟩) fun z hz => by
          rcases List.mem_cons.mp hz with rfl | hz
          · exact hy
          · exact up z hz
        rw [List.length_cons] at this
        omega
    rw [List.take_add_one, hp] at hq
    rcases List.mem_append.mp hq with hq | hq
    · exact up _ (r.still (by omega) q hq x (down x hx))
    · have : q = p := by simpa using hq
      rw [this]
      exact (g.mem _).mpr (.inr ⟨x, down x hx, rfl⟩)
  · rcases (g.mem y).mp hy with h | ⟨x, hx, rfl⟩
    · exact r.stay f y h
    · exact f p mp x (r.stay f x hx)
end LK

namespace LK
open PySem PySem.Spec PyProof.Rows L2 Rf Rf.N
def rchS : Sx := sFor (iVal (vr 0)) (.nm 3) rchB
structure Rc (n d : Nat) (ps : List (List Nat)) (F : List Nat) : Prop where
  nd : F.Nodup
  lt : ∀ x ∈ F, x < d
  has : 0 ∈ F
  min : ∀ T : List Nat, 0 ∈ T → Shut n ps T → ∀ x ∈ F, x ∈ T
theorem rchS_ok {n d : Nat} {ps : List (List Nat)} {F : List Nat} (hn : n ≤ 3) (hd : d ≤ 6) (t : IsTab n d ps) (r : Rc n d ps F) (y2 y3 y4 : Option Va) (h : Hea) :
    ∃ F' y3' y4' h', rchS [some (tV ps), some (.fl (F.map nV)), y2, y3, y4] h = .ok (.nx [some (tV ps), some (.fl (F'.map nV)), y2, y3', y4']) h' ∧ Rd n d ps F n F' := by
  obtain ⟨l', h', e, F', y3', y4', el, r'⟩ := sFor_inv (I := iVal (vr 0)) (xs := ps.map pV) (tg := .nm 3) (B := rchB) (l := [some (tV ps), some (.fl (F.map nV)), y2, y3, y4]) (h := h) (h1 := h)
    (P := fun k l _ => ∃ F' y3 y4, l = [some (tV ps), some (.fl (F'.map nV)), y2, y3, y4] ∧ Rd n d ps F k F') (iVal_ok (.inl rfl)) (by rw [List.length_map, t.len]; omega)
    (fun k x l h ek ⟨F', y3, y4, el, r'⟩ => by
      subst el
      rw [List.getElem?_map] at ek
      cases q : ps[k]? with
      | none => rw [q] at ek; cases ek
      | some p =>
        rw [q] at ek
        have ex : x = pV p := (Option.some.inj ek).symm
        subst ex
        have ip := t.row p (List.mem_of_getElem? q)
        obtain ⟨F2, h2, e2, g⟩ := rch_step ip hd r'.nd r'.lt (some (tV ps)) y2 y4 h
        exact ⟨[(3, pV p)], _, h2, rfl, .inl e2, F2, _, _, rfl, r'.step hn t r.nd q g⟩)
    ⟨F, y3, y4, rfl, ⟨r.nd, r.lt, fun x h => h, r.min, fun _ p hp => absurd hp (by simp), fun _ x h => h⟩⟩
  subst el
  rw [List.length_map, t.len] at r'
  exact ⟨F', y3', y4', h', e, r'⟩
theorem reach_ok {n d : Nat} {ps : List (List Nat)} (hn : 1 ≤ n ∧ n ≤ 3) (hd : 1 ≤ d ∧ d ≤ 6) (t : IsTab n d ps) :
    ∃ F, Rc n d ps F ∧ Shut n ps F ∧ ∀ h, frm m__law_reach [tV ps] h = .ok (nV F.length) h := by
  obtain ⟨ip, e0⟩ := t.row_at (k := 0) (by omega)
  have eT : (ps.map pV)[0]? = some (pV (ps.getD 0 [])) := by rw [List.getElem?_map, e0]; rfl
  have ln : callE (fn1 vLenF) (aCons (op2 vIxF (vr 0) (cV (.int 0))) aNil) [some (tV ps), some (.fl ([0].map nV)), none, none, none] ⟨0, []⟩ = .ok (nV d) ⟨0, []⟩ := by
    rw [lenF_tup (xs := (ps.getD 0 []).map nV) ((op2_ok (F := vIxF) (a := tV ps) (b := nV 0) rfl rfl).trans (ixF_tup eT)), List.length_map, ip.len]
  obtain ⟨l', h', e, F, y2, y3, y4, el, r, grow⟩ := sFor_inv (tg := .nm 2) (B := rchS) (xs := rangeV 0 d) (l := [some (tV ps), some (.fl ([0].map nV)), none, none, none]) (h := ⟨0, []⟩) (h1 := ⟨0, []⟩)
    (P := fun k l _ => ∃ F y2 y3 y4, l = [some (tV ps), some (.fl (F.map nV)), y2, y3, y4] ∧ Rc n d ps F ∧ (Fwd ps F ∨ k + 1 ≤ F.length)) (range_ok ln (by omega)) (by rw [rangeV_len]; omega)
    (fun k x l h ek ⟨F, y2, y3, y4, el, r, grow⟩ => by
      subst el
      obtain ⟨F', y3', y4', h2, e2, r'⟩ := rchS_ok hn.2 hd.2 t r (some x) y3 y4 h
      refine ⟨[(2, x)], _, h2, rfl, .inl e2, F', some x, y3', y4', rfl, ⟨r'.nd, r'.lt, r'.sub 0 r.has, r'.min⟩, ?_⟩
      have tk : ps.take n = ps := by rw [← t.len, List.take_length]
      have lf : F'.length ≤ F.length → Fwd ps F' := fun le p hp x hx => r'.still le p (by rw [tk]; exact hp) x hx
      rcases grow with f | g
      · exact .inl (lf (List.Nodup.length_le_of_subset r'.nd (r'.stay f)))
      · rcases Nat.lt_or_ge F.length F'.length with q | q
        · exact .inr (by omega)
        · exact .inl (lf q))
    ⟨[0], none, none, none, rfl, ⟨by simp, fun x hx => by rw [List.mem_singleton.mp hx]; exact hd.1, by simp, fun T h0 _ x hx => by rw [List.mem_singleton.mp hx]; exact h0⟩, .inr (by simp)⟩
  subst el
  rw [rangeV_len] at grow
  have fl : F.length ≤ d := by
    have := List.Nodup.length_le_of_subset r.nd (l₂ := List.range d) fun x hx => List.mem_range.mpr (r.lt x hx)
    rw [List.length_range] at this
    exact this
  have f : Fwd ps F := by
    rcases grow with f | g
    · exact f
    · omega
  obtain ⟨h2, e2⟩ := lenSet_ok (A := vr 1) (l := [some (tV ps), some (.fl (F.map nV)), y2, y3, y4]) (h := h') (F := F) rfl (by omega) r.nd
  have full : m__law_reach [tV ps] ⟨0, []⟩ = .ok (nV F.length) h2 := by
    have s1 : sSet 1 (lstF (aCons (cV (.int 0)) aNil)) [some (tV ps), none, none, none, none] ⟨0, []⟩ = .ok (.nx [some (tV ps), some (.fl ([0].map nV)), none, none, none]) ⟨0, []⟩ := rfl
    exact fnM_rt ((sSeq_nx s1).trans ((sSeq_nx e).trans (sRet_ok e2)))
  exact ⟨F, r, f.shut hn.2 t r.nd r.lt, fun h => frm_i (by show (okV 0 (tV ps) && true) = true; rw [okV_t]; rfl) full rfl rfl⟩
/-! ### what checks say -/
theorem checktable_ok {n d : Nat} {ps : List (List Nat)} (hn : 1 ≤ n ∧ n ≤ 3) (hd : 1 ≤ d ∧ d ≤ 6) (t : IsTab n d ps) (h : Hea) : frm m_check_table [nV n, tV ps] h = .ok .non h := by
  have o : okVs 0 [nV n, tV ps] = true := okVs2 (okV_t 0 ps)
  have tf := frm_T (m := m_is_table_of) (xs := [nV n, tV ps]) (h := ⟨0, []⟩) (by rw [tab_T hn hd t]; rfl) o
  have full : m_check_table [nV n, tV ps] ⟨0, []⟩ = .ok .non ⟨0, []⟩ := by
    have s : bd_check_table [some (nV n), some (tV ps)] ⟨0, []⟩ = .ok (.nx [some (nV n), some (tV ps)]) ⟨0, []⟩ :=
      (sIf_f ((tNot_ok (trB_bl ((callG_ok (call2 (a := nV n) (b := tV ps) rfl rfl) rfl).trans tf))).trans rfl)).trans rfl
    unfold m_check_table fnM
    show (bd_check_table [some (nV n), some (tV ps)] ⟨0, []⟩).bind _ = _
    rw [s]; rfl
  exact frm_i o full rfl rfl
theorem checkword_ok {n : Nat} {w : List Nat} (hn : 1 ≤ n ∧ n ≤ 3) (hw : ∀ c ∈ w, c ∈ sgs n) (few : w.length < 1000) (h : Hea) : frm m_check_word [nV n, .str w] h = .ok .non h := by
  have o : okVs 0 [nV n, .str w] = true := okVs2 rfl
  have lc := lcF_map (i := 2) (vs := [2]) (E := op2 (fdB vIn) (methE .str vLower (vr 2) aNil) (slF (cV (.str [97, 98, 99, 100, 101, 102, 103, 104, 105, 106, 107, 108, 109, 110, 111, 112, 113, 114, 115, 116, 117, 118, 119, 120, 121, 122])) noPart (aPart (vr 0))))
    (I := iVal (vr 1)) (l := [some (nV n), some (.str w), none]) (h := ⟨0, []⟩) (fun _ => .bl true) (iVal_str (w := w) rfl) (by rw [List.length_map]; omega) (fun x hx => by
      obtain ⟨c, hc, rfl⟩ := List.mem_map.mp hx
      have hs := hw c hc
      have nn : n = 1 ∨ n = 2 ∨ n = 3 := by omega
      rcases nn with rfl | rfl | rfl <;> (simp [sgs] at hs) <;> rcases hs with hs | hs <;> (try (rcases hs with hs | hs)) <;> (try (rcases hs with hs | hs)) <;> (try (rcases hs with hs | hs)) <;> (try (rcases hs with hs | hs)) <;> subst_vars <;> rfl)
  have mp : (w.map fun c => Va.str [c]).map (fun _ => Va.bl true) = (w.map fun _ => true).map Va.bl := by
    rw [List.map_map, List.map_map]; rfl
  rw [mp] at lc
  have al : (w.map fun _ => true).all id = true := by
    rw [List.all_eq_true]
    intro b hb
    obtain ⟨_, _, rfl⟩ := List.mem_map.mp hb
    rfl
  have iw : m_is_word_of [nV n, .str w] ⟨0, []⟩ = .ok (.bl true) ⟨0, []⟩ := by
    refine fnM_rt (sRet_ok ?_)
    unfold vAnd
    have i1 : instE [.str] (vr 1) [some (nV n), some (.str w), none] ⟨0, []⟩ = .ok (.bl true) ⟨0, []⟩ := rfl
    show (instE [.str] (vr 1) [some (nV n), some (.str w), none] ⟨0, []⟩).bind _ = _
    rw [i1]
    show callE (fn1 vAll) (aCons _ aNil) [some (nV n), some (.str w), none] ⟨0, []⟩ = _
    rw [all_ok lc, al]
  have tf : frm m_is_word_of [nV n, .str w] ⟨0, []⟩ = .ok (.bl true) ⟨0, []⟩ := frm_T (by rw [iw]; rfl) o
  have full : m_check_word [nV n, .str w] ⟨0, []⟩ = .ok .non ⟨0, []⟩ := by
    have s : bd_check_word [some (nV n), some (.str w)] ⟨0, []⟩ = .ok (.nx [some (nV n), some (.str w)]) ⟨0, []⟩ :=
      (sIf_f ((tNot_ok (trB_bl ((callG_ok (call2 (a := nV n) (b := .str w) rfl rfl) rfl).trans tf))).trans rfl)).trans rfl
    unfold m_check_word fnM
    show (bd_check_word [some (nV n), some (.str w)] ⟨0, []⟩).bind _ = _
    rw [s]; rfl
  exact frm_i o full rfl rfl
end LK

namespace LK
open PySem PySem.Spec PyProof.Rows L2 Rf Rf.N
theorem frm_r {m : Fn} {xs : List Va} {h h' : Hea} {v : Va} (o : okVs 0 xs = true) (e : m xs ⟨0, []⟩ = .ok v h') (f : okV 0 v = true) (nl : noLock h = true) : frm m xs h = .ok v h := by
  unfold frm
  rw [o, e]
  have : fzR h' v = some v := by unfold fzR; rw [f]
  simp only [this]
  cases noFd v with
  | true => rfl
  | false => simp only [nl]
theorem frm_any {m : Fn} {xs : List Va} {h0 h1 h : Hea} {v : Va} (e : frm m xs h0 = .ok v h1) (g : noFd v = true) : frm m xs h = .ok v h := by
  unfold frm at e ⊢
  cases o : okVs 0 xs with
  | false => rw [o] at e; cases e
  | true =>
    rw [o] at e
    cases q : m xs ⟨0, []⟩ with
    | no => simp only [q] at e; cases e
    | err c v h' => simp only [q] at e; cases e
    | ok a h' =>
      simp only [q] at e ⊢
      cases z : fzR h' a with
      | none => simp only [z] at e; cases e
      | some b =>
        simp only [z] at e ⊢
        cases y : noFd b with
        | true =>
          simp only [y] at e ⊢
          injection e with e1 _
          rw [e1]
        | false =>
          simp only [y] at e
          cases nl : noLock h0 with
          | false => simp only [nl] at e; cases e
          | true =>
            simp only [nl] at e
            injection e with e1 _
            rw [e1] at y
            rw [y] at g; cases g
theorem okVs_tab {n : Nat} {ps : List (List Nat)} : okVs 0 [nV n, tV ps] = true := okVs2 (okV_t 0 ps)
theorem checkedrows_ok {n d : Nat} {ps : List (List Nat)} (hn : 1 ≤ n ∧ n ≤ 3) (hd : 1 ≤ d ∧ d ≤ 6) (t : IsTab n d ps) : ∃ ks, RowsV n d ps ks ∧ ∀ h, noLock h = true → frm m_checked_rows [nV n, tV ps] h = .ok (rV ks) h := by
  obtain ⟨ks, R, fr⟩ := rowsV_ok hn hd t
  have full : m_checked_rows [nV n, tV ps] ⟨0, []⟩ = .ok (rV ks) ⟨0, []⟩ :=
    fnM_rt ((sSeq_nx (sDrop_ok ((callG_ok (call1 (a := nV n) rfl) rfl).trans (size_ok hn _)))).trans ((sSeq_nx (sDrop_ok ((callG_ok (call2 (a := nV n) (b := tV ps) rfl rfl) rfl).trans (checktable_ok hn hd t _)))).trans (sRet_ok ((callG_ok (call1 (a := tV ps) rfl) rfl).trans (fr _ rfl)))))
  exact ⟨ks, R, fun h nl => frm_r okVs_tab full (okV_r R.nums) nl⟩
theorem okVs_tw {n : Nat} {ps : List (List Nat)} {w : List Nat} : okVs 0 [nV n, tV ps, .str w] = true := by
  show (okV 0 (nV n) && (okV 0 (tV ps) && true)) = true
  rw [okV_t]; rfl
theorem moved_ok {n d : Nat} {ps : List (List Nat)} {w : List Nat} (hn : 1 ≤ n ∧ n ≤ 3) (hd : 1 ≤ d ∧ d ≤ 6) (t : IsTab n d ps) (hw : ∀ c ∈ w, c ∈ sgs n) (few : w.length < 1000) (h : Hea) :
    frm m_moved [nV n, tV ps, .str w] h = .ok (pV (mvW ps d w)) h := by
  obtain ⟨ks, R, fr⟩ := checkedrows_ok hn hd t
  have full : m_moved [nV n, tV ps, .str w] ⟨0, []⟩ = .ok (pV (mvW ps d w)) ⟨0, []⟩ :=
    fnM_rt ((sSeq_nx (sDrop_ok ((callG_ok (call2 (a := nV n) (b := tV ps) rfl rfl) rfl).trans (fr _ rfl)))).trans ((sSeq_nx (sDrop_ok ((callG_ok (call2 (a := nV n) (b := .str w) rfl rfl) rfl).trans (checkword_ok hn hw few _)))).trans (sRet_ok ((callG_ok (call2 (a := tV ps) (b := .str w) rfl rfl) rfl).trans (movedof_ok hn hd t hw few _)))))
  exact frm_i okVs_tw full (okV_p 0 _) (noFd_p _)
theorem istrans_ok {n d : Nat} {ps : List (List Nat)} (hn : 1 ≤ n ∧ n ≤ 3) (hd : 1 ≤ d ∧ d ≤ 6) (t : IsTab n d ps) :
    ∃ m : Nat, (∀ h, frm m__law_reach [tV ps] h = .ok (nV m) h) ∧ ∀ h, frm m_is_transitive [nV n, tV ps] h = .ok (.bl (decide ((m : Int) = (d : Int)))) h := by
  obtain ⟨F, rc, sh, rch⟩ := reach_ok hn hd t
  obtain ⟨ks, R, fr⟩ := checkedrows_ok hn hd t
  obtain ⟨o, m, sho, _, mt⟩ := met_ok (root := 0) hn hd.2 (by omega) t R
  have len : o.length = F.length := Nat.le_antisymm
    (List.Nodup.length_le_of_subset m.nd fun x hx => m.min F rc.has sh x hx)
    (List.Nodup.length_le_of_subset rc.nd fun x hx => rc.min o m.has sho x hx)
  refine ⟨F.length, rch, fun h => ?_⟩
  have e1 : callE (fn1 vLenF) (aCons (callG 3 m_met_from (aCons (vr 0) (aCons (vr 2) (aCons (cV (.int 0)) aNil)))) aNil) [some (nV n), some (tV ps), some (rV ks)] ⟨0, []⟩ = .ok (nV F.length) ⟨0, []⟩ := by
    refine (callE_ok (call1 ((callG_ok (call3 (a := nV n) (b := rV ks) (c := nV 0) rfl rfl rfl) rfl).trans (mt _ rfl)))).trans ?_
    show Rs.ok (Va.int (((mkN 0 o).map (·.1)).length : Nat)) _ = _
    rw [List.length_map, mkN_len, len]
  have e2 : callE (fn1 vLenF) (aCons (vr 2) aNil) [some (nV n), some (tV ps), some (rV ks)] ⟨0, []⟩ = .ok (nV d) ⟨0, []⟩ := by
    rw [lenF_fl (xs := ks.map fdV) rfl, List.length_map, R.len]
  have full : m_is_transitive [nV n, tV ps] ⟨0, []⟩ = .ok (.bl (decide ((F.length : Int) = (d : Int)))) ⟨0, []⟩ :=
    fnM_rt ((sSeq_nx (sSet_ok ((callG_ok (call2 (a := nV n) (b := tV ps) rfl rfl) rfl).trans (fr _ rfl)))).trans (sRet_ok (eq_ok e1 e2)))
  exact frm_i okVs_tab full rfl rfl
end LK

namespace LK
open PySem PySem.Spec PyProof.Rows L2 Rf Rf.N
/-! ### of each permutation, by the kernel -/
def cycOf (p : List Nat) : Option (List Va) := match frm m_cycle_lengths [pV p] ⟨0, []⟩ with
  | .ok (.fl xs) _ => match okVs 0 xs with
    | true => match noFds xs with
      | true => some xs
      | false => none
    | false => none
  | _ => none
def rndOf (p : List Nat) : Option (List Va) := match frm m__law_rounds [pV p] ⟨0, []⟩ with
  | .ok (.tup xs) _ => match okVs 0 xs with
    | true => match noFds xs with
      | true => some xs
      | false => none
    | false => none
  | _ => none
def chkP (d : Nat) (p : List Nat) : Bool := match cycOf p with
  | some a => match rndOf p with
    | some b => isT (m__law_like 10 [.fl [.tup a, .tup a], .fl [.tup b, .tup b]] ⟨0, []⟩) && isT (m__law_like 10 [.fl [pV p, pV p, pV (List.range d)], .fl [pV p, pV p, pV (List.range d)]] ⟨0, []⟩)
    | none => false
  | none => false
theorem all_chunks {α : Type} {f : α → Bool} (m : Nat) : ∀ (n : Nat) (l : List α), l.length ≤ m * n → (∀ k, k < n → ((l.drop (m * k)).take m).all f = true) → l.all f = true
  | 0, l, h, _ => by
    have : l = [] := List.length_eq_zero_iff.mp (by omega)
    rw [this]; rfl
  | n + 1, l, h, hk => by
    have h0 := hk 0 (Nat.succ_pos n)
    rw [Nat.mul_zero, List.drop_zero] at h0
    rw [← List.take_append_drop m l, List.all_append, h0, Bool.true_and]
    refine all_chunks m n (l.drop m) (by rw [List.length_drop, Nat.mul_succ] at *; omega) fun k hk' => ?_
    have := hk (k + 1) (by omega)
    rw [List.drop_drop]
    have e : m + m * k = m * (k + 1) := by rw [Nat.mul_succ]; omega
    rw [e]
    exact this
theorem chk6_0 : (((lsD 6 6).drop (20 * 0)).take 20).all (chkP 6) = true := by decide +kernel
theorem chk6_1 : (((lsD 6 6).drop (20 * 1)).take 20).all (chkP 6) = true := by decide +kernel
theorem chk6_2 : (((lsD 6 6).drop (20 * 2)).take 20).all (chkP 6) = true := by decide +kernel
theorem chk6_3 : (((lsD 6 6).drop (20 * 3)).take 20).all (chkP 6) = true := by decide +kernel
theorem chk6_4 : (((lsD 6 6).drop (20 * 4)).take 20).all (chkP 6) = true := by decide +kernel
theorem chk6_5 : (((lsD 6 6).drop (20 * 5)).take 20).all (chkP 6) = true := by decide +kernel
theorem chk6_6 : (((lsD 6 6).drop (20 * 6)).take 20).all (chkP 6) = true := by decide +kernel
theorem chk6_7 : (((lsD 6 6).drop (20 * 7)).take 20).all (chkP 6) = true := by decide +kernel
theorem chk6_8 : (((lsD 6 6).drop (20 * 8)).take 20).all (chkP 6) = true := by decide +kernel
theorem chk6_9 : (((lsD 6 6).drop (20 * 9)).take 20).all (chkP 6) = true := by decide +kernel
theorem chk6_10 : (((lsD 6 6).drop (20 * 10)).take 20).all (chkP 6) = true := by decide +kernel
theorem chk6_11 : (((lsD 6 6).drop (20 * 11)).take 20).all (chkP 6) = true := by decide +kernel
theorem chk6_12 : (((lsD 6 6).drop (20 * 12)).take 20).all (chkP 6) = true := by decide +kernel
theorem chk6_13 : (((lsD 6 6).drop (20 * 13)).take 20).all (chkP 6) = true := by decide +kernel
theorem chk6_14 : (((lsD 6 6).drop (20 * 14)).take 20).all (chkP 6) = true := by decide +kernel
theorem chk6_15 : (((lsD 6 6).drop (20 * 15)).take 20).all (chkP 6) = true := by decide +kernel
theorem chk6_16 : (((lsD 6 6).drop (20 * 16)).take 20).all (chkP 6) = true := by decide +kernel
theorem chk6_17 : (((lsD 6 6).drop (20 * 17)).take 20).all (chkP 6) = true := by decide +kernel
theorem chk6_18 : (((lsD 6 6).drop (20 * 18)).take 20).all (chkP 6) = true := by decide +kernel
theorem chk6_19 : (((lsD 6 6).drop (20 * 19)).take 20).all (chkP 6) = true := by decide +kernel
theorem chk6_20 : (((lsD 6 6).drop (20 * 20)).take 20).all (chkP 6) = true := by decide +kernel
theorem chk6_21 : (((lsD 6 6).drop (20 * 21)).take 20).all (chkP 6) = true := by decide +kernel
theorem chk6_22 : (((lsD 6 6).drop (20 * 22)).take 20).all (chkP 6) = true := by decide +kernel
theorem chk6_23 : (((lsD 6 6).drop (20 * 23)).take 20).all (chkP 6) = true := by decide +kernel
theorem chk6_24 : (((lsD 6 6).drop (20 * 24)).take 20).all (chkP 6) = true := by decide +kernel
theorem chk6_25 : (((lsD 6 6).drop (20 * 25)).take 20).all (chkP 6) = true := by decide +kernel
theorem chk6_26 : (((lsD 6 6).drop (20 * 26)).take 20).all (chkP 6) = true := by decide +kernel
theorem chk6_27 : (((lsD 6 6).drop (20 * 27)).take 20).all (chkP 6) = true := by decide +kernel
theorem chk6_28 : (((lsD 6 6).drop (20 * 28)).take 20).all (chkP 6) = true := by decide +kernel
theorem chk6_29 : (((lsD 6 6).drop (20 * 29)).take 20).all (chkP 6) = true := by decide +kernel
theorem chk6_30 : (((lsD 6 6).drop (20 * 30)).take 20).all (chkP 6) = true := by decide +kernel
theorem chk6_31 : (((lsD 6 6).drop (20 * 31)).take 20).all (chkP 6) = true := by decide +kernel
theorem chk6_32 : (((lsD 6 6).drop (20 * 32)).take 20).all (chkP 6) = true := by decide +kernel
theorem chk6_33 : (((lsD 6 6).drop (20 * 33)).take 20).all (chkP 6) = true := by decide +kernel
theorem chk6_34 : (((lsD 6 6).drop (20 * 34)).take 20).all (chkP 6) = true := by decide +kernel
theorem chk6_35 : (((lsD 6 6).drop (20 * 35)).take 20).all (chkP 6) = true := by decide +kernel
theorem chk_d1 : (lsD 1 1).all (chkP 1) = true := by decide +kernel
theorem chk_d2 : (lsD 2 2).all (chkP 2) = true := by decide +kernel
theorem chk_d3 : (lsD 3 3).all (chkP 3) = true := by decide +kernel
theorem chk_d4 : (lsD 4 4).all (chkP 4) = true := by decide +kernel
theorem chk_d5 : (lsD 5 5).all (chkP 5) = true := by decide +kernel
theorem chk_d6 : (lsD 6 6).all (chkP 6) = true := all_chunks 20 36 _ (by decide +kernel) fun k hk => by
  match k, hk with
  | 0, _ => exact chk6_0
  | 1, _ => exact chk6_1
  | 2, _ => exact chk6_2
  | 3, _ => exact chk6_3
  | 4, _ => exact chk6_4
  | 5, _ => exact chk6_5
  | 6, _ => exact chk6_6
  | 7, _ => exact chk6_7
  | 8, _ => exact chk6_8
  | 9, _ => exact chk6_9
  | 10, _ => exact chk6_10
  | 11, _ => exact chk6_11
  | 12, _ => exact chk6_12
  | 13, _ => exact chk6_13
  | 14, _ => exact chk6_14
  | 15, _ => exact chk6_15
  | 16, _ => exact chk6_16
  | 17, _ => exact chk6_17
  | 18, _ => exact chk6_18
  | 19, _ => exact chk6_19
  | 20, _ => exact chk6_20
  | 21, _ => exact chk6_21
  | 22, _ => exact chk6_22
  | 23, _ => exact chk6_23
  | 24, _ => exact chk6_24
  | 25, _ => exact chk6_25
  | 26, _ => exact chk6_26
  | 27, _ => exact chk6_27
  | 28, _ => exact chk6_28
  | 29, _ => exact chk6_29
  | 30, _ => exact chk6_30
  | 31, _ => exact chk6_31
  | 32, _ => exact chk6_32
  | 33, _ => exact chk6_33
  | 34, _ => exact chk6_34
  | 35, _ => exact chk6_35
  | k + 36, h => exact absurd h (by omega)
theorem chkP_ok {d : Nat} {p : List Nat} (hd : 1 ≤ d ∧ d ≤ 6) (h : IsP d p) : chkP d p = true := by
  have ds : d = 1 ∨ d = 2 ∨ d = 3 ∨ d = 4 ∨ d = 5 ∨ d = 6 := by omega
  rcases ds with rfl | rfl | rfl | rfl | rfl | rfl
  · exact h.all (f := chkP 1) chk_d1
  · exact h.all (f := chkP 2) chk_d2
  · exact h.all (f := chkP 3) chk_d3
  · exact h.all (f := chkP 4) chk_d4
  · exact h.all (f := chkP 5) chk_d5
  · exact h.all (f := chkP 6) chk_d6
structure CycV (d : Nat) (p : List Nat) (a b : List Va) : Prop where
  cyc : ∀ h, frm m_cycle_lengths [pV p] h = .ok (.fl a) h
  rnd : ∀ h, frm m__law_rounds [pV p] h = .ok (.tup b) h
  oka : okVs 0 a = true
  okb : okVs 0 b = true
  noa : noFds a = true
  like : ∀ h, frm (m__law_like 10) [.fl [.tup a, .tup a], .fl [.tup b, .tup b]] h = .ok (.bl true) h
  due : ∀ h, frm (m__law_like 10) [.fl [pV p, pV p, pV (List.range d)], .fl [pV p, pV p, pV (List.range d)]] h = .ok (.bl true) h
theorem okVs_l2 {a b : List Va} (oa : okVs 0 a = true) (ob : okVs 0 b = true) : okVs 0 [.fl [.tup a, .tup a], .fl [.tup b, .tup b]] = true := by
  have e : okVs 0 [.fl [.tup a, .tup a], .fl [.tup b, .tup b]] = ((okVs 0 a && (okVs 0 a && true)) && ((okVs 0 b && (okVs 0 b && true)) && true)) := rfl
  rw [e, oa, ob]; rfl
theorem cycV {d : Nat} {p : List Nat} (hd : 1 ≤ d ∧ d ≤ 6) (ip : IsP d p) : ∃ a b, CycV d p a b := by
  have k := chkP_ok hd ip
  unfold chkP at k
  cases ca : cycOf p with
  | none => rw [ca] at k; cases k
  | some a =>
    rw [ca] at k
    cases cb : rndOf p with
    | none => simp only [cb] at k; cases k
    | some b =>
      simp only [cb] at k
      rw [Bool.and_eq_true] at k
      unfold cycOf at ca
      unfold rndOf at cb
      have fa : frm m_cycle_lengths [pV p] ⟨0, []⟩ = .ok (.fl a) ⟨0, []⟩ ∧ okVs 0 a = true ∧ noFds a = true := by
        split at ca
        · rename_i xs h' e
          split at ca
          · rename_i o
            split at ca
            · rename_i nf
              have := Option.some.inj ca
              subst this
              exact ⟨frm_any e (show noFd (.fl xs) = true from nf), o, nf⟩
            · cases ca
          · cases ca
        · cases ca
      have fb : frm m__law_rounds [pV p] ⟨0, []⟩ = .ok (.tup b) ⟨0, []⟩ ∧ okVs 0 b = true ∧ noFds b = true := by
        split at cb
        · rename_i xs h' e
          split at cb
          · rename_i o
            split at cb
            · rename_i nf
              have := Option.some.inj cb
              subst this
              exact ⟨frm_any e (show noFd (.tup xs) = true from nf), o, nf⟩
            · cases cb
          · cases cb
        · cases cb
      have od : okVs 0 [.fl [pV p, pV p, pV (List.range d)], .fl [pV p, pV p, pV (List.range d)]] = true := by
        have e : okVs 0 [.fl [pV p, pV p, pV (List.range d)], .fl [pV p, pV p, pV (List.range d)]] = ((okV 0 (pV p) && (okV 0 (pV p) && (okV 0 (pV (List.range d)) && true))) && ((okV 0 (pV p) && (okV 0 (pV p) && (okV 0 (pV (List.range d)) && true))) && true)) := rfl
        rw [e, okV_p, okV_p]; rfl
      exact ⟨a, b, ⟨fun h => frm_any fa.1 fa.2.2, fun h => frm_any fb.1 fb.2.2, fa.2.1, fb.2.1, fa.2.2, fun h => frm_T k.1 (okVs_l2 fa.2.1 fb.2.1), fun h => frm_T k.2 od⟩⟩
theorem cycles_ok {n d : Nat} {ps : List (List Nat)} {w : List Nat} {a b : List Va} (hn : 1 ≤ n ∧ n ≤ 3) (hd : 1 ≤ d ∧ d ≤ 6) (t : IsTab n d ps) (hw : ∀ c ∈ w, c ∈ sgs n) (few : w.length < 1000) (cv : CycV d (mvW ps d w) a b) (h : Hea) :
    frm m_cycles [nV n, tV ps, .str w] h = .ok (.tup a) h := by
  obtain ⟨ks, R, fr⟩ := checkedrows_ok hn hd t
  have full : m_cycles [nV n, tV ps, .str w] ⟨0, []⟩ = .ok (.tup a) ⟨0, []⟩ :=
    fnM_rt ((sSeq_nx (sDrop_ok ((callG_ok (call2 (a := nV n) (b := tV ps) rfl rfl) rfl).trans (fr _ rfl)))).trans ((sSeq_nx (sDrop_ok ((callG_ok (call2 (a := nV n) (b := .str w) rfl rfl) rfl).trans (checkword_ok hn hw few _)))).trans (sRet_ok ((callE_ok (call1 ((callG_ok (call1 (a := pV (mvW ps d w)) ((callG_ok (call2 (a := tV ps) (b := .str w) rfl rfl) rfl).trans (movedof_ok hn hd t hw few _))) rfl).trans (cv.cyc _)))).trans rfl))))
  exact frm_i okVs_tw full (by unfold okV; exact cv.oka) (by unfold noFd; exact cv.noa)
end LK

namespace LK
open PySem PySem.Spec PyProof.Rows L2 Rf Rf.N
/-! ### one turn of the law -/
theorem callGK_ok {n : Nat} {perm : List Nat} {m : Fn} {C : Ax} {l : Lo} {h h1 : Hea} {ys zs : List Va} (e : C l h = .ok ys h1) (hl : ys.length = perm.length) (hp : pick perm ys = zs) (hn : zs.length = n) : callGK n 0 perm m aNil C l h = frm m zs h1 := by
  unfold callGK
  have e0 : aNil l h = .ok [] h := rfl
  rw [e0]
  simp only [Rs.bind]
  rw [e]
  simp only [List.nil_append, hp, List.length_nil, if_true]
  rw [if_pos hl, if_pos hn]
theorem lstF_ok {A : Ax} {l : Lo} {h h1 : Hea} {xs : List Va} (e : A l h = .ok xs h1) (few : xs.length ≤ 1000) : lstF A l h = .ok (.fl xs) h1 := by
  have big : 1000 ≤ sLine := by decide +kernel
  unfold lstF
  rw [e]
  simp only [Rs.bind]
  rw [if_pos (by omega)]
theorem call4 {A B C D : Ex} {l : Lo} {h h1 h2 h3 h4 : Hea} {a b c d : Va} (e : A l h = .ok a h1) (f : B l h1 = .ok b h2) (g : C l h2 = .ok c h3) (k : D l h3 = .ok d h4) : aCons A (aCons B (aCons C (aCons D aNil))) l h = .ok [a, b, c, d] h4 := by
  have := call3 f g k
  unfold aCons at this ⊢
  rw [e]
  simp only [Rs.bind] at this ⊢
  rw [this]
abbrev tl (V x2 x3 x4 x5 x6 x7 x8 x9 x10 : Option Va) : Lo := [V, some (.ref 0), x2, x3, x4, x5, x6, x7, x8, x9, x10]
theorem fix_ok {n d : Nat} {ps : List (List Nat)} (hn : 1 ≤ n ∧ n ≤ 3) (hd : 1 ≤ d ∧ d ≤ 6) (t : IsTab n d ps) (V x2 x6 x7 x8 x9 x10 : Option Va) (h : Hea) :
    ∃ ps', IsTab n d ps' ∧ op2 vAddF (callE (fn1 vTuple) (aCons (op2 vMulF (lstF (aCons (tupRg (rg1 (vr 4))) aNil)) (op2 vSub (vr 3) (cV (.int 1)))) aNil)) (slF (vr 5) (aPart (op1 vNeg (cV (.int 1)))) noPart) (tl V x2 (some (nV n)) (some (nV d)) (some (tV ps)) x6 x7 x8 x9 x10) h = .ok (tV ps') h := by
  have nn : n = 1 ∨ n = 2 ∨ n = 3 := by omega
  have ds : d = 1 ∨ d = 2 ∨ d = 3 ∨ d = 4 ∨ d = 5 ∨ d = 6 := by omega
  rcases nn with rfl | rfl | rfl
  · obtain ⟨p, rfl⟩ := of_len1 t.len
    refine ⟨[p], t, ?_⟩
    rcases ds with rfl | rfl | rfl | rfl | rfl | rfl <;> kernel_rfl
  · obtain ⟨p, q, rfl⟩ := of_len2 t.len
    refine ⟨[List.range d, q], ⟨rfl, fun x hx => ?_⟩, ?_⟩
    · rcases List.mem_cons.mp hx with rfl | hx
      · exact .range d
      · exact t.row x (List.mem_cons_of_mem _ hx)
    · rcases ds with rfl | rfl | rfl | rfl | rfl | rfl <;> kernel_rfl
  · obtain ⟨p, q, r, rfl⟩ := of_len3 t.len
    refine ⟨[List.range d, List.range d, r], ⟨rfl, fun x hx => ?_⟩, ?_⟩
    · rcases List.mem_cons.mp hx with rfl | hx
      · exact .range d
      · rcases List.mem_cons.mp hx with rfl | hx
        · exact .range d
        · exact t.row x (List.mem_cons_of_mem _ (List.mem_cons_of_mem _ hx))
    · rcases ds with rfl | rfl | rfl | rfl | rfl | rfl <;> kernel_rfl
theorem like_ok {A B : Ex} {l : Lo} {h h1 h2 : Hea} {a b : Va} {R : Sx} (eA : A l h = .ok a h1) (eB : B l h1 = .ok b h2) (e : frm (m__law_like 10) [a, b] h2 = .ok (.bl true) h2) : sIf (tNot (trB (callG 2 (m__law_like 10) (aCons A (aCons B aNil))))) R sNil l h = .ok (.nx l) h2 :=
  (sIf_f ((tNot_ok (trB_bl ((callG_ok (call2 eA eB) rfl).trans e))).trans rfl)).trans rfl
/-- the tests of a turn, the table and the word being there -/
theorem tests_ok {ns : List Int} {c : Int} {n d : Nat} {ps : List (List Nat)} {w : List Nat} (hl : ns.length ≤ 63) (hn : 1 ≤ n ∧ n ≤ 3) (hd : 1 ≤ d ∧ d ≤ 6) (t : IsTab n d ps) (hw : ∀ c ∈ w, c ∈ sgs n) (few : w.length < 1000) (c0 : 0 ≤ c ∧ c ≤ 9000) {O : Ob} (o : N.OwnOk ns c ⟨1, [O]⟩) (V x2 x7 x8 x9 x10 : Option Va) :
    ∃ y7 y8 y9 y10 O', lb0_3 (tl V x2 (some (nV n)) (some (nV d)) (some (tV ps)) (some (.str w)) x7 x8 x9 x10) ⟨1, [O]⟩ = .ok (.nx (tl V x2 (some (nV n)) (some (nV d)) (some (tV ps)) (some (.str w)) y7 y8 y9 y10)) ⟨1, [O']⟩ ∧ N.OwnOk ns (c + 1) ⟨1, [O']⟩ := by
  obtain ⟨b, O', eb, okb, fb, o'⟩ := bent_ok hl hn hd t c0 o
  have nlk : ∀ O : Ob, N.OwnOk ns (c + 1) ⟨1, [O]⟩ → noLock ⟨1, [O]⟩ = true := fun O q => by
    obtain ⟨a1, b1, c1, d1, e0, _⟩ := q.it
    have : O = ownS ns a1 b1 c1 d1 := Option.some.inj e0
    rw [this]; rfl
  have tabT : ∀ h, frm m_is_table [nV n, tV ps] h = .ok (.bl true) h := fun h => frm_T (istab_T hn (okV_t 0 ps) (by rw [tab_T hn hd t]; rfl)) okVs_tab
  have bentFh : ∀ h, frm m_is_table [nV n, b] h = .ok (.bl false) h := fun h => frm_F fb (okVs2 okb)
  have other : ∀ (x6 x7 x8 x9 x10 : Option Va) (h : Hea), op2 vAddF (op2 vMod (callE (fn1 vInt) (aCons (vr 3) aNil)) (cV (.int 3))) (cV (.int 1)) (tl V x2 (some (nV n)) (some (nV d)) (some (tV ps)) x6 x7 x8 x9 x10) h = .ok (nV (n % 3 + 1)) h := fun x6 x7 x8 x9 x10 h => by
    have nn : n = 1 ∨ n = 2 ∨ n = 3 := by omega
    rcases nn with rfl | rfl | rfl <;> rfl
  have otherF : ∀ h, frm m_is_table [nV (n % 3 + 1), tV ps] h = .ok (.bl false) h := fun h =>
    frm_F (istab_F (by omega) (okV_t 0 ps) (tab_len (by rw [List.length_map, t.len]; omega))) okVs_tab
  -- is_table
  have s3 : sSet 7 (lstF (aCons (callG 2 m_is_table (aCons (vr 3) (aCons (vr 5) aNil))) (aCons (callGK 2 0 [1, 0] m_is_table aNil (aCons (vr 5) (aCons (vr 3) aNil))) (aCons (callG 2 m_is_table (aCons (vr 3) (aCons (callT 2 m__law_bent (aCons (vr 1) (aCons (vr 5) aNil))) aNil))) (aCons (callG 2 m_is_table (aCons (op2 vAddF (op2 vMod (callE (fn1 vInt) (aCons (vr 3) aNil)) (cV (.int 3))) (cV (.int 1))) (aCons (vr 5) aNil))) aNil))))) (tl V x2 (some (nV n)) (some (nV d)) (some (tV ps)) (some (.str w)) x7 x8 x9 x10) ⟨1, [O]⟩ = .ok (.nx (tl V x2 (some (nV n)) (some (nV d)) (some (tV ps)) (some (.str w)) (some (.fl [.bl true, .bl true, .bl false, .bl false])) x8 x9 x10)) ⟨1, [O']⟩ := by
    refine sSet_ok (lstF_ok (xs := [.bl true, .bl true, .bl false, .bl false]) (call4 (h1 := ⟨1, [O]⟩) (h2 := ⟨1, [O]⟩) (h3 := ⟨1, [O']⟩) (h4 := ⟨1, [O']⟩) ?_ ?_ ?_ ?_) (by simp))
    · exact (callG_ok (call2 (a := nV n) (b := tV ps) rfl rfl) rfl).trans (tabT _)
    · exact (callGK_ok (ys := [tV ps, nV n]) (zs := [nV n, tV ps]) (call2 rfl rfl) rfl rfl rfl).trans (tabT _)
    · exact (callG_ok (call2 (a := nV n) (b := b) (h1 := ⟨1, [O]⟩) (h2 := ⟨1, [O']⟩) rfl ((callT_ok (call2 (a := .ref 0) (b := tV ps) rfl rfl) rfl).trans eb)) rfl).trans (bentFh _)
    · exact (callG_ok (call2 (a := nV (n % 3 + 1)) (b := tV ps) (other _ _ _ _ _ _) rfl) rfl).trans (otherF _)
  have k4 : frm (m__law_like 10) [.fl [.bl true, .bl true, .bl false, .bl false], .fl [.bl true, .bl true, .bl false, .bl false]] ⟨1, [O']⟩ = .ok (.bl true) ⟨1, [O']⟩ := frm_T (by decide +kernel) rfl
  -- moved
  have ip := t.mvW_p hn.2 hw
  obtain ⟨a, b2, cv⟩ := cycV hd ip
  have mv := moved_ok hn hd t hw few
  have mv0 := moved_ok (w := []) hn hd t (fun c h => absurd h List.not_mem_nil) (by simp)
  have e0 : mvW ps d [] = List.range d := by
    unfold mvW
    show (List.range d).map (fun i => i) = _
    rw [List.map_id']
  rw [e0] at mv0
  have cy := cycles_ok hn hd t hw few cv
  obtain ⟨m, rch, tr⟩ := istrans_ok hn hd t
  have rg : ∀ (x6 x7 x8 x9 x10 : Option Va) (h : Hea), tupRg (rg1 (vr 4)) (tl V x2 (some (nV n)) (some (nV d)) (some (tV ps)) x6 x7 x8 x9 x10) h = .ok (pV (List.range d)) h := fun x6 x7 x8 x9 x10 h => by
    have ds : d = 1 ∨ d = 2 ∨ d = 3 ∨ d = 4 ∨ d = 5 ∨ d = 6 := by omega
    rcases ds with rfl | rfl | rfl | rfl | rfl | rfl <;> rfl
  have lm : frm m__law_moved [tV ps, .str w] ⟨1, [O']⟩ = .ok (pV (mvW ps d w)) ⟨1, [O']⟩ := lawmoved_ok hn hd t hw few _
  generalize mvW ps d w = D at *
  refine ⟨some (.fl [pV D, pV D, pV (List.range d)]), some (pV D), some (.tup b2), some (.bl (decide ((m : Int) = d))), O', (sSeq_nx s3).trans ((sSeq_nx (like_ok rfl rfl k4)).trans ?_), o'⟩
  -- due
  refine (sSeq_nx (sSet_ok ((callG_ok (call2 (a := tV ps) (b := .str w) rfl rfl) rfl).trans lm))).trans ?_
  refine (sSeq_nx (sSet_ok (lstF_ok (xs := [pV D, pV D, pV (List.range d)]) (call3 (h1 := ⟨1, [O']⟩) (h2 := ⟨1, [O']⟩) (h3 := ⟨1, [O']⟩) ((callG_ok (call3 (a := nV n) (b := tV ps) (c := .str w) rfl rfl rfl) rfl).trans (mv _)) ((callGK_ok (ys := [.str w, tV ps, nV n]) (zs := [nV n, tV ps, .str w]) (call3 rfl rfl rfl) rfl rfl rfl).trans (mv _)) ((callG_ok (call3 (a := nV n) (b := tV ps) (c := .str []) rfl rfl rfl) rfl).trans (mv0 _))) (by simp)))).trans ?_
  refine (sSeq_nx (like_ok (a := .fl [pV D, pV D, pV (List.range d)]) (b := .fl [pV D, pV D, pV (List.range d)]) (h1 := ⟨1, [O']⟩) rfl (lstF_ok (call3 (a := pV D) (b := pV D) (c := pV (List.range d)) rfl rfl (rg _ _ _ _ _ _)) (by simp)) (cv.due _))).trans ?_
  -- rounds
  refine (sSeq_nx (sSet_ok ((callG_ok (call1 (a := pV D) rfl) rfl).trans (cv.rnd _)))).trans ?_
  refine (sSeq_nx (like_ok (a := .fl [.tup a, .tup a]) (b := .fl [.tup b2, .tup b2]) (h1 := ⟨1, [O']⟩) (lstF_ok (call2 (h1 := ⟨1, [O']⟩) ((callG_ok (call3 (a := nV n) (b := tV ps) (c := .str w) rfl rfl rfl) rfl).trans (cy _)) ((callGK_ok (ys := [.str w, nV n, tV ps]) (zs := [nV n, tV ps, .str w]) (call3 rfl rfl rfl) rfl rfl rfl).trans (cy _))) (by simp)) (lstF_ok (call2 (a := .tup b2) (b := .tup b2) rfl rfl) (by simp)) (cv.like _))).trans ?_
  -- right
  refine (sSeq_nx (sSet_ok (eq_ok (i := (m : Int)) (j := (d : Int)) ((callG_ok (call1 (a := tV ps) rfl) rfl).trans (rch _)) rfl))).trans ?_
  have k11 : ∀ b : Bool, frm (m__law_like 10) [.fl [.bl b, .bl b], .fl [.bl b, .bl b]] ⟨1, [O']⟩ = .ok (.bl true) ⟨1, [O']⟩ := fun b => by
    cases b <;> exact frm_T (by decide +kernel) rfl
  refine like_ok (a := .fl [.bl (decide ((m : Int) = d)), .bl (decide ((m : Int) = d))]) (b := .fl [.bl (decide ((m : Int) = d)), .bl (decide ((m : Int) = d))]) (h1 := ⟨1, [O']⟩) (lstF_ok (call2 (h1 := ⟨1, [O']⟩) ((callG_ok (call2 (a := nV n) (b := tV ps) rfl rfl) rfl).trans (tr _)) ((callGK_ok (ys := [tV ps, nV n]) (zs := [nV n, tV ps]) (call2 rfl rfl) rfl rfl rfl).trans (tr _))) (by simp)) (lstF_ok (call2 rfl rfl) (by simp)) (k11 _)
end LK

namespace LK
open PySem PySem.Spec PyProof.Rows L2 Rf Rf.N
theorem nextD {ns : List Int} {c : Int} {many : Nat} (hl : ns.length ≤ 63) (hm : 1 ≤ many ∧ many < 1000) (c0 : 0 ≤ c ∧ c ≤ 9000) {O : Ob} (o : N.OwnOk ns c ⟨1, [O]⟩) {l : Lo} (hv : l[1]? = some (some (.ref 0))) :
    ∃ j O', callF 2 m__law_next (aCons (vr 1) (aCons (cV (nV many)) aNil)) l ⟨1, [O]⟩ = .ok (nV j) ⟨1, [O']⟩ ∧ j < many ∧ N.OwnOk ns (c + 1) ⟨1, [O']⟩ := by
  obtain ⟨r, a, b, c1, d, e1, r0, r1, o1⟩ := N.OwnOk.next (many := (many : Int)) o (by omega) (by omega) (by omega)
  obtain ⟨j, rfl⟩ := Int.eq_ofNat_of_zero_le r0
  exact ⟨j, ownS ns a b c1 d, N.draw_ok hv rfl e1, by omega, o1.to rfl⟩
theorem add1 {A : Ex} {l : Lo} {h h1 : Hea} {j : Nat} (e : A l h = .ok (nV j) h1) : op2 vAddF (cV (.int 1)) A l h = .ok (nV (j + 1)) h1 := by
  refine (op2_ok (F := vAddF) (a := .int 1) (b := nV j) rfl e).trans ?_
  show Rs.ok (Va.int (1 + (j : Int))) h1 = _
  have : (1 + (j : Int)) = ((j + 1 : Nat) : Int) := by omega
  rw [this]
theorem turn73 {ns : List Int} {c : Int} (hl : ns.length ≤ 63) (c0 : 0 ≤ c ∧ c ≤ 5000) {O : Ob} (o : N.OwnOk ns c ⟨1, [O]⟩) (V x2 x3 x4 x5 x6 x7 x8 x9 x10 : Option Va) :
    ∃ y3 y4 y5 y6 y7 y8 y9 y10 O', lb0_0 (tl V x2 x3 x4 x5 x6 x7 x8 x9 x10) ⟨1, [O]⟩ = .ok (.nx (tl V x2 y3 y4 y5 y6 y7 y8 y9 y10)) ⟨1, [O']⟩ ∧ N.OwnOk ns (c + 100) ⟨1, [O']⟩ := by
  obtain ⟨j1, O1, e1, l1, o1⟩ := nextD (many := 3) hl (by omega) (by omega) o (l := tl V x2 x3 x4 x5 x6 x7 x8 x9 x10) rfl
  obtain ⟨j2, O2, e2, l2, o2⟩ := nextD (many := 6) hl (by omega) (by omega) o1 (l := tl V x2 x3 x4 x5 x6 x7 x8 x9 x10) rfl
  have hn : 1 ≤ j1 + 1 ∧ j1 + 1 ≤ 3 := by omega
  have hd : 1 ≤ j2 + 1 ∧ j2 + 1 ≤ 6 := by omega
  have s0 : sPar [3, 4] (aCons (op2 vAddF (cV (.int 1)) (callF 2 m__law_next (aCons (vr 1) (aCons (cV (.int 3)) aNil)))) (aCons (op2 vAddF (cV (.int 1)) (callF 2 m__law_next (aCons (vr 1) (aCons (cV (.int 6)) aNil)))) aNil)) (tl V x2 x3 x4 x5 x6 x7 x8 x9 x10) ⟨1, [O]⟩ = .ok (.nx (tl V x2 (some (nV (j1 + 1))) (some (nV (j2 + 1))) x5 x6 x7 x8 x9 x10)) ⟨1, [O2]⟩ :=
    sPar_ok (xs := [nV (j1 + 1), nV (j2 + 1)]) (call2 (add1 e1) (add1 e2)) rfl
  generalize j1 + 1 = n at hn s0
  generalize j2 + 1 = d at hd s0
  obtain ⟨ps, O3, e3, lp, hp, o3⟩ := table_ok (n := n) hl hd hn.2 (by omega) o2
  obtain ⟨w, O4, e4, lw, hw, o4⟩ := word_ok (most := 10) hl hn (by omega) (by omega) o3
  have t : IsTab n d ps := ⟨lp, hp⟩
  have s1 : sPar [5, 6] (aCons (callT 3 m__law_table (aCons (vr 1) (aCons (vr 3) (aCons (vr 4) aNil)))) (aCons (callT 3 m__law_word (aCons (vr 1) (aCons (vr 3) (aCons (cV (.int 10)) aNil)))) aNil)) (tl V x2 (some (nV n)) (some (nV d)) x5 x6 x7 x8 x9 x10) ⟨1, [O2]⟩ = .ok (.nx (tl V x2 (some (nV n)) (some (nV d)) (some (tV ps)) (some (.str w)) x7 x8 x9 x10)) ⟨1, [O4]⟩ :=
    sPar_ok (xs := [tV ps, .str w]) (call2 (h1 := ⟨1, [O3]⟩) ((callT_ok (call3 (a := .ref 0) (b := nV n) (c := nV d) rfl rfl rfl) rfl).trans e3) ((callT_ok (call3 (a := .ref 0) (b := nV n) (c := nV 10) rfl rfl rfl) rfl).trans e4)) rfl
  obtain ⟨j5, O5, e5, l5, o5⟩ := nextD (many := 3) hl (by omega) (by omega) o4 (l := tl V x2 (some (nV n)) (some (nV d)) (some (tV ps)) (some (.str w)) x7 x8 x9 x10) rfl
  have s2 : ∃ ps', IsTab n d ps' ∧ sIf (isB (op2 vEq (callF 2 m__law_next (aCons (vr 1) (aCons (cV (.int 3)) aNil))) (cV (.int 0)))) (sSet 5 (op2 vAddF (callE (fn1 vTuple) (aCons (op2 vMulF (lstF (aCons (tupRg (rg1 (vr 4))) aNil)) (op2 vSub (vr 3) (cV (.int 1)))) aNil)) (slF (vr 5) (aPart (op1 vNeg (cV (.int 1)))) noPart))) sNil (tl V x2 (some (nV n)) (some (nV d)) (some (tV ps)) (some (.str w)) x7 x8 x9 x10) ⟨1, [O4]⟩ = .ok (.nx (tl V x2 (some (nV n)) (some (nV d)) (some (tV ps')) (some (.str w)) x7 x8 x9 x10)) ⟨1, [O5]⟩ := by
    have q : isB (op2 vEq (callF 2 m__law_next (aCons (vr 1) (aCons (cV (.int 3)) aNil))) (cV (.int 0))) (tl V x2 (some (nV n)) (some (nV d)) (some (tV ps)) (some (.str w)) x7 x8 x9 x10) ⟨1, [O4]⟩ = .ok (decide ((j5 : Int) = 0)) ⟨1, [O5]⟩ := by
      refine isB_ok ((op2_ok (F := vEq) (a := nV j5) (b := nV 0) e5 rfl).trans ?_)
      exact eq_ok (A := fun _ h => .ok (nV j5) h) (B := fun _ h => .ok (nV 0) h) (l := []) (h := ⟨1, [O5]⟩) (i := j5) (j := 0) rfl rfl
    by_cases z : j5 = 0
    · obtain ⟨ps', t', e6⟩ := fix_ok hn hd t V x2 (some (.str w)) x7 x8 x9 x10 ⟨1, [O5]⟩
      refine ⟨ps', t', (sIf_t (q.trans ?_)).trans (sSet_ok e6)⟩
      rw [decide_eq_true (by omega)]
    · refine ⟨ps, t, (sIf_f (q.trans ?_)).trans rfl⟩
      rw [decide_eq_false (by omega)]
  obtain ⟨ps', t', s2⟩ := s2
  obtain ⟨y7, y8, y9, y10, O6, e7, o6⟩ := tests_ok hl hn hd t' hw (by omega) (by omega) o5 V x2 x7 x8 x9 x10
  exact ⟨_, _, _, _, y7, y8, y9, y10, O6, (sSeq_nx s0).trans ((sSeq_nx s1).trans ((sSeq_nx s2).trans e7)), o6.mono (by omega)⟩
theorem law_true : ∀ ns : List Int, ns.length ≤ 63 → ∃ h', m_law [.sl (ns.map Va.int)] ⟨0, []⟩ = .ok (.bl true) h' := fun ns hl => by
  have s0 : lw_0 (some (.sl (ns.map .int)) :: List.replicate 10 none) ⟨0, []⟩ = lw_1 (tl (some (.sl (ns.map .int))) none none none none none none none none none) ⟨1, [ownS ns 0 73 0 0]⟩ :=
    sSeq_nx (sSet_ok (own_ok ns 73 rfl))
  obtain ⟨l', h', e, _⟩ := sFor_inv (I := iRange1 (aCons (cV (.int 3)) aNil)) (tg := .nm 2) (B := lb0_0) (xs := rangeV 0 3) (l := tl (some (.sl (ns.map .int))) none none none none none none none none none) (h := ⟨1, [ownS ns 0 73 0 0]⟩) (h1 := ⟨1, [ownS ns 0 73 0 0]⟩)
    (P := fun k l h => ∃ x2 x3 x4 x5 x6 x7 x8 x9 x10 O, l = tl (some (.sl (ns.map .int))) x2 x3 x4 x5 x6 x7 x8 x9 x10 ∧ h = ⟨1, [O]⟩ ∧ N.OwnOk ns (100 * k) ⟨1, [O]⟩) (range_ok (d := 3) rfl (by omega)) (by rw [rangeV_len]; omega)
    (fun k x l h ek ⟨x2, x3, x4, x5, x6, x7, x8, x9, x10, O, el, eh, o⟩ => by
      subst el eh
      obtain ⟨hk, rfl⟩ := rangeV_get ek
      obtain ⟨y3, y4, y5, y6, y7, y8, y9, y10, O', e, o'⟩ := turn73 hl (by omega) o (some (.sl (ns.map .int))) (some (nV k)) x3 x4 x5 x6 x7 x8 x9 x10
      exact ⟨[(2, nV k)], _, _, rfl, .inl e, some (nV k), y3, y4, y5, y6, y7, y8, y9, y10, O', rfl, rfl, o'.mono (by omega)⟩)
    ⟨none, none, none, none, none, none, none, none, none, _, rfl, rfl, ⟨⟨0, 73, 0, 0, rfl, by omega, by omega, by omega, by omega⟩⟩⟩
  exact ⟨h', fnM_rt (s0.trans ((sSeq_nx e).trans (sRet_ok rfl)))⟩
end LK

namespace LK
open PySem PySem.Spec PyProof.Rows L2 Rf
/-! ### what the top has written -/
theorem all_mk {l : PySem.W.OpenLaw} {w : World} {K : PySem.W.Frag} {h : Heap} {mg : Str → Option Value} {fa : Addr} (X : K.In h) (G : h.Ns mainGlobals mg) (hfa : mg "law" = some (.ref fa))
    {od_is_integer an_is_integer : Option Addr} {sl_is_integer : Array (Option Value)} {oc_is_integer kV_is_integer dc_is_integer pm_is_integer cd_is_integer ct_is_integer : Value} {fa_is_integer : Addr} (a_is_integer : PySem.W.nsIn K mainGlobals "is_integer" = some (some (.ref fa_is_integer))) (l_is_integer : K.lookup fa_is_integer = some ⟨oc_is_integer, od_is_integer, .func (PySem.W.fnOf "is_integer" "is_integer" (defArgs s_is_integer) (defBody s_is_integer) (defScope s_is_integer) .none kV_is_integer dc_is_integer pm_is_integer an_is_integer cd_is_integer ct_is_integer), sl_is_integer⟩) (e_is_integer : PySem.W.codeIn K cd_is_integer "is_integer" = true) (k_is_integer : PySem.W.keepIn K (.ref fa_is_integer) = true)
    {od_is_natural an_is_natural : Option Addr} {sl_is_natural : Array (Option Value)} {oc_is_natural kV_is_natural dc_is_natural pm_is_natural cd_is_natural ct_is_natural : Value} {fa_is_natural : Addr} (a_is_natural : PySem.W.nsIn K mainGlobals "is_natural" = some (some (.ref fa_is_natural))) (l_is_natural : K.lookup fa_is_natural = some ⟨oc_is_natural, od_is_natural, .func (PySem.W.fnOf "is_natural" "is_natural" (defArgs s_is_natural) (defBody s_is_natural) (defScope s_is_natural) .none kV_is_natural dc_is_natural pm_is_natural an_is_natural cd_is_natural ct_is_natural), sl_is_natural⟩) (e_is_natural : PySem.W.codeIn K cd_is_natural "is_natural" = true) (k_is_natural : PySem.W.keepIn K (.ref fa_is_natural) = true)
    {od_is_size an_is_size : Option Addr} {sl_is_size : Array (Option Value)} {oc_is_size kV_is_size dc_is_size pm_is_size cd_is_size ct_is_size : Value} {fa_is_size : Addr} (a_is_size : PySem.W.nsIn K mainGlobals "is_size" = some (some (.ref fa_is_size))) (l_is_size : K.lookup fa_is_size = some ⟨oc_is_size, od_is_size, .func (PySem.W.fnOf "is_size" "is_size" (defArgs s_is_size) (defBody s_is_size) (defScope s_is_size) .none kV_is_size dc_is_size pm_is_size an_is_size cd_is_size ct_is_size), sl_is_size⟩) (e_is_size : PySem.W.codeIn K cd_is_size "is_size" = true) (k_is_size : PySem.W.keepIn K (.ref fa_is_size) = true)
    {od_check_size an_check_size : Option Addr} {sl_check_size : Array (Option Value)} {oc_check_size kV_check_size dc_check_size pm_check_size cd_check_size ct_check_size : Value} {fa_check_size : Addr} (a_check_size : PySem.W.nsIn K mainGlobals "check_size" = some (some (.ref fa_check_size))) (l_check_size : K.lookup fa_check_size = some ⟨oc_check_size, od_check_size, .func (PySem.W.fnOf "check_size" "check_size" (defArgs s_check_size) (defBody s_check_size) (defScope s_check_size) .none kV_check_size dc_check_size pm_check_size an_check_size cd_check_size ct_check_size), sl_check_size⟩) (e_check_size : PySem.W.codeIn K cd_check_size "check_size" = true) (k_check_size : PySem.W.keepIn K (.ref fa_check_size) = true)
    {od_is_word_of an_is_word_of : Option Addr} {sl_is_word_of : Array (Option Value)} {oc_is_word_of kV_is_word_of dc_is_word_of pm_is_word_of cd_is_word_of ct_is_word_of : Value} {fa_is_word_of : Addr} (a_is_word_of : PySem.W.nsIn K mainGlobals "is_word_of" = some (some (.ref fa_is_word_of))) (l_is_word_of : K.lookup fa_is_word_of = some ⟨oc_is_word_of, od_is_word_of, .func (PySem.W.fnOf "is_word_of" "is_word_of" (defArgs s_is_word_of) (defBody s_is_word_of) (defScope s_is_word_of) .none kV_is_word_of dc_is_word_of pm_is_word_of an_is_word_of cd_is_word_of ct_is_word_of), sl_is_word_of⟩) (e_is_word_of : PySem.W.codeIn K cd_is_word_of "is_word_of" = true) (k_is_word_of : PySem.W.keepIn K (.ref fa_is_word_of) = true)
    {od_check_word an_check_word : Option Addr} {sl_check_word : Array (Option Value)} {oc_check_word kV_check_word dc_check_word pm_check_word cd_check_word ct_check_word : Value} {fa_check_word : Addr} (a_check_word : PySem.W.nsIn K mainGlobals "check_word" = some (some (.ref fa_check_word))) (l_check_word : K.lookup fa_check_word = some ⟨oc_check_word, od_check_word, .func (PySem.W.fnOf "check_word" "check_word" (defArgs s_check_word) (defBody s_check_word) (defScope s_check_word) .none kV_check_word dc_check_word pm_check_word an_check_word cd_check_word ct_check_word), sl_check_word⟩) (e_check_word : PySem.W.codeIn K cd_check_word "check_word" = true) (k_check_word : PySem.W.keepIn K (.ref fa_check_word) = true)
    {od_signs_of an_signs_of : Option Addr} {sl_signs_of : Array (Option Value)} {oc_signs_of kV_signs_of dc_signs_of pm_signs_of cd_signs_of ct_signs_of : Value} {fa_signs_of : Addr} (a_signs_of : PySem.W.nsIn K mainGlobals "signs_of" = some (some (.ref fa_signs_of))) (l_signs_of : K.lookup fa_signs_of = some ⟨oc_signs_of, od_signs_of, .func (PySem.W.fnOf "signs_of" "signs_of" (defArgs s_signs_of) (defBody s_signs_of) (defScope s_signs_of) .none kV_signs_of dc_signs_of pm_signs_of an_signs_of cd_signs_of ct_signs_of), sl_signs_of⟩) (e_signs_of : PySem.W.codeIn K cd_signs_of "signs_of" = true) (k_signs_of : PySem.W.keepIn K (.ref fa_signs_of) = true)
    {od_met_from an_met_from : Option Addr} {sl_met_from : Array (Option Value)} {oc_met_from kV_met_from dc_met_from pm_met_from cd_met_from ct_met_from : Value} {fa_met_from : Addr} (a_met_from : PySem.W.nsIn K mainGlobals "met_from" = some (some (.ref fa_met_from))) (l_met_from : K.lookup fa_met_from = some ⟨oc_met_from, od_met_from, .func (PySem.W.fnOf "met_from" "met_from" (defArgs s_met_from) (defBody s_met_from) (defScope s_met_from) .none kV_met_from dc_met_from pm_met_from an_met_from cd_met_from ct_met_from), sl_met_from⟩) (e_met_from : PySem.W.codeIn K cd_met_from "met_from" = true) (k_met_from : PySem.W.keepIn K (.ref fa_met_from) = true)
    {od_is_permutation an_is_permutation : Option Addr} {sl_is_permutation : Array (Option Value)} {oc_is_permutation kV_is_permutation dc_is_permutation pm_is_permutation cd_is_permutation ct_is_permutation : Value} {fa_is_permutation : Addr} (a_is_permutation : PySem.W.nsIn K mainGlobals "is_permutation" = some (some (.ref fa_is_permutation))) (l_is_permutation : K.lookup fa_is_permutation = some ⟨oc_is_permutation, od_is_permutation, .func (PySem.W.fnOf "is_permutation" "is_permutation" (defArgs s_is_permutation) (defBody s_is_permutation) (defScope s_is_permutation) .none kV_is_permutation dc_is_permutation pm_is_permutation an_is_permutation cd_is_permutation ct_is_permutation), sl_is_permutation⟩) (e_is_permutation : PySem.W.codeIn K cd_is_permutation "is_permutation" = true) (k_is_permutation : PySem.W.keepIn K (.ref fa_is_permutation) = true)
    {od_is_table_of an_is_table_of : Option Addr} {sl_is_table_of : Array (Option Value)} {oc_is_table_of kV_is_table_of dc_is_table_of pm_is_table_of cd_is_table_of ct_is_table_of : Value} {fa_is_table_of : Addr} (a_is_table_of : PySem.W.nsIn K mainGlobals "is_table_of" = some (some (.ref fa_is_table_of))) (l_is_table_of : K.lookup fa_is_table_of = some ⟨oc_is_table_of, od_is_table_of, .func (PySem.W.fnOf "is_table_of" "is_table_of" (defArgs s_is_table_of) (defBody s_is_table_of) (defScope s_is_table_of) .none kV_is_table_of dc_is_table_of pm_is_table_of an_is_table_of cd_is_table_of ct_is_table_of), sl_is_table_of⟩) (e_is_table_of : PySem.W.codeIn K cd_is_table_of "is_table_of" = true) (k_is_table_of : PySem.W.keepIn K (.ref fa_is_table_of) = true)
    {od_check_table an_check_table : Option Addr} {sl_check_table : Array (Option Value)} {oc_check_table kV_check_table dc_check_table pm_check_table cd_check_table ct_check_table : Value} {fa_check_table : Addr} (a_check_table : PySem.W.nsIn K mainGlobals "check_table" = some (some (.ref fa_check_table))) (l_check_table : K.lookup fa_check_table = some ⟨oc_check_table, od_check_table, .func (PySem.W.fnOf "check_table" "check_table" (defArgs s_check_table) (defBody s_check_table) (defScope s_check_table) .none kV_check_table dc_check_table pm_check_table an_check_table cd_check_table ct_check_table), sl_check_table⟩) (e_check_table : PySem.W.codeIn K cd_check_table "check_table" = true) (k_check_table : PySem.W.keepIn K (.ref fa_check_table) = true)
    {od_table_rows an_table_rows : Option Addr} {sl_table_rows : Array (Option Value)} {oc_table_rows kV_table_rows dc_table_rows pm_table_rows cd_table_rows ct_table_rows : Value} {fa_table_rows : Addr} (a_table_rows : PySem.W.nsIn K mainGlobals "table_rows" = some (some (.ref fa_table_rows))) (l_table_rows : K.lookup fa_table_rows = some ⟨oc_table_rows, od_table_rows, .func (PySem.W.fnOf "table_rows" "table_rows" (defArgs s_table_rows) (defBody s_table_rows) (defScope s_table_rows) .none kV_table_rows dc_table_rows pm_table_rows an_table_rows cd_table_rows ct_table_rows), sl_table_rows⟩) (e_table_rows : PySem.W.codeIn K cd_table_rows "table_rows" = true) (k_table_rows : PySem.W.keepIn K (.ref fa_table_rows) = true)
    {od_walked an_walked : Option Addr} {sl_walked : Array (Option Value)} {oc_walked kV_walked dc_walked pm_walked cd_walked ct_walked : Value} {fa_walked : Addr} (a_walked : PySem.W.nsIn K mainGlobals "walked" = some (some (.ref fa_walked))) (l_walked : K.lookup fa_walked = some ⟨oc_walked, od_walked, .func (PySem.W.fnOf "walked" "walked" (defArgs s_walked) (defBody s_walked) (defScope s_walked) .none kV_walked dc_walked pm_walked an_walked cd_walked ct_walked), sl_walked⟩) (e_walked : PySem.W.codeIn K cd_walked "walked" = true) (k_walked : PySem.W.keepIn K (.ref fa_walked) = true)
    {od_moved_of an_moved_of : Option Addr} {sl_moved_of : Array (Option Value)} {oc_moved_of kV_moved_of dc_moved_of pm_moved_of cd_moved_of ct_moved_of : Value} {fa_moved_of : Addr} (a_moved_of : PySem.W.nsIn K mainGlobals "moved_of" = some (some (.ref fa_moved_of))) (l_moved_of : K.lookup fa_moved_of = some ⟨oc_moved_of, od_moved_of, .func (PySem.W.fnOf "moved_of" "moved_of" (defArgs s_moved_of) (defBody s_moved_of) (defScope s_moved_of) .none kV_moved_of dc_moved_of pm_moved_of an_moved_of cd_moved_of ct_moved_of), sl_moved_of⟩) (e_moved_of : PySem.W.codeIn K cd_moved_of "moved_of" = true) (k_moved_of : PySem.W.keepIn K (.ref fa_moved_of) = true)
    {od_cycle_lengths an_cycle_lengths : Option Addr} {sl_cycle_lengths : Array (Option Value)} {oc_cycle_lengths kV_cycle_lengths dc_cycle_lengths pm_cycle_lengths cd_cycle_lengths ct_cycle_lengths : Value} {fa_cycle_lengths : Addr} (a_cycle_lengths : PySem.W.nsIn K mainGlobals "cycle_lengths" = some (some (.ref fa_cycle_lengths))) (l_cycle_lengths : K.lookup fa_cycle_lengths = some ⟨oc_cycle_lengths, od_cycle_lengths, .func (PySem.W.fnOf "cycle_lengths" "cycle_lengths" (defArgs s_cycle_lengths) (defBody s_cycle_lengths) (defScope s_cycle_lengths) .none kV_cycle_lengths dc_cycle_lengths pm_cycle_lengths an_cycle_lengths cd_cycle_lengths ct_cycle_lengths), sl_cycle_lengths⟩) (e_cycle_lengths : PySem.W.codeIn K cd_cycle_lengths "cycle_lengths" = true) (k_cycle_lengths : PySem.W.keepIn K (.ref fa_cycle_lengths) = true)
    {od_checked_rows an_checked_rows : Option Addr} {sl_checked_rows : Array (Option Value)} {oc_checked_rows kV_checked_rows dc_checked_rows pm_checked_rows cd_checked_rows ct_checked_rows : Value} {fa_checked_rows : Addr} (a_checked_rows : PySem.W.nsIn K mainGlobals "checked_rows" = some (some (.ref fa_checked_rows))) (l_checked_rows : K.lookup fa_checked_rows = some ⟨oc_checked_rows, od_checked_rows, .func (PySem.W.fnOf "checked_rows" "checked_rows" (defArgs s_checked_rows) (defBody s_checked_rows) (defScope s_checked_rows) .none kV_checked_rows dc_checked_rows pm_checked_rows an_checked_rows cd_checked_rows ct_checked_rows), sl_checked_rows⟩) (e_checked_rows : PySem.W.codeIn K cd_checked_rows "checked_rows" = true) (k_checked_rows : PySem.W.keepIn K (.ref fa_checked_rows) = true)
    {od_is_table an_is_table : Option Addr} {sl_is_table : Array (Option Value)} {oc_is_table kV_is_table dc_is_table pm_is_table cd_is_table ct_is_table : Value} {fa_is_table : Addr} (a_is_table : PySem.W.nsIn K mainGlobals "is_table" = some (some (.ref fa_is_table))) (l_is_table : K.lookup fa_is_table = some ⟨oc_is_table, od_is_table, .func (PySem.W.fnOf "is_table" "is_table" (defArgs s_is_table) (defBody s_is_table) (defScope s_is_table) .none kV_is_table dc_is_table pm_is_table an_is_table cd_is_table ct_is_table), sl_is_table⟩) (e_is_table : PySem.W.codeIn K cd_is_table "is_table" = true) (k_is_table : PySem.W.keepIn K (.ref fa_is_table) = true)
    {od_moved an_moved : Option Addr} {sl_moved : Array (Option Value)} {oc_moved kV_moved dc_moved pm_moved cd_moved ct_moved : Value} {fa_moved : Addr} (a_moved : PySem.W.nsIn K mainGlobals "moved" = some (some (.ref fa_moved))) (l_moved : K.lookup fa_moved = some ⟨oc_moved, od_moved, .func (PySem.W.fnOf "moved" "moved" (defArgs s_moved) (defBody s_moved) (defScope s_moved) .none kV_moved dc_moved pm_moved an_moved cd_moved ct_moved), sl_moved⟩) (e_moved : PySem.W.codeIn K cd_moved "moved" = true) (k_moved : PySem.W.keepIn K (.ref fa_moved) = true)
    {od_cycles an_cycles : Option Addr} {sl_cycles : Array (Option Value)} {oc_cycles kV_cycles dc_cycles pm_cycles cd_cycles ct_cycles : Value} {fa_cycles : Addr} (a_cycles : PySem.W.nsIn K mainGlobals "cycles" = some (some (.ref fa_cycles))) (l_cycles : K.lookup fa_cycles = some ⟨oc_cycles, od_cycles, .func (PySem.W.fnOf "cycles" "cycles" (defArgs s_cycles) (defBody s_cycles) (defScope s_cycles) .none kV_cycles dc_cycles pm_cycles an_cycles cd_cycles ct_cycles), sl_cycles⟩) (e_cycles : PySem.W.codeIn K cd_cycles "cycles" = true) (k_cycles : PySem.W.keepIn K (.ref fa_cycles) = true)
    {od_is_transitive an_is_transitive : Option Addr} {sl_is_transitive : Array (Option Value)} {oc_is_transitive kV_is_transitive dc_is_transitive pm_is_transitive cd_is_transitive ct_is_transitive : Value} {fa_is_transitive : Addr} (a_is_transitive : PySem.W.nsIn K mainGlobals "is_transitive" = some (some (.ref fa_is_transitive))) (l_is_transitive : K.lookup fa_is_transitive = some ⟨oc_is_transitive, od_is_transitive, .func (PySem.W.fnOf "is_transitive" "is_transitive" (defArgs s_is_transitive) (defBody s_is_transitive) (defScope s_is_transitive) .none kV_is_transitive dc_is_transitive pm_is_transitive an_is_transitive cd_is_transitive ct_is_transitive), sl_is_transitive⟩) (e_is_transitive : PySem.W.codeIn K cd_is_transitive "is_transitive" = true) (k_is_transitive : PySem.W.keepIn K (.ref fa_is_transitive) = true)
    {od__law_next an__law_next : Option Addr} {sl__law_next : Array (Option Value)} {oc__law_next kV__law_next dc__law_next pm__law_next cd__law_next ct__law_next : Value} {fa__law_next : Addr} (a__law_next : PySem.W.nsIn K mainGlobals "_law_next" = some (some (.ref fa__law_next))) (l__law_next : K.lookup fa__law_next = some ⟨oc__law_next, od__law_next, .func (PySem.W.fnOf "_law_next" "_law_next" (defArgs s__law_next) (defBody s__law_next) (defScope s__law_next) .none kV__law_next dc__law_next pm__law_next an__law_next cd__law_next ct__law_next), sl__law_next⟩) (e__law_next : PySem.W.codeIn K cd__law_next "_law_next" = true) (k__law_next : PySem.W.keepIn K (.ref fa__law_next) = true)
    {od__law_like an__law_like : Option Addr} {sl__law_like : Array (Option Value)} {oc__law_like kV__law_like dc__law_like pm__law_like cd__law_like ct__law_like : Value} {fa__law_like : Addr} (a__law_like : PySem.W.nsIn K mainGlobals "_law_like" = some (some (.ref fa__law_like))) (l__law_like : K.lookup fa__law_like = some ⟨oc__law_like, od__law_like, .func (PySem.W.fnOf "_law_like" "_law_like" (defArgs s__law_like) (defBody s__law_like) (defScope s__law_like) .none kV__law_like dc__law_like pm__law_like an__law_like cd__law_like ct__law_like), sl__law_like⟩) (e__law_like : PySem.W.codeIn K cd__law_like "_law_like" = true) (k__law_like : PySem.W.keepIn K (.ref fa__law_like) = true)
    {od__law_word an__law_word : Option Addr} {sl__law_word : Array (Option Value)} {oc__law_word kV__law_word dc__law_word pm__law_word cd__law_word ct__law_word : Value} {fa__law_word : Addr} (a__law_word : PySem.W.nsIn K mainGlobals "_law_word" = some (some (.ref fa__law_word))) (l__law_word : K.lookup fa__law_word = some ⟨oc__law_word, od__law_word, .func (PySem.W.fnOf "_law_word" "_law_word" (defArgs s__law_word) (defBody s__law_word) (defScope s__law_word) .none kV__law_word dc__law_word pm__law_word an__law_word cd__law_word ct__law_word), sl__law_word⟩) (e__law_word : PySem.W.codeIn K cd__law_word "_law_word" = true) (k__law_word : PySem.W.keepIn K (.ref fa__law_word) = true)
    {od__law_permutation an__law_permutation : Option Addr} {sl__law_permutation : Array (Option Value)} {oc__law_permutation kV__law_permutation dc__law_permutation pm__law_permutation cd__law_permutation ct__law_permutation : Value} {fa__law_permutation : Addr} (a__law_permutation : PySem.W.nsIn K mainGlobals "_law_permutation" = some (some (.ref fa__law_permutation))) (l__law_permutation : K.lookup fa__law_permutation = some ⟨oc__law_permutation, od__law_permutation, .func (PySem.W.fnOf "_law_permutation" "_law_permutation" (defArgs s__law_permutation) (defBody s__law_permutation) (defScope s__law_permutation) .none kV__law_permutation dc__law_permutation pm__law_permutation an__law_permutation cd__law_permutation ct__law_permutation), sl__law_permutation⟩) (e__law_permutation : PySem.W.codeIn K cd__law_permutation "_law_permutation" = true) (k__law_permutation : PySem.W.keepIn K (.ref fa__law_permutation) = true)
    {od__law_table an__law_table : Option Addr} {sl__law_table : Array (Option Value)} {oc__law_table kV__law_table dc__law_table pm__law_table cd__law_table ct__law_table : Value} {fa__law_table : Addr} (a__law_table : PySem.W.nsIn K mainGlobals "_law_table" = some (some (.ref fa__law_table))) (l__law_table : K.lookup fa__law_table = some ⟨oc__law_table, od__law_table, .func (PySem.W.fnOf "_law_table" "_law_table" (defArgs s__law_table) (defBody s__law_table) (defScope s__law_table) .none kV__law_table dc__law_table pm__law_table an__law_table cd__law_table ct__law_table), sl__law_table⟩) (e__law_table : PySem.W.codeIn K cd__law_table "_law_table" = true) (k__law_table : PySem.W.keepIn K (.ref fa__law_table) = true)
    {od__law_at an__law_at : Option Addr} {sl__law_at : Array (Option Value)} {oc__law_at kV__law_at dc__law_at pm__law_at cd__law_at ct__law_at : Value} {fa__law_at : Addr} (a__law_at : PySem.W.nsIn K mainGlobals "_law_at" = some (some (.ref fa__law_at))) (l__law_at : K.lookup fa__law_at = some ⟨oc__law_at, od__law_at, .func (PySem.W.fnOf "_law_at" "_law_at" (defArgs s__law_at) (defBody s__law_at) (defScope s__law_at) .none kV__law_at dc__law_at pm__law_at an__law_at cd__law_at ct__law_at), sl__law_at⟩) (e__law_at : PySem.W.codeIn K cd__law_at "_law_at" = true) (k__law_at : PySem.W.keepIn K (.ref fa__law_at) = true)
    {od__law_moved an__law_moved : Option Addr} {sl__law_moved : Array (Option Value)} {oc__law_moved kV__law_moved dc__law_moved pm__law_moved cd__law_moved ct__law_moved : Value} {fa__law_moved : Addr} (a__law_moved : PySem.W.nsIn K mainGlobals "_law_moved" = some (some (.ref fa__law_moved))) (l__law_moved : K.lookup fa__law_moved = some ⟨oc__law_moved, od__law_moved, .func (PySem.W.fnOf "_law_moved" "_law_moved" (defArgs s__law_moved) (defBody s__law_moved) (defScope s__law_moved) .none kV__law_moved dc__law_moved pm__law_moved an__law_moved cd__law_moved ct__law_moved), sl__law_moved⟩) (e__law_moved : PySem.W.codeIn K cd__law_moved "_law_moved" = true) (k__law_moved : PySem.W.keepIn K (.ref fa__law_moved) = true)
    {od__law_rounds an__law_rounds : Option Addr} {sl__law_rounds : Array (Option Value)} {oc__law_rounds kV__law_rounds dc__law_rounds pm__law_rounds cd__law_rounds ct__law_rounds : Value} {fa__law_rounds : Addr} (a__law_rounds : PySem.W.nsIn K mainGlobals "_law_rounds" = some (some (.ref fa__law_rounds))) (l__law_rounds : K.lookup fa__law_rounds = some ⟨oc__law_rounds, od__law_rounds, .func (PySem.W.fnOf "_law_rounds" "_law_rounds" (defArgs s__law_rounds) (defBody s__law_rounds) (defScope s__law_rounds) .none kV__law_rounds dc__law_rounds pm__law_rounds an__law_rounds cd__law_rounds ct__law_rounds), sl__law_rounds⟩) (e__law_rounds : PySem.W.codeIn K cd__law_rounds "_law_rounds" = true) (k__law_rounds : PySem.W.keepIn K (.ref fa__law_rounds) = true)
    {od__law_reach an__law_reach : Option Addr} {sl__law_reach : Array (Option Value)} {oc__law_reach kV__law_reach dc__law_reach pm__law_reach cd__law_reach ct__law_reach : Value} {fa__law_reach : Addr} (a__law_reach : PySem.W.nsIn K mainGlobals "_law_reach" = some (some (.ref fa__law_reach))) (l__law_reach : K.lookup fa__law_reach = some ⟨oc__law_reach, od__law_reach, .func (PySem.W.fnOf "_law_reach" "_law_reach" (defArgs s__law_reach) (defBody s__law_reach) (defScope s__law_reach) .none kV__law_reach dc__law_reach pm__law_reach an__law_reach cd__law_reach ct__law_reach), sl__law_reach⟩) (e__law_reach : PySem.W.codeIn K cd__law_reach "_law_reach" = true) (k__law_reach : PySem.W.keepIn K (.ref fa__law_reach) = true)
    {od__law_bent an__law_bent : Option Addr} {sl__law_bent : Array (Option Value)} {oc__law_bent kV__law_bent dc__law_bent pm__law_bent cd__law_bent ct__law_bent : Value} {fa__law_bent : Addr} (a__law_bent : PySem.W.nsIn K mainGlobals "_law_bent" = some (some (.ref fa__law_bent))) (l__law_bent : K.lookup fa__law_bent = some ⟨oc__law_bent, od__law_bent, .func (PySem.W.fnOf "_law_bent" "_law_bent" (defArgs s__law_bent) (defBody s__law_bent) (defScope s__law_bent) .none kV__law_bent dc__law_bent pm__law_bent an__law_bent cd__law_bent ct__law_bent), sl__law_bent⟩) (e__law_bent : PySem.W.codeIn K cd__law_bent "_law_bent" = true) (k__law_bent : PySem.W.keepIn K (.ref fa__law_bent) = true)
    {od_law an_law : Option Addr} {sl_law : Array (Option Value)} {oc_law kV_law dc_law pm_law cd_law ct_law : Value} {fa_law : Addr} (a_law : PySem.W.nsIn K mainGlobals "law" = some (some (.ref fa_law))) (l_law : K.lookup fa_law = some ⟨oc_law, od_law, .func (PySem.W.fnOf "law" "law" (defArgs s_law) (defBody s_law) (defScope s_law) .none kV_law dc_law pm_law an_law cd_law ct_law), sl_law⟩) (e_law : PySem.W.codeIn K cd_law "law" = true) (k_law : PySem.W.keepIn K (.ref fa_law) = true)
    (z_isinstance : PySem.W.nsIn K mainGlobals "isinstance" = some none)
    (z_int : PySem.W.nsIn K mainGlobals "int" = some none)
    (z_bool : PySem.W.nsIn K mainGlobals "bool" = some none)
    (z_len : PySem.W.nsIn K mainGlobals "len" = some none)
    (z_str : PySem.W.nsIn K mainGlobals "str" = some none)
    (z_all : PySem.W.nsIn K mainGlobals "all" = some none)
    (z_tuple : PySem.W.nsIn K mainGlobals "tuple" = some none)
    (z_sorted : PySem.W.nsIn K mainGlobals "sorted" = some none)
    (z_range : PySem.W.nsIn K mainGlobals "range" = some none)
    (z_list : PySem.W.nsIn K mainGlobals "list" = some none)
    (z_zip : PySem.W.nsIn K mainGlobals "zip" = some none)
    (z_enumerate : PySem.W.nsIn K mainGlobals "enumerate" = some none)
    (z_set : PySem.W.nsIn K mainGlobals "set" = some none)
    {t_ALPHABET : Tok} (z_ALPHABET : PySem.W.nsIn K mainGlobals "ALPHABET" = some (some (.str "abcdefghijklmnopqrstuvwxyz" t_ALPHABET))) :
    ∃ fd : FuncData, (∀ (s : Shared) (v : Value), BindsTo s fd ⟨[v], []⟩ [("script", v)]) ∧ ∀ base : Heap, K.In base → base.Ns mainGlobals mg → FnOk l.prog w K mg base CX0 12 fa fd ["script"] (spLaw ⟨K, l.prog, w⟩ m_law) := by
  have e := hfa.symm.trans (PySem.W.mg_of X G a_law)
  cases e
  have F_is_integer := fun_mk (st := s_is_integer) l_is_integer e_is_integer k_is_integer
  have F_is_natural := fun_mk (st := s_is_natural) l_is_natural e_is_natural k_is_natural
  have F_is_size := fun_mk (st := s_is_size) l_is_size e_is_size k_is_size
  have F_check_size := fun_mk (st := s_check_size) l_check_size e_check_size k_check_size
  have F_is_word_of := fun_mk (st := s_is_word_of) l_is_word_of e_is_word_of k_is_word_of
  have F_check_word := fun_mk (st := s_check_word) l_check_word e_check_word k_check_word
  have F_signs_of := fun_mk (st := s_signs_of) l_signs_of e_signs_of k_signs_of
  have F_met_from := fun_mk (st := s_met_from) l_met_from e_met_from k_met_from
  have F_is_permutation := fun_mk (st := s_is_permutation) l_is_permutation e_is_permutation k_is_permutation
  have F_is_table_of := fun_mk (st := s_is_table_of) l_is_table_of e_is_table_of k_is_table_of
  have F_check_table := fun_mk (st := s_check_table) l_check_table e_check_table k_check_table
  have F_table_rows := fun_mk (st := s_table_rows) l_table_rows e_table_rows k_table_rows
  have F_walked := fun_mk (st := s_walked) l_walked e_walked k_walked
  have F_moved_of := fun_mk (st := s_moved_of) l_moved_of e_moved_of k_moved_of
  have F_cycle_lengths := fun_mk (st := s_cycle_lengths) l_cycle_lengths e_cycle_lengths k_cycle_lengths
  have F_checked_rows := fun_mk (st := s_checked_rows) l_checked_rows e_checked_rows k_checked_rows
  have F_is_table := fun_mk (st := s_is_table) l_is_table e_is_table k_is_table
  have F_moved := fun_mk (st := s_moved) l_moved e_moved k_moved
  have F_cycles := fun_mk (st := s_cycles) l_cycles e_cycles k_cycles
  have F_is_transitive := fun_mk (st := s_is_transitive) l_is_transitive e_is_transitive k_is_transitive
  have F__law_next := fun_mk (st := s__law_next) l__law_next e__law_next k__law_next
  have F__law_like := fun_mk (st := s__law_like) l__law_like e__law_like k__law_like
  have F__law_word := fun_mk (st := s__law_word) l__law_word e__law_word k__law_word
  have F__law_permutation := fun_mk (st := s__law_permutation) l__law_permutation e__law_permutation k__law_permutation
  have F__law_table := fun_mk (st := s__law_table) l__law_table e__law_table k__law_table
  have F__law_at := fun_mk (st := s__law_at) l__law_at e__law_at k__law_at
  have F__law_moved := fun_mk (st := s__law_moved) l__law_moved e__law_moved k__law_moved
  have F__law_rounds := fun_mk (st := s__law_rounds) l__law_rounds e__law_rounds k__law_rounds
  have F__law_reach := fun_mk (st := s__law_reach) l__law_reach e__law_reach k__law_reach
  have F__law_bent := fun_mk (st := s__law_bent) l__law_bent e__law_bent k__law_bent
  have F_law := fun_mk (st := s_law) l_law e_law k_law
  have hb : ∀ (kV doc pm : Value) (an : Option Addr) (cdv ct : Value) (us : List Value), us.length = ["script"].length → bindArgs (PySem.W.fnOf "law" "law" (defArgs s_law) (defBody s_law) (defScope s_law) .none kV doc pm an cdv ct) ⟨us, []⟩ = pure ((["script"] : List Str).zip us) := fun _ _ _ _ _ _ us hl => match us, hl with | [_], _ => rfl
  refine ⟨_, fun s v => Fun.bindsTo (ps := ["script"]) F_law hb s [v] rfl, fun base _ _ => ?_⟩
  have b_isinstance := PySem.W.mg_none_of X G z_isinstance
  have b_int := PySem.W.mg_none_of X G z_int
  have b_bool := PySem.W.mg_none_of X G z_bool
  have b_len := PySem.W.mg_none_of X G z_len
  have b_str := PySem.W.mg_none_of X G z_str
  have b_all := PySem.W.mg_none_of X G z_all
  have b_tuple := PySem.W.mg_none_of X G z_tuple
  have b_sorted := PySem.W.mg_none_of X G z_sorted
  have b_range := PySem.W.mg_none_of X G z_range
  have b_list := PySem.W.mg_none_of X G z_list
  have b_zip := PySem.W.mg_none_of X G z_zip
  have b_enumerate := PySem.W.mg_none_of X G z_enumerate
  have b_set := PySem.W.mg_none_of X G z_set
  have g_ALPHABET := PySem.W.mg_of X G z_ALPHABET
  have c_is_integer := ok_is_integer (P := l.prog) (w := w) (base := base) b_isinstance b_int b_bool F_is_integer (PySem.W.mg_of X G a_is_integer)
  have c_is_natural := ok_is_natural (P := l.prog) (w := w) (base := base) c_is_integer F_is_natural (PySem.W.mg_of X G a_is_natural)
  have c_is_size := ok_is_size (P := l.prog) (w := w) (base := base) c_is_integer b_len g_ALPHABET F_is_size (PySem.W.mg_of X G a_is_size)
  have c_check_size := ok_check_size (P := l.prog) (w := w) (base := base) c_is_size F_check_size (PySem.W.mg_of X G a_check_size)
  have c_is_word_of := ok_is_word_of (P := l.prog) (w := w) (base := base) b_isinstance b_str b_all g_ALPHABET F_is_word_of (PySem.W.mg_of X G a_is_word_of)
  have c_check_word := ok_check_word (P := l.prog) (w := w) (base := base) c_is_word_of F_check_word (PySem.W.mg_of X G a_check_word)
  have c_signs_of := ok_signs_of (P := l.prog) (w := w) (base := base) g_ALPHABET F_signs_of (PySem.W.mg_of X G a_signs_of)
  have c_met_from := ok_met_from (P := l.prog) (w := w) (base := base) c_signs_of b_len F_met_from (PySem.W.mg_of X G a_met_from)
  have c_is_permutation := ok_is_permutation (P := l.prog) (w := w) (base := base) c_is_natural b_isinstance b_tuple b_len b_all b_sorted b_range b_list F_is_permutation (PySem.W.mg_of X G a_is_permutation)
  have c_is_table_of := ok_is_table_of (P := l.prog) (w := w) (base := base) c_is_permutation b_isinstance b_tuple b_len b_all F_is_table_of (PySem.W.mg_of X G a_is_table_of)
  have c_check_table := ok_check_table (P := l.prog) (w := w) (base := base) c_is_table_of F_check_table (PySem.W.mg_of X G a_check_table)
  have c_table_rows := ok_table_rows (P := l.prog) (w := w) (base := base) b_zip b_enumerate g_ALPHABET F_table_rows (PySem.W.mg_of X G a_table_rows)
  have c_walked := ok_walked (P := l.prog) (w := w) (base := base) F_walked (PySem.W.mg_of X G a_walked)
  have c_moved_of := ok_moved_of (P := l.prog) (w := w) (base := base) c_table_rows c_walked b_len b_range b_tuple F_moved_of (PySem.W.mg_of X G a_moved_of)
  have c_cycle_lengths := ok_cycle_lengths (P := l.prog) (w := w) (base := base) b_len b_range b_sorted F_cycle_lengths (PySem.W.mg_of X G a_cycle_lengths)
  have c_checked_rows := ok_checked_rows (P := l.prog) (w := w) (base := base) c_check_size c_check_table c_table_rows F_checked_rows (PySem.W.mg_of X G a_checked_rows)
  have c_is_table := ok_is_table (P := l.prog) (w := w) (base := base) c_check_size c_is_table_of F_is_table (PySem.W.mg_of X G a_is_table)
  have c_moved := ok_moved (P := l.prog) (w := w) (base := base) c_checked_rows c_check_word c_moved_of F_moved (PySem.W.mg_of X G a_moved)
  have c_cycles := ok_cycles (P := l.prog) (w := w) (base := base) c_checked_rows c_check_word c_cycle_lengths c_moved_of b_tuple F_cycles (PySem.W.mg_of X G a_cycles)
  have c_is_transitive := ok_is_transitive (P := l.prog) (w := w) (base := base) c_checked_rows c_met_from b_len F_is_transitive (PySem.W.mg_of X G a_is_transitive)
  have c__law_next := ok__law_next (P := l.prog) (w := w) (base := base) b_len b_int F__law_next (PySem.W.mg_of X G a__law_next)
  have c__law_like := ok__law_like (P := l.prog) (w := w) (base := base) b_isinstance b_list b_tuple b_len b_range b_all b_bool b_str b_int F__law_like (PySem.W.mg_of X G a__law_like) 10
  have c__law_word := ok__law_word (P := l.prog) (w := w) (base := base) c__law_next b_range F__law_word (PySem.W.mg_of X G a__law_word)
  have c__law_permutation := ok__law_permutation (P := l.prog) (w := w) (base := base) c__law_next b_range b_tuple F__law_permutation (PySem.W.mg_of X G a__law_permutation)
  have c__law_table := ok__law_table (P := l.prog) (w := w) (base := base) c__law_permutation b_range b_tuple F__law_table (PySem.W.mg_of X G a__law_table)
  have c__law_at := ok__law_at (P := l.prog) (w := w) (base := base) F__law_at (PySem.W.mg_of X G a__law_at)
  have c__law_moved := ok__law_moved (P := l.prog) (w := w) (base := base) c__law_at b_len b_range b_tuple F__law_moved (PySem.W.mg_of X G a__law_moved)
  have c__law_rounds := ok__law_rounds (P := l.prog) (w := w) (base := base) b_list b_len b_range b_sorted b_tuple F__law_rounds (PySem.W.mg_of X G a__law_rounds)
  have c__law_reach := ok__law_reach (P := l.prog) (w := w) (base := base) b_len b_range b_set b_sorted F__law_reach (PySem.W.mg_of X G a__law_reach)
  have c__law_bent := ok__law_bent (P := l.prog) (w := w) (base := base) c__law_next b_len b_list F__law_bent (PySem.W.mg_of X G a__law_bent)
  have c_law := ok_law (P := l.prog) (w := w) (base := base) c__law_next c__law_word c__law_table c_is_table c__law_bent c__law_like c__law_moved c_moved c__law_rounds c_cycles c__law_reach c_is_transitive b_list b_range b_tuple b_int F_law (PySem.W.mg_of X G a_law)
  exact c_law.fnOk F_law (PySem.W.mg_of X G a_law)
end LK
open PySem PySem.W PyProof.Rows
set_option maxRecDepth 100000 in
set_option maxHeartbeats 0 in
theorem PySem.Challenge.cw_wholefree_k73_tables_and_words_holds : PySem.Challenge.rw_wholefree_k73_tables_and_words.Holds := by
  w_on; o_law; k_head; (case hw => w_witness2)
  k_fill
  refine L2.walk_of (l := PySem.Challenge.rw_wholefree_k73_tables_and_words) (n := 63) (k := 12) (x := "script") (CX := fun _ => L2.CX0) (sp := fun w => Rf.spLaw ⟨_, PySem.Challenge.rw_wholefree_k73_tables_and_words.prog, w⟩ LK.m_law) rfl (by decide) rfl ⟨rfl, by decide, by decide⟩ (fun w h Y => PySem.W.kIn_of Y) ?F (fun _ H a ns hl hO hS => Rf.spLaw_ok (K := ⟨_, PySem.Challenge.rw_wholefree_k73_tables_and_words.prog, _⟩) LK.law_true hl hO hS) (fun _ _ _ _ _ h => h)
  case F =>
    intro w mg fa h KX G hmg
    refine' LK.all_mk KX G hmg ?a_is_integer ?l_is_integer ?e_is_integer ?k_is_integer ?a_is_natural ?l_is_natural ?e_is_natural ?k_is_natural ?a_is_size ?l_is_size ?e_is_size ?k_is_size ?a_check_size ?l_check_size ?e_check_size ?k_check_size ?a_is_word_of ?l_is_word_of ?e_is_word_of ?k_is_word_of ?a_check_word ?l_check_word ?e_check_word ?k_check_word ?a_signs_of ?l_signs_of ?e_signs_of ?k_signs_of ?a_met_from ?l_met_from ?e_met_from ?k_met_from ?a_is_permutation ?l_is_permutation ?e_is_permutation ?k_is_permutation ?a_is_table_of ?l_is_table_of ?e_is_table_of ?k_is_table_of ?a_check_table ?l_check_table ?e_check_table ?k_check_table ?a_table_rows ?l_table_rows ?e_table_rows ?k_table_rows ?a_walked ?l_walked ?e_walked ?k_walked ?a_moved_of ?l_moved_of ?e_moved_of ?k_moved_of ?a_cycle_lengths ?l_cycle_lengths ?e_cycle_lengths ?k_cycle_lengths ?a_checked_rows ?l_checked_rows ?e_checked_rows ?k_checked_rows ?a_is_table ?l_is_table ?e_is_table ?k_is_table ?a_moved ?l_moved ?e_moved ?k_moved ?a_cycles ?l_cycles ?e_cycles ?k_cycles ?a_is_transitive ?l_is_transitive ?e_is_transitive ?k_is_transitive ?a__law_next ?l__law_next ?e__law_next ?k__law_next ?a__law_like ?l__law_like ?e__law_like ?k__law_like ?a__law_word ?l__law_word ?e__law_word ?k__law_word ?a__law_permutation ?l__law_permutation ?e__law_permutation ?k__law_permutation ?a__law_table ?l__law_table ?e__law_table ?k__law_table ?a__law_at ?l__law_at ?e__law_at ?k__law_at ?a__law_moved ?l__law_moved ?e__law_moved ?k__law_moved ?a__law_rounds ?l__law_rounds ?e__law_rounds ?k__law_rounds ?a__law_reach ?l__law_reach ?e__law_reach ?k__law_reach ?a__law_bent ?l__law_bent ?e__law_bent ?k__law_bent ?a_law ?l_law ?e_law ?k_law ?z_isinstance ?z_int ?z_bool ?z_len ?z_str ?z_all ?z_tuple ?z_sorted ?z_range ?z_list ?z_zip ?z_enumerate ?z_set ?z_ALPHABET
    (case a_is_integer => k_is); (case l_is_integer => k_is); (case e_is_integer => k_is); (case k_is_integer => k_is); (case a_is_natural => k_is); (case l_is_natural => k_is); (case e_is_natural => k_is); (case k_is_natural => k_is); (case a_is_size => k_is); (case l_is_size => k_is); (case e_is_size => k_is); (case k_is_size => k_is); (case a_check_size => k_is); (case l_check_size => k_is); (case e_check_size => k_is); (case k_check_size => k_is); (case a_is_word_of => k_is); (case l_is_word_of => k_is); (case e_is_word_of => k_is); (case k_is_word_of => k_is); (case a_check_word => k_is); (case l_check_word => k_is); (case e_check_word => k_is); (case k_check_word => k_is); (case a_signs_of => k_is); (case l_signs_of => k_is); (case e_signs_of => k_is); (case k_signs_of => k_is); (case a_met_from => k_is); (case l_met_from => k_is); (case e_met_from => k_is); (case k_met_from => k_is); (case a_is_permutation => k_is); (case l_is_permutation => k_is); (case e_is_permutation => k_is); (case k_is_permutation => k_is); (case a_is_table_of => k_is); (case l_is_table_of => k_is); (case e_is_table_of => k_is); (case k_is_table_of => k_is); (case a_check_table => k_is); (case l_check_table => k_is); (case e_check_table => k_is); (case k_check_table => k_is); (case a_table_rows => k_is); (case l_table_rows => k_is); (case e_table_rows => k_is); (case k_table_rows => k_is); (case a_walked => k_is); (case l_walked => k_is); (case e_walked => k_is); (case k_walked => k_is); (case a_moved_of => k_is); (case l_moved_of => k_is); (case e_moved_of => k_is); (case k_moved_of => k_is); (case a_cycle_lengths => k_is); (case l_cycle_lengths => k_is); (case e_cycle_lengths => k_is); (case k_cycle_lengths => k_is); (case a_checked_rows => k_is); (case l_checked_rows => k_is); (case e_checked_rows => k_is); (case k_checked_rows => k_is); (case a_is_table => k_is); (case l_is_table => k_is); (case e_is_table => k_is); (case k_is_table => k_is); (case a_moved => k_is); (case l_moved => k_is); (case e_moved => k_is); (case k_moved => k_is); (case a_cycles => k_is); (case l_cycles => k_is); (case e_cycles => k_is); (case k_cycles => k_is); (case a_is_transitive => k_is); (case l_is_transitive => k_is); (case e_is_transitive => k_is); (case k_is_transitive => k_is); (case a__law_next => k_is); (case l__law_next => k_is); (case e__law_next => k_is); (case k__law_next => k_is); (case a__law_like => k_is); (case l__law_like => k_is); (case e__law_like => k_is); (case k__law_like => k_is); (case a__law_word => k_is); (case l__law_word => k_is); (case e__law_word => k_is); (case k__law_word => k_is); (case a__law_permutation => k_is); (case l__law_permutation => k_is); (case e__law_permutation => k_is); (case k__law_permutation => k_is); (case a__law_table => k_is); (case l__law_table => k_is); (case e__law_table => k_is); (case k__law_table => k_is); (case a__law_at => k_is); (case l__law_at => k_is); (case e__law_at => k_is); (case k__law_at => k_is); (case a__law_moved => k_is); (case l__law_moved => k_is); (case e__law_moved => k_is); (case k__law_moved => k_is); (case a__law_rounds => k_is); (case l__law_rounds => k_is); (case e__law_rounds => k_is); (case k__law_rounds => k_is); (case a__law_reach => k_is); (case l__law_reach => k_is); (case e__law_reach => k_is); (case k__law_reach => k_is); (case a__law_bent => k_is); (case l__law_bent => k_is); (case e__law_bent => k_is); (case k__law_bent => k_is); (case a_law => k_is); (case l_law => k_is); (case e_law => k_is); (case k_law => k_is); (case z_isinstance => k_is); (case z_int => k_is); (case z_bool => k_is); (case z_len => k_is); (case z_str => k_is); (case z_all => k_is); (case z_tuple => k_is); (case z_sorted => k_is); (case z_range => k_is); (case z_list => k_is); (case z_zip => k_is); (case z_enumerate => k_is); (case z_set => k_is); (case z_ALPHABET => k_is)
