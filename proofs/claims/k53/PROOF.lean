import PyProof.Rows.All
import Wide.All
import OpenK.AllK
import Wide.FinOn
import HandS.ForMost
import HandS.Deep
import HandS.TupAny
import HandS.IsInst
import HandS.Conv
import HandS.DictTup
import HandS.TupSets
import HandS.Strs
import HandS.TupLen
import HandS.SetFor
import KE.DataFind
import KE.SortData
import HandS.Style
import KE.KDictCopyH
import KE.KDictList
import HandS.Defaults
import HandS.Head0
import HandS.Head1
import HandS.Head2
import HandS.HeadEnd
import HandS.HeadHook1
import HandS.HeadHook2
import PyProof.ReprLen
import KE.KStateDown
import PySem.Challenge.RW_ledtoone_k53_whole_shift_machines
set_option Elab.async false
set_option linter.all false
set_option maxRecDepth 100000
/-! Vm, part A: values, cells, results, and how they stand in the abstract heap. -/
namespace Vm
open PySem PySem.Spec PyProof.Rows L2

/-! ### values and cells -/
inductive U where
  | d (x : PyData)
  | p (k : Nat)
inductive Cell where
  | dead
  | scr (ns : List Int)
  | frz (x : PyData)
  | lst (us : List U)
  | dK (kvs : List (Key × U))
  | dT (kvs : List (List Key × U))
abbrev Mu := List Cell
structure Exc where
  cls : Str
  arg : Option PyData
inductive R (α : Type) where
  | ok (a : α) (μ : Mu)
  | ex (e : Exc) (μ : Mu)
  | stuck
def R.bind {α β : Type} (r : R α) (f : α → Mu → R β) : R β := match r with
  | .ok a μ => f a μ
  | .ex e μ => .ex e μ
  | .stuck => .stuck
@[simp] theorem R.bind_ok {α β : Type} (a : α) (μ : Mu) (f : α → Mu → R β) : (R.ok a μ).bind f = f a μ := rfl
@[simp] theorem R.bind_ex {α β : Type} (e : Exc) (μ : Mu) (f : α → Mu → R β) : (R.ex e μ : R α).bind f = .ex e μ := rfl
@[simp] theorem R.bind_stuck {α β : Type} (f : α → Mu → R β) : (R.stuck : R α).bind f = .stuck := rfl
abbrev Rho := List (Option U)
inductive SR where
  | nx (ρ : Rho) (μ : Mu)
  | rt (u : U) (μ : Mu)
  | bk (ρ : Rho) (μ : Mu)
  | ct (ρ : Rho) (μ : Mu)
  | ex (e : Exc) (μ : Mu)
  | stuck

/-! ### data in the abstract heap -/
mutual
inductive Dd (F : Hp) : V → PyData → Prop
  | non : Dd F .non .none
  | bl (b : Bool) : Dd F (.bl b) (.bool b)
  | int (i : Int) : Dd F (.int i) (.int i)
  | str (x : Str) : Dd F (.str x) (.str x)
  | lst {a : Addr} {xs : List V} {ds : List PyData} : F a = some (.lst xs) → DdAll F xs ds → Dd F (.ref a) (.list ds)
  | tup {a : Addr} {xs : List V} {ds : List PyData} : F a = some (.tup xs) → DdAll F xs ds → Dd F (.ref a) (.tuple ds)
inductive DdAll (F : Hp) : List V → List PyData → Prop
  | nil : DdAll F [] []
  | cons {v : V} {vs : List V} {d : PyData} {ds : List PyData} : Dd F v d → DdAll F vs ds → DdAll F (v :: vs) (d :: ds)
end
/-- one heap within another -/
def Le (F F' : Hp) : Prop := ∀ a o, F a = some o → F' a = some o
theorem Le.refl (F : Hp) : Le F F := fun _ _ h => h
theorem Le.trans {F F1 F2 : Hp} (a : Le F F1) (b : Le F1 F2) : Le F F2 := fun c o h => b c o (a c o h)
mutual
theorem Dd.mono {F F' : Hp} (l : Le F F') : ∀ {v : V} {d : PyData}, Dd F v d → Dd F' v d
  | _, _, .non => .non
  | _, _, .bl b => .bl b
  | _, _, .int i => .int i
  | _, _, .str x => .str x
  | _, _, .lst h a => .lst (l _ _ h) (DdAll.mono l a)
  | _, _, .tup h a => .tup (l _ _ h) (DdAll.mono l a)
theorem DdAll.mono {F F' : Hp} (l : Le F F') : ∀ {vs : List V} {ds : List PyData}, DdAll F vs ds → DdAll F' vs ds
  | _, _, .nil => .nil
  | _, _, .cons h t => .cons (Dd.mono l h) (DdAll.mono l t)
end
mutual
theorem Dd.dp {K : PySem.W.Frag} {F : Hp} : ∀ {v : V} {d : PyData}, Dd F v d → Dp K F v d
  | _, _, .non => .non
  | _, _, .bl b => .bl b
  | _, _, .int i => .int i
  | _, _, .str x => .str x
  | _, _, .lst h a => .lst (SqL.of h) (DdAll.dp a)
  | _, _, .tup h a => .tup (SqT.of h) (DdAll.dp a)
theorem DdAll.dp {K : PySem.W.Frag} {F : Hp} : ∀ {vs : List V} {ds : List PyData}, DdAll F vs ds → DpAll K F vs ds
  | _, _, .nil => .nil
  | _, _, .cons h t => .cons (Dd.dp h) (DdAll.dp t)
end
theorem DdAll.length {F : Hp} : ∀ {vs : List V} {ds : List PyData}, DdAll F vs ds → vs.length = ds.length
  | _, _, .nil => rfl
  | _, _, .cons _ t => by simp [DdAll.length t]

/-- a value -/
def RelU (F : Hp) (Θ : List Addr) : U → V → Prop
  | .d x, v => Dd F v x
  | .p k, v => ∃ a, Θ[k]? = some a ∧ v = .ref a
abbrev RelL (F : Hp) (Θ : List Addr) : List U → List V → Prop := Paired (RelU F Θ)
def RelKV {κ : Type} (F : Hp) (Θ : List Addr) : List (κ × U) → List (κ × V) → Prop := Paired fun p q => p.1 = q.1 ∧ RelU F Θ p.2 q.2
/-- what has become of the known part and of the pointers -/
structure Ext (F : Hp) (Θ : List Addr) (F' : Hp) (Θ' : List Addr) : Prop where
  le : Le F F'
  pre : Θ <+: Θ'
theorem Ext.refl (F : Hp) (Θ : List Addr) : Ext F Θ F Θ := ⟨Le.refl F, List.prefix_refl Θ⟩
theorem Ext.trans {F F1 F2 : Hp} {Θ Θ1 Θ2 : List Addr} (a : Ext F Θ F1 Θ1) (b : Ext F1 Θ1 F2 Θ2) : Ext F Θ F2 Θ2 := ⟨a.le.trans b.le, a.pre.trans b.pre⟩
theorem pre_get {Θ Θ' : List Addr} (h : Θ <+: Θ') {k : Nat} {a : Addr} (e : Θ[k]? = some a) : Θ'[k]? = some a := by
  obtain ⟨t, rfl⟩ := h
  rw [List.getElem?_append_left (List.getElem?_eq_some_iff.mp e).1]
  exact e
theorem RelU.mono {F F' : Hp} {Θ Θ' : List Addr} (x : Ext F Θ F' Θ') : ∀ {u : U} {v : V}, RelU F Θ u v → RelU F' Θ' u v
  | .d _, _, h => Dd.mono x.le h
  | .p _, _, ⟨a, e, r⟩ => ⟨a, pre_get x.pre e, r⟩
theorem paired_imp {α β : Type} {P Q : α → β → Prop} (h : ∀ a b, P a b → Q a b) : ∀ {xs : List α} {ys : List β}, Paired P xs ys → Paired Q xs ys
  | _, _, .nil => .nil
  | _, _, .cons a t => .cons (h _ _ a) (paired_imp h t)
theorem paired_get {α β : Type} {P : α → β → Prop} : ∀ {xs : List α} {ys : List β} {i : Nat} {a : α}, Paired P xs ys → xs[i]? = some a → ∃ b, ys[i]? = some b ∧ P a b
  | _, _, _, _, .nil, e => by simp at e
  | _, _, 0, _, .cons r _, e => by simp at e; subst e; exact ⟨_, rfl, r⟩
  | _, _, i + 1, a, .cons _ t, e => by
    obtain ⟨b, h1, h2⟩ := paired_get (i := i) (a := a) t (by simpa using e)
    exact ⟨b, by simpa using h1, h2⟩
theorem paired_len {α β : Type} {P : α → β → Prop} : ∀ {xs : List α} {ys : List β}, Paired P xs ys → xs.length = ys.length
  | _, _, .nil => rfl
  | _, _, .cons _ t => by simp [paired_len t]
theorem paired_app {α β : Type} {P : α → β → Prop} : ∀ {xs xs' : List α} {ys ys' : List β}, Paired P xs ys → Paired P xs' ys' → Paired P (xs ++ xs') (ys ++ ys')
  | _, _, _, _, .nil, h => h
  | _, _, _, _, .cons r t, h => .cons r (paired_app t h)
theorem paired_take {α β : Type} {P : α → β → Prop} : ∀ {xs : List α} {ys : List β} (n : Nat), Paired P xs ys → Paired P (xs.take n) (ys.take n)
  | _, _, 0, _ => .nil
  | _, _, _ + 1, .nil => .nil
  | _, _, n + 1, .cons r t => .cons r (paired_take n t)
theorem paired_drop {α β : Type} {P : α → β → Prop} : ∀ {xs : List α} {ys : List β} (n : Nat), Paired P xs ys → Paired P (xs.drop n) (ys.drop n)
  | _, _, 0, r => r
  | _, _, _ + 1, .nil => .nil
  | _, _, n + 1, .cons _ t => paired_drop n t
theorem paired_set {α β : Type} {P : α → β → Prop} {a : α} {b : β} (r : P a b) : ∀ {xs : List α} {ys : List β} (i : Nat), Paired P xs ys → Paired P (xs.set i a) (ys.set i b)
  | _, _, _, .nil => .nil
  | _, _, 0, .cons _ t => .cons r t
  | _, _, i + 1, .cons q t => .cons q (paired_set r i t)
theorem paired_erase {α β : Type} {P : α → β → Prop} : ∀ {xs : List α} {ys : List β} (i : Nat), Paired P xs ys → Paired P (xs.eraseIdx i) (ys.eraseIdx i)
  | _, _, _, .nil => .nil
  | _, _, 0, .cons _ t => t
  | _, _, i + 1, .cons q t => .cons q (paired_erase i t)
theorem paired_dropLast {α β : Type} {P : α → β → Prop} {xs : List α} {ys : List β} (h : Paired P xs ys) : Paired P xs.dropLast ys.dropLast := by
  rw [List.dropLast_eq_take, List.dropLast_eq_take, ← paired_len h]
  exact paired_take _ h
theorem paired_rev {α β : Type} {P : α → β → Prop} : ∀ {xs : List α} {ys : List β}, Paired P xs ys → Paired P xs.reverse ys.reverse
  | _, _, .nil => .nil
  | _, _, .cons r t => by
    rw [List.reverse_cons, List.reverse_cons]
    exact paired_app (paired_rev t) (.cons r .nil)
theorem RelL.mono {F F' : Hp} {Θ Θ' : List Addr} (x : Ext F Θ F' Θ') {us : List U} {vs : List V} (h : RelL F Θ us vs) : RelL F' Θ' us vs := paired_imp (fun _ _ r => r.mono x) h
theorem RelKV.mono {κ : Type} {F F' : Hp} {Θ Θ' : List Addr} (x : Ext F Θ F' Θ') {us : List (κ × U)} {vs : List (κ × V)} (h : RelKV F Θ us vs) : RelKV F' Θ' us vs := paired_imp (fun _ _ r => ⟨r.1, r.2.mono x⟩) h
theorem DdAll.rel {F : Hp} {Θ : List Addr} : ∀ {vs : List V} {ds : List PyData}, DdAll F vs ds → RelL F Θ (ds.map .d) vs
  | _, _, .nil => .nil
  | _, _, .cons h t => .cons h (DdAll.rel t)
theorem RelL.dd {F : Hp} {Θ : List Addr} : ∀ {ds : List PyData} {vs : List V}, RelL F Θ (ds.map .d) vs → DdAll F vs ds
  | [], _, .nil => .nil
  | _ :: _, _, .cons h t => .cons h (RelL.dd t)

/-- a cell that may be written -/
def Cell.live : Cell → Bool
  | .dead | .frz _ | .scr _ => false
  | _ => true
/-- what stands around: the written part, and what is tracked but known to nobody here (a list that a comprehension is making) -/
structure Bg where
  K : PySem.W.Frag
  G : Hp
/-- the script: locked, or an object of the module -/
def ScrRel (K : PySem.W.Frag) (H : Hp) (a : Addr) (ns : List Int) : Prop := (∃ o, H a = some (.frz o (.lst (ns.map V.int)))) ∨ ∀ H', SqL K H' a (ns.map V.int)
/-- a cell, at its address -/
def CellRel (B : Bg) (F : Hp) (Θ : List Addr) (H : Hp) (a : Addr) : Cell → Prop
  | .dead => True
  | .scr ns => ScrRel B.K H a ns
  | .frz x => Dd F (.ref a) x
  | .lst us => F a = none ∧ ∃ xs, H a = some (.lst xs) ∧ RelL F Θ us xs
  | .dK kvs => F a = none ∧ ∃ ws, H a = some (.dK ws) ∧ RelKV F Θ kvs ws
  | .dT kvs => F a = none ∧ ∃ ws, H a = some (.dT ws) ∧ RelKV F Θ kvs ws
structure Ok (B : Bg) (F : Hp) (Θ : List Addr) (μ : Mu) (H : Hp) : Prop where
  le : Le F H
  hid : ∀ a o, B.G a = some o → H a = some o ∧ F a = none ∧ ∀ (k : Nat) (c : Cell), Θ[k]? = some a → μ[k]? = some c → c.live = false
  len : Θ.length = μ.length
  inj : ∀ (i j : Nat) (a : Addr) (c c' : Cell), Θ[i]? = some a → Θ[j]? = some a → μ[i]? = some c → μ[j]? = some c' → c.live = true → c'.live = true → i = j
  cell : ∀ (k : Nat) (c : Cell) (a : Addr), μ[k]? = some c → Θ[k]? = some a → CellRel B F Θ H a c
/-- the slots -/
structure RelS (F : Hp) (Θ : List Addr) (ρ : Rho) (σ : L2.St) : Prop where
  len : ρ.length = σ.length
  get : ∀ (i : Nat) (u : U), ρ[i]? = some (some u) → ∃ v, σ[i]? = some (some v) ∧ RelU F Θ u v
theorem RelS.mono {F F' : Hp} {Θ Θ' : List Addr} (x : Ext F Θ F' Θ') {ρ : Rho} {σ : L2.St} (h : RelS F Θ ρ σ) : RelS F' Θ' ρ σ :=
  ⟨h.len, fun i u e => let ⟨v, e', r⟩ := h.get i u e; ⟨v, e', r.mono x⟩⟩
theorem RelS.set {F : Hp} {Θ : List Addr} {ρ : Rho} {σ : L2.St} {u : U} {v : V} (h : RelS F Θ ρ σ) (r : RelU F Θ u v) (i : Nat) : RelS F Θ (ρ.set i (some u)) (σ.set i (some v)) := by
  refine ⟨by simp [h.len], fun j w e => ?_⟩
  by_cases hj : i = j
  · subst hj
    by_cases hi : i < ρ.length
    · rw [List.getElem?_set_self hi] at e
      cases e
      exact ⟨v, List.getElem?_set_self (by rw [← h.len]; exact hi), r⟩
    · rw [List.getElem?_eq_none (by simpa using hi)] at e
      cases e
  · rw [List.getElem?_set_ne hj] at e ⊢
    exact h.get j w e

/-! ### how the heap grows -/
def unfrz : HO → Prop
  | .frz _ _ => False
  | _ => True
section
variable {B : Bg} {F H : Hp} {Θ : List Addr} {μ : Mu}
theorem Ok.fresh (o : Ok B F Θ μ H) {p : Addr} (hp : H p = none) : F p = none := by
  cases e : F p with
  | none => rfl
  | some x => rw [o.le p x e] at hp; cases hp
theorem Ok.freshG (o : Ok B F Θ μ H) {p : Addr} (hp : H p = none) : B.G p = none := by
  cases e : B.G p with
  | none => rfl
  | some x => rw [(o.hid p x e).1] at hp; cases hp
theorem live_at {a : Addr} {c : Cell} (h : CellRel B F Θ H a c) (l : c.live = true) : F a = none ∧ ∃ x, H a = some x ∧ unfrz x := by
  cases c with
  | dead => cases l
  | scr _ => cases l
  | frz x => cases l
  | lst us => obtain ⟨h, xs, e, _⟩ := h; exact ⟨h, _, e, trivial⟩
  | dK kvs => obtain ⟨h, xs, e, _⟩ := h; exact ⟨h, _, e, trivial⟩
  | dT kvs => obtain ⟨h, xs, e, _⟩ := h; exact ⟨h, _, e, trivial⟩
theorem CellRel.move {B' : Bg} {F' H' : Hp} {Θ' : List Addr} {a : Addr} {c : Cell} (h : CellRel B F Θ H a c) (hB : B'.K = B.K) (x : Ext F Θ F' Θ') (hf : c.live = true → F' a = none) (hh : c.live = true → H' a = H a)
    (hz : ∀ o u, H a = some (.frz o u) → H' a = some (.frz o u)) : CellRel B' F' Θ' H' a c := by
  cases c with
  | dead => trivial
  | scr ns =>
    rcases h with ⟨o, h⟩ | h
    · exact .inl ⟨o, hz o _ h⟩
    · refine .inr fun H2 => ?_
      rw [hB]
      exact h H2
  | frz d => exact Dd.mono x.le h
  | lst us => obtain ⟨_, xs, e, r⟩ := h; exact ⟨hf rfl, xs, (hh rfl).trans e, r.mono x⟩
  | dK us => obtain ⟨_, xs, e, r⟩ := h; exact ⟨hf rfl, xs, (hh rfl).trans e, r.mono x⟩
  | dT us => obtain ⟨_, xs, e, r⟩ := h; exact ⟨hf rfl, xs, (hh rfl).trans e, r.mono x⟩
/-- a new object, known from now on -/
theorem Ok.known (o : Ok B F Θ μ H) {p : Addr} {x : HO} (hp : H p = none) : Ok B (upd F p x) Θ μ (upd H p x) ∧ Ext F Θ (upd F p x) Θ := by
  have fp := o.fresh hp
  have ex : Ext F Θ (upd F p x) Θ := ⟨fun a y e => by rw [upd_ne (by rintro rfl; rw [fp] at e; cases e)]; exact e, List.prefix_refl _⟩
  refine ⟨⟨fun a y e => ?_, fun a y e => ?_, o.len, o.inj, fun k c a e1 e2 => ?_⟩, ex⟩
  · by_cases h : a = p
    · subst h; rw [upd_same] at e ⊢; exact e
    · rw [upd_ne h] at e ⊢; exact o.le a y e
  · obtain ⟨h1, h2, h3⟩ := o.hid a y e
    have ne : a ≠ p := by rintro rfl; rw [hp] at h1; cases h1
    rw [upd_ne ne, upd_ne ne]
    exact ⟨h1, h2, h3⟩
  · have q := o.cell k c a e1 e2
    refine q.move rfl ex (fun l => ?_) (fun l => ?_) fun ob u z => ?_
    · obtain ⟨h1, y, h2, _⟩ := live_at q l
      rw [upd_ne (by rintro rfl; rw [hp] at h2; cases h2)]; exact h1
    · obtain ⟨h1, y, h2, _⟩ := live_at q l
      rw [upd_ne (by rintro rfl; rw [hp] at h2; cases h2)]
    · rw [upd_ne (by rintro rfl; rw [hp] at z; cases z)]; exact z
/-- a new object, a cell -/
theorem Ok.alloc (o : Ok B F Θ μ H) {p : Addr} {x : HO} {c : Cell} (hp : H p = none) (hc : CellRel B F (Θ ++ [p]) (upd H p x) p c) : Ok B F (Θ ++ [p]) (μ ++ [c]) (upd H p x) ∧ Ext F Θ F (Θ ++ [p]) := by
  have ex : Ext F Θ F (Θ ++ [p]) := ⟨Le.refl F, ⟨[p], rfl⟩⟩
  have new : ∀ (i : Nat) (a : Addr) (c' : Cell), (Θ ++ [p])[i]? = some a → (μ ++ [c])[i]? = some c' → (i < μ.length ∧ Θ[i]? = some a ∧ μ[i]? = some c') ∨ (i = μ.length ∧ a = p ∧ c' = c) := fun i a c' e1 e2 => by
    by_cases h : i < μ.length
    · rw [List.getElem?_append_left (by rw [o.len]; exact h)] at e1
      rw [List.getElem?_append_left h] at e2
      exact .inl ⟨h, e1, e2⟩
    · have hi : i = μ.length := by
        have := (List.getElem?_eq_some_iff.mp e2).1
        simp at this; omega
      subst hi
      rw [← o.len, List.getElem?_append_right (Nat.le_refl _)] at e1
      rw [List.getElem?_append_right (Nat.le_refl _)] at e2
      simp at e1 e2
      exact .inr ⟨rfl, e1.symm, e2.symm⟩
  refine ⟨⟨fun a y e => ?_, fun a y e => ?_, by simp [o.len], fun i j a c1 c2 e1 e2 e3 e4 l1 l2 => ?_, fun k c' a e1 e2 => ?_⟩, ex⟩
  · rw [upd_ne (by rintro rfl; rw [o.fresh hp] at e; cases e)]; exact o.le a y e
  · obtain ⟨h1, h2, h3⟩ := o.hid a y e
    have ne : a ≠ p := by rintro rfl; rw [hp] at h1; cases h1
    rw [upd_ne ne]
    refine ⟨h1, h2, fun k c' e1 e2 => ?_⟩
    rcases new k a c' e1 e2 with ⟨_, a1, a2⟩ | ⟨_, a1, _⟩
    · exact h3 k c' a1 a2
    · exact absurd a1 ne
  · rcases new i a c1 e1 e3 with ⟨_, a1, a2⟩ | ⟨i1, rfl, _⟩ <;> rcases new j _ c2 e2 e4 with ⟨_, b1, b2⟩ | ⟨j1, b2, _⟩
    · exact o.inj i j a c1 c2 a1 b1 a2 b2 l1 l2
    · subst b2
      obtain ⟨_, y, h, _⟩ := live_at (o.cell i c1 _ a2 a1) l1
      rw [hp] at h; cases h
    · obtain ⟨_, y, h, _⟩ := live_at (o.cell j c2 _ b2 b1) l2
      rw [hp] at h; cases h
    · omega
  · rcases new k a c' e2 e1 with ⟨_, a1, a2⟩ | ⟨_, rfl, rfl⟩
    · have q := o.cell k c' a a2 a1
      refine q.move rfl ex (fun l => (live_at q l).1) (fun l => ?_) fun ob u z => ?_
      · obtain ⟨h1, y, h2, _⟩ := live_at q l
        rw [upd_ne (by rintro rfl; rw [hp] at h2; cases h2)]
      · rw [upd_ne (by rintro rfl; rw [hp] at z; cases z)]; exact z
    · exact hc
theorem Ok.ptr (o : Ok B F Θ μ H) {p : Addr} : (Θ ++ [p])[μ.length]? = some p := by
  rw [← o.len, List.getElem?_append_right (Nat.le_refl _)]; simp
/-- a live cell is written -/
theorem Ok.write (o : Ok B F Θ μ H) {k : Nat} {a : Addr} {c c' : Cell} {x : HO} (hk : μ[k]? = some c) (ha : Θ[k]? = some a) (l : c.live = true) (hc : CellRel B F Θ (upd H a x) a c') : Ok B F Θ (μ.set k c') (upd H a x) := by
  have q := o.cell k c a hk ha
  obtain ⟨fa, y, hy, uy⟩ := live_at q l
  have hk' : k < μ.length := (List.getElem?_eq_some_iff.mp hk).1
  have look : ∀ {i : Nat} {c1 : Cell}, (μ.set k c')[i]? = some c1 → (i = k ∧ c1 = c') ∨ (i ≠ k ∧ μ[i]? = some c1) := fun {i c1} e => by
    by_cases h : k = i
    · subst h; rw [List.getElem?_set_self hk'] at e; exact .inl ⟨rfl, (Option.some.inj e).symm⟩
    · rw [List.getElem?_set_ne h] at e; exact .inr ⟨fun z => h z.symm, e⟩
  refine ⟨fun b z e => ?_, fun b z e => ?_, by simp [o.len], fun i j b c1 c2 e1 e2 e3 e4 l1 l2 => ?_, fun i c1 b e1 e2 => ?_⟩
  · rw [upd_ne (by rintro rfl; rw [fa] at e; cases e)]; exact o.le b z e
  · obtain ⟨h1, h2, h3⟩ := o.hid b z e
    have ne : b ≠ a := by
      intro w
      rw [w] at h3
      rw [h3 k c ha hk] at l
      cases l
    rw [upd_ne ne]
    refine ⟨h1, h2, fun i c1 e1 e2 => ?_⟩
    rcases look e2 with ⟨hi, _⟩ | ⟨_, e2⟩
    · rw [hi, ha] at e1; exact absurd (Option.some.inj e1).symm ne
    · exact h3 i c1 e1 e2
  · rcases look e3 with ⟨hi, _⟩ | ⟨_, h3⟩ <;> rcases look e4 with ⟨hj, _⟩ | ⟨_, h4⟩
    · rw [hi, hj]
    · rw [hi] at e1 ⊢; exact o.inj k j b _ _ e1 e2 hk h4 l l2
    · rw [hj] at e2 ⊢; exact o.inj i k b _ _ e1 e2 h3 hk l1 l
    · exact o.inj _ _ b _ _ e1 e2 h3 h4 l1 l2
  · rcases look e1 with ⟨rfl, rfl⟩ | ⟨ne, e1⟩
    · rw [ha] at e2; cases e2; exact hc
    · have q1 := o.cell i c1 b e1 e2
      refine q1.move rfl (Ext.refl F Θ) (fun l1 => (live_at q1 l1).1) (fun l1 => ?_) fun ob u z => ?_
      · rw [upd_ne (by rintro rfl; exact ne (o.inj i k b c1 c e2 ha e1 hk l1 l))]
      · rw [upd_ne (by rintro rfl; rw [hy] at z; cases z; exact uy)]; exact z
/-- a live cell of data is frozen -/
theorem Ok.freeze (o : Ok B F Θ μ H) {k : Nat} {a : Addr} {ds : List PyData} (hk : μ[k]? = some (.lst (ds.map .d))) (ha : Θ[k]? = some a) :
    ∃ F', Ext F Θ F' Θ ∧ Ok B F' Θ (μ.set k (.frz (.list ds))) H ∧ Dd F' (.ref a) (.list ds) := by
  obtain ⟨fa, xs, hx, r⟩ := o.cell k _ a hk ha
  have hk' : k < μ.length := (List.getElem?_eq_some_iff.mp hk).1
  have ex : Ext F Θ (upd F a (.lst xs)) Θ := ⟨fun b y e => by rw [upd_ne (by rintro rfl; rw [fa] at e; cases e)]; exact e, List.prefix_refl _⟩
  have dd : Dd (upd F a (.lst xs)) (.ref a) (.list ds) := .lst upd_same (DdAll.mono ex.le r.dd)
  have look : ∀ {i : Nat} {c1 : Cell}, (μ.set k (.frz (.list ds)))[i]? = some c1 → c1.live = true → μ[i]? = some c1 := fun {i c1} e l => by
    by_cases h : k = i
    · subst h; rw [List.getElem?_set_self hk'] at e; cases e; cases l
    · rw [List.getElem?_set_ne h] at e; exact e
  refine ⟨_, ex, ⟨fun b y e => ?_, fun b y e => ?_, by simp [o.len], fun i j b c1 c2 e1 e2 e3 e4 l1 l2 => ?_, fun i c1 b e1 e2 => ?_⟩, dd⟩
  · by_cases h : b = a
    · subst h; rw [upd_same] at e; cases e; exact hx
    · rw [upd_ne h] at e; exact o.le b y e
  · obtain ⟨h1, h2, h3⟩ := o.hid b y e
    have ne : b ≠ a := by
      intro w
      rw [w] at h3
      have := h3 k _ ha hk
      cases this
    rw [upd_ne ne]
    refine ⟨h1, h2, fun i c1 e1 e2 => ?_⟩
    cases hl : c1.live with
    | false => rfl
    | true => rw [← hl]; exact h3 i c1 e1 (look e2 hl)
  · exact o.inj i j b c1 c2 e1 e2 (look e3 l1) (look e4 l2) l1 l2
  · by_cases h : k = i
    · subst h
      rw [List.getElem?_set_self hk'] at e1; cases e1
      rw [ha] at e2; cases e2
      exact dd
    · rw [List.getElem?_set_ne h] at e1
      have q1 := o.cell i c1 b e1 e2
      refine q1.move rfl ex (fun l1 => ?_) (fun _ => rfl) fun _ _ z => z
      rw [upd_ne (by rintro rfl; exact h (o.inj i k b c1 _ e2 ha e1 hk l1 rfl).symm)]
      exact (live_at q1 l1).1
/-- something tracked is hidden, is changed while it is hidden, becomes known -/
theorem Ok.hide (o : Ok B F Θ μ H) {p : Addr} {x : HO} (hp : H p = none) : Ok ⟨B.K, upd B.G p x⟩ F Θ μ (upd H p x) := by
  refine ⟨fun a y e => ?_, fun a y e => ?_, o.len, o.inj, fun k c a e1 e2 => ?_⟩
  · rw [upd_ne (by rintro rfl; rw [o.fresh hp] at e; cases e)]; exact o.le a y e
  · have e : upd B.G p x a = some y := e
    by_cases h : a = p
    · subst h
      rw [upd_same] at e ⊢
      refine ⟨e, o.fresh hp, fun k c e1 e2 => ?_⟩
      cases hl : c.live with
      | false => rfl
      | true =>
        obtain ⟨_, z, hz, _⟩ := live_at (o.cell k c _ e2 e1) hl
        rw [hp] at hz; cases hz
    · rw [upd_ne h] at e ⊢
      exact o.hid a y e
  · have q := o.cell k c a e1 e2
    refine q.move rfl (Ext.refl _ _) (fun l => (live_at q l).1) (fun l => ?_) fun ob u z => ?_
    · obtain ⟨_, y, h2, _⟩ := live_at q l
      rw [upd_ne (by rintro rfl; rw [hp] at h2; cases h2)]
    · rw [upd_ne (by rintro rfl; rw [hp] at z; cases z)]; exact z
theorem Ok.rehide {p : Addr} {x y : HO} (o : Ok ⟨B.K, upd B.G p x⟩ F Θ μ H) (hx : unfrz x) : Ok ⟨B.K, upd B.G p y⟩ F Θ μ (upd H p y) := by
  have hp := o.hid p x upd_same
  refine ⟨fun a z e => ?_, fun a z e => ?_, o.len, o.inj, fun k c a e1 e2 => ?_⟩
  · rw [upd_ne (by rintro rfl; rw [hp.2.1] at e; cases e)]; exact o.le a z e
  · have e : upd B.G p y a = some z := e
    by_cases h : a = p
    · subst h
      rw [upd_same] at e ⊢
      exact ⟨e, hp.2.1, hp.2.2⟩
    · rw [upd_ne h] at e ⊢
      exact o.hid a z (by show upd B.G p x a = _; rw [upd_ne h]; exact e)
  · have q := o.cell k c a e1 e2
    refine q.move rfl (Ext.refl _ _) (fun l => (live_at q l).1) (fun l => ?_) fun ob u z => ?_
    · rw [upd_ne (by rintro rfl; rw [hp.2.2 k c e2 e1] at l; cases l)]
    · rw [upd_ne (by rintro rfl; rw [hp.1] at z; cases z; exact hx)]; exact z
theorem Ok.unhide {p : Addr} {x : HO} (o : Ok ⟨B.K, upd B.G p x⟩ F Θ μ H) (hn : B.G p = none) : Ok B F Θ μ H :=
  ⟨o.le, fun a z e => o.hid a z (by show upd B.G p x a = _; rw [upd_ne (by rintro rfl; rw [hn] at e; cases e)]; exact e), o.len, o.inj, fun k c a e1 e2 => (o.cell k c a e1 e2).move rfl (Ext.refl _ _) (fun l => (live_at (o.cell k c a e1 e2) l).1) (fun _ => rfl) fun _ _ z => z⟩
theorem Ok.show {p : Addr} {x : HO} (o : Ok ⟨B.K, upd B.G p x⟩ F Θ μ H) (hn : B.G p = none) : Ok B (upd F p x) Θ μ H ∧ Ext F Θ (upd F p x) Θ := by
  have hp := o.hid p x upd_same
  have ex : Ext F Θ (upd F p x) Θ := ⟨fun a y e => by rw [upd_ne (by rintro rfl; rw [hp.2.1] at e; cases e)]; exact e, List.prefix_refl _⟩
  have o' := o.unhide hn
  refine ⟨⟨fun a y e => ?_, fun a y e => ?_, o.len, o.inj, fun k c a e1 e2 => ?_⟩, ex⟩
  · by_cases h : a = p
    · subst h; rw [upd_same] at e; cases e; exact hp.1
    · rw [upd_ne h] at e; exact o.le a y e
  · obtain ⟨h1, h2, h3⟩ := o'.hid a y e
    rw [upd_ne (by rintro rfl; rw [hn] at e; cases e)]
    exact ⟨h1, h2, h3⟩
  · have q := o'.cell k c a e1 e2
    refine q.move rfl ex (fun l => ?_) (fun _ => rfl) fun _ _ z => z
    rw [upd_ne (by rintro rfl; rw [hp.2.2 k c e2 e1] at l; cases l)]
    exact (live_at q l).1
/-- what was hidden becomes a cell -/
theorem Ok.adopt {p : Addr} {x : HO} (o : Ok ⟨B.K, upd B.G p x⟩ F Θ μ H) (hn : B.G p = none) {c : Cell} (hc : CellRel B F (Θ ++ [p]) H p c) : Ok B F (Θ ++ [p]) (μ ++ [c]) H ∧ Ext F Θ F (Θ ++ [p]) := by
  have hp := o.hid p x upd_same
  have o' := o.unhide hn
  have ex : Ext F Θ F (Θ ++ [p]) := ⟨Le.refl F, ⟨[p], rfl⟩⟩
  have new : ∀ (i : Nat) (a : Addr) (c' : Cell), (Θ ++ [p])[i]? = some a → (μ ++ [c])[i]? = some c' → (Θ[i]? = some a ∧ μ[i]? = some c') ∨ (i = μ.length ∧ a = p ∧ c' = c) := fun i a c' e1 e2 => by
    by_cases h : i < μ.length
    · rw [List.getElem?_append_left (by rw [o.len]; exact h)] at e1
      rw [List.getElem?_append_left h] at e2
      exact .inl ⟨e1, e2⟩
    · have hi : i = μ.length := by
        have := (List.getElem?_eq_some_iff.mp e2).1
        simp at this; omega
      subst hi
      rw [← o.len, List.getElem?_append_right (Nat.le_refl _)] at e1
      rw [List.getElem?_append_right (Nat.le_refl _)] at e2
      simp at e1 e2
      exact .inr ⟨rfl, e1.symm, e2.symm⟩
  refine ⟨⟨o.le, fun a y e => ?_, by simp [o.len], fun i j a c1 c2 e1 e2 e3 e4 l1 l2 => ?_, fun k c' a e1 e2 => ?_⟩, ex⟩
  · obtain ⟨h1, h2, h3⟩ := o'.hid a y e
    refine ⟨h1, h2, fun k c' e1 e2 => ?_⟩
    rcases new k a c' e1 e2 with ⟨a1, a2⟩ | ⟨_, a1, _⟩
    · exact h3 k c' a1 a2
    · rw [a1, hn] at e; cases e
  · rcases new i a c1 e1 e3 with ⟨a1, a2⟩ | ⟨i1, i2, _⟩ <;> rcases new j a c2 e2 e4 with ⟨b1, b2⟩ | ⟨j1, j2, _⟩
    · exact o.inj i j a c1 c2 a1 b1 a2 b2 l1 l2
    · rw [j2] at a1; rw [hp.2.2 i c1 a1 a2] at l1; cases l1
    · rw [i2] at b1; rw [hp.2.2 j c2 b1 b2] at l2; cases l2
    · omega
  · rcases new k a c' e2 e1 with ⟨a1, a2⟩ | ⟨_, a1, a2⟩
    · have q := o'.cell k c' a a2 a1
      exact q.move rfl ex (fun l => (live_at q l).1) (fun _ => rfl) fun _ _ z => z
    · rw [a1, a2]; exact hc
end

/-! ### reading values -/
def allD : List U → Option (List PyData)
  | [] => some []
  | .d x :: r => match allD r with
    | some ds => some (x :: ds)
    | none => none
  | .p _ :: _ => none
theorem allD_eq : ∀ {us : List U} {ds : List PyData}, allD us = some ds → us = ds.map .d
  | [], ds, h => by cases h; rfl
  | .d x :: r, ds, h => by
    unfold allD at h
    cases e : allD r with
    | none => rw [e] at h; cases h
    | some es => rw [e] at h; cases h; rw [allD_eq e]; rfl
  | .p _ :: _, _, h => by cases h
@[simp] theorem allD_map : ∀ ds : List PyData, allD (ds.map .d) = some ds
  | [] => rfl
  | x :: r => by show (match allD (r.map .d) with | some ds => some (x :: ds) | none => none) = _; rw [allD_map r]
/-- as data, now -/
def view (u : U) (μ : Mu) : Option PyData := match u with
  | .d x => some x
  | .p k => match μ[k]? with
    | some (.frz x) => some x
    | some (.lst us) => match allD us with
      | some ds => some (.list ds)
      | none => none
    | _ => none
/-- as data, from now on -/
def toD (u : U) (μ : Mu) : Option (PyData × Mu) := match u with
  | .d x => some (x, μ)
  | .p k => match μ[k]? with
    | some (.frz x) => some (x, μ)
    | some (.lst us) => match allD us with
      | some ds => some (.list ds, μ.set k (.frz (.list ds)))
      | none => none
    | _ => none
section
variable {B : Bg} {F H : Hp} {Θ : List Addr} {μ μ' : Mu} {u : U} {v : V} {x : PyData}
theorem Ok.at (o : Ok B F Θ μ H) {k : Nat} {c : Cell} (h : μ[k]? = some c) : ∃ a, Θ[k]? = some a ∧ CellRel B F Θ H a c := by
  have hk : k < Θ.length := by rw [o.len]; exact (List.getElem?_eq_some_iff.mp h).1
  exact ⟨_, List.getElem?_eq_getElem hk, o.cell k c _ h (List.getElem?_eq_getElem hk)⟩
theorem view_ok (o : Ok B F Θ μ H) (r : RelU F Θ u v) (h : view u μ = some x) : Dd H v x := by
  cases u with
  | d y => cases h; exact Dd.mono o.le r
  | p k =>
    obtain ⟨a, ha, rfl⟩ := r
    unfold view at h
    cases e : μ[k]? with
    | none => simp only [e] at h; cases h
    | some c =>
      simp only [e] at h
      have q := o.cell k c a e ha
      cases c with
      | dead => cases h
      | scr _ => cases h
      | frz y => cases h; exact Dd.mono o.le q
      | lst us =>
        simp only at h
        cases e2 : allD us with
        | none => rw [e2] at h; cases h
        | some ds =>
          rw [e2] at h; cases h
          obtain ⟨_, xs, hx, rr⟩ := q
          rw [allD_eq e2] at rr
          exact .lst hx (DdAll.mono o.le rr.dd)
      | dK _ => cases h
      | dT _ => cases h
theorem toD_ok (o : Ok B F Θ μ H) (r : RelU F Θ u v) (h : toD u μ = some (x, μ')) : ∃ F', Ext F Θ F' Θ ∧ Ok B F' Θ μ' H ∧ Dd F' v x := by
  cases u with
  | d y => cases h; exact ⟨F, Ext.refl _ _, o, r⟩
  | p k =>
    obtain ⟨a, ha, rfl⟩ := r
    unfold toD at h
    cases e : μ[k]? with
    | none => simp only [e] at h; cases h
    | some c =>
      simp only [e] at h
      have q := o.cell k c a e ha
      cases c with
      | dead => cases h
      | scr _ => cases h
      | frz y => cases h; exact ⟨F, Ext.refl _ _, o, q⟩
      | lst us =>
        simp only at h
        cases e2 : allD us with
        | none => rw [e2] at h; cases h
        | some ds =>
          rw [e2] at h; cases h
          rw [allD_eq e2] at e
          exact o.freeze e ha
      | dK _ => cases h
      | dT _ => cases h
end

/-! ### readings -/
/-- how an exception stands: its class, its own dict -/
abbrev ExR := Exc → Value → Option Addr → Hp → Prop
def PostX (B : Bg) (ER : ExR) (E : XK) (F : Hp) (Θ : List Addr) (e : Exc) (μ : Mu) : Prop := ∀ F' Θ' H' c d, Ext F Θ F' Θ' → Ok B F' Θ' μ H' → ER e c d H' → E c d H'
theorem PostX.ext {B : Bg} {ER : ExR} {E : XK} {F F1 : Hp} {Θ Θ1 : List Addr} {e : Exc} {μ : Mu} (x : Ext F Θ F1 Θ1) (h : PostX B ER E F Θ e μ) : PostX B ER E F1 Θ1 e μ := fun F' Θ' H' c d x' => h F' Θ' H' c d (x.trans x')
/-- behind something that gives an α, which stands as Rel says -/
def PostR {α β : Type} (Rel : Hp → List Addr → α → β → Prop) (B : Bg) (ER : ExR) (E : XK) (F : Hp) (Θ : List Addr) (Q : β → Hp → Prop) : R α → Prop
  | .ok u μ => ∀ F' Θ' H' v, Ext F Θ F' Θ' → Ok B F' Θ' μ H' → Rel F' Θ' u v → Q v H'
  | .ex e μ => PostX B ER E F Θ e μ
  | .stuck => False
theorem PostR.ext {α β : Type} {Rel : Hp → List Addr → α → β → Prop} {B : Bg} {ER : ExR} {E : XK} {F F1 : Hp} {Θ Θ1 : List Addr} {Q : β → Hp → Prop} {r : R α} (x : Ext F Θ F1 Θ1) (h : PostR Rel B ER E F Θ Q r) : PostR Rel B ER E F1 Θ1 Q r := by
  cases r with
  | ok u μ => exact fun F' Θ' H' v x' => h F' Θ' H' v (x.trans x')
  | ex e μ => exact PostX.ext x h
  | stuck => exact h
abbrev PostE := @PostR U V RelU
abbrev PostL := @PostR (List U) (List V) RelL
abbrev PostB := @PostR Bool Bool fun _ _ a b => a = b
/-- where one stands -/
structure At (B : Bg) (F : Hp) (Θ : List Addr) (ρ : Rho) (μ : Mu) (σ : L2.St) (H : Hp) : Prop where
  s : RelS F Θ ρ σ
  o : Ok B F Θ μ H
abbrev DE := Rho → Mu → R U
abbrev DB := Rho → Mu → R Bool
abbrev DL := Rho → Mu → R (List U)
abbrev DS := Rho → Mu → SR
def TEv (K : PySem.W.Frag) (ER : ExR) (E : XK) (f : DE) : TE := fun σ H Q => ∃ B F Θ ρ μ, B.K = K ∧ At B F Θ ρ μ σ H ∧ PostE B ER E F Θ Q (f ρ μ)
def TTv (K : PySem.W.Frag) (ER : ExR) (E : XK) (f : DB) : TT := fun σ H Q => ∃ B F Θ ρ μ, B.K = K ∧ At B F Θ ρ μ σ H ∧ PostB B ER E F Θ Q (f ρ μ)
def TLv (K : PySem.W.Frag) (ER : ExR) (E : XK) (f : DL) : TA := fun σ H Q => ∃ B F Θ ρ μ, B.K = K ∧ At B F Θ ρ μ σ H ∧ PostL B ER E F Θ Q (f ρ μ)
def PostS (B : Bg) (ER : ExR) (E : XK) (F : Hp) (Θ : List Addr) (D : Ends) : SR → Prop
  | .nx ρ μ => ∀ F' Θ' σ' H', Ext F Θ F' Θ' → At B F' Θ' ρ μ σ' H' → D.nx σ' H'
  | .bk ρ μ => ∀ F' Θ' σ' H', Ext F Θ F' Θ' → At B F' Θ' ρ μ σ' H' → D.bk σ' H'
  | .ct ρ μ => ∀ F' Θ' σ' H', Ext F Θ F' Θ' → At B F' Θ' ρ μ σ' H' → D.ct σ' H'
  | .rt u μ => ∀ F' Θ' H' v, Ext F Θ F' Θ' → Ok B F' Θ' μ H' → RelU F' Θ' u v → D.rt v H'
  | .ex e μ => PostX B ER E F Θ e μ
  | .stuck => False
theorem PostS.ext {B : Bg} {ER : ExR} {E : XK} {F F1 : Hp} {Θ Θ1 : List Addr} {D : Ends} {r : SR} (x : Ext F Θ F1 Θ1) (h : PostS B ER E F Θ D r) : PostS B ER E F1 Θ1 D r := by
  cases r with
  | nx ρ μ => exact fun F' Θ' σ' H' x' => h F' Θ' σ' H' (x.trans x')
  | bk ρ μ => exact fun F' Θ' σ' H' x' => h F' Θ' σ' H' (x.trans x')
  | ct ρ μ => exact fun F' Θ' σ' H' x' => h F' Θ' σ' H' (x.trans x')
  | rt u μ => exact fun F' Θ' H' v x' => h F' Θ' H' v (x.trans x')
  | ex e μ => exact PostX.ext x h
  | stuck => exact h
def TSv (K : PySem.W.Frag) (ER : ExR) (E : XK) (f : DS) : TS := fun D σ H => ∃ B F Θ ρ μ, B.K = K ∧ At B F Θ ρ μ σ H ∧ PostS B ER E F Θ D (f ρ μ)
theorem At.ext {B : Bg} {F F' : Hp} {Θ Θ' : List Addr} {ρ : Rho} {μ μ' : Mu} {σ : L2.St} {H H' : Hp} (a : At B F Θ ρ μ σ H) (x : Ext F Θ F' Θ') (o : Ok B F' Θ' μ' H') : At B F' Θ' ρ μ' σ H' := ⟨a.s.mono x, o⟩

/-! ### weakening -/
section
variable {X : Cx} {e : Expr} {es : List Expr} {st : Stmt} {sts : List Stmt}
theorem PE.weak {t t' : TE} (h : PE X e t) (i : ∀ σ H Q, t' σ H Q → t σ H Q) : PE X e t' := ⟨fun pins s σ H Q I w => h.run pins s σ H Q I (i _ _ _ w)⟩
theorem PT.weak {t t' : TT} (h : PT X e t) (i : ∀ σ H Q, t' σ H Q → t σ H Q) : PT X e t' := ⟨fun pins s σ H Q I w => h.run pins s σ H Q I (i _ _ _ w)⟩
theorem PW.weak {t t' : TT} (h : PW X e t) (i : ∀ σ H Q, t' σ H Q → t σ H Q) : PW X e t' := ⟨fun w pins s σ H Q I q => h.run w pins s σ H Q I (i _ _ _ q)⟩
theorem PA.weak {t t' : TA} (h : PA X es t) (i : ∀ σ H Q, t' σ H Q → t σ H Q) : PA X es t' := ⟨fun pos pins s σ H Q I w => h.run pos pins s σ H Q I (i _ _ _ w)⟩
theorem PS.weak {t t' : TS} (h : PS X st t) (i : ∀ D σ H, t' D σ H → t D σ H) : PS X st t' := ⟨fun pins s σ H D I w => h.run pins s σ H D I (i _ _ _ w)⟩
theorem PSs.weak {t t' : TS} (h : PSs X sts t) (i : ∀ D σ H, t' D σ H → t D σ H) : PSs X sts t' := ⟨fun pins s σ H D I w => h.run pins s σ H D I (i _ _ _ w)⟩
theorem OpR.weak {f : Value → Value → Sem Value} {r r' : R2} (h : OpR X f r) (i : ∀ x y H Q, r' x y H Q → r x y H Q) : OpR X f r' :=
  fun pins s σ H x y v u Q I rx ry w => h pins s σ H x y v u Q I rx ry (i _ _ _ _ w)
theorem CallR.weak {f : Value} {r r' : List V → Hp → VK → Prop} (h : CallR X f r) (i : ∀ xs H Q, r' xs H Q → r xs H Q) : CallR X f r' :=
  fun pins s σ H xs us Q I rx w => h pins s σ H xs us Q I rx (i _ _ _ w)
end
/-- one thing behind another -/
theorem PostR.bind {α β γ δ : Type} {Rel : Hp → List Addr → α → β → Prop} {Rel' : Hp → List Addr → γ → δ → Prop} {B : Bg} {ER : ExR} {E : XK} {F : Hp} {Θ : List Addr} {Q : δ → Hp → Prop} {Q' : β → Hp → Prop} {r : R α} {f : α → Mu → R γ}
    (h : PostR Rel' B ER E F Θ Q (r.bind f)) (k : ∀ u μ F' Θ' H' v, Ext F Θ F' Θ' → Ok B F' Θ' μ H' → Rel F' Θ' u v → PostR Rel' B ER E F' Θ' Q (f u μ) → Q' v H') : PostR Rel B ER E F Θ Q' r := by
  cases r with
  | ok u μ => exact fun F' Θ' H' v x o rl => k u μ F' Θ' H' v x o rl (PostR.ext x h)
  | ex e μ => exact h
  | stuck => exact h
end Vm
set_option Elab.async false
set_option linter.all false
set_option maxRecDepth 100000
set_option maxHeartbeats 1000000
/-! Vm, part B: operators, comparisons and built-ins by values. -/
namespace Vm
open PySem PySem.Spec PyProof.Rows L2

/-! ### sequences -/
/-- the items of a list or a tuple (true: a tuple) -/
def items (u : U) (μ : Mu) : Option (Bool × List U) := match u with
  | .d (.list ds) => some (false, ds.map .d)
  | .d (.tuple ds) => some (true, ds.map .d)
  | .p k => match μ[k]? with
    | some (.lst us) => some (false, us)
    | some (.frz (.list ds)) => some (false, ds.map .d)
    | _ => none
  | _ => none
section
variable {B : Bg} {F H : Hp} {Θ : List Addr} {μ : Mu} {u : U} {v : V} {us : List U} {t : Bool}
theorem items_ok (o : Ok B F Θ μ H) (r : RelU F Θ u v) (h : items u μ = some (t, us)) :
    ∃ a xs, v = .ref a ∧ RelL F Θ us xs ∧ ((t = false ∧ H a = some (.lst xs)) ∨ (t = true ∧ H a = some (.tup xs))) := by
  cases u with
  | d x =>
    cases x with
    | list ds =>
      cases h
      cases r with
      | lst e a => exact ⟨_, _, rfl, a.rel, .inl ⟨rfl, o.le _ _ e⟩⟩
    | tuple ds =>
      cases h
      cases r with
      | tup e a => exact ⟨_, _, rfl, a.rel, .inr ⟨rfl, o.le _ _ e⟩⟩
    | none => cases h
    | bool _ => cases h
    | int _ => cases h
    | str _ => cases h
    | dict _ => cases h
  | p k =>
    obtain ⟨a, ha, rfl⟩ := r
    unfold items at h
    cases e : μ[k]? with
    | none => simp only [e] at h; cases h
    | some c =>
      simp only [e] at h
      have q := o.cell k c a e ha
      cases c with
      | dead => cases h
      | scr _ => cases h
      | dK _ => cases h
      | dT _ => cases h
      | lst ws =>
        cases h
        obtain ⟨_, xs, e1, rr⟩ := q
        exact ⟨a, xs, rfl, rr, .inl ⟨rfl, e1⟩⟩
      | frz x =>
        cases x with
        | list ds =>
          cases h
          cases q with
          | lst e a => exact ⟨_, _, rfl, a.rel, .inl ⟨rfl, o.le _ _ e⟩⟩
        | tuple _ => cases h
        | none => cases h
        | bool _ => cases h
        | int _ => cases h
        | str _ => cases h
        | dict _ => cases h
theorem at_sq {K : PySem.W.Frag} {a : Addr} {xs : List V} (h : (t = false ∧ H a = some (.lst xs)) ∨ (t = true ∧ H a = some (.tup xs))) : SqL K H a xs ∨ SqT K H a xs := by
  rcases h with ⟨_, h⟩ | ⟨_, h⟩
  · exact .inl (SqL.of h)
  · exact .inr (SqT.of h)
end

/-! ### new lists and tuples -/
/-- each as data, from now on -/
def toDs : List U → Mu → Option (List PyData × Mu)
  | [], μ => some ([], μ)
  | u :: r, μ => match toD u μ with
    | some (x, μ1) => match toDs r μ1 with
      | some (xs, μ2) => some (x :: xs, μ2)
      | none => none
    | none => none
@[simp] theorem toDs_map : ∀ (ds : List PyData) (μ : Mu), toDs (ds.map .d) μ = some (ds, μ)
  | [], μ => rfl
  | x :: r, μ => by
    show (match toDs (r.map .d) μ with | some (xs, μ2) => some (x :: xs, μ2) | none => none) = _
    rw [toDs_map r μ]
def lim : Nat := 16777216
theorem lim_eq : lim = sizeLine := by rw [sizeLine_eq]; rfl
/-- a new list: data, or a cell -/
def mkL (m : Bool) (us : List U) (μ : Mu) : R U :=
  if us.length ≤ lim then (if m then .ok (.p μ.length) (μ ++ [.lst us]) else match toDs us μ with
    | some (ds, μ') => .ok (.d (.list ds)) μ'
    | none => .stuck) else .stuck
def mkT (us : List U) (μ : Mu) : R U :=
  if us.length ≤ lim then (match toDs us μ with
    | some (ds, μ') => .ok (.d (.tuple ds)) μ'
    | none => .stuck) else .stuck
section
variable {B : Bg} {ER : ExR} {E : XK} {F H : Hp} {Θ : List Addr} {μ μ' : Mu} {us : List U} {xs : List V} {Q : VK}
theorem toDs_ok : ∀ {us : List U} {xs : List V} {F : Hp} {μ : Mu} {ds : List PyData} {μ' : Mu}, Ok B F Θ μ H → RelL F Θ us xs → toDs us μ = some (ds, μ') → ∃ F', Ext F Θ F' Θ ∧ Ok B F' Θ μ' H ∧ DdAll F' xs ds
  | [], _, F, μ, ds, μ', o, .nil, h => by cases h; exact ⟨F, Ext.refl _ _, o, .nil⟩
  | u :: r, _, F, μ, ds, μ', o, .cons hu hr, h => by
    unfold toDs at h
    cases e : toD u μ with
    | none => rw [e] at h; cases h
    | some p =>
      obtain ⟨x, μ1⟩ := p
      rw [e] at h
      simp only at h
      cases e2 : toDs r μ1 with
      | none => rw [e2] at h; cases h
      | some q =>
        obtain ⟨ys, μ2⟩ := q
        rw [e2] at h
        cases h
        obtain ⟨F1, x1, o1, d1⟩ := toD_ok o hu e
        obtain ⟨F2, x2, o2, d2⟩ := toDs_ok o1 (RelL.mono x1 hr) e2
        exact ⟨F2, x1.trans x2, o2, .cons (Dd.mono x2.le d1) d2⟩
theorem mkL_ok {m : Bool} (o : Ok B F Θ μ H) (r : RelL F Θ us xs) (q : PostE B ER E F Θ Q (mkL m us μ)) : xs.length ≤ sizeLine ∧ ∀ p, H p = none → Q (.ref p) (upd H p (.lst xs)) := by
  unfold mkL at q
  by_cases hl : us.length ≤ lim
  · rw [if_pos hl] at q
    refine ⟨by rw [← paired_len r, ← lim_eq]; exact hl, fun p hp => ?_⟩
    cases m with
    | true =>
      rw [if_pos rfl] at q
      obtain ⟨o1, x1⟩ := o.alloc (x := .lst xs) (c := .lst us) hp ⟨o.fresh hp, xs, upd_same, r.mono ⟨Le.refl F, ⟨[p], rfl⟩⟩⟩
      exact q F (Θ ++ [p]) _ _ x1 o1 ⟨p, o.ptr, rfl⟩
    | false =>
      rw [if_neg Bool.false_ne_true] at q
      cases e : toDs us μ with
      | none => rw [e] at q; exact q.elim
      | some w =>
        obtain ⟨ds, μ'⟩ := w
        rw [e] at q
        obtain ⟨F1, x1, o1, d1⟩ := toDs_ok o r e
        obtain ⟨o2, x2⟩ := o1.known (x := .lst xs) hp
        exact q _ Θ _ _ (x1.trans x2) o2 (.lst upd_same (DdAll.mono x2.le d1))
  · rw [if_neg hl] at q; exact q.elim
theorem mkT_ok (o : Ok B F Θ μ H) (r : RelL F Θ us xs) (q : PostE B ER E F Θ Q (mkT us μ)) : xs.length ≤ sizeLine ∧ ∀ p, H p = none → Q (.ref p) (upd H p (.tup xs)) := by
  unfold mkT at q
  by_cases hl : us.length ≤ lim
  · rw [if_pos hl] at q
    refine ⟨by rw [← paired_len r, ← lim_eq]; exact hl, fun p hp => ?_⟩
    cases e : toDs us μ with
    | none => rw [e] at q; exact q.elim
    | some w =>
      obtain ⟨ds, μ'⟩ := w
      rw [e] at q
      obtain ⟨F1, x1, o1, d1⟩ := toDs_ok o r e
      obtain ⟨o2, x2⟩ := o1.known (x := .tup xs) hp
      exact q _ Θ _ _ (x1.trans x2) o2 (.tup upd_same (DdAll.mono x2.le d1))
  · rw [if_neg hl] at q; exact q.elim
theorem post_same {u : U} {v : V} (o : Ok B F Θ μ H) (r : RelU F Θ u v) (q : PostE B ER E F Θ Q (.ok u μ)) : Q v H := q F Θ H v (Ext.refl _ _) o r
theorem post_dat {x : PyData} {v : V} (o : Ok B F Θ μ H) (r : Dd F v x) (q : PostE B ER E F Θ Q (.ok (.d x) μ)) : Q v H := q F Θ H v (Ext.refl _ _) o r
end

/-! ### operators -/
abbrev Op2 := U → U → Mu → R U
def rOp2 (ER : ExR) (E : XK) (g : Op2) : R2 := fun x y H Q => ∃ B F Θ a b μ, Ok B F Θ μ H ∧ RelU F Θ a x ∧ RelU F Θ b y ∧ PostE B ER E F Θ Q (g a b μ)
def int2 (f : Int → Int → R U) (u v : U) : R U := match u, v with
  | .d (.int i), .d (.int j) => f i j
  | _, _ => .stuck
def addM (m : Bool) : Op2 := fun u v μ => match u, v with
  | .d (.int i), .d (.int j) => .ok (.d (.int (i + j))) μ
  | .d (.tuple xs), .d (.tuple ys) => if xs.length + ys.length ≤ lim then .ok (.d (.tuple (xs ++ ys))) μ else .stuck
  | _, _ => match items u μ, items v μ with
    | some (false, xs), some (false, ys) => mkL m (xs ++ ys) μ
    | _, _ => .stuck
def subM : Op2 := fun u v μ => int2 (fun i j => .ok (.d (.int (i - j))) μ) u v
def B64 (i : Int) : Bool := decide (-(2 ^ 64) < i) && decide (i < 2 ^ 64)
def mulM (m : Bool) : Op2 := fun u v μ => match u, v with
  | .d (.int i), .d (.int j) => if (B64 i || B64 j) = true then .ok (.d (.int (i * j))) μ else .stuck
  | _, .d (.int k) => match items u μ with
    | some (false, xs) => if 0 ≤ k ∧ k ≤ 16777216 ∧ xs.length * k.toNat ≤ lim then mkL m (List.replicate k.toNat xs).flatten μ else .stuck
    | _ => .stuck
  | _, _ => .stuck
def fdivM : Op2 := fun u v μ => int2 (fun i j => if 0 < j ∧ j < 1073741824 then .ok (.d (.int (i / j))) μ else .stuck) u v
def modM : Op2 := fun u v μ => int2 (fun i j => if 0 < j then .ok (.d (.int (i % j))) μ else .stuck) u v
def powM : Op2 := fun u v μ => int2 (fun i j => if 0 ≤ j ∧ j ≤ 1000000 ∧ i.natAbs < 2 ^ 64 then .ok (.d (.int (i ^ j.toNat))) μ else .stuck) u v
section
variable {X : Cx} {ER : ExR} {E : XK}
theorem int2_inv {f : Int → Int → R U} {B : Bg} {F : Hp} {Θ : List Addr} {Q : VK} {a b : U} (q : PostE B ER E F Θ Q (int2 f a b)) : ∃ i j, a = .d (.int i) ∧ b = .d (.int j) ∧ PostE B ER E F Θ Q (f i j) := by
  unfold int2 at q
  split at q
  · exact ⟨_, _, rfl, rfl, q⟩
  · exact q.elim
theorem dd_int {F : Hp} {v : V} {i : Int} (h : Dd F v (.int i)) : v = .int i := by cases h; rfl
theorem or_sub : OpR X (binaryOp .Sub) (rOp2 ER E subM) := OpR.weak op_sub fun x y H Q ⟨B, F, Θ, a, b, μ, o, ra, rb, q⟩ => by
  obtain ⟨i, j, rfl, rfl, q⟩ := int2_inv q
  exact ⟨i, j, dd_int ra, dd_int rb, post_dat o (.int _) q⟩
theorem or_fdiv : OpR X (binaryOp .FloorDiv) (rOp2 ER E fdivM) := OpR.weak op_fdiv fun x y H Q ⟨B, F, Θ, a, b, μ, o, ra, rb, q⟩ => by
  obtain ⟨i, j, rfl, rfl, q'⟩ := int2_inv q
  split at q'
  · rename_i h; exact ⟨i, j, dd_int ra, dd_int rb, h, post_dat o (.int _) q'⟩
  · exact q'.elim
theorem or_mod : OpR X (binaryOp .Mod) (rOp2 ER E modM) := OpR.weak op_mod fun x y H Q ⟨B, F, Θ, a, b, μ, o, ra, rb, q⟩ => by
  obtain ⟨i, j, rfl, rfl, q'⟩ := int2_inv q
  split at q'
  · rename_i h; exact ⟨i, j, dd_int ra, dd_int rb, h, post_dat o (.int _) q'⟩
  · exact q'.elim
theorem or_pow : OpR X (binaryOp .Pow) (rOp2 ER E powM) := OpR.weak op_pow fun x y H Q ⟨B, F, Θ, a, b, μ, o, ra, rb, q⟩ => by
  obtain ⟨i, j, rfl, rfl, q'⟩ := int2_inv q
  split at q'
  · rename_i h; exact ⟨i, j, dd_int ra, dd_int rb, h, post_dat o (.int _) q'⟩
  · exact q'.elim
theorem b64 {i : Int} (h : B64 i = true) : -(2 ^ 64) < i ∧ i < 2 ^ 64 := by
  unfold B64 at h
  simp only [Bool.and_eq_true, decide_eq_true_eq] at h
  exact h
theorem or_mul (m : Bool) : OpR X (binaryOp .Mult) (rOp2 ER E (mulM m)) := OpR.weak (op_mul.or op_rep) fun x y H Q ⟨B, F, Θ, a, b, μ, o, ra, rb, q⟩ => by
  unfold mulM at q
  split at q
  · rename_i i j
    split at q
    · rename_i h
      refine .inl ⟨i, j, dd_int ra, dd_int rb, ?_, post_dat o (.int _) q⟩
      simp only [Bool.or_eq_true] at h
      exact h.imp b64 b64
    · exact q.elim
  · rename_i k _
    split at q
    · rename_i xs e
      split at q
      · rename_i h
        obtain ⟨p, ws, rfl, rl, hs⟩ := items_ok o ra e
        obtain ⟨_, hp⟩ : false = false ∧ H p = some (.lst ws) := hs.elim (fun z => z) (fun z => by cases z.1)
        obtain ⟨h1, h2, h3⟩ := h
        have rr : RelL F Θ (List.replicate k.toNat xs).flatten (List.replicate k.toNat ws).flatten := by
          clear q h1 h2 h3 rb
          generalize k.toNat = n
          induction n with
          | zero => exact .nil
          | succ n ih => rw [List.replicate_succ, List.replicate_succ, List.flatten_cons, List.flatten_cons]; exact paired_app rl ih
        obtain ⟨_, z⟩ := mkL_ok o rr q
        exact .inr ⟨p, k, ws, rfl, dd_int rb, hp, by omega, by omega, by rw [← paired_len rl, ← lim_eq]; exact h3, z⟩
      · exact q.elim
    · exact q.elim
  · exact q.elim
theorem or_add (m : Bool) : OpR X (binaryOp .Add) (rOp2 ER E (addM m)) := OpR.weak (op_add.or (op_catA.or op_cat)) fun x y H Q ⟨B, F, Θ, a, b, μ, o, ra, rb, q⟩ => by
  unfold addM at q
  split at q
  · rename_i i j
    exact .inl ⟨i, j, dd_int ra, dd_int rb, post_dat o (.int _) q⟩
  · rename_i xs ys
    split at q
    · rename_i h
      cases ra with
      | @tup pa va _ ea da =>
        cases rb with
        | @tup pb vb _ eb db =>
          have la := da.length
          have lb := db.length
          refine .inr (.inl ⟨_, _, _, _, rfl, rfl, SqT.of (o.le _ _ ea), SqT.of (o.le _ _ eb), by rw [la, lb, ← lim_eq]; exact h, fun e => ?_, fun e1 e2 => ?_, fun e1 e2 p hp => ?_⟩)
          · subst e
            cases da
            exact q F Θ H _ (Ext.refl _ _) o (.tup eb db)
          · subst e2
            cases db
            rw [List.append_nil] at q
            exact q F Θ H _ (Ext.refl _ _) o (.tup ea da)
          · obtain ⟨o2, x2⟩ := o.known (x := .tup (va ++ vb)) hp
            refine q _ Θ _ _ x2 o2 (.tup upd_same (DdAll.mono x2.le ?_))
            have w : RelL F Θ ((xs ++ ys).map .d) (va ++ vb) := by rw [List.map_append]; exact paired_app da.rel db.rel
            exact w.dd
    · exact q.elim
  · split at q
    · rename_i xs ys e1 e2
      obtain ⟨p, ws, rfl, rl, hs⟩ := items_ok o ra e1
      obtain ⟨p2, ws2, rfl, rl2, hs2⟩ := items_ok o rb e2
      obtain ⟨_, hp⟩ : false = false ∧ H p = some (.lst ws) := hs.elim (fun z => z) (fun z => by cases z.1)
      obtain ⟨_, hp2⟩ : false = false ∧ H p2 = some (.lst ws2) := hs2.elim (fun z => z) (fun z => by cases z.1)
      obtain ⟨zl, z⟩ := mkL_ok o (paired_app rl rl2) q
      exact .inr (.inr ⟨p, p2, ws, ws2, rfl, rfl, hp, hp2, by simpa using zl, z⟩)
    · exact q.elim
end

/-! ### comparisons -/
abbrev Cmp2 := U → U → Mu → Option Bool
def rCmp (g : Cmp2) : R2 := fun x y H Q => ∃ B F Θ a b μ c, Ok B F Θ μ H ∧ RelU F Θ a x ∧ RelU F Θ b y ∧ g a b μ = some c ∧ Q (.bl c) H
def isDct (u : U) (μ : Mu) : Option (Option Nat) := match u with
  | .p k => match μ[k]? with
    | some (.dK kvs) => some (some kvs.length)
    | some (.dT kvs) => some (some kvs.length)
    | _ => none
  | _ => none
def eqC : Cmp2 := fun u v μ => match view u μ, view v μ with
  | some x, some y => if SeqAt.shaped x && SeqAt.shaped y then some (PyData.eqv x y) else none
  | _, _ => none
def intC (f : Int → Int → Bool) : Cmp2 := fun u v _ => match u, v with
  | .d (.int i), .d (.int j) => some (f i j)
  | _, _ => none
def isNC : Cmp2 := fun u v _ => match v with
  | .d .none => match u with
    | .d .none => some true
    | _ => some false
  | _ => none
/-- x in a list or a tuple -/
def inC : Cmp2 := fun u v μ => match view u μ, view v μ with
  | some x, some (.list ds) => if SeqAt.shaped x && SeqAt.shaped (.list ds) then some (ds.any fun z => PyData.eqv z x) else none
  | some x, some (.tuple ds) => if SeqAt.shaped x && SeqAt.shaped (.tuple ds) then some (ds.any fun z => PyData.eqv z x) else none
  | _, _ => none
def negC (g : Cmp2) : Cmp2 := fun u v μ => (g u v μ).map (!·)
section
variable {X : Cx}
theorem oc_eq (hu : X.A.units + 64 < cLine) : OpR X (compareOp .Eq) (rCmp eqC) := OpR.weak (op_eqD hu) fun x y H Q ⟨B, F, Θ, a, b, μ, c, o, ra, rb, e, q⟩ => by
  unfold eqC at e
  split at e
  · rename_i d1 d2 e1 e2
    split at e
    · rename_i h
      simp only [Bool.and_eq_true] at h
      cases e
      exact ⟨d1, d2, (view_ok o ra e1).dp, (view_ok o rb e2).dp, h.1, h.2, q⟩
    · cases e
  · cases e
theorem oc_ne (hu : X.A.units + 64 < cLine) : OpR X (compareOp .NotEq) (rCmp (negC eqC)) := OpR.weak (op_neD hu) fun x y H Q ⟨B, F, Θ, a, b, μ, c, o, ra, rb, e, q⟩ => by
  unfold negC eqC at e
  split at e
  · rename_i d1 d2 e1 e2
    split at e
    · rename_i h
      simp only [Bool.and_eq_true] at h
      cases e
      exact ⟨d1, d2, (view_ok o ra e1).dp, (view_ok o rb e2).dp, h.1, h.2, q⟩
    · cases e
  · cases e
theorem intC_inv {f : Int → Int → Bool} {a b : U} {μ : Mu} {c : Bool} (e : intC f a b μ = some c) : ∃ i j, a = .d (.int i) ∧ b = .d (.int j) ∧ c = f i j := by
  unfold intC at e
  split at e
  · cases e; exact ⟨_, _, rfl, rfl, rfl⟩
  · cases e
theorem oc_lt : OpR X (compareOp .Lt) (rCmp (intC fun i j => decide (i < j))) := OpR.weak op_lt fun x y H Q ⟨B, F, Θ, a, b, μ, c, o, ra, rb, e, q⟩ => by
  obtain ⟨i, j, rfl, rfl, rfl⟩ := intC_inv e
  exact ⟨i, j, dd_int ra, dd_int rb, q⟩
theorem oc_le : OpR X (compareOp .LtE) (rCmp (intC fun i j => decide (i ≤ j))) := OpR.weak op_le fun x y H Q ⟨B, F, Θ, a, b, μ, c, o, ra, rb, e, q⟩ => by
  obtain ⟨i, j, rfl, rfl, rfl⟩ := intC_inv e
  exact ⟨i, j, dd_int ra, dd_int rb, q⟩
theorem oc_gt : OpR X (compareOp .Gt) (rCmp (intC fun i j => decide (j < i))) := OpR.weak op_gt fun x y H Q ⟨B, F, Θ, a, b, μ, c, o, ra, rb, e, q⟩ => by
  obtain ⟨i, j, rfl, rfl, rfl⟩ := intC_inv e
  exact ⟨i, j, dd_int ra, dd_int rb, q⟩
theorem oc_ge : OpR X (compareOp .GtE) (rCmp (intC fun i j => decide (j ≤ i))) := OpR.weak op_ge fun x y H Q ⟨B, F, Θ, a, b, μ, c, o, ra, rb, e, q⟩ => by
  obtain ⟨i, j, rfl, rfl, rfl⟩ := intC_inv e
  exact ⟨i, j, dd_int ra, dd_int rb, q⟩
theorem isNC_inv {F : Hp} {Θ : List Addr} {a b : U} {μ : Mu} {c : Bool} {x y : V} (ra : RelU F Θ a x) (rb : RelU F Θ b y) (e : isNC a b μ = some c) : y = .non ∧ c = decide (x = .non) := by
  unfold isNC at e
  split at e
  · cases rb
    refine ⟨rfl, ?_⟩
    split at e
    · cases ra; cases e; rfl
    · rename_i h
      cases e
      symm
      apply decide_eq_false
      rintro rfl
      cases a with
      | d z => cases ra; exact h rfl
      | p k => obtain ⟨_, _, z⟩ := ra; cases z
  · cases e
theorem oc_is : OpR X (compareOp .Is) (rCmp isNC) := OpR.weak op_isN fun x y H Q ⟨B, F, Θ, a, b, μ, c, o, ra, rb, e, q⟩ => by
  obtain ⟨h1, rfl⟩ := isNC_inv ra rb e
  exact ⟨h1, q⟩
theorem oc_isnot : OpR X (compareOp .IsNot) (rCmp (negC isNC)) := OpR.weak op_notN fun x y H Q ⟨B, F, Θ, a, b, μ, c, o, ra, rb, e, q⟩ => by
  unfold negC at e
  cases e2 : isNC a b μ with
  | none => rw [e2] at e; cases e
  | some c' =>
    rw [e2] at e
    cases e
    obtain ⟨h1, rfl⟩ := isNC_inv ra rb e2
    exact ⟨h1, q⟩
def rInT (n : Bool) : R2 := fun x y H Q => ∃ d ds, Dd H x d ∧ Dd H y (.tuple ds) ∧ SeqAt.shaped d = true ∧ SeqAt.shaped (.tuple ds) = true ∧ Q (.bl (if n then !(ds.any fun z => PyData.eqv z d) else ds.any fun z => PyData.eqv z d)) H
theorem op_inT (hu : X.A.units + 65 < cLine) : OpR X (compareOp .In) (rInT false) := by
  intro pins s σ H x y v u Q I rx ry ⟨d, ds, hd, he, sd, se, q⟩
  obtain ⟨_, r1⟩ := Dp.reads I d x v hd.dp rx
  obtain ⟨_, r2⟩ := Dp.reads I _ y u he.dp ry
  exact SeqAt.in_tuple_reads r2 r1 (SeqAt.canLay_of_shaped se) (SeqAt.canLay_of_shaped sd) (room_in_shaped sd hu) ⟨.bl _, H, I, rfl, q⟩
theorem op_notInT (hu : X.A.units + 65 < cLine) : OpR X (compareOp .NotIn) (rInT true) := by
  intro pins s σ H x y v u Q I rx ry ⟨d, ds, hd, he, sd, se, q⟩
  obtain ⟨_, r1⟩ := Dp.reads I d x v hd.dp rx
  obtain ⟨_, r2⟩ := Dp.reads I _ y u he.dp ry
  exact SeqAt.notIn_tuple_reads r2 r1 (SeqAt.canLay_of_shaped se) (SeqAt.canLay_of_shaped sd) (room_in_shaped sd hu) ⟨.bl _, H, I, rfl, q⟩
theorem oc_in (hu : X.A.units + 65 < cLine) : OpR X (compareOp .In) (rCmp inC) := OpR.weak ((op_inD hu).or (op_inT hu)) fun x y H Q ⟨B, F, Θ, a, b, μ, c, o, ra, rb, e, q⟩ => by
  unfold inC at e
  split at e
  · rename_i d1 d2 e1 e2
    split at e
    · rename_i h
      simp only [Bool.and_eq_true] at h
      cases e
      exact .inl ⟨d1, d2, (view_ok o ra e1).dp, (view_ok o rb e2).dp, h.1, h.2, q⟩
    · cases e
  · rename_i d1 d2 e1 e2
    split at e
    · rename_i h
      simp only [Bool.and_eq_true] at h
      cases e
      exact .inr ⟨d1, d2, view_ok o ra e1, view_ok o rb e2, h.1, h.2, q⟩
    · cases e
  · cases e
theorem oc_notin (hu : X.A.units + 65 < cLine) : OpR X (compareOp .NotIn) (rCmp (negC inC)) := OpR.weak ((op_notInD hu).or (op_notInT hu)) fun x y H Q ⟨B, F, Θ, a, b, μ, c, o, ra, rb, e, q⟩ => by
  unfold negC inC at e
  split at e
  · rename_i d1 d2 e1 e2
    split at e
    · rename_i h
      simp only [Bool.and_eq_true] at h
      cases e
      exact .inl ⟨d1, d2, (view_ok o ra e1).dp, (view_ok o rb e2).dp, h.1, h.2, q⟩
    · cases e
  · rename_i d1 d2 e1 e2
    split at e
    · rename_i h
      simp only [Bool.and_eq_true] at h
      cases e
      exact .inr ⟨d1, d2, view_ok o ra e1, view_ok o rb e2, h.1, h.2, q⟩
    · cases e
  · cases e
end

/-! ### built-ins of one argument -/
abbrev Fn1 := U → Mu → R U
def rFn1 (ER : ExR) (E : XK) (g : Fn1) : List V → Hp → VK → Prop := fun xs H Q => ∃ B F Θ a x μ, xs = [x] ∧ Ok B F Θ μ H ∧ RelU F Θ a x ∧ PostE B ER E F Θ Q (g a μ)
def lenM : Fn1 := fun u μ => match items u μ with
  | some (_, us) => .ok (.d (.int us.length)) μ
  | none => .stuck
def absM : Fn1 := fun u μ => match u with
  | .d (.int i) => .ok (.d (.int (if i < 0 then -i else i))) μ
  | _ => .stuck
def b2z (b : Bool) : Int := if b then 1 else 0
def intM : Fn1 := fun u μ => match u with
  | .d (.int i) => .ok (.d (.int i)) μ
  | .d (.bool b) => .ok (.d (.int (b2z b))) μ
  | _ => .stuck
def tupleM : Fn1 := fun u μ => match items u μ with
  | some (true, us) => mkT us μ
  | some (false, us) => mkT us μ
  | none => .stuck
def listM (m : Bool) : Fn1 := fun u μ => match items u μ with
  | some (_, us) => mkL m us μ
  | none => .stuck
def allInts : List U → Option (List Int)
  | [] => some []
  | .d (.int i) :: r => (allInts r).map (i :: ·)
  | _ :: _ => none
def allBools : List U → Option (List Bool)
  | [] => some []
  | .d (.bool i) :: r => (allBools r).map (i :: ·)
  | _ :: _ => none
def seqL (u : U) (μ : Mu) : Option (List U) := match items u μ with
  | some (false, us) => some us
  | _ => none
def sumM : Fn1 := fun u μ => match (seqL u μ).bind allInts with
  | some ns => .ok (.d (.int ns.sum)) μ
  | none => .stuck
def allM : Fn1 := fun u μ => match (seqL u μ).bind allBools with
  | some ns => .ok (.d (.bool (ns.all id))) μ
  | none => .stuck
def anyM : Fn1 := fun u μ => match (seqL u μ).bind allBools with
  | some ns => .ok (.d (.bool (ns.any id))) μ
  | none => .stuck
def maxI : List Int → Option Int
  | [] => none
  | x :: r => some (r.foldl (fun a b => if a < b then b else a) x)
def minI : List Int → Option Int
  | [] => none
  | x :: r => some (r.foldl (fun a b => if b < a then b else a) x)
def maxM : Fn1 := fun u μ => match ((seqL u μ).bind allInts).bind maxI with
  | some n => .ok (.d (.int n)) μ
  | none => .stuck
def minM : Fn1 := fun u μ => match ((seqL u μ).bind allInts).bind minI with
  | some n => .ok (.d (.int n)) μ
  | none => .stuck
def isDisp : PyData → Bool
  | .list _ => true
  | .tuple _ => true
  | _ => false
def reprM : Fn1 := fun u μ => match view u μ with
  | some x => if isDisp x && (x.showable && decide (x.shown.length ≤ lim)) && SeqAt.shaped x then .ok (.d (.str x.shown)) μ else .stuck
  | none => .stuck
section
variable {X : Cx} {ER : ExR} {E : XK}
theorem cb_len : CallR X (.builtin "len") (rFn1 ER E lenM) := CallR.weak call_len_seq fun xs H Q ⟨B, F, Θ, a, x, μ, e, o, ra, q⟩ => by
  unfold lenM at q
  cases h : items a μ with
  | none => rw [h] at q; exact q.elim
  | some p =>
    obtain ⟨t, us⟩ := p
    rw [h] at q
    obtain ⟨p, ws, rfl, rl, hs⟩ := items_ok o ra h
    refine ⟨p, ws, e, at_sq hs, ?_⟩
    have := post_dat o (.int _) q
    rw [paired_len rl] at this
    exact this
theorem cb_abs : CallR X (.builtin "abs") (rFn1 ER E absM) := CallR.weak call_abs fun xs H Q ⟨B, F, Θ, a, x, μ, e, o, ra, q⟩ => by
  unfold absM at q
  split at q
  · cases dd_int ra
    exact ⟨_, e, post_dat o (.int _) q⟩
  · exact q.elim
theorem cb_int : CallR X (.type "int") (rFn1 ER E intM) := CallR.weak call_int1 fun xs H Q ⟨B, F, Θ, a, x, μ, e, o, ra, q⟩ => by
  unfold intM at q
  split at q
  · cases dd_int ra
    exact .inl ⟨_, e, post_dat o (.int _) q⟩
  · rename_i b
    cases ra
    refine .inr ⟨b, e, ?_⟩
    have := post_dat o (.int _) q
    exact this
  · exact q.elim
theorem cb_tuple : CallR X (.type "tuple") (rFn1 ER E tupleM) := CallR.weak call_tuple_of fun xs H Q ⟨B, F, Θ, a, x, μ, e, o, ra, q⟩ => by
  unfold tupleM at q
  cases h : items a μ with
  | none => rw [h] at q; exact q.elim
  | some p =>
    obtain ⟨t, us⟩ := p
    rw [h] at q
    obtain ⟨p, ws, rfl, rl, hs⟩ := items_ok o ra h
    refine ⟨p, ws, e, ?_⟩
    cases t with
    | false =>
      obtain ⟨_, hp⟩ : false = false ∧ H p = some (.lst ws) := hs.elim (fun z => z) (fun z => by cases z.1)
      exact .inl ⟨SqL.of hp, (mkT_ok o rl q).2⟩
    | true =>
      obtain ⟨_, hp⟩ : true = true ∧ H p = some (.tup ws) := hs.elim (fun z => by cases z.1) (fun z => z)
      refine .inr ⟨SqT.of hp, ?_⟩
      unfold mkT at q
      simp only at q
      split at q
      · cases a with
        | d y =>
          cases y with
          | tuple ds =>
            cases h
            rw [toDs_map] at q
            exact post_dat o ra q
          | list _ => cases h
          | none => cases h
          | bool _ => cases h
          | int _ => cases h
          | str _ => cases h
          | dict _ => cases h
        | p k =>
          unfold items at h
          simp only at h
          split at h <;> cases h
      · exact q.elim
theorem cb_list (m : Bool) : CallR X (.type "list") (rFn1 ER E (listM m)) := CallR.weak call_list_of fun xs H Q ⟨B, F, Θ, a, x, μ, e, o, ra, q⟩ => by
  unfold listM at q
  cases h : items a μ with
  | none => rw [h] at q; exact q.elim
  | some p =>
    obtain ⟨t, us⟩ := p
    rw [h] at q
    obtain ⟨p, ws, rfl, rl, hs⟩ := items_ok o ra h
    exact ⟨p, ws, e, at_sq hs, (mkL_ok o rl q).2⟩
theorem allInts_eq : ∀ {us : List U} {ns : List Int}, allInts us = some ns → us = ns.map fun i => .d (.int i)
  | [], ns, h => by cases h; rfl
  | .d (.int i) :: r, ns, h => by
    unfold allInts at h
    cases e : allInts r with
    | none => rw [e] at h; cases h
    | some es => rw [e] at h; cases h; rw [allInts_eq e]; rfl
  | .d .none :: _, _, h => by cases h
  | .d (.bool _) :: _, _, h => by cases h
  | .d (.str _) :: _, _, h => by cases h
  | .d (.list _) :: _, _, h => by cases h
  | .d (.tuple _) :: _, _, h => by cases h
  | .d (.dict _) :: _, _, h => by cases h
  | .p _ :: _, _, h => by cases h
theorem allBools_eq : ∀ {us : List U} {ns : List Bool}, allBools us = some ns → us = ns.map fun i => .d (.bool i)
  | [], ns, h => by cases h; rfl
  | .d (.bool i) :: r, ns, h => by
    unfold allBools at h
    cases e : allBools r with
    | none => rw [e] at h; cases h
    | some es => rw [e] at h; cases h; rw [allBools_eq e]; rfl
  | .d .none :: _, _, h => by cases h
  | .d (.int _) :: _, _, h => by cases h
  | .d (.str _) :: _, _, h => by cases h
  | .d (.list _) :: _, _, h => by cases h
  | .d (.tuple _) :: _, _, h => by cases h
  | .d (.dict _) :: _, _, h => by cases h
  | .p _ :: _, _, h => by cases h
theorem relI {F : Hp} {Θ : List Addr} : ∀ {ns : List Int} {xs : List V}, RelL F Θ (ns.map fun i => .d (.int i)) xs → xs = ns.map V.int
  | [], _, .nil => rfl
  | _ :: _, _, .cons h t => by rw [dd_int h, relI t]; rfl
theorem relB {F : Hp} {Θ : List Addr} : ∀ {ns : List Bool} {xs : List V}, RelL F Θ (ns.map fun i => .d (.bool i)) xs → xs = ns.map V.bl
  | [], _, .nil => rfl
  | _ :: _, _, .cons h t => by cases h; rw [relB t]; rfl
theorem seqL_ok {B : Bg} {F H : Hp} {Θ : List Addr} {μ : Mu} {u : U} {v : V} {us : List U} (o : Ok B F Θ μ H) (r : RelU F Θ u v) (h : seqL u μ = some us) : ∃ a xs, v = .ref a ∧ RelL F Θ us xs ∧ H a = some (.lst xs) := by
  unfold seqL at h
  split at h
  · rename_i e
    cases h
    obtain ⟨p, ws, rfl, rl, hs⟩ := items_ok o r e
    obtain ⟨_, hp⟩ : false = false ∧ H p = some (.lst ws) := hs.elim (fun z => z) (fun z => by cases z.1)
    exact ⟨p, ws, rfl, rl, hp⟩
  · cases h
theorem ints_ok {B : Bg} {F H : Hp} {Θ : List Addr} {μ : Mu} {u : U} {v : V} {ns : List Int} (o : Ok B F Θ μ H) (r : RelU F Θ u v) (h : (seqL u μ).bind allInts = some ns) : ∃ a, v = .ref a ∧ H a = some (.lst (ns.map V.int)) := by
  cases e : seqL u μ with
  | none => rw [e] at h; cases h
  | some us =>
    rw [e] at h
    obtain ⟨a, xs, rfl, rl, hp⟩ := seqL_ok o r e
    rw [allInts_eq h] at rl
    rw [relI rl] at hp
    exact ⟨a, rfl, hp⟩
theorem bools_ok {B : Bg} {F H : Hp} {Θ : List Addr} {μ : Mu} {u : U} {v : V} {ns : List Bool} (o : Ok B F Θ μ H) (r : RelU F Θ u v) (h : (seqL u μ).bind allBools = some ns) : ∃ a, v = .ref a ∧ H a = some (.lst (ns.map V.bl)) := by
  cases e : seqL u μ with
  | none => rw [e] at h; cases h
  | some us =>
    rw [e] at h
    obtain ⟨a, xs, rfl, rl, hp⟩ := seqL_ok o r e
    rw [allBools_eq h] at rl
    rw [relB rl] at hp
    exact ⟨a, rfl, hp⟩
theorem cb_sum (hc : X.calm = true) : CallR X (.builtin "sum") (rFn1 ER E sumM) := CallR.weak (cr_sum hc) fun xs H Q ⟨B, F, Θ, a, x, μ, e, o, ra, q⟩ => by
  unfold sumM at q
  split at q
  · rename_i h
    obtain ⟨p, rfl, hp⟩ := ints_ok o ra h
    exact ⟨p, _, e, SqL.of hp, post_dat o (.int _) q⟩
  · exact q.elim
theorem cb_all (hc : X.calm = true) : CallR X (.builtin "all") (rFn1 ER E allM) := CallR.weak (cr_all hc) fun xs H Q ⟨B, F, Θ, a, x, μ, e, o, ra, q⟩ => by
  unfold allM at q
  split at q
  · rename_i h
    obtain ⟨p, rfl, hp⟩ := bools_ok o ra h
    exact ⟨p, _, e, SqL.of hp, post_dat o (.bl _) q⟩
  · exact q.elim
theorem cb_any (hc : X.calm = true) : CallR X (.builtin "any") (rFn1 ER E anyM) := CallR.weak (cr_any hc) fun xs H Q ⟨B, F, Θ, a, x, μ, e, o, ra, q⟩ => by
  unfold anyM at q
  split at q
  · rename_i h
    obtain ⟨p, rfl, hp⟩ := bools_ok o ra h
    exact ⟨p, _, e, SqL.of hp, post_dat o (.bl _) q⟩
  · exact q.elim
theorem maxF_ok : ∀ (r : List Int) (x : Int), (r.foldl (fun a b => if a < b then b else a) x) ∈ x :: r ∧ ∀ y ∈ x :: r, y ≤ r.foldl (fun a b => if a < b then b else a) x
  | [], x => by simp
  | b :: r, x => by
    rw [List.foldl_cons]
    obtain ⟨h1, h2⟩ := maxF_ok r (if x < b then b else x)
    refine ⟨?_, fun y hy => ?_⟩
    · rcases List.mem_cons.mp h1 with h | h
      · rw [h]; split <;> simp
      · simp [h]
    · have h3 := h2 _ List.mem_cons_self
      rcases List.mem_cons.mp hy with rfl | hy
      · refine Int.le_trans ?_ h3; split <;> omega
      · rcases List.mem_cons.mp hy with rfl | hy
        · refine Int.le_trans ?_ h3; split <;> omega
        · exact h2 y (List.mem_cons_of_mem _ hy)
theorem minF_ok : ∀ (r : List Int) (x : Int), (r.foldl (fun a b => if b < a then b else a) x) ∈ x :: r ∧ ∀ y ∈ x :: r, r.foldl (fun a b => if b < a then b else a) x ≤ y
  | [], x => by simp
  | b :: r, x => by
    rw [List.foldl_cons]
    obtain ⟨h1, h2⟩ := minF_ok r (if b < x then b else x)
    refine ⟨?_, fun y hy => ?_⟩
    · rcases List.mem_cons.mp h1 with h | h
      · rw [h]; split <;> simp
      · simp [h]
    · have h3 := h2 _ List.mem_cons_self
      rcases List.mem_cons.mp hy with rfl | hy
      · refine Int.le_trans h3 ?_; split <;> omega
      · rcases List.mem_cons.mp hy with rfl | hy
        · refine Int.le_trans h3 ?_; split <;> omega
        · exact h2 y (List.mem_cons_of_mem _ hy)
theorem cb_max (hc : X.calm = true) : CallR X (.builtin "max") (rFn1 ER E maxM) := CallR.weak (cr_max hc) fun xs H Q ⟨B, F, Θ, a, x, μ, e, o, ra, q⟩ => by
  unfold maxM at q
  cases h : (seqL a μ).bind allInts with
  | none => rw [h] at q; exact q.elim
  | some ns =>
    rw [h] at q
    obtain ⟨p, rfl, hp⟩ := ints_ok o ra h
    cases ns with
    | nil => exact q.elim
    | cons y r =>
      have q' := post_dat o (.int _) q
      obtain ⟨h1, h2⟩ := maxF_ok r y
      refine ⟨p, y :: r, e, SqL.of hp, by simp, fun m hm hle => ?_⟩
      have : m = r.foldl (fun a b => if a < b then b else a) y := Int.le_antisymm (h2 m hm) (hle _ h1)
      rw [this]; exact q'
theorem cb_min (hc : X.calm = true) : CallR X (.builtin "min") (rFn1 ER E minM) := CallR.weak (cr_min hc) fun xs H Q ⟨B, F, Θ, a, x, μ, e, o, ra, q⟩ => by
  unfold minM at q
  cases h : (seqL a μ).bind allInts with
  | none => rw [h] at q; exact q.elim
  | some ns =>
    rw [h] at q
    obtain ⟨p, rfl, hp⟩ := ints_ok o ra h
    cases ns with
    | nil => exact q.elim
    | cons y r =>
      have q' := post_dat o (.int _) q
      obtain ⟨h1, h2⟩ := minF_ok r y
      refine ⟨p, y :: r, e, SqL.of hp, by simp, fun m hm hle => ?_⟩
      have : m = r.foldl (fun a b => if b < a then b else a) y := Int.le_antisymm (hle _ h1) (h2 m hm)
      rw [this]; exact q'
theorem cb_repr (hg : X.A.guards = some []) (hu : X.A.units + 66 < cLine) : CallR X (.builtin "repr") (rFn1 ER E reprM) := by
  intro pins s σ H xs us Q I r ⟨B, F, Θ, a, x, μ, e, o, ra, q⟩
  subst e
  obtain ⟨u, rfl, ru⟩ := vals1 r
  unfold reprM at q
  cases h : view a μ with
  | none => rw [h] at q; exact q.elim
  | some d =>
    rw [h] at q
    simp only at q
    split at q
    · rename_i c
      simp only [Bool.and_eq_true, decide_eq_true_eq] at c
      obtain ⟨⟨c1, c2, c3⟩, c4⟩ := c
      have dd := view_ok o ra h
      obtain ⟨as, rd⟩ := Dp.reads I d x u dd.dp ru
      have hd := SeqAt.depth_of_shaped c4
      have nd : d.hasDict = false := PyData.hasDict_of_canLay d (SeqAt.canLay_of_shaped c4)
      have fin : ∀ y, u = .ref y → wpAny (model X.prog X.w) X.A (call (.builtin "repr") [u]) (EP X pins σ Q) X.xe s := fun y hy => by
        subst hy
        refine repr_of_reads' rd c2 (fun z => by rw [nd] at z; cases z) hg (by omega) (fun _ _ z => z) (fun h' t tk hk => ?_) (by rw [← lim_eq]; exact c3)
        exact ⟨.str d.shown, H, I.kept (t' := tk) hk, ⟨_, rfl⟩, post_dat o (.str _) q⟩
      cases dd with
      | lst _ _ => exact fin _ ru
      | tup _ _ => exact fin _ ru
      | non => cases c1
      | bl _ => cases c1
      | int _ => cases c1
      | str _ => cases c1
    · exact q.elim
end
end Vm
set_option Elab.async false
set_option linter.all false
set_option maxRecDepth 100000
set_option maxHeartbeats 1000000
/-! Vm, part C: the promise of a def (in a place where no repr is under way), its body, its call. -/
namespace Vm
open PySem PySem.Spec PyProof.Rows L2

/-- the promise of a def, asked where no repr is under way -/
structure FnG (P : Program) (w : World) (K : PySem.W.Frag) (mg : Str → Option Value) (base : Heap)
    (CX : CXT) (k : Nat) (f : Addr) (fd : FuncData) (ps : List Str) (sp : Sp) : Prop where
  len : ∀ vs H Q E, sp vs H Q E → vs.length = ps.length
  run : ∀ (A : Around) (out : List Env) (s : Shared) (H : Hp) (args : Args) (us : List Value) (vs : List V) (Q : VK) (E : XK),
    A.guards = some [] → Room k A → Env0 P w K mg base A out s H → BindsTo s fd args (ps.zip us) → Vals vs us → sp vs H Q E →
    codeAny (model P w) A (.call (.ref f) args) (CR CX out P w H s Q E) s

section
variable {P : Program} {w : World} {K : PySem.W.Frag} {mg : Str → Option Value} {base : Heap} {CX : CXT} {k : Nat} {f : Addr} {fd : FuncData} {ps N : List Str} {sp : Sp}
/-- a def keeps its promise, by its body -/
theorem fnG_of {name qual : Str} {params : Arguments} {body : List Stmt} {scope : Scope} {kV doc pm cdv ct oc dV : Value} {an od : Option Addr} {osl : Array (Option Value)}
    (lk : K.lookup f = some ⟨oc, od, .func (PySem.W.fnOf name qual params body scope dV kV doc pm an cdv ct), osl⟩)
    (hcd : PySem.W.codeIn K cdv qual = true) (S : FnScope N ps scope) (len : ∀ vs H Q E, sp vs H Q E → vs.length = ps.length)
    (hbody : ∀ (A : Around) (out : List Env) (s : Shared) (H : Hp) (vs : List V) (Q : VK) (E : XK), A.guards = some [] →
      Room k (A.deeper (envOfC qual scope s.heap.objs.size f cdv)) → sp vs H Q E →
      ∃ t, PSs (cxOf CX P w K mg base N qual scope f cdv A out s H E) body t ∧ t { nx := fun _ H' => Q .non H', rt := Q } (start N vs) H) :
    FnG P w K mg base CX (k + 1) f (PySem.W.fnOf name qual params body scope dV kV doc pm an cdv ct) ps sp := by
  constructor
  · exact len
  · intro A out s H args us vs Q E hg hr e0 hb r hsp
    have hl := len _ _ _ _ hsp
    have keep : ∀ b o, base.get? b = some o → s.heap.get? b = some o := fun b o e => (e0.bs b o e).1
    have kin : K.In s.heap := e0.mod.kin.keeps keep
    have par : ∀ y ∈ ps.zip us, scope.names.lookup y.1 = some .local ∨
        (scope.names.lookup y.1 = some .cell ∧ ((cellsFrom (s.heap.objs.size + 1) scope.names []).lookup y.1).isSome = true) := by
      rintro ⟨n, v⟩ hy
      cases S.par n (List.of_mem_zip hy).1 with
      | inl q => exact .inl q
      | inr q => exact .inr ⟨q, PySem.W.cellsFrom_some _ _ _ (.inl q)⟩
    refine codeAny_call_function hr.depth (kin _ _ lk) rfl S.co S.gen rfl (PySem.W.codeRec_of kin hcd) (hb _ _ _ _ ?_)
    refine wpAny_newFunctionEnv_cells S.kind par fun env he s1 x => ?_
    subst he
    have lims : s1.heap.NoLimit := (e0.mod.nolimit.keeps keep).keeps x.toInCall.keep
    refine ⟨lims, codeAny_func ?_⟩
    obtain ⟨t, ht, hq⟩ := hbody A out s H vs Q E hg (hr.deeper _) hsp
    have I : Inv (cxOf CX P w K mg base N qual scope f cdv A out s H E) [] (start N vs) H s1 := inv_start S hr.hd e0 hl r x
    refine wpAny_mono (ht.run [] s1 (start N vs) H _ I hq) ?_ (fun e s' hs => hs)
    intro fl s' hs
    cases fl with
    | ret u =>
      obtain ⟨v, σ', H', J, rv, q⟩ := hs
      exact ⟨v, H', J.os, J.bare, J.base, J.hok, rv, q⟩
    | next =>
      obtain ⟨σ', H', J, q⟩ := hs
      exact ⟨V.non, H', J.os, J.bare, J.base, J.hok, rfl, q⟩
    | brk => obtain ⟨_, _, _, q⟩ := hs; exact q.elim
    | cont => obtain ⟨_, _, _, q⟩ := hs; exact q.elim
end

section
variable {X : Cx} {CX : CXT} {k : Nat} {f : Addr} {fd : FuncData} {ps : List Str} {sp : Sp} {E : XK} {x : Str} {p pos : Pos}
theorem runG {pins : List (Addr × Obj)} {σ : L2.St} {H : Hp} {s : Shared} {Q : VK} {args : Args} {us : List Value} {vs : List V}
    (F : FnG X.prog X.w X.K X.mg X.base CX k f fd ps sp) (hg : X.A.guards = some []) (hr : Room k X.A) (hx : Passes CX X E) (I : Inv X pins σ H s)
    (hb : BindsTo s fd args (ps.zip us)) (r : Vals vs us) (h : sp vs H Q E) :
    codeAny (model X.prog X.w) X.A (.call (.ref f) args) (fun res s' => match res with
      | .ok (.ret u) => EP X pins σ Q u s'
      | .ok _ => False
      | .error e => X.xe e s') s := by
  refine codeAny_mono (F.run X.A X.stack s H args us vs Q E hg hr I.env0 hb r h) ?_
  intro res s' hq
  cases res with
  | error e => exact hx pins σ H s e s' I hq
  | ok fl => cases fl with
    | ret u => exact I.after hq
    | _ => exact hq.elim
/-- f(e, ..) -/
theorem pe_callG {es : List Expr} {e : Expr} {t : TA} (F : FnG X.prog X.w X.K X.mg X.base CX k f fd ps sp) (hg : X.A.guards = some []) (hr : Room k X.A)
    (gl : Gl X x) (hm : X.mg x = some (.ref f)) (hk : PySem.W.keepIn X.K (.ref f) = true) (hb : Binds X.K fd ps []) (hx : Passes CX X E) (ha : PA X (e :: es) t)
    (hdb : (x == ("__debug__" : Str)) = false) (he : starEach (e :: es) X.env = (false, eval e X.env) :: starEach es X.env) (hpl : (backTo pos (starEach es X.env)).any (·.1) = false) :
    PE X (.Call (.Name x p) (e :: es) [] pos) (fun σ H Q => t σ H fun vs H1 => sp vs H1 Q E) := by
  constructor
  intro pins s σ H Q I h
  refine wpAny_Call_Name_kw (ld_glob I gl hm ?_ hdb)
  refine PySem.W.callWith_K (h₀ := X.base) I.ok.mod.kin hk (thn (ha.run pos pins s σ H _ I h) ?_) he hpl
  rintro us s1 ⟨vs, H1, I1, r, q⟩
  have hl : us.length = ps.length := r.length.symm.trans (F.len _ _ _ _ q)
  have hb' := hb s1 us I1.kIn (by simpa using hl)
  rw [List.append_nil] at hb'
  exact ⟨I1.kIn, wpAny_call (codeAny_mono (runG F hg hr hx I1 hb' r q) fun res s' hq => by
    cases res with
    | error e => exact hq
    | ok fl => cases fl with
      | ret u => exact hq
      | _ => exact hq.elim)⟩
/-- f() -/
theorem pe_callG0 (F : FnG X.prog X.w X.K X.mg X.base CX k f fd ps sp) (hg : X.A.guards = some []) (hr : Room k X.A)
    (gl : Gl X x) (hm : X.mg x = some (.ref f)) (hk : PySem.W.keepIn X.K (.ref f) = true) (hb : Binds X.K fd ps []) (hx : Passes CX X E)
    (hdb : (x == ("__debug__" : Str)) = false) : PE X (.Call (.Name x p) [] [] pos) (fun σ H Q => sp [] H Q E) := by
  constructor
  intro pins s σ H Q I h
  refine wpAny_Call_Name_kw (ld_glob I gl hm ?_ hdb)
  have hl : ([] : List Value).length = ps.length := F.len _ _ _ _ h
  have hb' := hb s [] I.kIn (by simpa using hl)
  refine PySem.W.callWith_K0 I.kIn hk ?_
  exact wpAny_call (codeAny_mono (runG F hg hr hx I hb' .nil h) fun res s' hq => by
    cases res with
    | error e => exact hq
    | ok fl => cases fl with
      | ret u => exact hq
      | _ => exact hq.elim)
/-- f(k = v, ..): every parameter by its name; pm: where each parameter's value stands among the written ones -/
theorem pe_callGK {kws : List Keyword} {tk : TA} {ks : List Str} {pm : List Nat} (F : FnG X.prog X.w X.K X.mg X.base CX k f fd ps sp) (hg : X.A.guards = some []) (hr : Room k X.A)
    (gl : Gl X x) (hm : X.mg x = some (.ref f)) (hk : PySem.W.keepIn X.K (.ref f) = true) (hx : Passes CX X E) (hkw : PK X kws tk)
    (hb : ∀ (s : Shared) (ws us : List Value), pm.map (ws[·]?) = us.map some → ws.length = ks.length → BindsTo s fd ⟨[], ks.zip ws⟩ (ps.zip us))
    (hall : (backToKw pos (keywordEach kws X.env)).all (·.1.isSome) = true) (hks : (backToKw pos (keywordEach kws X.env)).filterMap (·.1) = ks)
    (hpl : ((backTo pos (starEach [] X.env)).any (·.1) || (backToKw pos (keywordEach kws X.env)).any (·.1.isNone)) = false) (hdb : (x == ("__debug__" : Str)) = false) :
    PE X (.Call (.Name x p) [] kws pos) (fun σ H Q => tk σ H fun zs H1 => zs.length = ks.length ∧ ∃ vs, pm.map (zs[·]?) = vs.map some ∧ sp vs H1 Q E) := by
  constructor
  intro pins s σ H Q I h
  refine wpAny_Call_Name_kw (ld_glob I gl hm ?_ hdb)
  refine PySem.W.callWith_KW0 (h₀ := X.base) I.ok.mod.kin hk hall (thn (hkw.run pos pins s σ H _ I h) ?_) hpl
  rintro ws s1 ⟨zs, H1, I1, rz, hl, vs, hv, q⟩
  refine ⟨I1.kIn, ?_⟩
  rw [hks]
  have key : ∀ (pm : List Nat) (vs : List V), pm.map (zs[·]?) = vs.map some → ∃ us : List Value, pm.map (ws[·]?) = us.map some ∧ Vals vs us := by
    intro pm
    induction pm with
    | nil =>
      intro vs e
      cases vs with
      | nil => exact ⟨[], rfl, .nil⟩
      | cons _ _ => cases e
    | cons i r ih =>
      intro vs e
      cases vs with
      | nil => cases e
      | cons v vr =>
        rw [List.map_cons, List.map_cons] at e
        injection e with e1 e2
        obtain ⟨u, h1, h2⟩ := rz.get e1
        obtain ⟨us, h3, h4⟩ := ih vr e2
        exact ⟨u :: us, by rw [List.map_cons, List.map_cons, h1, h3], .cons h2 h4⟩
  obtain ⟨us, hu, rv⟩ := key pm vs hv
  exact wpAny_call (codeAny_mono (runG F hg hr hx I1 (hb s1 ws us hu (rz.length.symm.trans hl)) rv q) fun res s' hq => by
    cases res with
    | error e => exact hq
    | ok fl => cases fl with
      | ret u => exact hq
      | _ => exact hq.elim)
end
end Vm
set_option Elab.async false
set_option linter.all false
set_option maxRecDepth 100000
set_option maxHeartbeats 1000000
/-! Vm, part D: subscripts, slices, methods, dicts, sets by values. -/
namespace Vm
open PySem PySem.Spec PyProof.Rows L2

/-! ### dicts -/
section
variable {κ : Type} [DecidableEq κ]
def getK (kvs : List (κ × U)) (k : κ) : Option U := (kvs.find? fun kv => decide (kv.1 = k)).map (·.2)
def putU (kvs : List (κ × U)) (k : κ) (u : U) : List (κ × U) := if kvs.any fun kv => decide (kv.1 = k) then kvs.map fun kv => if kv.1 = k then (kv.1, u) else kv else kvs ++ [(k, u)]
def dropU (kvs : List (κ × U)) (k : κ) : List (κ × U) := kvs.filter fun kv => decide (kv.1 ≠ k)
variable {F : Hp} {Θ : List Addr}
theorem relKV_get {kvs : List (κ × U)} {ws : List (κ × V)} (r : RelKV F Θ kvs ws) (k : κ) : (getK kvs k = none ∧ valV ws k = none) ∨ ∃ u v, getK kvs k = some u ∧ valV ws k = some v ∧ RelU F Θ u v := by
  induction r with
  | nil => exact .inl ⟨rfl, rfl⟩
  | @cons p q l₁ l₂ h t ih =>
    unfold getK valV at ih ⊢
    rw [List.find?_cons, List.find?_cons, ← h.1]
    by_cases e : p.1 = k
    · simp only [e, decide_true]
      exact .inr ⟨_, _, rfl, rfl, h.2⟩
    · simp only [e, decide_false]
      exact ih
theorem relKV_any {kvs : List (κ × U)} {ws : List (κ × V)} (r : RelKV F Θ kvs ws) (k : κ) : (kvs.any fun kv => decide (kv.1 = k)) = ws.any fun kv => decide (kv.1 = k) := by
  induction r with
  | nil => rfl
  | cons h t ih => rw [List.any_cons, List.any_cons, h.1, ih]
theorem relKV_map {kvs : List (κ × U)} {ws : List (κ × V)} {u : U} {v : V} (r : RelKV F Θ kvs ws) (k : κ) (ru : RelU F Θ u v) :
    RelKV F Θ (kvs.map fun kv => if kv.1 = k then (kv.1, u) else kv) (ws.map fun kv => if kv.1 = k then (kv.1, v) else kv) := by
  induction r with
  | nil => exact .nil
  | @cons p q l₁ l₂ h t ih =>
    rw [List.map_cons, List.map_cons]
    refine .cons ?_ ih
    rw [← h.1]
    split
    · exact ⟨rfl, ru⟩
    · exact h
theorem relKV_put {kvs : List (κ × U)} {ws : List (κ × V)} {u : U} {v : V} (r : RelKV F Θ kvs ws) (k : κ) (ru : RelU F Θ u v) : RelKV F Θ (putU kvs k u) (putK ws k v) := by
  unfold putU putK
  rw [relKV_any r k]
  split
  · exact relKV_map r k ru
  · exact paired_app r (.cons ⟨rfl, ru⟩ .nil)
theorem relKV_drop {kvs : List (κ × U)} {ws : List (κ × V)} (r : RelKV F Θ kvs ws) (k : κ) : RelKV F Θ (dropU kvs k) (dropK ws k) := by
  unfold dropU dropK
  induction r with
  | nil => exact .nil
  | @cons p q l₁ l₂ h t ih =>
    rw [List.filter_cons, List.filter_cons, ← h.1]
    split
    · exact .cons h ih
    · exact ih
end
/-- a key of a dict of the first kind, of the second -/
def keyA : PyData → Option Key
  | .int i => some (.inl i)
  | .str x => some (.inr x)
  | _ => none
def keysA : List PyData → Option (List Key)
  | [] => some []
  | x :: r => match keyA x, keysA r with
    | some k, some ks => some (k :: ks)
    | _, _ => none
def keyT : PyData → Option (List Key)
  | .tuple xs => keysA xs
  | _ => none
def datA : Key → PyData
  | .inl i => .int i
  | .inr x => .str x
def datT (k : List Key) : PyData := .tuple (k.map datA)
section
variable {F H : Hp}
theorem keyA_ok {v : V} {x : PyData} {k : Key} (h : Dd F v x) (e : keyA x = some k) : v = kV k := by
  cases h with
  | int i => cases e; rfl
  | str z => cases e; rfl
  | _ => cases e
theorem keysA_ok : ∀ {vs : List V} {xs : List PyData} {ks : List Key}, DdAll F vs xs → keysA xs = some ks → vs = ks.map kV
  | _, _, ks, .nil, e => by cases e; rfl
  | _, x :: r, ks, .cons h t, e => by
    unfold keysA at e
    split at e
    · rename_i k ks' e1 e2
      cases e
      rw [keyA_ok h e1, keysA_ok t e2]; rfl
    · cases e
theorem keyT_ok {v : V} {x : PyData} {ks : List Key} (h : Dd F v x) (e : keyT x = some ks) : ∃ b, v = .ref b ∧ F b = some (.tup (ks.map kV)) := by
  cases h with
  | tup e1 a => exact ⟨_, rfl, by rw [keysA_ok a e] at e1; exact e1⟩
  | _ => cases e
end
/-- a dict -/
inductive Dct where
  | K (kvs : List (Key × U))
  | T (kvs : List (List Key × U))
def dctAt (u : U) (μ : Mu) : Option (Nat × Dct) := match u with
  | .p k => match μ[k]? with
    | some (.dK kvs) => some (k, .K kvs)
    | some (.dT kvs) => some (k, .T kvs)
    | _ => none
  | _ => none
def Dct.len : Dct → Nat
  | .K kvs => kvs.length
  | .T kvs => kvs.length
/-- d[x], if x may be a key: what stands there -/
def Dct.find (d : Dct) (x : PyData) : Option (Option U) := match d with
  | .K kvs => (keyA x).map (getK kvs)
  | .T kvs => (keyT x).map (getK kvs)
section
variable {B : Bg} {F H : Hp} {Θ : List Addr} {μ : Mu} {u w : U} {v y : V} {x : PyData}
theorem dctAt_ok {k : Nat} {d : Dct} (o : Ok B F Θ μ H) (r : RelU F Θ u v) (h : dctAt u μ = some (k, d)) :
    ∃ a, u = .p k ∧ Θ[k]? = some a ∧ v = .ref a ∧ (∀ kvs, d = .K kvs → μ[k]? = some (.dK kvs) ∧ ∃ ws, H a = some (.dK ws) ∧ RelKV F Θ kvs ws) ∧
      (∀ kvs, d = .T kvs → μ[k]? = some (.dT kvs) ∧ ∃ ws, H a = some (.dT ws) ∧ RelKV F Θ kvs ws) := by
  cases u with
  | d _ => cases h
  | p j =>
    obtain ⟨a, ha, rfl⟩ := r
    unfold dctAt at h
    cases e : μ[j]? with
    | none => simp only [e] at h; cases h
    | some c =>
      simp only [e] at h
      have q := o.cell j c a e ha
      cases c with
      | dK kvs =>
        cases h
        obtain ⟨_, ws, h1, h2⟩ := q
        exact ⟨a, rfl, ha, rfl, fun _ z => by cases z; exact ⟨e, ws, h1, h2⟩, fun _ z => by cases z⟩
      | dT kvs =>
        cases h
        obtain ⟨_, ws, h1, h2⟩ := q
        exact ⟨a, rfl, ha, rfl, (fun _ z => by cases z), fun _ z => by cases z; exact ⟨e, ws, h1, h2⟩⟩
      | _ => cases h
/-- reading a dict at a key -/
theorem find_ok {k : Nat} {d : Dct} {o' : Option U} (o : Ok B F Θ μ H) (r : RelU F Θ u v) (h : dctAt u μ = some (k, d)) (ry : Dd H y x) (e : d.find x = some o') :
    ∃ a, v = .ref a ∧ IsD H a ∧ ((o' = none ∧ DGet H a y none) ∨ ∃ w z, o' = some w ∧ RelU F Θ w z ∧ DGet H a y (some z)) := by
  obtain ⟨a, rfl, ha, rfl, hK, hT⟩ := dctAt_ok o r h
  cases d with
  | K kvs =>
    obtain ⟨_, ws, h1, h2⟩ := hK _ rfl
    refine ⟨a, rfl, .inl ⟨ws, .inl h1⟩, ?_⟩
    unfold Dct.find at e
    cases ek : keyA x with
    | none => rw [ek] at e; cases e
    | some kk =>
      rw [ek] at e
      cases e
      rw [keyA_ok ry ek]
      have g := DGet.k (k := kk) h1
      rcases relKV_get h2 kk with ⟨e1, e2⟩ | ⟨w, z, e1, e2, r⟩
      · rw [e2] at g; exact .inl ⟨e1, g⟩
      · rw [e2] at g; exact .inr ⟨w, z, e1, r, g⟩
  | T kvs =>
    obtain ⟨_, ws, h1, h2⟩ := hT _ rfl
    refine ⟨a, rfl, .inr ⟨ws, .inl h1⟩, ?_⟩
    unfold Dct.find at e
    cases ek : keyT x with
    | none => rw [ek] at e; cases e
    | some kk =>
      rw [ek] at e
      cases e
      obtain ⟨b, rfl, hb⟩ := keyT_ok ry ek
      have g := DGet.t (k := kk) h1 hb
      rcases relKV_get h2 kk with ⟨e1, e2⟩ | ⟨w, z, e1, e2, r⟩
      · rw [e2] at g; exact .inl ⟨e1, g⟩
      · rw [e2] at g; exact .inr ⟨w, z, e1, r, g⟩
end
/-- d[x] = w -/
def dputM (k : Nat) (d : Dct) (x : PyData) (w : U) (μ : Mu) : Option Mu := match d with
  | .K kvs => match keyA x with
    | some kk => if kvs.length < lim then some (μ.set k (.dK (putU kvs kk w))) else none
    | none => none
  | .T kvs => match keyT x with
    | some kk => if kvs.length < lim then some (μ.set k (.dT (putU kvs kk w))) else none
    | none => none
section
variable {B : Bg} {F H : Hp} {Θ : List Addr} {μ μ' : Mu} {u w : U} {v y z : V} {x : PyData}
theorem putU_upd {k : Nat} {a : Addr} (o : Ok B F Θ μ H) {kvs : List (Key × U)} {ws : List (Key × V)} (hk : μ[k]? = some (.dK kvs)) (ha : Θ[k]? = some a) {kvs' : List (Key × U)} {ws' : List (Key × V)} (r : RelKV F Θ kvs' ws') :
    Ok B F Θ (μ.set k (.dK kvs')) (upd H a (.dK ws')) := by
  have q := o.cell k _ a hk ha
  exact o.write hk ha rfl ⟨q.1, ws', upd_same, r⟩
theorem putT_upd {k : Nat} {a : Addr} (o : Ok B F Θ μ H) {kvs : List (List Key × U)} {ws : List (List Key × V)} (hk : μ[k]? = some (.dT kvs)) (ha : Θ[k]? = some a) {kvs' : List (List Key × U)} {ws' : List (List Key × V)} (r : RelKV F Θ kvs' ws') :
    Ok B F Θ (μ.set k (.dT kvs')) (upd H a (.dT ws')) := by
  have q := o.cell k _ a hk ha
  exact o.write hk ha rfl ⟨q.1, ws', upd_same, r⟩
theorem dput_ok {k : Nat} {d : Dct} (o : Ok B F Θ μ H) (r : RelU F Θ u v) (h : dctAt u μ = some (k, d)) (ry : Dd H y x) (rw' : RelU F Θ w z) (e : dputM k d x w μ = some μ') :
    ∃ a H', v = .ref a ∧ DPut H a y z H' ∧ Ok B F Θ μ' H' := by
  obtain ⟨a, rfl, ha, rfl, hK, hT⟩ := dctAt_ok o r h
  cases d with
  | K kvs =>
    obtain ⟨h0, ws, h1, h2⟩ := hK _ rfl
    unfold dputM at e
    simp only at e
    split at e
    · rename_i kk ek
      split at e
      · rename_i hl
        cases e
        rw [keyA_ok ry ek]
        exact ⟨a, _, rfl, DPut.k h1 (by rw [← paired_len h2, ← lim_eq]; exact hl), putU_upd (ws := ws) o h0 ha (relKV_put h2 kk rw')⟩
      · cases e
    · cases e
  | T kvs =>
    obtain ⟨h0, ws, h1, h2⟩ := hT _ rfl
    unfold dputM at e
    simp only at e
    split at e
    · rename_i kk ek
      split at e
      · rename_i hl
        cases e
        obtain ⟨b, rfl, hb⟩ := keyT_ok ry ek
        exact ⟨a, _, rfl, DPut.t h1 hb (by rw [← paired_len h2, ← lim_eq]; exact hl), putT_upd (ws := ws) o h0 ha (relKV_put h2 kk rw')⟩
      · cases e
    · cases e
end

/-! ### subscripts -/
def subsM : Op2 := fun u v μ => match dctAt u μ with
  | some (_, d) => match (view v μ).bind d.find with
    | some (some w) => .ok w μ
    | _ => .stuck
  | none => match items u μ, v with
    | some (_, us), .d (.int i) => match atI us i with
      | some w => .ok w μ
      | none => .stuck
    | _, _ => .stuck
/-- o[i] = w -/
def setM (u v w : U) (μ : Mu) : R Unit := match dctAt u μ with
  | some (k, d) => match view v μ with
    | some x => match dputM k d x w μ with
      | some μ' => .ok () μ'
      | none => .stuck
    | none => .stuck
  | none => match u, v with
    | .p k, .d (.int i) => match toD w μ with
      | some (x, μ1) => match μ1[k]? with
        | some (.lst us) => match ixN us.length i with
          | some j => .ok () (μ1.set k (.lst (us.set j (.d x))))
          | none => .stuck
        | _ => .stuck
      | none => .stuck
    | _, _ => .stuck
section
variable {X : Cx} {ER : ExR} {E : XK}
theorem atI_rel {α β : Type} {P : α → β → Prop} {xs : List α} {ys : List β} (r : Paired P xs ys) {i : Int} {a : α} (h : atI xs i = some a) : ∃ b, atI ys i = some b ∧ P a b := by
  unfold atI at h ⊢
  rw [← paired_len r]
  cases e : ixN xs.length i with
  | none => rw [e] at h; cases h
  | some j =>
    rw [e] at h
    exact paired_get r h
abbrev PostU (B : Bg) (ER : ExR) (E : XK) (F : Hp) (Θ : List Addr) (Q : Hp → Prop) (r : R Unit) : Prop := @PostR Unit Unit (fun _ _ _ _ => True) B ER E F Θ (fun _ H => Q H) r
theorem ps_setM (hu : X.A.units + 1 < cLine) : PSet X (fun o i v H Q => ∃ B F Θ a b c μ, Ok B F Θ μ H ∧ RelU F Θ a o ∧ RelU F Θ b i ∧ RelU F Θ c v ∧ PostU B ER E F Θ Q (setM a b c μ)) := by
  intro pins s σ H o i v ov iv u Q I ro ri rv ⟨B, F, Θ, a, b, c, μ, ok, ra, rb, rc, q⟩
  unfold setM at q
  cases h : dctAt a μ with
  | some kd =>
    obtain ⟨k, d⟩ := kd
    rw [h] at q
    simp only at q
    split at q
    · rename_i x ex
      split at q
      · rename_i μ' em
        obtain ⟨p, H', rfl, hp, ok'⟩ := dput_ok ok ra h (view_ok ok rb ex) rc em
        cases ro
        refine d_setItem hu I hp ri rv fun s' I' => ⟨H', I', ?_⟩
        exact q F Θ H' () (Ext.refl _ _) ok' trivial
      · exact q.elim
    · exact q.elim
  | none =>
    rw [h] at q
    simp only at q
    split at q
    · rename_i k ii
      split at q
      · rename_i x μ1 ex
        split at q
        · rename_i us eu
          split at q
          · rename_i j ej
            obtain ⟨F1, x1, ok1, d1⟩ := toD_ok ok rc ex
            obtain ⟨p, hp, rfl⟩ := ra
            obtain ⟨f1, xs, hx, rl⟩ := ok1.cell k _ p eu hp
            refine set_list pins s σ H _ i v ov iv u Q I ro ri rv ⟨p, xs, ii, j, rfl, dd_int rb, hx, by rw [← paired_len rl]; exact ej, ?_⟩
            refine q F1 Θ _ () x1 (ok1.write eu hp rfl ⟨f1, _, upd_same, paired_set (P := RelU F1 Θ) (a := .d x) d1 j rl⟩) trivial
          · exact q.elim
        · exact q.elim
      · exact q.elim
    · exact q.elim

/-! ### slices -/
abbrev Sl := U → Option Int → Option Int → Mu → R U
def cutU (us : List U) (lo hi : Option Int) : List U := (us.drop (HT.sIx us.length 0 lo)).take (HT.sIx us.length us.length hi - HT.sIx us.length 0 lo)
def sliceM (m : Bool) : Sl := fun u lo hi μ => match u with
  | .d (.tuple ds) => .ok (.d (.tuple ((ds.drop (HT.sIx ds.length 0 lo)).take (HT.sIx ds.length ds.length hi - HT.sIx ds.length 0 lo)))) μ
  | .p k => match μ[k]? with
    | some (.scr ns) => mkL m (cutU (ns.map fun i => .d (.int i)) lo hi) μ
    | _ => match seqL u μ with
      | some us => mkL m (cutU us lo hi) μ
      | none => .stuck
  | _ => match seqL u μ with
    | some us => mkL m (cutU us lo hi) μ
    | none => .stuck
theorem cut_rel {F : Hp} {Θ : List Addr} {us : List U} {xs : List V} (r : RelL F Θ us xs) (lo hi : Option Int) : RelL F Θ (cutU us lo hi) (cutV xs lo hi) := by
  unfold cutU cutV
  rw [paired_len r]
  exact paired_take _ (paired_drop _ r)
theorem relInts {F : Hp} {Θ : List Addr} : ∀ ns : List Int, RelL F Θ (ns.map fun i => .d (.int i)) (ns.map V.int)
  | [] => .nil
  | i :: r => .cons (.int i) (relInts r)
def rSlU (K : PySem.W.Frag) (ER : ExR) (E : XK) (g : Sl) : V → Option Int → Option Int → Hp → VK → Prop := fun x lo hi H Q => ∃ B F Θ a μ, B.K = K ∧ Ok B F Θ μ H ∧ RelU F Θ a x ∧ PostE B ER E F Θ Q (g a lo hi μ)
theorem SlR.weak {r r' : V → Option Int → Option Int → Hp → VK → Prop} (h : SlR X r) (i : ∀ x lo hi H Q, r' x lo hi H Q → r x lo hi H Q) : SlR X r' :=
  fun pins s σ H x v vl vu lo hi sl Q I rx hs pl pu q => h pins s σ H x v vl vu lo hi sl Q I rx hs pl pu (i _ _ _ _ _ q)
theorem dd_take {F : Hp} : ∀ {vs : List V} {ds : List PyData} (n : Nat), DdAll F vs ds → DdAll F (vs.take n) (ds.take n)
  | _, _, 0, _ => .nil
  | _, _, _ + 1, .nil => .nil
  | _, _, n + 1, .cons r t => .cons r (dd_take n t)
theorem dd_drop {F : Hp} : ∀ {vs : List V} {ds : List PyData} (n : Nat), DdAll F vs ds → DdAll F (vs.drop n) (ds.drop n)
  | _, _, 0, r => r
  | _, _, _ + 1, .nil => .nil
  | _, _, n + 1, .cons _ t => dd_drop n t
theorem sl_ok (m : Bool) : SlR X (rSlU X.K ER E (sliceM m)) := SlR.weak (sl_tupA.or sl_list) fun x lo hi H Q ⟨B, F, Θ, a, μ, hB, o, ra, q⟩ => by
  have viaL : ∀ us, seqL a μ = some us → PostE B ER E F Θ Q (mkL m (cutU us lo hi) μ) → rSlA X.K x lo hi H Q ∨ rSlL X.K x lo hi H Q := fun us e q => by
    obtain ⟨p, xs, rfl, rl, hp⟩ := seqL_ok o ra e
    exact .inr ⟨p, xs, rfl, SqL.of hp, (mkL_ok o (cut_rel rl lo hi) q).2⟩
  unfold sliceM at q
  split at q
  · rename_i ds
    cases ra with
    | @tup p xs _ e d =>
      refine .inl ⟨p, xs, rfl, SqT.of (o.le _ _ e), fun hw => ?_, fun hw p' hp' => ?_⟩
      · have l := d.length
        rw [l] at hw
        rw [hw.1, hw.2] at q
        simp only [List.drop_zero, Nat.sub_zero, List.take_length] at q
        exact q F Θ H _ (Ext.refl _ _) o (.tup e d)
      · obtain ⟨o2, x2⟩ := o.known (x := .tup (cutV xs lo hi)) hp'
        refine q _ Θ _ _ x2 o2 (.tup upd_same (DdAll.mono x2.le ?_))
        unfold cutV
        rw [d.length]
        exact dd_take _ (dd_drop _ d)
  · rename_i k
    split at q
    · rename_i ns e
      obtain ⟨p, hp, rfl⟩ := ra
      have c := o.cell k _ p e hp
      have sq : SqL X.K H p (ns.map V.int) := by
        rcases c with ⟨ob, h⟩ | h
        · exact .inl (.inr ⟨ob, h⟩)
        · rw [← hB]; exact h H
      exact .inr ⟨p, _, rfl, sq, (mkL_ok o (cut_rel (relInts ns) lo hi) q).2⟩
    · split at q
      · rename_i e; exact viaL _ e q
      · exact q.elim
  · split at q
    · rename_i e; exact viaL _ e q
    · exact q.elim
end
end Vm
set_option Elab.async false
set_option linter.all false
set_option maxRecDepth 100000
set_option maxHeartbeats 1000000
/-! Vm, part E: what expressions do, and that the model does it. -/
namespace Vm
open PySem PySem.Spec PyProof.Rows L2

/-! ### what is known of a place in the text -/
structure Fn where
  ps : List Str
  /-- the orders of keywords in which it is called: the names as written; for each parameter its place among them -/
  kw : List (List Str × List Nat)
  sem : List U → Mu → R U
structure Ctx where
  N : List Str
  sc : Scope
  asg : Str → Bool
  fns : List (Str × Fn)
  cs : List (Str × PyData)
  cells : List Nat
  dT : List Nat
  /-- lines of loops behind whose turns new cells are let go -/
  frg : List Nat
def spOf (ER : ExR) (K : PySem.W.Frag) (n : Nat) (sem : List U → Mu → R U) : Sp := fun vs H Q E =>
  vs.length = n ∧ ∃ B F Θ us μ, B.K = K ∧ Ok B F Θ μ H ∧ RelL F Θ us vs ∧ PostE B ER E F Θ Q (sem us μ)
/-- a def of the text that may be called here -/
structure FnSem (ER : ExR) (CX : CXT) (E : XK) (X : Cx) (f : Str) (F : Fn) : Prop where
  ex : ∃ (k : Nat) (a : Addr) (fd : FuncData), FnG X.prog X.w X.K X.mg X.base CX k a fd F.ps (spOf ER X.K F.ps.length F.sem) ∧ Room k X.A ∧ X.mg f = some (.ref a) ∧ PySem.W.keepIn X.K (.ref a) = true ∧
    Binds X.K fd F.ps [] ∧ ∀ q ∈ F.kw, ∀ (s : Shared) (ws us : List Value), q.2.map (ws[·]?) = us.map some → ws.length = q.1.length → BindsTo s fd ⟨[], q.1.zip ws⟩ (F.ps.zip us)
/-- the built-ins that may be met -/
def bis : List Str := ["len", "abs", "int", "tuple", "list", "sum", "all", "any", "max", "min", "repr", "range", "enumerate", "zip", "sorted", "set", "isinstance", "dict", "bool", "str"]
structure CxOk (ER : ExR) (CX : CXT) (Γ : Ctx) (E : XK) (X : Cx) : Prop where
  N : X.N = Γ.N
  nd : X.N.Nodup
  sc : X.env.scope = Γ.sc
  calm : X.calm = true
  hp : PassesOwn (model X.prog X.w) X.A X.env X.xe
  mg : ∀ b ∈ bis, X.mg b = none
  gd : X.A.guards = some []
  un : X.A.units + 66 < cLine
  asg : ∀ x, Γ.asg x = true → Loc X.env.scope x ∧ (X.fn x = true ∨ X.env.scope.names.lookup x = some .local)
  fn : ∀ f F, Γ.fns.lookup f = some F → FnSem ER CX E X f F
  cs : ∀ x c, Γ.cs.lookup x = some c → ∃ u v, X.mg x = some u ∧ RelV v u ∧ Dd (fun _ => none) v c
  pass0 : ∀ X', Passes CX X' E0
  pass : Passes CX X E

/-! ### the pieces -/
def varD (i : Nat) : DE := fun ρ μ => match ρ[i]? with
  | some (some u) => .ok u μ
  | _ => .stuck
def conD (x : PyData) : DE := fun _ μ => .ok (.d x) μ
def nilL : DL := fun _ μ => .ok [] μ
def consL (a : DE) (r : DL) : DL := fun ρ μ => (a ρ μ).bind fun u μ1 => (r ρ μ1).bind fun us μ2 => .ok (u :: us) μ2
def tupD (l : DL) : DE := fun ρ μ => (l ρ μ).bind mkT
def lstD (m : Bool) (l : DL) : DE := fun ρ μ => (l ρ μ).bind (mkL m)
def bin2 (g : Op2) (a b : DE) : DE := fun ρ μ => (a ρ μ).bind fun u μ1 => (b ρ μ1).bind fun v μ2 => g u v μ2
def fn1 (g : Fn1) (a : DE) : DE := fun ρ μ => (a ρ μ).bind g
def opt {α : Type} (o : Option α) (μ : Mu) : R α := match o with
  | some a => .ok a μ
  | none => .stuck
def cmpD (g : Cmp2) (a b : DE) : DB := fun ρ μ => (a ρ μ).bind fun u μ1 => (b ρ μ1).bind fun v μ2 => opt (g u v μ2) μ2
def chainD (g g' : Cmp2) (a b c : DE) : DB := fun ρ μ => (a ρ μ).bind fun u μ1 => (b ρ μ1).bind fun v μ2 => (opt (g u v μ2) μ2).bind fun t μ3 => if t then (c ρ μ3).bind fun w μ4 => opt (g' v w μ4) μ4 else .ok false μ3
def boolD (t : DB) : DE := fun ρ μ => (t ρ μ).bind fun c μ1 => .ok (.d (.bool c)) μ1
def asB (u : U) : Option Bool := match u with
  | .d (.bool b) => some b
  | _ => none
def valB (a : DE) : DB := fun ρ μ => (a ρ μ).bind fun u μ1 => opt (asB u) μ1
def andD (t u : DB) : DB := fun ρ μ => (t ρ μ).bind fun c μ1 => if c then u ρ μ1 else .ok false μ1
def orD (t u : DB) : DB := fun ρ μ => (t ρ μ).bind fun c μ1 => if c then .ok true μ1 else u ρ μ1
def notD (t : DB) : DB := fun ρ μ => (t ρ μ).bind fun c μ1 => .ok (!c) μ1
def ifD (t : DB) (a b : DE) : DE := fun ρ μ => (t ρ μ).bind fun c μ1 => if c then a ρ μ1 else b ρ μ1
def callD (F : Fn) (l : DL) : DE := fun ρ μ => (l ρ μ).bind fun us μ1 => if us.length = F.ps.length then F.sem us μ1 else .stuck
def pickL (pm : List Nat) (us : List U) : Option (List U) := match pm with
  | [] => some []
  | i :: r => match us[i]?, pickL r us with
    | some u, some vs => some (u :: vs)
    | _, _ => none
def callKD (F : Fn) (q : List Str × List Nat) (l : DL) : DE := fun ρ μ => (l ρ μ).bind fun us μ1 => if us.length = q.1.length ∧ q.2.length = F.ps.length then (opt (pickL q.2 us) μ1).bind F.sem else .stuck
def optE (o : Option DE) : Rho → Mu → R (Option Int) := match o with
  | none => fun _ μ => .ok none μ
  | some a => fun ρ μ => (a ρ μ).bind fun u μ1 => match u with
    | .d (.int i) => .ok (some i) μ1
    | _ => .stuck
def sliceD (m : Bool) (a : DE) (lo hi : Option DE) : DE := fun ρ μ => (a ρ μ).bind fun u μ1 => (optE lo ρ μ1).bind fun l μ2 => (optE hi ρ μ2).bind fun h μ3 => sliceM m u l h μ3

/-! ### readings one in another -/
section
variable {K : PySem.W.Frag} {ER : ExR} {E : XK} {B : Bg} {F : Hp} {Θ : List Addr} {ρ : Rho} {μ : Mu} {σ : L2.St} {H : Hp}
theorem post_ok {α β : Type} {Rel : Hp → List Addr → α → β → Prop} {Q : β → Hp → Prop} {a : α} {b : β} (o : Ok B F Θ μ H) (r : Rel F Θ a b) (q : PostR Rel B ER E F Θ Q (.ok a μ)) : Q b H := q F Θ H b (Ext.refl _ _) o r
/-- an expression's value goes on -/
theorem te_in {α β : Type} {Rel' : Hp → List Addr → α → β → Prop} {Q' : β → Hp → Prop} {f : DE} {g : U → Mu → R α} {Q : VK} (hK : B.K = K) (at' : At B F Θ ρ μ σ H) (h : PostR Rel' B ER E F Θ Q' ((f ρ μ).bind g))
    (k : ∀ u μ1 F1 Θ1 H1 v, Ext F Θ F1 Θ1 → At B F1 Θ1 ρ μ1 σ H1 → RelU F1 Θ1 u v → PostR Rel' B ER E F1 Θ1 Q' (g u μ1) → Q v H1) : TEv K ER E f σ H Q :=
  ⟨B, F, Θ, ρ, μ, hK, at', PostR.bind h fun u μ1 F1 Θ1 H1 v x o r q => k u μ1 F1 Θ1 H1 v x (at'.ext x o) r q⟩
theorem te_in' {α β : Type} {Rel' : Hp → List Addr → α → β → Prop} {Q' : β → Hp → Prop} {f : DE} {g : U → Mu → R α} {Q : VK} (hK : B.K = K) (at' : At B F Θ ρ μ σ H) (h : PostR Rel' B ER E F Θ Q' ((f ρ μ).bind g))
    (k : ∀ u μ1 F1 Θ1 H1 v, f ρ μ = .ok u μ1 → Ext F Θ F1 Θ1 → At B F1 Θ1 ρ μ1 σ H1 → RelU F1 Θ1 u v → PostR Rel' B ER E F1 Θ1 Q' (g u μ1) → Q v H1) : TEv K ER E f σ H Q := by
  refine ⟨B, F, Θ, ρ, μ, hK, at', ?_⟩
  cases e : f ρ μ with
  | ok u μ1 =>
    rw [e] at h
    exact fun F1 Θ1 H1 v x o r => k u μ1 F1 Θ1 H1 v e x (at'.ext x o) r (PostR.ext x h)
  | ex e1 μ1 => rw [e] at h; exact h
  | stuck => rw [e] at h; exact h
theorem tt_in {α β : Type} {Rel' : Hp → List Addr → α → β → Prop} {Q' : β → Hp → Prop} {f : DB} {g : Bool → Mu → R α} {Q : Bool → Hp → Prop} (hK : B.K = K) (at' : At B F Θ ρ μ σ H) (h : PostR Rel' B ER E F Θ Q' ((f ρ μ).bind g))
    (k : ∀ c μ1 F1 Θ1 H1, Ext F Θ F1 Θ1 → At B F1 Θ1 ρ μ1 σ H1 → PostR Rel' B ER E F1 Θ1 Q' (g c μ1) → Q c H1) : TTv K ER E f σ H Q :=
  ⟨B, F, Θ, ρ, μ, hK, at', PostR.bind h fun c μ1 F1 Θ1 H1 c' x o r q => by subst r; exact k c μ1 F1 Θ1 H1 x (at'.ext x o) q⟩
theorem tl_in {α β : Type} {Rel' : Hp → List Addr → α → β → Prop} {Q' : β → Hp → Prop} {f : DL} {g : List U → Mu → R α} {Q : List V → Hp → Prop} (hK : B.K = K) (at' : At B F Θ ρ μ σ H) (h : PostR Rel' B ER E F Θ Q' ((f ρ μ).bind g))
    (k : ∀ us μ1 F1 Θ1 H1 vs, Ext F Θ F1 Θ1 → At B F1 Θ1 ρ μ1 σ H1 → RelL F1 Θ1 us vs → PostR Rel' B ER E F1 Θ1 Q' (g us μ1) → Q vs H1) : TLv K ER E f σ H Q :=
  ⟨B, F, Θ, ρ, μ, hK, at', PostR.bind h fun us μ1 F1 Θ1 H1 vs x o r q => k us μ1 F1 Θ1 H1 vs x (at'.ext x o) r q⟩
theorem opt_inv {α β : Type} {Rel : Hp → List Addr → α → β → Prop} {Q : β → Hp → Prop} {o : Option α} (q : PostR Rel B ER E F Θ Q (opt o μ)) : ∃ a, o = some a ∧ PostR Rel B ER E F Θ Q (.ok a μ) := by
  cases o with
  | none => exact q.elim
  | some a => exact ⟨a, rfl, q⟩
end

/-! ### the rules -/
section
variable {ER : ExR} {CX : CXT} {Γ : Ctx} {E : XK} {X : Cx} {e a b c : Expr} {es : List Expr} {fa fb fc : DE} {fl : DL} {pos : Pos}
abbrev DenE (ER : ExR) (E : XK) (X : Cx) (e : Expr) (f : DE) : Prop := PE X e (TEv X.K ER E f)
abbrev DenT (ER : ExR) (E : XK) (X : Cx) (e : Expr) (f : DB) : Prop := PT X e (TTv X.K ER E f)
abbrev DenW (ER : ExR) (E : XK) (X : Cx) (e : Expr) (f : DB) : Prop := PW X e (TTv X.K ER E f)
abbrev DenL (ER : ExR) (E : XK) (X : Cx) (es : List Expr) (f : DL) : Prop := PA X es (TLv X.K ER E f)
theorem PE.or {t t' : TE} (h : PE X e t) (h' : PE X e t') : PE X e (fun σ H Q => t σ H Q ∨ t' σ H Q) :=
  ⟨fun pins s σ H Q I w => w.elim (h.run pins s σ H Q I) (h'.run pins s σ H Q I)⟩
theorem r_var {i : Nat} {x : Str} (hN : X.N[i]? = some x) (hv : Vis X.env.scope x) (hd : (x == ("__debug__" : Str)) = false) (hcd : (x == ("__classdict__" : Str)) = false) : DenE ER E X (.Name x pos) (varD i) :=
  PE.weak (pe_var hN hv hd hcd) fun σ H Q ⟨B, F, Θ, ρ, μ, hK, at', q⟩ => by
    unfold varD at q
    split at q
    · rename_i u h
      obtain ⟨v, hv, r⟩ := at'.s.get i u h
      exact ⟨v, hv, post_same at'.o r q⟩
    · exact q.elim
theorem tc_con {v : V} {x : PyData} (h : Dd (fun _ => none) v x) (σ : L2.St) (H : Hp) (Q : VK) : TEv X.K ER E (conD x) σ H Q → tC v σ H Q := fun ⟨B, F, Θ, ρ, μ, hK, at', q⟩ =>
  post_dat at'.o (h.mono fun _ _ z => by cases z) q
theorem r_int {i : Int} {j : Nat} : DenE ER E X (.Constant (.int i) j pos) (conD (.int i)) := PE.weak pe_int (tc_con (.int i))
theorem r_bool {i : Bool} {j : Nat} : DenE ER E X (.Constant (.bool i) j pos) (conD (.bool i)) := PE.weak pe_bl (tc_con (.bl i))
theorem r_str {i : Str} {j : Nat} : DenE ER E X (.Constant (.str i) j pos) (conD (.str i)) := PE.weak pe_str (tc_con (.str i))
theorem r_none {j : Nat} : DenE ER E X (.Constant .none j pos) (conD .none) := PE.weak pe_non (tc_con .non)
theorem r_glob {x : Str} {u : Value} {v : V} {d : PyData} (hg : Gl X x) (hm : X.mg x = some u) (r : RelV v u) (h : Dd (fun _ => none) v d) (hd : (x == ("__debug__" : Str)) = false) : DenE ER E X (.Name x pos) (conD d) :=
  PE.weak (pe_glob hg hm r hd) (tc_con h)
theorem l_nil : DenL ER E X [] nilL := PA.weak pa_nil fun σ H Q ⟨B, F, Θ, ρ, μ, hK, at', q⟩ => post_ok (b := []) at'.o .nil q
theorem l_cons (ha : DenE ER E X e fa) (hr : DenL ER E X es fl) (hs : starEach (e :: es) X.env = (false, eval e X.env) :: starEach es X.env) : DenL ER E X (e :: es) (consL fa fl) :=
  PA.weak (pa_cons ha hr hs) fun σ H Q ⟨B, F, Θ, ρ, μ, hK, at', q⟩ => te_in hK at' q fun u μ1 F1 Θ1 H1 v x1 at1 r1 q1 =>
    tl_in hK at1 q1 fun us μ2 F2 Θ2 H2 vs x2 at2 r2 q2 => post_ok (b := v :: vs) at2.o (.cons (r1.mono x2) r2) q2
theorem r_tup {k : Nat} (h : DenL ER E X es fl) : DenE ER E X (.Tuple es k pos) (tupD fl) :=
  PE.weak (pe_tup h) fun σ H Q ⟨B, F, Θ, ρ, μ, hK, at', q⟩ => tl_in hK at' q fun us μ1 F1 Θ1 H1 vs x1 at1 r1 q1 => mkT_ok at1.o r1 q1
theorem r_lst (m : Bool) (h : DenL ER E X es fl) : DenE ER E X (.List es pos) (lstD m fl) :=
  PE.weak (pe_lst h) fun σ H Q ⟨B, F, Θ, ρ, μ, hK, at', q⟩ => tl_in hK at' q fun us μ1 F1 Θ1 H1 vs x1 at1 r1 q1 => mkL_ok at1.o r1 q1
theorem r_bin {op : Operator} {g : Op2} (ho : OpR X (binaryOp op) (rOp2 ER E g)) (ha : DenE ER E X a fa) (hb : DenE ER E X b fb) : DenE ER E X (.BinOp a op b pos) (bin2 g fa fb) :=
  PE.weak (pe_op ho ha hb) fun σ H Q ⟨B, F, Θ, ρ, μ, hK, at', q⟩ => te_in hK at' q fun u μ1 F1 Θ1 H1 v x1 at1 r1 q1 =>
    te_in hK at1 q1 fun w μ2 F2 Θ2 H2 z x2 at2 r2 q2 => ⟨B, F2, Θ2, u, w, μ2, at2.o, r1.mono x2, r2, q2⟩
def negM : Fn1 := fun u μ => match u with
  | .d (.int i) => .ok (.d (.int (-i))) μ
  | _ => .stuck
theorem r_neg (ha : DenE ER E X a fa) : DenE ER E X (.UnaryOp .USub a pos) (fn1 negM fa) :=
  PE.weak (pe_un un_neg ha) fun σ H Q ⟨B, F, Θ, ρ, μ, hK, at', q⟩ => te_in hK at' q fun u μ1 F1 Θ1 H1 v x1 at1 r1 q1 => by
    unfold negM at q1
    split at q1
    · exact ⟨_, dd_int r1, post_dat at1.o (.int _) q1⟩
    · exact q1.elim
theorem asB_ok {F : Hp} {Θ : List Addr} {u : U} {v : V} {c : Bool} (r : RelU F Θ u v) (h : asB u = some c) : v = .bl c := by
  unfold asB at h
  split at h
  · cases h; cases r; rfl
  · cases h
/-- a value that is a bool, as a test -/
theorem t_valB {K : PySem.W.Frag} (σ : L2.St) (H : Hp) (Q : Bool → Hp → Prop) : TTv K ER E (valB fa) σ H Q → tB (TEv K ER E fa) σ H Q := fun ⟨B, F, Θ, ρ, μ, hK, at', q⟩ => te_in hK at' q fun u μ1 F1 Θ1 H1 v x1 at1 r1 q1 => by
  obtain ⟨c, h, q2⟩ := opt_inv q1
  exact ⟨c, asB_ok r1 h, post_ok (b := c) at1.o rfl q2⟩
theorem r_notV (ha : DenE ER E X a fa) : DenE ER E X (.UnaryOp .Not a pos) (boolD (notD (valB fa))) :=
  PE.weak (pe_not ha) fun σ H Q ⟨B, F, Θ, ρ, μ, hK, at', q⟩ => by
    unfold boolD notD valB at q
    cases h : fa ρ μ with
    | ok u μ1 =>
      rw [h] at q
      refine ⟨B, F, Θ, ρ, μ, hK, at', ?_⟩
      rw [h]
      intro F1 Θ1 H1 v x1 o1 r1
      simp only [R.bind_ok] at q
      cases hu : asB u with
      | none => rw [hu] at q; exact q.elim
      | some c =>
        rw [hu] at q
        exact ⟨c, asB_ok r1 hu, q F1 Θ1 H1 _ x1 o1 (.bl _)⟩
    | ex e μ1 =>
      rw [h] at q
      exact ⟨B, F, Θ, ρ, μ, hK, at', by rw [h]; exact q⟩
    | stuck => rw [h] at q; exact q.elim
/-- a and .., a or .., as values (all but the last bools) -/
def andV (a r : DE) : DE := fun ρ μ => (a ρ μ).bind fun u μ1 => (opt (asB u) μ1).bind fun c μ2 => if c then r ρ μ2 else .ok (.d (.bool false)) μ2
def orV (a r : DE) : DE := fun ρ μ => (a ρ μ).bind fun u μ1 => (opt (asB u) μ1).bind fun c μ2 => if c then .ok (.d (.bool true)) μ2 else r ρ μ2
theorem r_and {rest : List Expr} (ha : DenE ER E X a fa) (hb : DenE ER E X (.BoolOp .And (b :: rest) pos) fb) : DenE ER E X (.BoolOp .And (a :: b :: rest) pos) (andV fa fb) :=
  PE.weak (pe_and ha hb) fun σ H Q ⟨B, F, Θ, ρ, μ, hK, at', q⟩ => te_in hK at' q fun u μ1 F1 Θ1 H1 v x1 at1 r1 q1 => by
    cases h : asB u with
    | none => rw [h] at q1; exact q1.elim
    | some c =>
      rw [h] at q1
      refine ⟨c, asB_ok r1 h, ?_⟩
      cases c with
      | true => exact iteT ⟨B, F1, Θ1, ρ, μ1, hK, at1, q1⟩
      | false => exact iteF (post_dat at1.o (.bl _) q1)
theorem r_or {rest : List Expr} (ha : DenE ER E X a fa) (hb : DenE ER E X (.BoolOp .Or (b :: rest) pos) fb) : DenE ER E X (.BoolOp .Or (a :: b :: rest) pos) (orV fa fb) :=
  PE.weak (pe_or ha hb) fun σ H Q ⟨B, F, Θ, ρ, μ, hK, at', q⟩ => te_in hK at' q fun u μ1 F1 Θ1 H1 v x1 at1 r1 q1 => by
    cases h : asB u with
    | none => rw [h] at q1; exact q1.elim
    | some c =>
      rw [h] at q1
      refine ⟨c, asB_ok r1 h, ?_⟩
      cases c with
      | false => exact iteF ⟨B, F1, Θ1, ρ, μ1, hK, at1, q1⟩
      | true => exact iteT (post_dat at1.o (.bl _) q1)
theorem r_one {op : BoolOp} (ha : DenE ER E X a fa) : DenE ER E X (.BoolOp op [a] pos) fa := pe_one ha
/-- a comparison -/
theorem tt_cmp {g : Cmp2} (σ : L2.St) (H : Hp) (Q : Bool → Hp → Prop) : TTv X.K ER E (cmpD g fa fb) σ H Q → tTest (tOp (rCmp g) (TEv X.K ER E fa) (TEv X.K ER E fb)) σ H Q := fun ⟨B, F, Θ, ρ, μ, hK, at', q⟩ =>
  te_in hK at' q fun u μ1 F1 Θ1 H1 v x1 at1 r1 q1 => te_in hK at1 q1 fun w μ2 F2 Θ2 H2 z x2 at2 r2 q2 => by
    obtain ⟨c, h, q3⟩ := opt_inv q2
    exact ⟨B, F2, Θ2, u, w, μ2, c, at2.o, r1.mono x2, r2, h, c, rfl, post_ok (b := c) at2.o rfl q3⟩
theorem t_cmp {op : CmpOp} {g : Cmp2} (ho : OpR X (compareOp op) (rCmp g)) (ha : DenE ER E X a fa) (hb : DenE ER E X b fb) (hm : behindInMarks op b = false) : DenT ER E X (.Compare a [op] [b] pos) (cmpD g fa fb) :=
  PT.weak (pt_cmpR ho ha hb hm) tt_cmp
theorem r_cmp {op : CmpOp} {g : Cmp2} (ho : OpR X (compareOp op) (rCmp g)) (ha : DenE ER E X a fa) (hb : DenE ER E X b fb) (hm : behindInMarks op b = false) : DenE ER E X (.Compare a [op] [b] pos) (boolD (cmpD g fa fb)) :=
  PE.weak (pe_cmpR ho ha hb hm) fun σ H Q ⟨B, F, Θ, ρ, μ, hK, at', q⟩ => by
    have q' : PostE B ER E F Θ Q ((fa ρ μ).bind fun u μ1 => (fb ρ μ1).bind fun v μ2 => (opt (g u v μ2) μ2).bind fun c μ3 => .ok (.d (.bool c)) μ3) := by
      unfold boolD cmpD at q
      cases h : fa ρ μ with
      | ok u μ1 =>
        rw [h] at q
        simp only [R.bind_ok] at q ⊢
        cases h2 : fb ρ μ1 with
        | ok v μ2 => rw [h2] at q; exact q
        | ex e μ2 => rw [h2] at q; exact q
        | stuck => rw [h2] at q; exact q
      | ex e μ1 => rw [h] at q; exact q
      | stuck => rw [h] at q; exact q
    exact te_in hK at' q' fun u μ1 F1 Θ1 H1 v x1 at1 r1 q1 => te_in hK at1 q1 fun w μ2 F2 Θ2 H2 z x2 at2 r2 q2 => by
      cases h : g u w μ2 with
      | none => rw [h] at q2; exact q2.elim
      | some c =>
        rw [h] at q2
        exact ⟨B, F2, Θ2, u, w, μ2, c, at2.o, r1.mono x2, r2, h, post_dat at2.o (.bl _) q2⟩
/-- two comparisons in a chain -/
theorem t_chain {op op' : CmpOp} {g g' : Cmp2} (ho : OpR X (compareOp op) (rCmp g)) (ho' : OpR X (compareOp op') (rCmp g')) (ha : DenE ER E X a fa) (hb : DenE ER E X b fb) (hc : DenE ER E X c fc)
    (hm : behindInMarks op' c = false) : DenT ER E X (.Compare a [op, op'] [b, c] pos) (chainD g g' fa fb fc) :=
  PT.weak (pt_chain ho ho' ha hb hc hm) fun σ H Q ⟨B, F, Θ, ρ, μ, hK, at', q⟩ => te_in hK at' q fun u μ1 F1 Θ1 H1 v x1 at1 r1 q1 =>
    te_in hK at1 q1 fun w μ2 F2 Θ2 H2 z x2 at2 r2 q2 => by
      cases h : g u w μ2 with
      | none => rw [h] at q2; exact q2.elim
      | some t =>
        rw [h] at q2
        refine ⟨B, F2, Θ2, u, w, μ2, t, at2.o, r1.mono x2, r2, h, t, rfl, ?_⟩
        cases t with
        | false =>
          refine iteF ⟨false, rfl, ?_⟩
          exact post_ok (b := false) at2.o rfl q2
        | true =>
          refine iteT ?_
          have q3 : PostB B ER E F2 Θ2 Q ((fc ρ μ2).bind fun w' μ4 => opt (g' w w' μ4) μ4) := q2
          exact te_in hK at2 q3 fun y μ3 F3 Θ3 H3 yv x3 at3 r3 q4 => by
            obtain ⟨c', h4, q5⟩ := opt_inv q4
            exact ⟨B, F3, Θ3, w, y, μ3, c', at3.o, r2.mono x3, r3, h4, c', rfl, post_ok (b := c') at3.o rfl q5⟩
end
end Vm
set_option Elab.async false
set_option linter.all false
set_option maxRecDepth 100000
set_option maxHeartbeats 1000000
/-! Vm, part F: more expressions: tests, calls, subscripts, comprehensions, methods. -/
namespace Vm
open PySem PySem.Spec PyProof.Rows L2

section
variable {ER : ExR} {CX : CXT} {Γ : Ctx} {E : XK} {X : Cx} {e a b c : Expr} {es rest : List Expr} {fa fb fc : DE} {ta tb tc : DB} {fl : DL} {pos p : Pos}
theorem r_chain {op op' : CmpOp} {g g' : Cmp2} (ho : OpR X (compareOp op) (rCmp g)) (ho' : OpR X (compareOp op') (rCmp g')) (ha : DenE ER E X a fa) (hb : DenE ER E X b fb) (hc : DenE ER E X c fc)
    (hm : lastMarks [op, op'] [b, c] = false) : DenE ER E X (.Compare a [op, op'] [b, c] pos) (boolD (chainD g g' fa fb fc)) :=
  PE.weak (pe_chain ho ho' ha hb hc hm) fun σ H Q ⟨B, F, Θ, ρ, μ, hK, at', q⟩ => by
    have q' : PostE B ER E F Θ Q ((fa ρ μ).bind fun u μ1 => (fb ρ μ1).bind fun v μ2 => (opt (g u v μ2) μ2).bind fun t μ3 => if t then (fc ρ μ3).bind fun w μ4 => (opt (g' v w μ4) μ4).bind fun c μ5 => .ok (.d (.bool c)) μ5 else .ok (.d (.bool false)) μ3) := by
      unfold boolD chainD at q
      cases h : fa ρ μ with
      | ok u μ1 =>
        rw [h] at q
        simp only [R.bind_ok] at q ⊢
        cases h2 : fb ρ μ1 with
        | ok v μ2 =>
          rw [h2] at q
          simp only [R.bind_ok] at q ⊢
          cases h3 : g u v μ2 with
          | none => rw [h3] at q; exact q
          | some t =>
            rw [h3] at q
            cases t with
            | false => exact q
            | true =>
              simp only [opt, R.bind_ok, if_true] at q ⊢
              cases h4 : fc ρ μ2 with
              | ok w μ4 => rw [h4] at q; exact q
              | ex e μ4 => rw [h4] at q; exact q
              | stuck => rw [h4] at q; exact q
        | ex e μ2 => rw [h2] at q; exact q
        | stuck => rw [h2] at q; exact q
      | ex e μ1 => rw [h] at q; exact q
      | stuck => rw [h] at q; exact q
    exact te_in hK at' q' fun u μ1 F1 Θ1 H1 v x1 at1 r1 q1 => te_in hK at1 q1 fun w μ2 F2 Θ2 H2 z x2 at2 r2 q2 => by
      cases h : g u w μ2 with
      | none => rw [h] at q2; exact q2.elim
      | some t =>
        rw [h] at q2
        refine ⟨B, F2, Θ2, u, w, μ2, t, at2.o, r1.mono x2, r2, h, t, rfl, ?_⟩
        cases t with
        | false => exact iteF (post_dat at2.o (.bl _) q2)
        | true =>
          refine iteT ?_
          have q3 : PostE B ER E F2 Θ2 Q ((fc ρ μ2).bind fun w' μ4 => (opt (g' w w' μ4) μ4).bind fun c μ5 => .ok (.d (.bool c)) μ5) := q2
          exact te_in hK at2 q3 fun y μ3 F3 Θ3 H3 yv x3 at3 r3 q4 => by
            cases h4 : g' w y μ3 with
            | none => rw [h4] at q4; exact q4.elim
            | some c' =>
              rw [h4] at q4
              exact ⟨B, F3, Θ3, w, y, μ3, c', at3.o, r2.mono x3, r3, h4, post_dat at3.o (.bl _) q4⟩

/-! ### tests -/
theorem w_and1 (ha : DenT ER E X a ta) : DenW ER E X (.BoolOp .And [a] pos) ta := pw_and1 ha
theorem w_or1 (ha : DenT ER E X a ta) : DenW ER E X (.BoolOp .Or [a] pos) ta := pw_or1 ha
theorem w_and (ha : DenT ER E X a ta) (hb : DenW ER E X (.BoolOp .And (b :: rest) pos) tb) : DenW ER E X (.BoolOp .And (a :: b :: rest) pos) (andD ta tb) :=
  PW.weak (pw_and ha hb) fun σ H Q ⟨B, F, Θ, ρ, μ, hK, at', q⟩ => tt_in hK at' q fun c μ1 F1 Θ1 H1 x1 at1 q1 => by
    cases c with
    | true => exact iteT ⟨B, F1, Θ1, ρ, μ1, hK, at1, q1⟩
    | false => exact iteF (post_ok (b := false) at1.o rfl q1)
theorem w_or (ha : DenT ER E X a ta) (hb : DenW ER E X (.BoolOp .Or (b :: rest) pos) tb) : DenW ER E X (.BoolOp .Or (a :: b :: rest) pos) (orD ta tb) :=
  PW.weak (pw_or ha hb) fun σ H Q ⟨B, F, Θ, ρ, μ, hK, at', q⟩ => tt_in hK at' q fun c μ1 F1 Θ1 H1 x1 at1 q1 => by
    cases c with
    | true => exact iteT (post_ok (b := true) at1.o rfl q1)
    | false => exact iteF ⟨B, F1, Θ1, ρ, μ1, hK, at1, q1⟩
theorem t_not (ha : DenT ER E X a ta) : DenT ER E X (.UnaryOp .Not a pos) (notD ta) :=
  PT.weak (pt_not ha) fun σ H Q ⟨B, F, Θ, ρ, μ, hK, at', q⟩ => tt_in hK at' q fun c μ1 F1 Θ1 H1 x1 at1 q1 => post_ok (b := !c) at1.o rfl q1
/-- an expression whose value is a bool, as a test -/
theorem t_val (ha : DenE ER E X a fa) (he : ∀ whole, isTrue a X.env whole = (do let v ← whole; standAt a.pos; holding [v] (truthy v))) : DenT ER E X a (valB fa) :=
  PT.weak (pt_val ha he) t_valB
theorem r_if (hc : DenT ER E X c tc) (ha : DenE ER E X a fa) (hb : DenE ER E X b fb) : DenE ER E X (.IfExp c a b pos) (ifD tc fa fb) :=
  PE.weak (pe_ifExp hc ha hb) fun σ H Q ⟨B, F, Θ, ρ, μ, hK, at', q⟩ => tt_in hK at' q fun c μ1 F1 Θ1 H1 x1 at1 q1 => by
    cases c with
    | true => exact iteT ⟨B, F1, Θ1, ρ, μ1, hK, at1, q1⟩
    | false => exact iteF ⟨B, F1, Θ1, ρ, μ1, hK, at1, q1⟩

/-! ### calls -/
/-- one written argument -/
theorem l_one {Q : List V → Hp → Prop} {g : Fn1} {QQ : VK} (ha : DenE ER E X a fa) (hs : starEach [a] X.env = (false, eval a X.env) :: starEach [] X.env) : PA X [a] (tCons (TEv X.K ER E fa) tNil) := pa_cons ha pa_nil hs
theorem a_one {r : List V → Hp → VK → Prop} {g : Fn1} (hr : ∀ xs H Q, rFn1 ER E g xs H Q → r xs H Q) : ∀ σ H Q, TEv X.K ER E (fn1 g fa) σ H Q → tCB r (tCons (TEv X.K ER E fa) tNil) σ H Q := fun σ H Q ⟨B, F, Θ, ρ, μ, hK, at', q⟩ =>
  te_in hK at' q fun u μ1 F1 Θ1 H1 v x1 at1 r1 q1 => hr _ _ _ ⟨B, F1, Θ1, u, v, μ1, rfl, at1.o, r1, q1⟩
theorem r_callB {x : Str} {id : String} {g : Fn1} (hc : CallR X (.builtin id) (rFn1 ER E g)) (hg : Gl X x) (hm : X.mg x = none) (hv : bootBuiltins x = some (.builtin id)) (ha : DenE ER E X a fa)
    (hs : starEach [a] X.env = (false, eval a X.env) :: starEach [] X.env) (hn : x ≠ "__name__") (hdb : (x == ("__debug__" : Str)) = false) : DenE ER E X (.Call (.Name x p) [a] [] pos) (fn1 g fa) :=
  PE.weak (pe_callB hc hg hm hv (pa_cons ha pa_nil hs) hn hdb hs rfl) (a_one fun _ _ _ z => z)
theorem r_callTy {x : Str} {T : String} {g : Fn1} (hc : CallR X (.type T) (rFn1 ER E g)) (hg : Gl X x) (hm : X.mg x = none) (hv : bootBuiltins x = some (.type T)) (ha : DenE ER E X a fa)
    (hs : starEach [a] X.env = (false, eval a X.env) :: starEach [] X.env) (hn : x ≠ "__name__") (hdb : (x == ("__debug__" : Str)) = false) : DenE ER E X (.Call (.Name x p) [a] [] pos) (fn1 g fa) :=
  PE.weak (pe_callTy hc hg hm hv (pa_cons ha pa_nil hs) hn hdb hs rfl) (a_one fun _ _ _ z => z)
theorem callD_in {F' : Fn} : ∀ σ H Q, TEv X.K ER E (callD F' fl) σ H Q → TLv X.K ER E fl σ H fun vs H1 => spOf ER X.K F'.ps.length F'.sem vs H1 Q E := fun σ H Q ⟨B, F, Θ, ρ, μ, hK, at', q⟩ =>
  tl_in hK at' q fun us μ1 F1 Θ1 H1 vs x1 at1 r1 q1 => by
    split at q1
    · rename_i hl
      exact ⟨by rw [← paired_len r1]; exact hl, B, F1, Θ1, us, μ1, hK, at1.o, r1, q1⟩
    · exact q1.elim
theorem r_callF {x : Str} {F' : Fn} (ok : CxOk ER CX Γ E X) (hF : Γ.fns.lookup x = some F') (hg : Gl X x) (ha : DenL ER E X (e :: es) fl) (hdb : (x == ("__debug__" : Str)) = false)
    (hs : starEach (e :: es) X.env = (false, eval e X.env) :: starEach es X.env) (hpl : (backTo pos (starEach es X.env)).any (·.1) = false) : DenE ER E X (.Call (.Name x p) (e :: es) [] pos) (callD F' fl) := by
  obtain ⟨k, ad, fd, hf, hr, hm, hk, hb, _⟩ := (ok.fn x F' hF).ex
  exact PE.weak (pe_callG hf ok.gd hr hg hm hk hb ok.pass ha hdb hs hpl) callD_in
theorem r_callF0 {x : Str} {F' : Fn} (ok : CxOk ER CX Γ E X) (hF : Γ.fns.lookup x = some F') (hg : Gl X x) (hdb : (x == ("__debug__" : Str)) = false) : DenE ER E X (.Call (.Name x p) [] [] pos) (callD F' nilL) := by
  obtain ⟨k, ad, fd, hf, hr, hm, hk, hb, _⟩ := (ok.fn x F' hF).ex
  refine PE.weak (pe_callG0 hf ok.gd hr hg hm hk hb ok.pass hdb) fun σ H Q w => ?_
  obtain ⟨B, F, Θ, ρ, μ, hK, at', q⟩ := w
  unfold callD nilL at q
  simp only [R.bind_ok] at q
  split at q
  · rename_i hl
    exact ⟨hl, B, F, Θ, [], μ, hK, at'.o, .nil, q⟩
  · exact q.elim
theorem pick_ok {F : Hp} {Θ : List Addr} {us : List U} {vs : List V} (r : RelL F Θ us vs) : ∀ {pm : List Nat} {ws : List U}, pickL pm us = some ws → ∃ zs : List V, pm.map (vs[·]?) = zs.map some ∧ RelL F Θ ws zs
  | [], ws, h => by cases h; exact ⟨[], rfl, .nil⟩
  | i :: pm, ws, h => by
    unfold pickL at h
    split at h
    · rename_i u ws' e1 e2
      cases h
      obtain ⟨v, h1, h2⟩ := paired_get r e1
      obtain ⟨zs, h3, h4⟩ := pick_ok r e2
      exact ⟨v :: zs, by rw [List.map_cons, List.map_cons, h1, h3], .cons h2 h4⟩
    · cases h
/-- the keywords' values -/
theorem k_nil : PK X [] (TLv X.K ER E nilL) := ⟨fun pos pins s σ H Q I ⟨B, F, Θ, ρ, μ, hK, at', q⟩ => pk_nil.run pos pins s σ H Q I (post_ok (b := []) at'.o .nil q)⟩
theorem k_cons {kws : List Keyword} {nm : Option Str} {kpos : Pos} (ha : DenE ER E X a fa) (hr : PK X kws (TLv X.K ER E fl)) : PK X (⟨nm, a, kpos⟩ :: kws) (TLv X.K ER E (consL fa fl)) :=
  ⟨fun pos pins s σ H Q I ⟨B, F, Θ, ρ, μ, hK, at', q⟩ => (pk_cons ha hr).run pos pins s σ H Q I (te_in hK at' q fun u μ1 F1 Θ1 H1 v x1 at1 r1 q1 =>
    tl_in hK at1 q1 fun us μ2 F2 Θ2 H2 vs x2 at2 r2 q2 => post_ok (b := v :: vs) at2.o (.cons (r1.mono x2) r2) q2)⟩
theorem r_callK {x : Str} {F' : Fn} {kws : List Keyword} {qk : List Str × List Nat} (ok : CxOk ER CX Γ E X) (hF : Γ.fns.lookup x = some F') (hq : qk ∈ F'.kw) (hg : Gl X x) (ha : PK X kws (TLv X.K ER E fl)) (hdb : (x == ("__debug__" : Str)) = false)
    (hall : (backToKw pos (keywordEach kws X.env)).all (·.1.isSome) = true) (hks : (backToKw pos (keywordEach kws X.env)).filterMap (·.1) = qk.1)
    (hpl : ((backTo pos (starEach [] X.env)).any (·.1) || (backToKw pos (keywordEach kws X.env)).any (·.1.isNone)) = false) : DenE ER E X (.Call (.Name x p) [] kws pos) (callKD F' qk fl) := by
  obtain ⟨k, ad, fd, hf, hr, hm, hk, _, hb⟩ := (ok.fn x F' hF).ex
  refine PE.weak (pe_callGK (ks := qk.1) (pm := qk.2) hf ok.gd hr hg hm hk ok.pass ha (hb qk hq) hall hks hpl hdb) fun σ H Q w => ?_
  obtain ⟨B, F, Θ, ρ, μ, hK, at', q⟩ := w
  refine tl_in hK at' q fun us μ1 F1 Θ1 H1 vs x1 at1 r1 q1 => ?_
  split at q1
  · rename_i hl
    refine ⟨by rw [← paired_len r1]; exact hl.1, ?_⟩
    cases hp : pickL qk.2 us with
    | none => rw [hp] at q1; exact q1.elim
    | some ws =>
      rw [hp] at q1
      obtain ⟨zs, h1, h2⟩ := pick_ok r1 hp
      refine ⟨zs, h1, ?_, B, F1, Θ1, ws, μ1, hK, at1.o, h2, q1⟩
      have := congrArg List.length h1
      simp only [List.length_map] at this
      rw [← this]; exact hl.2
  · exact q1.elim

/-! ### subscripts -/
theorem plainIx (h : ∀ l u st q, b ≠ .Slice l u st q) : ∀ o i, subscripted b false o i = operate [o, i] (getItem o i) := by
  intro o i
  cases b with
  | Slice l u st q => exact absurd rfl (h l u st q)
  | _ => rfl
theorem r_sub (hu : X.A.units + 1 < cLine) (ha : DenE ER E X a fa) (hb : DenE ER E X b fb) (hs : ∀ l u st q, b ≠ .Slice l u st q) : DenE ER E X (.Subscript a b pos) (bin2 subsM fa fb) := by
  refine PE.weak (PE.or (pe_ix ix_seq ha hb (plainIx hs)) (pe_dget hu ha hb (plainIx hs))) fun σ H Q ⟨B, F, Θ, ρ, μ, hK, at', q⟩ => ?_
  have split2 : (∃ u μ1 w μ2, fa ρ μ = .ok u μ1 ∧ fb ρ μ1 = .ok w μ2 ∧ dctAt u μ2 ≠ none) ∨ ¬ ∃ u μ1 w μ2, fa ρ μ = .ok u μ1 ∧ fb ρ μ1 = .ok w μ2 ∧ dctAt u μ2 ≠ none := Classical.em _
  rcases split2 with ⟨u0, n1, w0, n2, e1, e2, e3⟩ | no
  · refine .inr (te_in' hK at' q fun u μ1 F1 Θ1 H1 v eu x1 at1 r1 q1 => te_in' hK at1 q1 fun w μ2 F2 Θ2 H2 z ew x2 at2 r2 q2 => ?_)
    rw [e1] at eu; cases eu
    rw [e2] at ew; cases ew
    unfold subsM at q2
    cases h : dctAt u0 n2 with
    | none => exact absurd h e3
    | some kd =>
      obtain ⟨k, d⟩ := kd
      rw [h] at q2
      simp only at q2
      split at q2
      · rename_i y ey
        cases ev : view w0 n2 with
        | none => rw [ev] at ey; cases ey
        | some x =>
          rw [ev] at ey
          obtain ⟨p, rfl, _, g⟩ := find_ok at2.o (r1.mono x2) h (view_ok at2.o r2 ev) ey
          rcases g with ⟨g1, _⟩ | ⟨y', zv, g1, g2, g3⟩
          · cases g1
          · cases g1
            exact ⟨p, zv, rfl, g3, post_same at2.o g2 q2⟩
      · exact q2.elim
  · refine .inl (te_in' hK at' q fun u μ1 F1 Θ1 H1 v eu x1 at1 r1 q1 => te_in' hK at1 q1 fun w μ2 F2 Θ2 H2 z ew x2 at2 r2 q2 => ?_)
    unfold subsM at q2
    cases h : dctAt u μ2 with
    | some kd => exact absurd ⟨u, μ1, w, μ2, eu, ew, by rw [h]; exact fun z => by cases z⟩ no
    | none =>
      rw [h] at q2
      simp only at q2
      split at q2
      · rename_i t us i e4
        split at q2
        · rename_i y ey
          obtain ⟨p, xs, rfl, rl, hs⟩ := items_ok at2.o (r1.mono x2) e4
          obtain ⟨zv, hz, rz⟩ := atI_rel rl ey
          have fin := post_same at2.o rz q2
          rcases hs with ⟨_, hp⟩ | ⟨_, hp⟩
          · exact .inl ⟨p, xs, i, zv, rfl, dd_int r2, SqL.of hp, hz, fin⟩
          · exact .inr (.inl ⟨p, xs, i, zv, rfl, dd_int r2, SqT.of hp, hz, fin⟩)
        · exact q2.elim
      · exact q2.elim
def Opt (ER : ExR) (E : XK) (X : Cx) (e : Option Expr) (f : Option DE) : Prop := match e, f with
  | none, none => True
  | some a, some fa => DenE ER E X a fa
  | _, _ => False
def tOpt (K : PySem.W.Frag) (ER : ExR) (E : XK) : Option DE → TO
  | none => tNoPart
  | some f => tPart (TEv K ER E f)
theorem po_opt {lo : Option Expr} {fo : Option DE} (h : Opt ER E X lo fo) : PO X lo (tOpt X.K ER E fo) := by
  cases lo with
  | none => cases fo with
    | none => exact po_none
    | some _ => exact h.elim
  | some e => cases fo with
    | none => exact h.elim
    | some f => exact po_some h
theorem opt_in {K : PySem.W.Frag} {B : Bg} {F : Hp} {Θ : List Addr} {ρ : Rho} {μ : Mu} {σ : L2.St} {H : Hp} {fo : Option DE} {g : Option Int → Mu → R U} {Q' : VK} {Q : Option Int → Hp → Prop} (hK : B.K = K) (at' : At B F Θ ρ μ σ H) (h : PostE B ER E F Θ Q' ((optE fo ρ μ).bind g))
    (k : ∀ o μ1 F1 Θ1 H1, Ext F Θ F1 Θ1 → At B F1 Θ1 ρ μ1 σ H1 → PostE B ER E F1 Θ1 Q' (g o μ1) → Q o H1) : tOpt K ER E fo σ H Q := by
  cases fo with
  | none => exact k none μ F Θ H (Ext.refl _ _) at' h
  | some f =>
    have h' : PostE B ER E F Θ Q' ((f ρ μ).bind fun u μ1 => (match u with | .d (.int i) => R.ok (some i) μ1 | _ => R.stuck : R (Option Int)).bind g) := by
      have h : PostE B ER E F Θ Q' (((f ρ μ).bind fun u μ1 => (match u with | .d (.int i) => R.ok (some i) μ1 | _ => R.stuck : R (Option Int))).bind g) := h
      cases e : f ρ μ with
      | ok u μ1 => rw [e] at h; exact h
      | ex _ _ => rw [e] at h; exact h
      | stuck => rw [e] at h; exact h
    refine te_in hK at' h' fun u μ1 F1 Θ1 H1 v x1 at1 r1 q1 => ?_
    split at q1
    · exact ⟨_, dd_int r1, k _ μ1 F1 Θ1 H1 x1 at1 q1⟩
    · exact q1.elim
theorem r_slice (m : Bool) {lo hi : Option Expr} {fl' fh : Option DE} {p2 : Pos} (ha : DenE ER E X a fa) (hl : Opt ER E X lo fl') (hh : Opt ER E X hi fh) : DenE ER E X (.Subscript a (.Slice lo hi none p2) pos) (sliceD m fa fl' fh) :=
  PE.weak (pe_slice (sl_ok m) ha (po_opt hl) (po_opt hh)) fun σ H Q ⟨B, F, Θ, ρ, μ, hK, at', q⟩ => te_in hK at' q fun u μ1 F1 Θ1 H1 v x1 at1 r1 q1 =>
    opt_in hK at1 q1 fun l μ2 F2 Θ2 H2 x2 at2 q2 => opt_in hK at2 q2 fun h μ3 F3 Θ3 H3 x3 at3 q3 => ⟨B, F3, Θ3, u, μ3, hK, at3.o, r1.mono (x2.trans x3), q3⟩
def revM (m : Bool) : Fn1 := fun u μ => match seqL u μ with
  | some us => mkL m us.reverse μ
  | none => .stuck
theorem r_rev (m : Bool) {k : Nat} {p1 p2 p3 : Pos} (ha : DenE ER E X a fa) : DenE ER E X (.Subscript a (.Slice none none (some (.UnaryOp .USub (.Constant (.int 1) k p1) p2)) p3) pos) (fn1 (revM m) fa) :=
  PE.weak (pe_revL ha) fun σ H Q ⟨B, F, Θ, ρ, μ, hK, at', q⟩ => te_in hK at' q fun u μ1 F1 Θ1 H1 v x1 at1 r1 q1 => by
    unfold revM at q1
    split at q1
    · rename_i us e
      obtain ⟨p, xs, rfl, rl, hp⟩ := seqL_ok at1.o r1 e
      exact ⟨p, xs, rfl, SqL.of hp, (mkL_ok at1.o (paired_rev rl) q1).2⟩
    · exact q1.elim

/-! ### methods -/
def isL (u : U) (μ : Mu) : Bool := (seqL u μ).isSome
def isD (u : U) (μ : Mu) : Bool := (dctAt u μ).isSome
abbrev Fn2 := U → U → Mu → R U
def methD (chk : U → Mu → Bool) (a b : DE) (g : Fn2) : DE := fun ρ μ => (a ρ μ).bind fun u μ1 => if chk u μ1 then (b ρ μ1).bind fun w μ2 => g u w μ2 else .stuck
def meth0 (chk : U → Mu → Bool) (a : DE) (g : Fn1) : DE := fun ρ μ => (a ρ μ).bind fun u μ1 => if chk u μ1 then g u μ1 else .stuck
theorem ty_list {B : Bg} {F H : Hp} {Θ : List Addr} {μ : Mu} {u : U} {v : V} {K : PySem.W.Frag} (o : Ok B F Θ μ H) (r : RelU F Θ u v) (h : isL u μ = true) : tyV K "list" v H := by
  unfold isL at h
  obtain ⟨us, e⟩ := Option.isSome_iff_exists.mp h
  obtain ⟨p, xs, rfl, rl, hp⟩ := seqL_ok o r e
  exact .inl ⟨rfl, xs, SqL.of hp⟩
/-- what a method's rule asks, from what it does by values -/
def Mok1 (ER : ExR) (E : XK) (r : V → List V → Hp → VK → Prop) (g : Fn2) : Prop := ∀ B F Θ μ H u w x y Q, Ok B F Θ μ H → RelU F Θ u x → RelU F Θ w y → PostE B ER E F Θ Q (g u w μ) → r x [y] H Q
def Mok0 (ER : ExR) (E : XK) (r : V → List V → Hp → VK → Prop) (g : Fn1) : Prop := ∀ B F Θ μ H u x Q, Ok B F Θ μ H → RelU F Θ u x → PostE B ER E F Θ Q (g u μ) → r x [] H Q
theorem r_listM1 {nm : Str} {id : String} {r : V → List V → Hp → VK → Prop} {g : Fn2} {apos : Pos} (slot : Slot "list" nm id) (hty : typeOf (.builtin id) = pure (.type "method_descriptor")) (hm : MtR X id r) (hr : Mok1 ER E r g)
    (ha : DenE ER E X a fa) (hb : DenE ER E X b fb) (hbase : attributeBase a nm X.env (eval a X.env) = eval a X.env) (hline : (apos.endLine == pos.line) = true) (hs : starEach [b] X.env = (false, eval b X.env) :: starEach [] X.env) :
    DenE ER E X (.Call (.Attribute a nm apos) [b] [] pos) (methD isL fa fb g) := by
  refine PE.weak (pe_bm PySem.F.plainAttrs_list slot hty hm ha (pa_cons hb pa_nil hs) hbase (by rw [hs]; rfl) hline hs rfl) fun σ H Q ⟨B, F, Θ, ρ, μ, hK, at', q⟩ => te_in hK at' q fun u μ1 F1 Θ1 H1 v x1 at1 r1 q1 => ?_
  split at q1
  · rename_i h
    exact ⟨ty_list at1.o r1 h, te_in hK at1 q1 fun w μ2 F2 Θ2 H2 z x2 at2 r2 q2 => hr _ _ _ _ _ _ _ _ _ _ at2.o (r1.mono x2) r2 q2⟩
  · exact q1.elim
theorem r_listM0 {nm : Str} {id : String} {r : V → List V → Hp → VK → Prop} {g : Fn1} {apos : Pos} (slot : Slot "list" nm id) (hty : typeOf (.builtin id) = pure (.type "method_descriptor")) (hm : MtR X id r) (hr : Mok0 ER E r g)
    (ha : DenE ER E X a fa) (hbase : attributeBase a nm X.env (eval a X.env) = eval a X.env) (hline : (apos.endLine == pos.line) = true) : DenE ER E X (.Call (.Attribute a nm apos) [] [] pos) (meth0 isL fa g) := by
  refine PE.weak (pe_bm0 PySem.F.plainAttrs_list slot hty hm ha hbase hline) fun σ H Q ⟨B, F, Θ, ρ, μ, hK, at', q⟩ => te_in hK at' q fun u μ1 F1 Θ1 H1 v x1 at1 r1 q1 => ?_
  split at q1
  · rename_i h
    exact ⟨ty_list at1.o r1 h, hr _ _ _ _ _ _ _ _ at1.o r1 q1⟩
  · exact q1.elim
/-- a list that may be changed -/
def lstAt (u : U) (μ : Mu) : Option (Nat × List U) := match u with
  | .p k => match μ[k]? with
    | some (.lst us) => some (k, us)
    | _ => none
  | _ => none
theorem lstAt_ok {B : Bg} {F H : Hp} {Θ : List Addr} {μ : Mu} {u : U} {v : V} {k : Nat} {us : List U} (o : Ok B F Θ μ H) (r : RelU F Θ u v) (h : lstAt u μ = some (k, us)) :
    ∃ a xs, u = .p k ∧ v = .ref a ∧ Θ[k]? = some a ∧ μ[k]? = some (.lst us) ∧ H a = some (.lst xs) ∧ RelL F Θ us xs := by
  cases u with
  | d _ => cases h
  | p j =>
    obtain ⟨a, ha, rfl⟩ := r
    unfold lstAt at h
    cases e : μ[j]? with
    | none => simp only [e] at h; cases h
    | some c =>
      simp only [e] at h
      cases c with
      | lst ws =>
        cases h
        obtain ⟨_, xs, h1, h2⟩ := o.cell _ _ a e ha
        exact ⟨a, xs, rfl, rfl, ha, e, h1, h2⟩
      | _ => cases h
theorem lst_write {B : Bg} {F H : Hp} {Θ : List Addr} {μ : Mu} {k : Nat} {a : Addr} {us us' : List U} {xs' : List V} (o : Ok B F Θ μ H) (hk : μ[k]? = some (.lst us)) (ha : Θ[k]? = some a) (r : RelL F Θ us' xs') : Ok B F Θ (μ.set k (.lst us')) (upd H a (.lst xs')) :=
  o.write hk ha rfl ⟨(o.cell k _ a hk ha).1, xs', upd_same, r⟩
def appendM : Fn2 := fun u w μ => match toD w μ with
  | some (x, μ1) => match lstAt u μ1 with
    | some (k, us) => if us.length < lim then .ok (.d .none) (μ1.set k (.lst (us ++ [.d x]))) else .stuck
    | none => .stuck
  | none => .stuck
theorem ok_append : Mok1 ER E rAppend appendM := fun B F Θ μ H u w x y Q o ru rw' q => by
  unfold appendM at q
  split at q
  · rename_i d μ1 e1
    split at q
    · rename_i k us e2
      split at q
      · rename_i hl
        obtain ⟨F1, x1, o1, d1⟩ := toD_ok o rw' e1
        obtain ⟨a, xs, rfl, rfl, ha, hk, hp, rl⟩ := lstAt_ok o1 (ru.mono x1) e2
        refine ⟨a, xs, y, rfl, rfl, hp, by rw [← paired_len rl, ← lim_eq]; exact hl, ?_⟩
        exact q F1 Θ _ _ x1 (lst_write o1 hk ha (paired_app rl (.cons (F := RelU F1 Θ) (a := U.d d) d1 .nil))) .non
      · exact q.elim
    · exact q.elim
  · exact q.elim
def extendM : Fn2 := fun u w μ => match seqL w μ with
  | some vs => match toDs vs μ with
    | some (ds, μ1) => match lstAt u μ1 with
      | some (k, us) => if us.length + vs.length ≤ lim then .ok (.d .none) (μ1.set k (.lst (us ++ ds.map .d))) else .stuck
      | none => .stuck
    | none => .stuck
  | none => .stuck
theorem ok_extend : Mok1 ER E rExtend extendM := fun B F Θ μ H u w x y Q o ru rw' q => by
  unfold extendM at q
  split at q
  · rename_i vs e0
    split at q
    · rename_i ds μ1 e1
      split at q
      · rename_i k us e2
        split at q
        · rename_i hl
          obtain ⟨b, zs, rfl, rz, hb⟩ := seqL_ok o rw' e0
          obtain ⟨F1, x1, o1, d1⟩ := toDs_ok o rz e1
          obtain ⟨a, xs, rfl, rfl, ha, hk, hp, rl⟩ := lstAt_ok o1 (ru.mono x1) e2
          refine ⟨a, b, xs, zs, rfl, rfl, hp, hb, by rw [← paired_len rl, ← paired_len rz, ← lim_eq]; exact hl, ?_⟩
          exact q F1 Θ _ _ x1 (lst_write o1 hk ha (paired_app rl d1.rel)) .non
        · exact q.elim
      · exact q.elim
    · exact q.elim
  · exact q.elim
def popM : Fn1 := fun u μ => match lstAt u μ with
  | some (k, us) => match us[us.length - 1]? with
    | some w => .ok w (μ.set k (.lst us.dropLast))
    | none => .stuck
  | none => .stuck
theorem ok_pop : Mok0 ER E rPop popM := fun B F Θ μ H u x Q o ru q => by
  unfold popM at q
  split at q
  · rename_i k us e
    split at q
    · rename_i w ew
      obtain ⟨a, xs, rfl, rfl, ha, hk, hp, rl⟩ := lstAt_ok o ru e
      obtain ⟨v, hv, rv⟩ := paired_get rl ew
      rw [paired_len rl] at hv
      exact ⟨a, xs, v, rfl, rfl, hp, hv, q F Θ _ _ (Ext.refl _ _) (lst_write o hk ha (paired_dropLast rl)) rv⟩
    · exact q.elim
  · exact q.elim
def popAtM : Fn2 := fun u w μ => match lstAt u μ, w with
  | some (k, us), .d (.int i) => if -(2 ^ 63) ≤ i ∧ i < 2 ^ 63 then (match seqIndex? i us.length with
    | some j => match us[j]? with
      | some z => .ok z (μ.set k (.lst (us.eraseIdx j)))
      | none => .stuck
    | none => .stuck) else .stuck
  | _, _ => .stuck
theorem ok_popAt : Mok1 ER E rPopAt popAtM := fun B F Θ μ H u w x y Q o ru rw' q => by
  unfold popAtM at q
  split at q
  · rename_i k us i e
    split at q
    · rename_i hi
      split at q
      · rename_i j ej
        split at q
        · rename_i z ez
          obtain ⟨a, xs, rfl, rfl, ha, hk, hp, rl⟩ := lstAt_ok o ru e
          obtain ⟨v, hv, rv⟩ := paired_get rl ez
          exact ⟨a, xs, i, j, v, rfl, by rw [dd_int rw'], hp, hi.1, hi.2, by rw [← paired_len rl]; exact ej, hv, q F Θ _ _ (Ext.refl _ _) (lst_write o hk ha (paired_erase j rl)) rv⟩
        · exact q.elim
      · exact q.elim
    · exact q.elim
  · exact q.elim
end
end Vm
set_option Elab.async false
set_option linter.all false
set_option maxRecDepth 100000
set_option maxHeartbeats 1000000
/-! Vm, part G: what is walked, comprehensions, statements. -/
namespace Vm
open PySem PySem.Spec PyProof.Rows L2

/-! ### what is walked -/
structure IterOk (J : It) (F0 : Hp) (ds : List PyData) : Prop where
  stop : ∀ H, Le F0 H → J.stop ds.length H
  go : ∀ i H, Le F0 H → i < ds.length → J.go i H
  yld : ∀ (i : Nat) (B : Bg) (F : Hp) (Θ : List Addr) (μ : Mu) (H : Hp) (x : V) (H' : Hp) (d : PyData), Le F0 F → Ok B F Θ μ H → ds[i]? = some d → J.yld i H x H' → ∃ F', Ext F Θ F' Θ ∧ Ok B F' Θ μ H' ∧ Dd F' x d
abbrev DI := Rho → Mu → R (List PyData)
abbrev DG := U → Rho → Mu → R Rho
abbrev PostI := @PostR (List PyData) It fun F _ ds J => IterOk J F ds
abbrev PostG := @PostR Rho L2.St fun F Θ ρ σ => RelS F Θ ρ σ
def TIv (K : PySem.W.Frag) (ER : ExR) (E : XK) (f : DI) : TI := fun σ H R => ∃ B F Θ ρ μ, B.K = K ∧ At B F Θ ρ μ σ H ∧ PostI B ER E F Θ R (f ρ μ)
def TGv (K : PySem.W.Frag) (ER : ExR) (E : XK) (g : DG) : TG := fun v σ H Q => ∃ B F Θ ρ μ u, B.K = K ∧ At B F Θ ρ μ σ H ∧ RelU F Θ u v ∧ PostG B ER E F Θ Q (g u ρ μ)
abbrev DenI (ER : ExR) (E : XK) (X : Cx) (tg e : Expr) (f : DI) : Prop := PI X tg e (TIv X.K ER E f)
abbrev DenG (ER : ExR) (E : XK) (X : Cx) (tg : Expr) (g : DG) : Prop := PG X tg (TGv X.K ER E g)
abbrev DenS (ER : ExR) (E : XK) (X : Cx) (s : Stmt) (f : DS) : Prop := PS X s (TSv X.K ER E f)
abbrev DenSs (ER : ExR) (E : XK) (X : Cx) (s : List Stmt) (f : DS) : Prop := PSs X s (TSv X.K ER E f)
def asSeq : PyData → Option (List PyData)
  | .list ds => some ds
  | .tuple ds => some ds
  | _ => none
def iterD (a : DE) : DI := fun ρ μ => (a ρ μ).bind fun u μ1 => match toD u μ1 with
  | some (x, μ2) => opt (asSeq x) μ2
  | none => .stuck
def intsL (lo : Int) (n : Nat) : List PyData := (List.range n).map fun i => .int (lo + (i : Nat))
def R62 (i : Int) : Bool := decide (-(2 ^ 62) ≤ i) && decide (i < 2 ^ 62)
def rng1D (a : DE) : DI := fun ρ μ => (a ρ μ).bind fun u μ1 => match u with
  | .d (.int j) => if R62 j then .ok (intsL 0 j.toNat) μ1 else .stuck
  | _ => .stuck
def rng2D (a b : DE) : DI := fun ρ μ => (a ρ μ).bind fun u μ1 => (b ρ μ1).bind fun v μ2 => match u, v with
  | .d (.int i), .d (.int j) => if R62 i && R62 j then .ok (intsL i (j - i).toNat) μ2 else .stuck
  | _, _ => .stuck
section
variable {X : Cx} {tg e : Expr}
theorem PI.weak {t t' : TI} (h : PI X tg e t) (i : ∀ σ H R, t' σ H R → t σ H R) : PI X tg e t' := ⟨fun pins s σ H R I w => h.run pins s σ H R I (i _ _ _ w)⟩
theorem PI.or {t t' : TI} (h : PI X tg e t) (h' : PI X tg e t') : PI X tg e (fun σ H R => t σ H R ∨ t' σ H R) :=
  ⟨fun pins s σ H R I w => w.elim (h.run pins s σ H R I) (h'.run pins s σ H R I)⟩
theorem PG.weak {t t' : TG} (h : PG X tg t) (i : ∀ v σ H Q, t' v σ H Q → t v σ H Q) : PG X tg t' := ⟨fun pins s σ H v u Q I r w => h.run pins s σ H v u Q I r (i _ _ _ _ w)⟩
theorem PGs.weak {es : List Expr} {t t' : TGs} (h : PGs X es t) (i : ∀ v σ H Q, t' v σ H Q → t v σ H Q) : PGs X es t' := ⟨fun pins s σ H v u Q I r w => h.run pins s σ H v u Q I r (i _ _ _ _ w)⟩
theorem dd_at {F : Hp} : ∀ {vs : List V} {ds : List PyData} {i : Nat} {d : PyData}, DdAll F vs ds → ds[i]? = some d → ∃ v, vs[i]? = some v ∧ Dd F v d
  | _, _, _, _, .nil, h => by simp at h
  | _, _, 0, _, .cons r _, h => by simp at h; subst h; exact ⟨_, rfl, r⟩
  | _, _, i + 1, d, .cons _ t, h => by
    obtain ⟨v, h1, h2⟩ := dd_at (i := i) (d := d) t (by simpa using h)
    exact ⟨v, by simpa using h1, h2⟩
theorem it_list {K : PySem.W.Frag} {F : Hp} {a : Addr} {xs : List V} {ds : List PyData} (e : F a = some (.lst xs)) (h : DdAll F xs ds) : IterOk (Itl K a) F ds := by
  refine ⟨fun H l => ⟨xs, SqL.of (l _ _ e), Nat.le_of_eq h.length⟩, fun i H l hi => ?_, fun i B F' Θ μ H x H' d l o hd y => ?_⟩
  · have hi' : i < xs.length := by rw [h.length]; exact hi
    exact ⟨xs, xs[i], SqL.of (l _ _ e), List.getElem?_eq_getElem hi'⟩
  · obtain ⟨rfl, y⟩ := y
    obtain ⟨v, h1, h2⟩ := dd_at h hd
    have := y xs (SqL.of (o.le _ _ (l _ _ e)))
    rw [h1] at this
    cases this
    exact ⟨F', Ext.refl _ _, o, h2.mono l⟩
theorem it_tup {K : PySem.W.Frag} {F : Hp} {a : Addr} {xs : List V} {ds : List PyData} (e : F a = some (.tup xs)) (h : DdAll F xs ds) : IterOk (Itt K a) F ds := by
  refine ⟨fun H l => ⟨xs, SqT.of (l _ _ e), Nat.le_of_eq h.length⟩, fun i H l hi => ?_, fun i B F' Θ μ H x H' d l o hd y => ?_⟩
  · have hi' : i < xs.length := by rw [h.length]; exact hi
    exact ⟨xs, xs[i], SqT.of (l _ _ e), List.getElem?_eq_getElem hi'⟩
  · obtain ⟨rfl, y⟩ := y
    obtain ⟨v, h1, h2⟩ := dd_at h hd
    have := y xs (SqT.of (o.le _ _ (l _ _ e)))
    rw [h1] at this
    cases this
    exact ⟨F', Ext.refl _ _, o, h2.mono l⟩
theorem it_rng {F : Hp} (lo : Int) (n : Nat) : IterOk (Itr lo n) F (intsL lo n) := by
  have hl : (intsL lo n).length = n := by simp [intsL]
  refine ⟨fun H l => Nat.le_of_eq hl.symm, fun i H l hi => by rw [hl] at hi; exact hi, fun i B F' Θ μ H x H' d l o hd y => ?_⟩
  obtain ⟨rfl, rfl⟩ := y
  unfold intsL at hd
  rw [List.getElem?_map] at hd
  by_cases hi : i < n
  · rw [List.getElem?_range hi] at hd
    cases hd
    exact ⟨F', Ext.refl _ _, o, .int _⟩
  · rw [List.getElem?_eq_none (by simpa using hi)] at hd
    cases hd
end

section
variable {ER : ExR} {CX : CXT} {Γ : Ctx} {E : XK} {X : Cx} {tg e a b c : Expr} {es rest : List Expr} {fa fb fc : DE} {ta tb tc : DB} {fl : DL} {fi : DI} {pos p : Pos}
theorem i_seq (ha : DenE ER E X a fa) : DenI ER E X tg a (iterD fa) := by
  refine PI.weak (PI.or (pi_list ha) (pi_tup ha)) fun σ H R ⟨B, F, Θ, ρ, μ, hK, at', q⟩ => ?_
  have split2 : (∃ u μ1 ds μ2, fa ρ μ = .ok u μ1 ∧ toD u μ1 = some (.list ds, μ2)) ∨ ¬ ∃ u μ1 ds μ2, fa ρ μ = .ok u μ1 ∧ toD u μ1 = some (.list ds, μ2) := Classical.em _
  rcases split2 with ⟨u0, n1, ds, n2, e1, e2⟩ | no
  · refine .inl (te_in' hK at' q fun u μ1 F1 Θ1 H1 v eu x1 at1 r1 q1 => ?_)
    rw [e1] at eu; cases eu
    rw [e2] at q1
    obtain ⟨F2, x2, o2, d2⟩ := toD_ok at1.o r1 e2
    cases d2 with
    | @lst p xs _ h1 h2 => exact ⟨p, rfl, ⟨xs, SqL.of (o2.le _ _ h1)⟩, q1 F2 Θ1 H1 _ x2 o2 (it_list h1 h2)⟩
  · refine .inr (te_in' hK at' q fun u μ1 F1 Θ1 H1 v eu x1 at1 r1 q1 => ?_)
    cases ed : toD u μ1 with
    | none => rw [ed] at q1; exact q1.elim
    | some w =>
      obtain ⟨x, μ2⟩ := w
      rw [ed] at q1
      obtain ⟨F2, x2, o2, d2⟩ := toD_ok at1.o r1 ed
      cases d2 with
      | @lst p xs ds h1 h2 => exact absurd ⟨u, μ1, ds, μ2, eu, ed⟩ no
      | @tup p xs _ h1 h2 => exact ⟨p, rfl, ⟨xs, SqT.of (o2.le _ _ h1)⟩, q1 F2 Θ1 H1 _ x2 o2 (it_tup h1 h2)⟩
      | _ => exact q1.elim
theorem r62 {i : Int} (h : R62 i = true) : -(2 ^ 62) ≤ i ∧ i < 2 ^ 62 := by
  unfold R62 at h
  simp only [Bool.and_eq_true, decide_eq_true_eq] at h
  exact h
theorem i_rng1 (hg : Gl X "range") (hm : X.mg "range" = none) (ha : DenE ER E X a fa) (hs : starEach [a] X.env = (false, eval a X.env) :: starEach [] X.env) : DenI ER E X tg (.Call (.Name "range" p) [a] [] pos) (rng1D fa) :=
  PI.weak (pi_range1 hg hm (pa_cons ha pa_nil hs) hs) fun σ H R ⟨B, F, Θ, ρ, μ, hK, at', q⟩ => te_in hK at' q fun u μ1 F1 Θ1 H1 v x1 at1 r1 q1 => by
    split at q1
    · rename_i j
      split at q1
      · rename_i h
        exact ⟨j, by rw [dd_int r1], (r62 h).1, (r62 h).2, q1 F1 Θ1 H1 _ (Ext.refl _ _) at1.o (it_rng 0 _)⟩
      · exact q1.elim
    · exact q1.elim
theorem i_rng2 (hg : Gl X "range") (hm : X.mg "range" = none) (ha : DenE ER E X a fa) (hb : DenE ER E X b fb) (hs : starEach [a, b] X.env = [(false, eval a X.env), (false, eval b X.env)]) (hs2 : starEach [b] X.env = [(false, eval b X.env)]) :
    DenI ER E X tg (.Call (.Name "range" p) [a, b] [] pos) (rng2D fa fb) :=
  PI.weak (pi_range2 hg hm (pa_cons ha (pa_cons hb pa_nil hs2) (by rw [hs, hs2])) hs hs2) fun σ H R ⟨B, F, Θ, ρ, μ, hK, at', q⟩ => te_in hK at' q fun u μ1 F1 Θ1 H1 v x1 at1 r1 q1 =>
    te_in hK at1 q1 fun w μ2 F2 Θ2 H2 z x2 at2 r2 q2 => by
      split at q2
      · rename_i i j
        split at q2
        · rename_i h
          simp only [Bool.and_eq_true] at h
          have e1 := dd_int r1
          have e2 := dd_int r2
          subst e1 e2
          exact ⟨i, j, rfl, ⟨(r62 h.1).1, (r62 h.1).2, (r62 h.2).1, (r62 h.2).2⟩, q2 F2 Θ2 H2 _ (Ext.refl _ _) at2.o (it_rng i _)⟩
        · exact q2.elim
      · exact q2.elim

/-! ### targets -/
def nameG (i : Nat) : DG := fun u ρ μ => .ok (ρ.set i (some u)) μ
theorem g_name {i : Nat} {x : Str} (ok : CxOk ER CX Γ E X) (hi : X.N[i]? = some x) (ha : Γ.asg x = true) : DenG ER E X (.Name x pos) (nameG i) :=
  PG.weak (pg_name ok.nd hi (ok.asg x ha).1 (ok.asg x ha).2) fun v σ H Q ⟨B, F, Θ, ρ, μ, u, hK, at', r, q⟩ => q F Θ H _ (Ext.refl _ _) at'.o (at'.s.set r i)
/-- several targets: each takes its item -/
def bindL : List DG → List U → Rho → Mu → R Rho
  | [], [], ρ, μ => .ok ρ μ
  | g :: gs, u :: us, ρ, μ => (g u ρ μ).bind fun ρ1 μ1 => bindL gs us ρ1 μ1
  | _, _, _, _ => .stuck
abbrev DGs := List U → Rho → Mu → R Rho
def TGsv (K : PySem.W.Frag) (ER : ExR) (E : XK) (g : DGs) : TGs := fun vs σ H Q => ∃ B F Θ ρ μ us, B.K = K ∧ At B F Θ ρ μ σ H ∧ RelL F Θ us vs ∧ PostG B ER E F Θ Q (g us ρ μ)
abbrev DenGs (ER : ExR) (E : XK) (X : Cx) (es : List Expr) (g : DGs) : Prop := PGs X es (TGsv X.K ER E g)
theorem gs_nil : DenGs ER E X [] (bindL []) := PGs.weak pgs_nil fun vs σ H Q ⟨B, F, Θ, ρ, μ, us, hK, at', r, q⟩ => by
  cases us with
  | nil => cases r; exact ⟨rfl, q F Θ H _ (Ext.refl _ _) at'.o at'.s⟩
  | cons _ _ => exact q.elim
theorem gs_cons {g : DG} {gs : List DG} (h1 : DenG ER E X e g) (h2 : DenGs ER E X es (bindL gs)) (hs : (assignEach (e :: es) X.env).map (·.2) = assign e X.env :: (assignEach es X.env).map (·.2)) : DenGs ER E X (e :: es) (bindL (g :: gs)) :=
  PGs.weak (pgs_cons h1 h2 hs) fun vs σ H Q ⟨B, F, Θ, ρ, μ, us, hK, at', r, q⟩ => by
    cases us with
    | nil => exact q.elim
    | cons u us =>
      cases r with
      | @cons _ v _ vr r rr =>
        refine ⟨v, vr, rfl, B, F, Θ, ρ, μ, u, hK, at', r, ?_⟩
        have q : PostG B ER E F Θ Q ((g u ρ μ).bind fun ρ1 μ1 => bindL gs us ρ1 μ1) := q
        exact PostR.bind q fun ρ1 μ1 F1 Θ1 H1 σ1 x o rs q1 => ⟨B, F1, Θ1, ρ1, μ1, us, hK, ⟨rs, o⟩, RelL.mono x rr, q1⟩
def tupG (gs : List DG) : DG := fun u ρ μ => match u with
  | .d (.tuple ds) => bindL gs (ds.map .d) ρ μ
  | _ => .stuck
theorem bindL_len : ∀ {gs : List DG} {us : List U} {ρ : Rho} {μ : Mu} {B : Bg} {F : Hp} {Θ : List Addr} {Q : L2.St → Hp → Prop}, PostG B ER E F Θ Q (bindL gs us ρ μ) → (∀ g ∈ gs, ∀ u ρ μ, g u ρ μ ≠ .stuck → ∀ e μ', g u ρ μ ≠ .ex e μ') → us.length = gs.length
  | [], [], _, _, _, _, _, _, _, _ => rfl
  | [], _ :: _, _, _, _, _, _, _, q, _ => q.elim
  | _ :: _, [], _, _, _, _, _, _, q, _ => q.elim
  | g :: gs, u :: us, ρ, μ, B, F, Θ, Q, q, h => by
    have q : PostG B ER E F Θ Q ((g u ρ μ).bind fun ρ1 μ1 => bindL gs us ρ1 μ1) := q
    cases e : g u ρ μ with
    | ok ρ1 μ1 =>
      rw [e] at q
      rw [List.length_cons, List.length_cons, bindL_len q fun g' hg' => h g' (List.mem_cons_of_mem _ hg')]
    | ex e' μ1 => exact absurd e (h g List.mem_cons_self u ρ μ (by rw [e]; exact fun z => by cases z) e' μ1)
    | stuck => rw [e] at q; exact q.elim
theorem g_tup {gs : List DG} {k : Nat} (ok : CxOk ER CX Γ E X) (h : DenGs ER E X es (bindL gs)) (hl : es.length = gs.length) (hn : (assignEach es X.env).length = es.length) (hst : (assignEach es X.env).findIdx? (·.1) = none)
    (pure' : ∀ g ∈ gs, ∀ u ρ μ, g u ρ μ ≠ .stuck → ∀ e μ', g u ρ μ ≠ .ex e μ') : DenG ER E X (.Tuple es k pos) (tupG gs) :=
  PG.weak (pg_tup ok.calm h hn hst) fun v σ H Q ⟨B, F, Θ, ρ, μ, u, hK, at', r, q⟩ => by
    unfold tupG at q
    split at q
    · rename_i ds
      cases r with
      | @tup p xs _ h1 h2 =>
        refine ⟨p, xs, rfl, SqT.of (at'.o.le _ _ h1), ?_, B, F, Θ, ρ, μ, ds.map .d, hK, at', h2.rel, q⟩
        have := bindL_len q pure'
        rw [List.length_map] at this
        rw [h2.length, this, hl]
    · exact q.elim
theorem nameG_pure (i : Nat) : ∀ u ρ μ, nameG i u ρ μ ≠ .stuck → ∀ e μ', nameG i u ρ μ ≠ .ex e μ' := fun u ρ μ _ e μ' z => by cases z
/-- o[i] = .. -/
def subG (a b : DE) : DG := fun w ρ μ => (a ρ μ).bind fun u μ1 => (b ρ μ1).bind fun v μ2 => (setM u v w μ2).bind fun _ μ3 => .ok ρ μ3
theorem g_sub (hu : X.A.units + 1 < cLine) (ha : DenE ER E X a fa) (hb : DenE ER E X b fb) (hs : ∀ l u st q, b ≠ .Slice l u st q) : DenG ER E X (.Subscript a b pos) (subG fa fb) :=
  PG.weak (pg_sub ha hb (ps_setM (ER := ER) (E := E) hu) (by
    intro v
    cases b with
    | Slice l u st q => exact absurd rfl (hs l u st q)
    | _ => rfl)) fun v σ H Q ⟨B, F, Θ, ρ, μ, w, hK, at', r, q⟩ => te_in hK at' q fun u μ1 F1 Θ1 H1 ov x1 at1 r1 q1 => te_in hK at1 q1 fun i μ2 F2 Θ2 H2 iv x2 at2 r2 q2 =>
      ⟨B, F2, Θ2, u, i, w, μ2, at2.o, r1.mono x2, r2, r.mono (x1.trans x2), PostR.bind q2 fun _ μ3 F3 Θ3 H3 _ x3 o3 _ q3 => q3 F3 Θ3 H3 σ (Ext.refl _ _) o3 (at2.s.mono x3)⟩

/-! ### statements -/
def seqS (a b : DS) : DS := fun ρ μ => match a ρ μ with
  | .nx ρ1 μ1 => b ρ1 μ1
  | r => r
def nopS : DS := fun ρ μ => .nx ρ μ
def ofR {α : Type} (r : R α) (f : α → Mu → SR) : SR := match r with
  | .ok a μ => f a μ
  | .ex e μ => .ex e μ
  | .stuck => .stuck
@[simp] theorem ofR_ok {α : Type} (a : α) (μ : Mu) (f : α → Mu → SR) : ofR (.ok a μ) f = f a μ := rfl
def exprS (a : DE) : DS := fun ρ μ => ofR (a ρ μ) fun _ μ1 => .nx ρ μ1
def retS (a : DE) : DS := fun ρ μ => ofR (a ρ μ) fun u μ1 => .rt u μ1
def retNS : DS := fun _ μ => .rt (.d .none) μ
def ifS (t : DB) (a b : DS) : DS := fun ρ μ => ofR (t ρ μ) fun c μ1 => if c then a ρ μ1 else b ρ μ1
def brkS : DS := fun ρ μ => .bk ρ μ
def contS : DS := fun ρ μ => .ct ρ μ
def asgS (g : DG) (a : DE) : DS := fun ρ μ => ofR (a ρ μ) fun u μ1 => ofR (g u ρ μ1) fun ρ1 μ2 => .nx ρ1 μ2
def parS (gs : List DG) (l : DL) : DS := fun ρ μ => ofR (l ρ μ) fun us μ1 => ofR (bindL gs us ρ μ1) fun ρ1 μ2 => .nx ρ1 μ2
def forL (g : DG) (b : DS) : List PyData → DS
  | [], ρ, μ => .nx ρ μ
  | d :: r, ρ, μ => ofR (g (.d d) ρ μ) fun ρ1 μ1 => match b ρ1 μ1 with
    | .nx ρ2 μ2 => forL g b r ρ2 μ2
    | .ct ρ2 μ2 => forL g b r ρ2 μ2
    | .bk ρ2 μ2 => .nx ρ2 μ2
    | .rt u μ2 => .rt u μ2
    | .ex e μ2 => .ex e μ2
    | .stuck => .stuck
def forS (i : DI) (g : DG) (b : DS) : DS := fun ρ μ => ofR (i ρ μ) fun ds μ1 => forL g b ds ρ μ1
def whileL (t : DB) (b : DS) : Nat → DS
  | 0, _, _ => .stuck
  | n + 1, ρ, μ => ofR (t ρ μ) fun c μ1 => if c then (match b ρ μ1 with
    | .nx ρ2 μ2 => whileL t b n ρ2 μ2
    | .ct ρ2 μ2 => whileL t b n ρ2 μ2
    | .bk ρ2 μ2 => .nx ρ2 μ2
    | .rt u μ2 => .rt u μ2
    | .ex e μ2 => .ex e μ2
    | .stuck => .stuck) else .nx ρ μ1
def wmax : Nat := 1000000000000
def whileS (t : DB) (b : DS) : DS := whileL t b wmax
variable {st : Stmt} {sts : List Stmt} {sa sb : DS} {K : PySem.W.Frag}
theorem ofR_in {α β : Type} {Rel : Hp → List Addr → α → β → Prop} {B : Bg} {F : Hp} {Θ : List Addr} {D : Ends} {Q : β → Hp → Prop} {r : R α} {f : α → Mu → SR} (h : PostS B ER E F Θ D (ofR r f))
    (k : ∀ u μ F' Θ' H' v, Ext F Θ F' Θ' → Ok B F' Θ' μ H' → Rel F' Θ' u v → PostS B ER E F' Θ' D (f u μ) → Q v H') : PostR Rel B ER E F Θ Q r := by
  cases r with
  | ok u μ => exact fun F' Θ' H' v x o rl => k u μ F' Θ' H' v x o rl (PostS.ext x h)
  | ex e μ => exact h
  | stuck => exact h
theorem es_in {B : Bg} {F : Hp} {Θ : List Addr} {ρ : Rho} {μ : Mu} {σ : L2.St} {H : Hp} {D : Ends} {f : DE} {g : U → Mu → SR} {Q : VK} (hK : B.K = K) (at' : At B F Θ ρ μ σ H) (h : PostS B ER E F Θ D (ofR (f ρ μ) g))
    (k : ∀ u μ1 F1 Θ1 H1 v, Ext F Θ F1 Θ1 → At B F1 Θ1 ρ μ1 σ H1 → RelU F1 Θ1 u v → PostS B ER E F1 Θ1 D (g u μ1) → Q v H1) : TEv K ER E f σ H Q :=
  ⟨B, F, Θ, ρ, μ, hK, at', ofR_in h fun u μ1 F1 Θ1 H1 v x o r q => k u μ1 F1 Θ1 H1 v x (at'.ext x o) r q⟩
theorem ts_in {B : Bg} {F : Hp} {Θ : List Addr} {ρ : Rho} {μ : Mu} {σ : L2.St} {H : Hp} {D : Ends} {f : DB} {g : Bool → Mu → SR} {Q : Bool → Hp → Prop} (hK : B.K = K) (at' : At B F Θ ρ μ σ H) (h : PostS B ER E F Θ D (ofR (f ρ μ) g))
    (k : ∀ c μ1 F1 Θ1 H1, Ext F Θ F1 Θ1 → At B F1 Θ1 ρ μ1 σ H1 → PostS B ER E F1 Θ1 D (g c μ1) → Q c H1) : TTv K ER E f σ H Q :=
  ⟨B, F, Θ, ρ, μ, hK, at', ofR_in h fun c μ1 F1 Θ1 H1 c' x o r q => by subst r; exact k c μ1 F1 Θ1 H1 x (at'.ext x o) q⟩
theorem s_nil : DenSs ER E X [] nopS := PSs.weak pss_nil fun D σ H ⟨B, F, Θ, ρ, μ, hK, at', q⟩ => q F Θ σ H (Ext.refl _ _) at'
theorem s_one (h : DenS ER E X st sa) : DenSs ER E X [st] sa := pss_one h
theorem s_cons (h1 : DenS ER E X st sa) (h2 : DenSs ER E X sts sb) : DenSs ER E X (st :: sts) (seqS sa sb) :=
  PSs.weak (pss_cons h1 h2) fun D σ H ⟨B, F, Θ, ρ, μ, hK, at', q⟩ => by
    refine ⟨B, F, Θ, ρ, μ, hK, at', ?_⟩
    unfold seqS at q
    cases e : sa ρ μ with
    | nx ρ1 μ1 =>
      rw [e] at q
      exact fun F1 Θ1 σ1 H1 x at1 => ⟨B, F1, Θ1, ρ1, μ1, hK, at1, PostS.ext x q⟩
    | rt _ _ => rw [e] at q; exact q
    | bk _ _ => rw [e] at q; exact q
    | ct _ _ => rw [e] at q; exact q
    | ex _ _ => rw [e] at q; exact q
    | stuck => rw [e] at q; exact q
theorem s_expr (ha : DenE ER E X a fa) (hs : swapsWith a none pos.line X.env = pure false) : DenS ER E X (.Expr a pos) (exprS fa) :=
  PS.weak (ps_expr ha hs) fun D σ H ⟨B, F, Θ, ρ, μ, hK, at', q⟩ => es_in hK at' q fun u μ1 F1 Θ1 H1 v x1 at1 r1 q1 => q1 F1 Θ1 σ H1 (Ext.refl _ _) at1
theorem s_ret (ha : DenE ER E X a fa) : DenS ER E X (.Return (some a) pos) (retS fa) :=
  PS.weak (ps_ret ha) fun D σ H ⟨B, F, Θ, ρ, μ, hK, at', q⟩ => es_in hK at' q fun u μ1 F1 Θ1 H1 v x1 at1 r1 q1 => q1 F1 Θ1 H1 v (Ext.refl _ _) at1.o r1
theorem s_retN : DenS ER E X (.Return none pos) retNS :=
  PS.weak ps_retN fun D σ H ⟨B, F, Θ, ρ, μ, hK, at', q⟩ => q F Θ H _ (Ext.refl _ _) at'.o Dd.non
theorem s_if {bs cs : List Stmt} (ht : DenT ER E X c tc) (ha : DenSs ER E X bs sa) (hb : DenSs ER E X cs sb) : DenS ER E X (.If c bs cs pos) (ifS tc sa sb) :=
  PS.weak (ps_if ht ha hb) fun D σ H ⟨B, F, Θ, ρ, μ, hK, at', q⟩ => ts_in hK at' q fun c μ1 F1 Θ1 H1 x1 at1 q1 => by
    cases c with
    | true => exact iteT ⟨B, F1, Θ1, ρ, μ1, hK, at1, q1⟩
    | false => exact iteF ⟨B, F1, Θ1, ρ, μ1, hK, at1, q1⟩
theorem s_brk : DenS ER E X (.Break pos) brkS := PS.weak ps_break fun D σ H ⟨B, F, Θ, ρ, μ, hK, at', q⟩ => q F Θ σ H (Ext.refl _ _) at'
theorem s_cont : DenS ER E X (.Continue pos) contS := PS.weak ps_continue fun D σ H ⟨B, F, Θ, ρ, μ, hK, at', q⟩ => q F Θ σ H (Ext.refl _ _) at'
theorem s_pass : DenS ER E X (.Pass pos) nopS := PS.weak ps_pass fun D σ H ⟨B, F, Θ, ρ, μ, hK, at', q⟩ => q F Θ σ H (Ext.refl _ _) at'
theorem s_set {i : Nat} {x : Str} {pos' : Pos} (ok : CxOk ER CX Γ E X) (hi : X.N[i]? = some x) (hx : Γ.asg x = true) (ha : DenE ER E X a fa) (hs : swapsWith a (some (.Name x pos')) pos.line X.env = pure false) :
    DenS ER E X (.Assign [.Name x pos'] a pos) (asgS (nameG i) fa) :=
  PS.weak (ps_set ok.nd hi (ok.asg x hx).1 ha hs (ok.asg x hx).2) fun D σ H ⟨B, F, Θ, ρ, μ, hK, at', q⟩ => es_in hK at' q fun u μ1 F1 Θ1 H1 v x1 at1 r1 q1 =>
    q1 F1 Θ1 _ H1 (Ext.refl _ _) ⟨at1.s.set r1 i, at1.o⟩
theorem s_asg {g : DG} (ha : DenE ER E X a fa) (hg : DenG ER E X tg g) (hs : swapsWithSole [tg] a pos.line X.env = pure false) (hw : swappedStores [tg] a X.env = pure none) (h1 : (assignEach [tg] X.env).map (·.2) = [assign tg X.env]) :
    DenS ER E X (.Assign [tg] a pos) (asgS g fa) :=
  PS.weak (ps_asg ha hg hs hw h1) fun D σ H ⟨B, F, Θ, ρ, μ, hK, at', q⟩ => es_in hK at' q fun u μ1 F1 Θ1 H1 v x1 at1 r1 q1 =>
    ⟨B, F1, Θ1, ρ, μ1, u, hK, at1, r1, ofR_in q1 fun ρ1 μ2 F2 Θ2 H2 σ2 x2 o2 rs q2 => q2 F2 Θ2 σ2 H2 (Ext.refl _ _) ⟨rs, o2⟩⟩
theorem s_for {body : List Stmt} {g : DG} (ok : CxOk ER CX Γ E X) (hi : DenI ER E X tg a fi) (hg : DenG ER E X tg g) (hb : DenSs ER E X body sb) (hs : ∀ x, foldedSetIterable a X.env x = pure x) : DenS ER E X (.For tg a body [] pos) (forS fi g sb) :=
  PS.weak (ps_for ok.hp ok.calm hi hg hb hs) fun D σ H ⟨B, F, Θ, ρ, μ, hK, at', q⟩ => by
    refine ⟨B, F, Θ, ρ, μ, hK, at', ofR_in q fun ds μ1 F1 Θ1 H1 J x1 o1 it q1 => ?_⟩
    refine ⟨fun i m σ' H' => m = ds.length - i ∧ i ≤ ds.length ∧ ∃ F2 Θ2 ρ2 μ2, Ext F1 Θ1 F2 Θ2 ∧ At B F2 Θ2 ρ2 μ2 σ' H' ∧ PostS B ER E F2 Θ2 D (forL g sb (ds.drop i) ρ2 μ2),
      ⟨_, rfl, Nat.zero_le _, F1, Θ1, ρ, μ1, Ext.refl _ _, at'.ext x1 o1, q1⟩, ?_⟩
    rintro i m σ2 H2 ⟨rfl, hle, F2, Θ2, ρ2, μ2, x2, at2, q2⟩
    have lh : Le F1 H2 := x2.le.trans at2.o.le
    by_cases hlt : i < ds.length
    · refine .inr ⟨it.go i H2 lh hlt, fun σ' H' => ∃ F2 Θ2 ρ2 μ2, Ext F1 Θ1 F2 Θ2 ∧ At B F2 Θ2 ρ2 μ2 σ' H' ∧ PostS B ER E F2 Θ2 D (forL g sb (ds.drop (i + 1)) ρ2 μ2),
        fun σ' H' w => ⟨ds.length - (i + 1), by omega, rfl, hlt, w⟩, fun x H3 y => ?_⟩
      · obtain ⟨F3, x3, o3, d3⟩ := it.yld i B F2 Θ2 μ2 H2 x H3 _ x2.le at2.o (List.getElem?_eq_getElem hlt) y
        rw [List.drop_eq_getElem_cons hlt] at q2
        have q3 := PostS.ext x3 q2
        refine ⟨B, F3, Θ2, ρ2, μ2, .d ds[i], hK, at2.ext x3 o3, d3, ofR_in q3 fun ρ3 μ3 F4 Θ4 H4 σ4 x4 o4 rs q4 => ?_⟩
        refine ⟨B, F4, Θ4, ρ3, μ3, hK, ⟨rs, o4⟩, ?_⟩
        have next : ∀ {ρ5 μ5}, PostS B ER E F4 Θ4 D (forL g sb (ds.drop (i + 1)) ρ5 μ5) → ∀ F5 Θ5 σ5 H5, Ext F4 Θ4 F5 Θ5 → At B F5 Θ5 ρ5 μ5 σ5 H5 →
            ∃ F2 Θ2 ρ2 μ2, Ext F1 Θ1 F2 Θ2 ∧ At B F2 Θ2 ρ2 μ2 σ5 H5 ∧ PostS B ER E F2 Θ2 D (forL g sb (ds.drop (i + 1)) ρ2 μ2) :=
          fun {ρ5 μ5} w F5 Θ5 σ5 H5 x5 at5 => ⟨F5, Θ5, ρ5, μ5, x2.trans (x3.trans (x4.trans x5)), at5, PostS.ext x5 w⟩
        cases eb : sb ρ3 μ3 with
        | nx ρ5 μ5 => rw [eb] at q4; exact next q4
        | ct ρ5 μ5 => rw [eb] at q4; exact next q4
        | bk ρ5 μ5 => rw [eb] at q4; exact q4
        | rt u μ5 => rw [eb] at q4; exact q4
        | ex e μ5 => rw [eb] at q4; exact q4
        | stuck => rw [eb] at q4; exact q4
    · have e : i = ds.length := by omega
      subst e
      rw [List.drop_length] at q2
      exact .inl ⟨it.stop H2 lh, q2 F2 Θ2 σ2 H2 (Ext.refl _ _) at2⟩
theorem s_while {body : List Stmt} (ok : CxOk ER CX Γ E X) (hc : DenT ER E X c tc) (hb : DenSs ER E X body sb) : DenS ER E X (.While c body [] pos) (whileS tc sb) :=
  PS.weak (ps_while ok.hp hc hb) fun D σ H ⟨B, F, Θ, ρ, μ, hK, at', q⟩ => by
    refine ⟨fun m σ' H' => ∃ F2 Θ2 ρ2 μ2, At B F2 Θ2 ρ2 μ2 σ' H' ∧ PostS B ER E F2 Θ2 D (whileL tc sb m ρ2 μ2), ⟨wmax, F, Θ, ρ, μ, at', q⟩, ?_⟩
    rintro m σ2 H2 ⟨F2, Θ2, ρ2, μ2, at2, q2⟩
    cases m with
    | zero => exact q2.elim
    | succ n =>
      refine ts_in hK at2 q2 fun c μ3 F3 Θ3 H3 x3 at3 q3 => ?_
      cases c with
      | false => exact iteF (q3 F3 Θ3 σ2 H3 (Ext.refl _ _) at3)
      | true =>
        refine iteT ⟨_, fun σ' H' w => ⟨n, Nat.lt_succ_self _, w⟩, B, F3, Θ3, ρ2, μ3, hK, at3, ?_⟩
        rw [if_pos rfl] at q3
        cases eb : sb ρ2 μ3 with
        | nx ρ5 μ5 => rw [eb] at q3; exact fun F5 Θ5 σ5 H5 x5 at5 => ⟨F5, Θ5, ρ5, μ5, at5, PostS.ext x5 q3⟩
        | ct ρ5 μ5 => rw [eb] at q3; exact fun F5 Θ5 σ5 H5 x5 at5 => ⟨F5, Θ5, ρ5, μ5, at5, PostS.ext x5 q3⟩
        | bk ρ5 μ5 => rw [eb] at q3; exact q3
        | rt u μ5 => rw [eb] at q3; exact q3
        | ex e μ5 => rw [eb] at q3; exact q3
        | stuck => rw [eb] at q3; exact q3
end
end Vm
set_option Elab.async false
set_option linter.all false
set_option maxRecDepth 100000
set_option maxHeartbeats 1000000
/-! Vm, part H: list comprehensions; values stored crosswise; a def's end. -/
namespace Vm
open PySem PySem.Spec PyProof.Rows L2

/-! ### comprehensions -/
def noex {α : Type} (r : R α) : R α := match r with
  | .ex _ _ => .stuck
  | r => r
def wipeU (ρ : Rho) : List Nat → Rho
  | [] => ρ
  | v :: vs => (wipeU ρ vs).set v none
/-- a comprehension's target: a name, or names -/
inductive Tg where
  | nm (i : Nat)
  | tp (is : List Nat)
def Tg.dg : Tg → DG
  | .nm i => nameG i
  | .tp is => tupG (is.map nameG)
def Tg.own : Tg → List Nat
  | .nm i => [i]
  | .tp is => is
def lcL (g : DG) (t : DB) (e : DE) (ρ0 : Rho) : List PyData → Mu → List PyData → R (List PyData)
  | [], μ, acc => .ok acc μ
  | d :: r, μ, acc => (noex (g (.d d) ρ0 μ)).bind fun ρ1 μ1 => (noex (t ρ1 μ1)).bind fun c μ2 => if c then
      (noex (e ρ1 μ2)).bind fun u μ3 => (match toD u μ3 with
        | some (x, μ4) => if acc.length < lim then lcL g t e ρ0 r μ4 (acc ++ [x]) else .stuck
        | none => .stuck)
    else lcL g t e ρ0 r μ2 acc
def lcD (m : Bool) (own : List Nat) (i : DI) (g : DG) (t : DB) (e : DE) : DE := fun ρ μ => (i ρ μ).bind fun ds μ1 => (lcL g t e (wipeU ρ own) ds μ1 []).bind fun acc μ2 => mkL m (acc.map .d) μ2
def yesD : DB := fun _ μ => .ok true μ
section
variable {ER : ExR} {CX : CXT} {Γ : Ctx} {E : XK} {X : Cx} {tg e a b c : Expr} {es rest ifs : List Expr} {fa fb fc fe : DE} {ta tb tc : DB} {fl : DL} {fi : DI} {pos p : Pos}
theorem relS_wipe {F : Hp} {Θ : List Addr} {ρ : Rho} {σ : L2.St} (h : RelS F Θ ρ σ) : ∀ vs, RelS F Θ (wipeU ρ vs) (wipe σ vs)
  | [] => h
  | v :: vs => by
    have ih := relS_wipe h vs
    refine ⟨by show ((wipeU ρ vs).set v none).length = ((wipe σ vs).set v none).length; simp [ih.len], fun i u e => ?_⟩
    have e : ((wipeU ρ vs).set v none)[i]? = some (some u) := e
    show ∃ w, ((wipe σ vs).set v none)[i]? = some (some w) ∧ _
    by_cases hi : v = i
    · subst hi
      by_cases hl : v < (wipeU ρ vs).length
      · rw [List.getElem?_set_self hl] at e; cases e
      · rw [List.getElem?_eq_none (by simpa using hl)] at e; cases e
    · rw [List.getElem?_set_ne hi] at e ⊢
      exact ih.get i u e
theorem wipe_set {σ : L2.St} {i : Nat} {v : V} : ∀ {vs : List Nat}, i ∈ vs → wipe (σ.set i (some v)) vs = wipe σ vs
  | w :: vs, h => by
    show (wipe (σ.set i (some v)) vs).set w none = (wipe σ vs).set w none
    by_cases hi : i ∈ vs
    · rw [wipe_set hi]
    · have : i = w := by simpa [hi] using h
      subst this
      have key : ∀ (us : List Nat), (wipe (σ.set i (some v)) us).set i none = (wipe σ us).set i none := by
        intro us
        induction us with
        | nil => show (σ.set i (some v)).set i none = σ.set i none; rw [List.set_set]
        | cons u us ih =>
          show ((wipe (σ.set i (some v)) us).set u none).set i none = ((wipe σ us).set u none).set i none
          by_cases hu : u = i
          · subst hu; rw [List.set_set, List.set_set]; exact ih
          · rw [List.set_comm _ _ hu, List.set_comm _ _ hu, ih]
      exact key vs
/-- a target whose names are among vs -/
def TGo (K : PySem.W.Frag) (ER : ExR) (g : DG) (vs : List Nat) : TG := fun v σ H Q => ∃ B F Θ ρ μ u, B.K = K ∧ At B F Θ ρ μ σ H ∧ RelU F Θ u v ∧
  PostG B ER E0 F Θ (fun σ' H' => wipe σ' vs = wipe σ vs → Q σ' H') (noex (g u ρ μ))
theorem names_in {vs : List Nat} : ∀ (is : List Nat) (vr : List V) (σ : L2.St) (H : Hp) (Q : L2.St → Hp → Prop), vr.length = is.length → (∀ i ∈ is, i ∈ vs) →
    (∀ σ', wipe σ' vs = wipe σ vs → (∀ F Θ ρ us μ, RelS F Θ ρ σ → RelL F Θ us vr → ∀ ρ', bindL (is.map nameG) us ρ μ = .ok ρ' μ → RelS F Θ ρ' σ') → Q σ' H) → (is.foldr (fun i g => gCons (gName i) g) gNil) vr σ H Q
  | [], [], σ, H, Q, _, _, h => ⟨rfl, h σ rfl fun F Θ ρ us μ r rl ρ' e => by cases rl; cases e; exact r⟩
  | [], _ :: _, _, _, _, e, _, _ => by cases e
  | _ :: _, [], _, _, _, e, _, _ => by cases e
  | i :: is, v :: vr, σ, H, Q, e, hi, h => by
    refine ⟨v, vr, rfl, ?_⟩
    show (is.foldr (fun i g => gCons (gName i) g) gNil) vr (σ.set i (some v)) H Q
    refine names_in is vr _ H Q (by simpa using e) (fun j hj => hi j (List.mem_cons_of_mem _ hj)) fun σ' hw hr => ?_
    refine h σ' (hw.trans (wipe_set (hi i List.mem_cons_self))) fun F Θ ρ us μ r rl ρ' e' => ?_
    cases rl with
    | @cons u _ us _ ru rr =>
      have e' : (nameG i u ρ μ).bind (fun ρ1 μ1 => bindL (is.map nameG) us ρ1 μ1) = .ok ρ' μ := e'
      exact hr F Θ _ _ μ (r.set ru i) rr ρ' e'
theorem bind_names : ∀ (is : List Nat) (us : List U) (ρ : Rho) (μ : Mu), us.length = is.length → ∃ ρ', bindL (is.map nameG) us ρ μ = .ok ρ' μ
  | [], [], ρ, μ, _ => ⟨ρ, rfl⟩
  | [], _ :: _, _, _, h => by cases h
  | _ :: _, [], _, _, h => by cases h
  | i :: is, u :: us, ρ, μ, h => bind_names is us (ρ.set i (some u)) μ (by simpa using h)
theorem bind_short : ∀ (is : List Nat) (us : List U) (ρ : Rho) (μ : Mu), us.length ≠ is.length → bindL (is.map nameG) us ρ μ = .stuck
  | [], [], _, _, h => absurd rfl h
  | [], _ :: _, _, _, _ => rfl
  | _ :: _, [], _, _, _ => rfl
  | i :: is, u :: us, ρ, μ, h => bind_short is us (ρ.set i (some u)) μ (by simpa using h)
/-- the names of a target, with their places -/
def NamesAt (X : Cx) : List Expr → List Nat → Prop
  | [], [] => True
  | .Name x _ :: es, i :: is => X.N[i]? = some x ∧ Loc X.env.scope x ∧ (X.fn x = true ∨ X.env.scope.names.lookup x = some .local) ∧ NamesAt X es is
  | _, _ => False
theorem names_len {X : Cx} : ∀ {es : List Expr} {is : List Nat}, NamesAt X es is → es.length = is.length
  | [], [], _ => rfl
  | .Name _ _ :: es, i :: is, h => by simp [names_len h.2.2.2]
theorem names_g {X : Cx} (nd : X.N.Nodup) : ∀ {es : List Expr} {is : List Nat}, NamesAt X es is → PGs X es (is.foldr (fun i g => gCons (gName i) g) gNil)
  | [], [], _ => pgs_nil
  | .Name _ _ :: es, i :: is, h => pgs_cons (pg_name nd h.1 h.2.1 h.2.2.1) (names_g nd h.2.2.2) rfl
theorem names_each {X : Cx} {env : Env} : ∀ {es : List Expr} {is : List Nat}, NamesAt X es is → (assignEach es env).length = es.length ∧ (assignEach es env).findIdx? (·.1) = none
  | [], [], _ => ⟨rfl, rfl⟩
  | .Name x q :: es, i :: is, h => by
    obtain ⟨h1, h2⟩ := names_each (env := env) h.2.2.2
    have e : assignEach (.Name x q :: es) env = (false, assign (.Name x q) env) :: assignEach es env := rfl
    rw [e]
    refine ⟨by simp [h1], ?_⟩
    rw [List.findIdx?_cons, h2]
    rfl
def TgAt (X : Cx) : Expr → Tg → Prop
  | .Name x _, .nm i => NamesAt X [.Name x default] [i]
  | .Tuple es _ _, .tp is => NamesAt X es is
  | _, _ => False
theorem g_tg {t : Tg} {vs : List Nat} (nd : X.N.Nodup) (calm : X.calm = true) (h : TgAt X tg t) (hv : ∀ i ∈ t.own, i ∈ vs) : PG X tg (TGo X.K ER t.dg vs) := by
  cases tg with
  | Name x q =>
    cases t with
    | tp _ => exact h.elim
    | nm i =>
      obtain ⟨h1, h2, h3, _⟩ := h
      refine PG.weak (pg_name nd h1 h2 h3) fun v σ H Q ⟨B, F, Θ, ρ, μ, u, hK, at', r, q⟩ => ?_
      exact q F Θ H _ (Ext.refl _ _) at'.o (at'.s.set r i) (wipe_set (hv i (by simp [Tg.own])))
  | Tuple es k q =>
    cases t with
    | nm _ => exact h.elim
    | tp is =>
      have h : NamesAt X es is := h
      obtain ⟨e1, e2⟩ := names_each (env := X.env) h
      refine PG.weak (pg_tup calm (names_g nd h) e1 e2) fun v σ H Q ⟨B, F, Θ, ρ, μ, u, hK, at', r, q⟩ => ?_
      unfold Tg.dg tupG at q
      simp only at q
      split at q
      · rename_i ds
        cases r with
        | @tup p xs _ f1 f2 =>
          by_cases hl : (ds.map U.d).length = is.length
          · obtain ⟨ρ', e⟩ := bind_names is (ds.map .d) ρ μ hl
            rw [e] at q
            have hx : xs.length = is.length := by rw [f2.length, ← hl, List.length_map]
            refine ⟨p, xs, rfl, SqT.of (at'.o.le _ _ f1), hx.trans (names_len h).symm, names_in is xs σ H Q hx hv fun σ' hw hr => ?_⟩
            exact q F Θ H σ' (Ext.refl _ _) at'.o (hr F Θ ρ (ds.map .d) μ at'.s f2.rel ρ' e) hw
          · rw [bind_short _ _ _ _ hl] at q
            exact q.elim
      · exact q.elim
  | _ => exact h.elim
abbrev DenIfs (ER : ExR) (E : XK) (X : Cx) (es : List Expr) (t : DB) : Prop := PTs X es (TTv X.K ER E t)
theorem ifs_nil : DenIfs ER E X [] yesD := ⟨fun pins s σ H Q I ⟨B, F, Θ, ρ, μ, hK, at', q⟩ => pts_nil.run pins s σ H Q I (q F Θ H true (Ext.refl _ _) at'.o rfl)⟩
theorem ifs_one (h : DenT ER E X c tc) : DenIfs ER E X [c] tc := pts_one h
theorem noex_in {α β γ δ : Type} {Rel : Hp → List Addr → α → β → Prop} {Rel' : Hp → List Addr → γ → δ → Prop} {B : Bg} {F : Hp} {Θ : List Addr} {E' : XK} {Q : δ → Hp → Prop} {Q' : β → Hp → Prop} {r : R α} {f : α → Mu → R γ}
    (h : PostR Rel' B ER E F Θ Q ((noex r).bind f)) (k : ∀ u μ F' Θ' H' v, r = .ok u μ → Ext F Θ F' Θ' → Ok B F' Θ' μ H' → Rel F' Θ' u v → Q' v H') : PostR Rel B ER E' F Θ Q' r := by
  cases r with
  | ok u μ => exact fun F' Θ' H' v x o rl => k u μ F' Θ' H' v rfl x o rl
  | ex e μ => exact h.elim
  | stuck => exact h.elim
theorem wipe_wipe (σ : L2.St) (vs : List Nat) : wipe (wipe σ vs) vs = wipe σ vs := by
  have one : ∀ (us : List Nat) (i : Nat) (τ : L2.St), (wipe (τ.set i none) us).set i none = (wipe τ us).set i none := by
    intro us i
    induction us with
    | nil => intro τ; show (τ.set i none).set i none = τ.set i none; rw [List.set_set]
    | cons u us ih =>
      intro τ
      show ((wipe (τ.set i none) us).set u none).set i none = ((wipe τ us).set u none).set i none
      by_cases hu : u = i
      · subst hu; rw [List.set_set, List.set_set]; exact ih τ
      · rw [List.set_comm _ _ hu, List.set_comm _ _ hu, ih τ]
  induction vs with
  | nil => rfl
  | cons v vs ih =>
    show (wipe ((wipe σ vs).set v none) vs).set v none = (wipe σ vs).set v none
    rw [one vs v (wipe σ vs), ih]
/-- a comprehension's own context -/
def Ctx.blk (Γ : Ctx) (scope : Scope) : Ctx := { Γ with sc := relS scope Γ.sc, asg := fun x => match scope.names.lookup x with
  | some .local => true
  | some .cell => true
  | _ => false }
theorem CxOk.blk (ok : CxOk ER CX Γ E X) (s : Shared) (H : Hp) (scope : Scope) (C : Addr) (cl : List (Str × Addr)) (fp : List Addr) : CxOk ER CX (Γ.blk scope) E0 (X.blk s H scope (compEnvC scope cl C X.env) fp) where
  N := ok.N
  nd := ok.nd
  sc := by show relS scope X.env.scope = relS scope Γ.sc; rw [ok.sc]
  calm := ok.calm
  hp := .never
  mg := ok.mg
  gd := ok.gd
  un := ok.un
  asg := fun x h => by
    have keep : ∀ k, k ≠ .free → scope.names.lookup x = some k → (relS scope X.env.scope).names.lookup x = some k := fun k hk e => lookup_relS_keep hk e
    have h : (match scope.names.lookup x with | some .local => true | some .cell => true | _ => false) = true := h
    split at h
    · rename_i e; exact ⟨.inl (keep _ (by decide) e), .inr (keep _ (by decide) e)⟩
    · rename_i e; exact ⟨.inr (keep _ (by decide) e), .inl (by show (scope.names.lookup x == some .cell) = true; rw [e]; rfl)⟩
    · cases h
  fn := fun f F' h => by
    obtain ⟨k, a, fd, h1, h2, h3, h4, h5, h6⟩ := (ok.fn f F' h).ex
    exact ⟨k, a, fd, h1, h2, h3, h4, h5, h6⟩
  cs := ok.cs
  pass0 := ok.pass0
  pass := ok.pass0 _
theorem r_lc (m : Bool) {t : Tg} {scope : Scope} {own : List (Str × Nat)} (ok : CxOk ER CX Γ E X) (hi : DenI ER E X tg a fi) (bo : BlkOk X.N X.env.scope scope own)
    (ht : ∀ s H C cl fp, TgAt (X.blk s H scope (compEnvC scope cl C X.env) fp) tg t) (ho : ∀ i ∈ t.own, i ∈ own.map (·.2))
    (hf : ∀ s H C cl fp, DenIfs ER E0 (X.blk s H scope (compEnvC scope cl C X.env) fp) ifs tc) (he : ∀ s H C cl fp, DenE ER E0 (X.blk s H scope (compEnvC scope cl C X.env) fp) e fe)
    (hs : ∀ x, foldedSetIterable a X.env x = pure x) : PE X (.ListComp e [⟨tg, a, ifs, 0⟩] scope pos) (TEv X.K ER E (lcD m (own.map (·.2)) fi t.dg tc fe)) ∧
    ∀ σ H Q, TEv X.K ER E (lcD m (own.map (·.2)) fi t.dg tc fe) σ H Q → tLc (TIv X.K ER E fi) (TGo X.K ER t.dg (own.map (·.2))) (TTv X.K ER E0 tc) (TEv X.K ER E0 fe) (own.map (·.2)) σ H Q := by
  have key : ∀ σ H Q, TEv X.K ER E (lcD m (own.map (·.2)) fi t.dg tc fe) σ H Q → tLc (TIv X.K ER E fi) (TGo X.K ER t.dg (own.map (·.2))) (TTv X.K ER E0 tc) (TEv X.K ER E0 fe) (own.map (·.2)) σ H Q := by
    intro σ H Q ⟨B, F, Θ, ρ, μ, hK, at', q⟩
    generalize own.map (·.2) = vs at *
    refine ⟨B, F, Θ, ρ, μ, hK, at', PostR.bind q fun ds μ1 F1 Θ1 H1 J x1 o1 it q1 => fun D hD => ?_⟩
    have gD : B.G D = none := o1.freshG hD
    refine ⟨fun i n H' => n = ds.length - i ∧ i ≤ ds.length ∧ ∃ F2 Θ2 μ2 acc accv, Ext F1 Θ1 F2 Θ2 ∧ Ok ⟨B.K, upd B.G D (.lst accv)⟩ F2 Θ2 μ2 H' ∧ DdAll F2 accv acc ∧
      PostE B ER E F2 Θ2 Q ((lcL t.dg tc fe (wipeU ρ vs) (ds.drop i) μ2 acc).bind fun acc μ3 => mkL m (acc.map .d) μ3),
      ⟨_, rfl, Nat.zero_le _, F1, Θ1, μ1, [], [], Ext.refl _ _, o1.hide hD, .nil, q1⟩, ?_⟩
    rintro i n H2 ⟨rfl, hle, F2, Θ2, μ2, acc, accv, x2, o2, da, q2⟩
    have lh : Le F1 H2 := x2.le.trans o2.le
    by_cases hlt : i < ds.length
    · refine .inr ⟨it.go i H2 lh hlt, fun H' => ∃ F2 Θ2 μ2 acc accv, Ext F1 Θ1 F2 Θ2 ∧ Ok ⟨B.K, upd B.G D (.lst accv)⟩ F2 Θ2 μ2 H' ∧ DdAll F2 accv acc ∧
        PostE B ER E F2 Θ2 Q ((lcL t.dg tc fe (wipeU ρ vs) (ds.drop (i + 1)) μ2 acc).bind fun acc μ3 => mkL m (acc.map .d) μ3),
        fun H' w => ⟨ds.length - (i + 1), by omega, rfl, hlt, w⟩, fun x H3 y => ?_⟩
      obtain ⟨F3, x3, o3, d3⟩ := it.yld i _ F2 Θ2 μ2 H2 x H3 _ x2.le o2 (List.getElem?_eq_getElem hlt) y
      rw [List.drop_eq_getElem_cons hlt] at q2
      have s3 : RelS F3 Θ2 (wipeU ρ vs) (wipe σ vs) := relS_wipe (at'.s.mono (x1.trans (x2.trans x3))) vs
      cases eg : t.dg (.d ds[i]) (wipeU ρ vs) μ2 with
      | ex e' n1 => unfold lcL at q2; rw [eg] at q2; exact q2.elim
      | stuck => unfold lcL at q2; rw [eg] at q2; exact q2.elim
      | ok ρ4 μ4 =>
      refine ⟨⟨B.K, upd B.G D (.lst accv)⟩, F3, Θ2, wipeU ρ vs, μ2, .d ds[i], hK, ⟨s3, o3⟩, d3, ?_⟩
      rw [eg]
      intro F4 Θ4 H4 σ4 x4 o4 s4 hw
      refine ⟨hw.trans (wipe_wipe σ vs), ?_⟩
      cases et : tc ρ4 μ4 with
      | ex e' n1 => unfold lcL at q2; rw [eg] at q2; simp only [noex, R.bind_ok] at q2; rw [et] at q2; exact q2.elim
      | stuck => unfold lcL at q2; rw [eg] at q2; simp only [noex, R.bind_ok] at q2; rw [et] at q2; exact q2.elim
      | ok cc μ5 =>
      refine ⟨⟨B.K, upd B.G D (.lst accv)⟩, F4, Θ4, ρ4, μ4, hK, ⟨s4, o4⟩, ?_⟩
      rw [et]
      intro F5 Θ5 H5 cv x5 o5 hc
      subst hc
      unfold lcL at q2
      rw [eg] at q2
      simp only [noex, R.bind_ok] at q2
      rw [et] at q2
      simp only [R.bind_ok] at q2
      cases cc with
      | false =>
        refine iteF ⟨F5, Θ5, μ5, acc, accv, x2.trans (x3.trans (x4.trans x5)), o5, DdAll.mono (x3.trans (x4.trans x5)).le da, PostR.ext (x3.trans (x4.trans x5)) q2⟩
      | true =>
      refine iteT ?_
      rw [if_pos rfl] at q2
      cases ee : fe ρ4 μ5 with
      | ex e' n1 => rw [ee] at q2; exact q2.elim
      | stuck => rw [ee] at q2; exact q2.elim
      | ok u μ6 =>
      refine ⟨⟨B.K, upd B.G D (.lst accv)⟩, F5, Θ5, ρ4, μ5, hK, ⟨s4.mono x5, o5⟩, ?_⟩
      rw [ee]
      intro F6 Θ6 H6 v x6 o6 r6
      rw [ee] at q2
      simp only [R.bind_ok] at q2
      cases ed : toD u μ6 with
      | none => rw [ed] at q2; exact q2.elim
      | some w =>
      obtain ⟨xd, μ7⟩ := w
      rw [ed] at q2
      simp only at q2
      obtain ⟨F7, x7, o7, d7⟩ := toD_ok o6 r6 ed
      by_cases hl : acc.length < lim
      · rw [if_pos hl] at q2
        have xx := x3.trans (x4.trans (x5.trans (x6.trans x7)))
        have da7 := DdAll.mono xx.le da
        have o8 := Ok.rehide (B := B) (y := .lst (accv ++ [v])) o7 trivial
        have dapp : DdAll F7 (accv ++ [v]) (acc ++ [xd]) := by
          have w : RelL F7 Θ6 ((acc ++ [xd]).map .d) (accv ++ [v]) := by
            rw [List.map_append]
            exact paired_app da7.rel (.cons (F := RelU F7 Θ6) (a := U.d xd) d7 .nil)
          exact w.dd
        refine ⟨accv, (o7.hid D _ upd_same).1, by rw [da.length, ← lim_eq]; exact hl, F7, Θ6, μ7, acc ++ [xd], accv ++ [v], x2.trans xx, o8, dapp, PostR.ext xx q2⟩
      · rw [if_neg hl] at q2; exact q2.elim
    · have e : i = ds.length := by omega
      subst e
      rw [List.drop_length] at q2
      refine .inl ⟨it.stop H2 lh, ?_⟩
      have q2 : PostE B ER E F2 Θ2 Q (mkL m (acc.map .d) μ2) := q2
      unfold mkL at q2
      split at q2
      · cases m with
        | true =>
          rw [if_pos rfl] at q2
          have hh := o2.hid D _ upd_same
          obtain ⟨o3, x3⟩ := Ok.adopt (B := B) (c := .lst (acc.map .d)) o2 gD ⟨hh.2.1, accv, hh.1, da.rel⟩
          exact q2 F2 (Θ2 ++ [D]) H2 _ x3 o3 ⟨D, (o2.unhide gD).ptr, rfl⟩
        | false =>
          rw [if_neg Bool.false_ne_true, toDs_map] at q2
          obtain ⟨o3, x3⟩ := Ok.show (B := B) o2 gD
          exact q2 _ Θ2 H2 _ x3 o3 (.lst upd_same (DdAll.mono x3.le da))
      · exact q2.elim
  refine ⟨PE.weak (pe_lc ok.calm ok.nd hi bo (fun s H C cl fp => g_tg (ER := ER) (X := X.blk s H scope (compEnvC scope cl C X.env) fp) ok.nd ok.calm (ht s H C cl fp) ho) hf he hs) key, key⟩
end
end Vm
set_option Elab.async false
set_option linter.all false
set_option maxRecDepth 100000
set_option maxHeartbeats 1000000
/-! Vm, part I: stored comprehensions, crosswise stores, more built-ins; a def's end. -/
namespace Vm
open PySem PySem.Spec PyProof.Rows L2

/-! ### equal cells -/
mutual
def eqP : PyData → PyData → Bool
  | .none, .none => true
  | .bool a, .bool b => a == b
  | .int a, .int b => a == b
  | .str a, .str b => a == b
  | .list a, .list b => eqPs a b
  | .tuple a, .tuple b => eqPs a b
  | .dict a, .dict b => eqKs a b
  | _, _ => false
def eqPs : List PyData → List PyData → Bool
  | [], [] => true
  | a :: r, b :: s => eqP a b && eqPs r s
  | _, _ => false
def eqKs : List (PyData × PyData) → List (PyData × PyData) → Bool
  | [], [] => true
  | (a, c) :: r, (b, d) :: s => eqP a b && eqP c d && eqKs r s
  | _, _ => false
end
mutual
theorem eqP_ok : ∀ {a b : PyData}, eqP a b = true → a = b
  | .none, b, h => by cases b <;> first | rfl | (unfold eqP at h; cases h)
  | .bool a, b, h => by cases b <;> first | (unfold eqP at h; rw [eq_of_beq h]) | (unfold eqP at h; cases h)
  | .int a, b, h => by cases b <;> first | (unfold eqP at h; rw [eq_of_beq h]) | (unfold eqP at h; cases h)
  | .str a, b, h => by cases b <;> first | (unfold eqP at h; rw [eq_of_beq h]) | (unfold eqP at h; cases h)
  | .list a, b, h => by cases b <;> first | (unfold eqP at h; rw [eqPs_ok h]) | (unfold eqP at h; cases h)
  | .tuple a, b, h => by cases b <;> first | (unfold eqP at h; rw [eqPs_ok h]) | (unfold eqP at h; cases h)
  | .dict a, b, h => by cases b <;> first | (unfold eqP at h; rw [eqKs_ok h]) | (unfold eqP at h; cases h)
theorem eqPs_ok : ∀ {a b : List PyData}, eqPs a b = true → a = b
  | [], [], _ => rfl
  | [], _ :: _, h => by unfold eqPs at h; cases h
  | _ :: _, [], h => by unfold eqPs at h; cases h
  | a :: r, b :: s, h => by
    unfold eqPs at h
    simp only [Bool.and_eq_true] at h
    rw [eqP_ok h.1, eqPs_ok h.2]
theorem eqKs_ok : ∀ {a b : List (PyData × PyData)}, eqKs a b = true → a = b
  | [], [], _ => rfl
  | [], _ :: _, h => by unfold eqKs at h; cases h
  | _ :: _, [], h => by unfold eqKs at h; cases h
  | (a, c) :: r, (b, d) :: s, h => by
    unfold eqKs at h
    simp only [Bool.and_eq_true] at h
    rw [eqP_ok h.1.1, eqP_ok h.1.2, eqKs_ok h.2]
end
mutual
theorem eqP_self : ∀ (a : PyData), eqP a a = true
  | .none => by unfold eqP; rfl
  | .bool a => by unfold eqP; exact beq_self_eq_true a
  | .int a => by unfold eqP; exact beq_self_eq_true a
  | .str a => by unfold eqP; exact beq_self_eq_true a
  | .list a => by unfold eqP; exact eqPs_self a
  | .tuple a => by unfold eqP; exact eqPs_self a
  | .dict a => by unfold eqP; exact eqKs_self a
theorem eqPs_self : ∀ (a : List PyData), eqPs a a = true
  | [] => by unfold eqPs; rfl
  | a :: r => by unfold eqPs; rw [eqP_self a, eqPs_self r]; rfl
theorem eqKs_self : ∀ (a : List (PyData × PyData)), eqKs a a = true
  | [] => by unfold eqKs; rfl
  | (a, c) :: r => by unfold eqKs; rw [eqP_self a, eqP_self c, eqKs_self r]; rfl
end
def eqU : U → U → Bool
  | .d a, .d b => eqP a b
  | .p a, .p b => a == b
  | _, _ => false
theorem eqU_ok : ∀ {a b : U}, eqU a b = true → a = b
  | .d a, .d b, h => by rw [eqP_ok (show eqP a b = true from h)]
  | .p a, .p b, h => by rw [eq_of_beq (show (a == b) = true from h)]
  | .d _, .p _, h => by cases h
  | .p _, .d _, h => by cases h
theorem eqU_self : ∀ a : U, eqU a a = true
  | .d a => eqP_self a
  | .p a => beq_self_eq_true a
def eqL {α : Type} (f : α → α → Bool) : List α → List α → Bool
  | [], [] => true
  | a :: r, b :: s => f a b && eqL f r s
  | _, _ => false
theorem eqL_ok {α : Type} {f : α → α → Bool} (hf : ∀ {a b}, f a b = true → a = b) : ∀ {a b : List α}, eqL f a b = true → a = b
  | [], [], _ => rfl
  | [], _ :: _, h => by cases h
  | _ :: _, [], h => by cases h
  | a :: r, b :: s, h => by
    unfold eqL at h
    simp only [Bool.and_eq_true] at h
    rw [hf h.1, eqL_ok hf h.2]
theorem eqL_self {α : Type} {f : α → α → Bool} (hf : ∀ a, f a a = true) : ∀ a : List α, eqL f a a = true
  | [] => rfl
  | a :: r => by unfold eqL; rw [hf a, eqL_self hf r]; rfl
def eqC' : Cell → Cell → Bool
  | .dead, .dead => true
  | .scr a, .scr b => a == b
  | .frz a, .frz b => eqP a b
  | .lst a, .lst b => eqL eqU a b
  | .dK a, .dK b => eqL (fun p q => decide (p.1 = q.1) && eqU p.2 q.2) a b
  | .dT a, .dT b => eqL (fun p q => decide (p.1 = q.1) && eqU p.2 q.2) a b
  | _, _ => false
theorem eqKv_ok {κ : Type} [DecidableEq κ] {p q : κ × U} (h : (decide (p.1 = q.1) && eqU p.2 q.2) = true) : p = q := by
  simp only [Bool.and_eq_true, decide_eq_true_eq] at h
  exact Prod.ext h.1 (eqU_ok h.2)
theorem eqKv_self {κ : Type} [DecidableEq κ] (p : κ × U) : (decide (p.1 = p.1) && eqU p.2 p.2) = true := by rw [eqU_self]; simp
theorem eqKvs_ok {κ : Type} [DecidableEq κ] {x y : List (κ × U)} (h : eqL (fun p q => decide (p.1 = q.1) && eqU p.2 q.2) x y = true) : x = y := eqL_ok eqKv_ok h
theorem eqC_ok {a b : Cell} (h : eqC' a b = true) : a = b := by
  cases a <;> cases b <;> first
    | rfl
    | (cases h; done)
    | (rename_i x y; rw [eq_of_beq (show (x == y) = true from h)])
    | (rename_i x y; rw [eqP_ok (show eqP x y = true from h)])
    | (rename_i x y; rw [eqL_ok (f := eqU) eqU_ok h])
    | (rename_i x y; rw [eqKvs_ok (κ := Key) h])
    | (rename_i x y; rw [eqKvs_ok (κ := List Key) h])
theorem eqC_self (a : Cell) : eqC' a a = true := by
  cases a with
  | dead => rfl
  | scr x => exact beq_self_eq_true x
  | frz x => exact eqP_self x
  | lst x => exact eqL_self eqU_self x
  | dK x => exact eqL_self eqKv_self x
  | dT x => exact eqL_self eqKv_self x

/-! ### a def's end -/
def U.below (n : Nat) : U → Bool
  | .d _ => true
  | .p k => decide (k < n)
def Cell.below (n : Nat) : Cell → Bool
  | .lst us => us.all (U.below n)
  | .dK kvs => kvs.all fun kv => kv.2.below n
  | .dT kvs => kvs.all fun kv => kv.2.below n
  | _ => true
/-- the cells of the caller: as they were, or changed, but with no pointer to what is left behind -/
def cut (μ μ' : Mu) : Option Mu := if eqL eqC' (μ'.take μ.length) μ = true then some μ else if (μ'.take μ.length).all (Cell.below μ.length) then some (μ'.take μ.length) else none
theorem cut_same (μ t : Mu) : cut μ (μ ++ t) = some μ := by
  unfold cut
  rw [List.take_left, if_pos (eqL_self eqC_self μ)]
theorem cut_self (μ : Mu) : cut μ μ = some μ := by
  have := cut_same μ []
  rw [List.append_nil] at this; exact this
theorem cut_chg {μ μ' : Mu} (h : (μ'.take μ.length).all (Cell.below μ.length) = true) : cut μ μ' = some (μ'.take μ.length) := by
  unfold cut
  by_cases e : eqL eqC' (μ'.take μ.length) μ = true
  · rw [if_pos e, eqL_ok eqC_ok e]
  · rw [if_neg e, if_pos h]
def leave (μ : Mu) (u : U) (μ' : Mu) : R U := match cut μ μ' with
  | none => .stuck
  | some m => match u with
    | .d x => .ok (.d x) m
    | .p k => if k < μ.length then .ok (.p k) m else match μ'[k]? with
      | some (.frz x) => .ok (.d x) m
      | some (.lst us) => match allD us with
        | some ds => .ok (.d (.list ds)) m
        | none => .stuck
      | some (.dK kvs) => if (Cell.dK kvs).below μ.length then .ok (.p μ.length) (m ++ [.dK kvs]) else .stuck
      | some (.dT kvs) => if (Cell.dT kvs).below μ.length then .ok (.p μ.length) (m ++ [.dT kvs]) else .stuck
      | _ => .stuck
section
variable {B : Bg} {F F' H H' : Hp} {Θ Θ' : List Addr} {μ μ' m : Mu}
theorem relU_down {u : U} {v : V} (r : RelU F' Θ' u v) (pre : Θ <+: Θ') (h : u.below Θ.length = true) : RelU F' Θ u v := by
  cases u with
  | d x => exact r
  | p k =>
    obtain ⟨a, ha, hv⟩ := r
    have hk : k < Θ.length := of_decide_eq_true h
    refine ⟨a, ?_, hv⟩
    obtain ⟨t, rfl⟩ := pre
    rw [List.getElem?_append_left hk] at ha
    exact ha
theorem relL_down : ∀ {us : List U} {vs : List V}, RelL F' Θ' us vs → Θ <+: Θ' → us.all (U.below Θ.length) = true → RelL F' Θ us vs
  | [], _, .nil, _, _ => .nil
  | u :: us, _, .cons r t, pre, h => by
    rw [List.all_cons, Bool.and_eq_true] at h
    exact .cons (relU_down r pre h.1) (relL_down t pre h.2)
theorem relKV_down {κ : Type} : ∀ {us : List (κ × U)} {vs : List (κ × V)}, RelKV F' Θ' us vs → Θ <+: Θ' → (us.all fun kv => kv.2.below Θ.length) = true → RelKV F' Θ us vs
  | [], _, .nil, _, _ => .nil
  | u :: us, _, .cons r t, pre, h => by
    rw [List.all_cons, Bool.and_eq_true] at h
    exact .cons ⟨r.1, relU_down r.2 pre h.1⟩ (relKV_down t pre h.2)
theorem cell_down {a : Addr} {c : Cell} (q : CellRel B F' Θ' H' a c) (pre : Θ <+: Θ') (h : c.below Θ.length = true) : CellRel B F' Θ H' a c := by
  cases c with
  | dead => trivial
  | scr _ => exact q
  | frz _ => exact q
  | lst us => obtain ⟨h1, xs, h2, h3⟩ := q; exact ⟨h1, xs, h2, relL_down h3 pre h⟩
  | dK us => obtain ⟨h1, xs, h2, h3⟩ := q; exact ⟨h1, xs, h2, relKV_down h3 pre h⟩
  | dT us => obtain ⟨h1, xs, h2, h3⟩ := q; exact ⟨h1, xs, h2, relKV_down h3 pre h⟩
theorem relU_below {u : U} {v : V} (r : RelU F Θ u v) : u.below Θ.length = true := by
  cases u with
  | d _ => rfl
  | p k => obtain ⟨a, ha, _⟩ := r; exact decide_eq_true (List.getElem?_eq_some_iff.mp ha).1
theorem relL_below : ∀ {us : List U} {vs : List V}, RelL F Θ us vs → us.all (U.below Θ.length) = true
  | [], _, _ => rfl
  | u :: us, _, .cons r t => by rw [List.all_cons, relU_below r, relL_below t]; rfl
theorem relKV_below {κ : Type} : ∀ {us : List (κ × U)} {vs : List (κ × V)}, RelKV F Θ us vs → (us.all fun kv => kv.2.below Θ.length) = true
  | [], _, _ => rfl
  | u :: us, _, .cons r t => by rw [List.all_cons, relU_below r.2, relKV_below t]; rfl
theorem cell_below {a : Addr} {c : Cell} (q : CellRel B F Θ H a c) : c.below Θ.length = true := by
  cases c with
  | dead => rfl
  | scr _ => rfl
  | frz _ => rfl
  | lst us => obtain ⟨h1, xs, h2, h3⟩ := q; exact relL_below h3
  | dK us => obtain ⟨h1, xs, h2, h3⟩ := q; exact relKV_below h3
  | dT us => obtain ⟨h1, xs, h2, h3⟩ := q; exact relKV_below h3
theorem pre_at {k : Nat} {a : Addr} (pre : Θ <+: Θ') (h : Θ[k]? = some a) : Θ'[k]? = some a := pre_get pre h
/-- the callee's cells are left behind -/
theorem Ok.cut (o : Ok B F Θ μ H) (x : Ext F Θ F' Θ') (o' : Ok B F' Θ' μ' H') (h : cut μ μ' = some m) : Ok B F' Θ m H' ∧ m.length = μ.length ∧ ∀ k, k < μ.length → m[k]? = μ'[k]? := by
  have hl : μ.length ≤ μ'.length := by
    rw [← o.len, ← o'.len]; obtain ⟨t, e⟩ := x.pre; rw [← e]; simp
  have hm : m = μ'.take μ.length ∧ (m.all (Cell.below μ.length) = true) := by
    unfold Vm.cut at h
    split at h
    · rename_i e
      cases h
      refine ⟨(eqL_ok eqC_ok e).symm, ?_⟩
      rw [List.all_eq_true]
      intro c hc
      obtain ⟨k, hk⟩ := List.getElem?_of_mem hc
      obtain ⟨a, ha, q⟩ := o.at hk
      have := cell_below q
      rw [o.len] at this
      exact this
    · split at h
      · rename_i e
        cases h
        exact ⟨rfl, e⟩
      · cases h
  obtain ⟨rfl, hb⟩ := hm
  have at' : ∀ {k : Nat} {c : Cell}, (μ'.take μ.length)[k]? = some c → k < μ.length ∧ μ'[k]? = some c := fun {k c} e => by
    have hk : k < μ.length := by
      have := (List.getElem?_eq_some_iff.mp e).1
      rw [List.length_take] at this; omega
    rw [List.getElem?_take_of_lt hk] at e
    exact ⟨hk, e⟩
  refine ⟨⟨o'.le, fun a y e => ?_, by rw [List.length_take, o.len]; omega, fun i j a c c' e1 e2 e3 e4 l1 l2 => ?_, fun k c a e1 e2 => ?_⟩, by rw [List.length_take]; omega, fun k hk => List.getElem?_take_of_lt hk⟩
  · obtain ⟨h1, h2, h3⟩ := o'.hid a y e
    exact ⟨h1, h2, fun k c e1 e2 => h3 k c (pre_at x.pre e1) (at' e2).2⟩
  · exact o'.inj i j a c c' (pre_at x.pre e1) (pre_at x.pre e2) (at' e3).2 (at' e4).2 l1 l2
  · have q := o'.cell k c a (at' e1).2 (pre_at x.pre e2)
    refine cell_down q x.pre ?_
    rw [o.len]
    exact List.all_eq_true.mp hb c (List.mem_of_getElem? e1)
theorem dK_move {k : Nat} {c : Cell} (o : Ok B F Θ μ H) (x : Ext F Θ F' Θ') (o' : Ok B F' Θ' μ' H') (h : Vm.cut μ μ' = some m) (hk : ¬ k < μ.length) {a : Addr} (ha : Θ'[k]? = some a) (hc : μ'[k]? = some c) (l : c.live = true) (hb : c.below μ.length = true) :
    Ok B F' (Θ ++ [a]) (m ++ [c]) H' ∧ Ext F Θ F' (Θ ++ [a]) := by
  obtain ⟨o2, l2, at2⟩ := o.cut x o' h
  have q := o'.cell k c a hc ha
  have ex : Ext F' Θ F' (Θ ++ [a]) := ⟨Le.refl _, ⟨[a], rfl⟩⟩
  have lm : m.length = Θ.length := by rw [o2.len]
  have new : ∀ {i : Nat} {b : Addr} {d : Cell}, (Θ ++ [a])[i]? = some b → (m ++ [c])[i]? = some d → (Θ[i]? = some b ∧ m[i]? = some d ∧ Θ'[i]? = some b ∧ μ'[i]? = some d ∧ i ≠ k) ∨ (i = m.length ∧ b = a ∧ d = c) := fun {i b d} e1 e2 => by
    by_cases h' : i < m.length
    · rw [List.getElem?_append_left (by rw [← lm]; exact h')] at e1
      rw [List.getElem?_append_left h'] at e2
      have hi : i < μ.length := by rw [← l2]; exact h'
      exact .inl ⟨e1, e2, pre_at x.pre e1, by rw [← at2 i hi]; exact e2, by omega⟩
    · have hi : i = m.length := by
        have := (List.getElem?_eq_some_iff.mp e2).1
        simp at this; omega
      subst hi
      rw [lm, List.getElem?_append_right (Nat.le_refl _)] at e1
      rw [List.getElem?_append_right (Nat.le_refl _)] at e2
      simp at e1 e2
      exact .inr ⟨rfl, e1.symm, e2.symm⟩
  refine ⟨⟨o2.le, fun b y e => ?_, by simp [lm], fun i j b c1 c2 e1 e2 e3 e4 l1 l2' => ?_, fun i c1 b e1 e2 => ?_⟩, ⟨x.le, ⟨[a], rfl⟩⟩⟩
  · obtain ⟨h1, h2, h3⟩ := o'.hid b y e
    refine ⟨h1, h2, fun i c1 e1 e2 => ?_⟩
    rcases new e1 e2 with ⟨_, _, a1, a2, _⟩ | ⟨_, rfl, rfl⟩
    · exact h3 i c1 a1 a2
    · exact h3 k _ ha hc
  · rcases new e1 e3 with ⟨_, _, a1, a2, a3⟩ | ⟨i1, i2, i3⟩ <;> rcases new e2 e4 with ⟨_, _, b1, b2, b3⟩ | ⟨j1, j2, j3⟩
    · exact o'.inj i j b c1 c2 a1 b1 a2 b2 l1 l2'
    · subst j2; exact absurd (o'.inj i k _ c1 c a1 ha a2 hc l1 l) a3
    · subst i2; exact absurd (o'.inj j k _ c2 c b1 ha b2 hc l2' l) b3
    · omega
  · rcases new e2 e1 with ⟨a1, a2, _⟩ | ⟨_, rfl, rfl⟩
    · exact (o2.cell i c1 b a2 a1).move rfl ex (fun l1 => (live_at (o2.cell i c1 b a2 a1) l1).1) (fun _ => rfl) fun _ _ z => z
    · have q2 := cell_down q x.pre (by rw [o.len]; exact hb)
      exact q2.move rfl ex (fun l1 => (live_at q2 l1).1) (fun _ => rfl) fun _ _ z => z
theorem leave_ok {ER : ExR} {E : XK} {Q : VK} {u : U} {v : V} (o : Ok B F Θ μ H) (x : Ext F Θ F' Θ') (o' : Ok B F' Θ' μ' H') (r : RelU F' Θ' u v) (q : PostE B ER E F Θ Q (leave μ u μ')) : Q v H' := by
  unfold leave at q
  cases h : cut μ μ' with
  | none => rw [h] at q; exact q.elim
  | some m =>
    rw [h] at q
    simp only at q
    obtain ⟨o2, l2, _⟩ := o.cut x o' h
    cases u with
    | d y => exact q F' Θ H' v ⟨x.le, List.prefix_refl _⟩ o2 r
    | p k =>
      obtain ⟨a, ha, rfl⟩ := r
      simp only at q
      split at q
      · rename_i hk
        refine q F' Θ H' _ ⟨x.le, List.prefix_refl _⟩ o2 ⟨a, ?_, rfl⟩
        obtain ⟨t, e⟩ := x.pre
        rw [← e, List.getElem?_append_left (by rw [o.len]; exact hk)] at ha
        exact ha
      · rename_i hk
        split at q
        · rename_i y e
          exact q F' Θ H' _ ⟨x.le, List.prefix_refl _⟩ o2 (o'.cell k _ a e ha)
        · rename_i us e
          split at q
          · rename_i ds ed
            rw [allD_eq ed] at e
            obtain ⟨F2, x2, o3, d3⟩ := o'.freeze e ha
            have hc : cut μ (μ'.set k (.frz (.list ds))) = some m := by
              unfold Vm.cut at h ⊢
              rw [List.take_set_of_le (by omega)]
              exact h
            obtain ⟨o4, _, _⟩ := o.cut (x.trans x2) o3 hc
            exact q F2 Θ H' _ ⟨(x.trans x2).le, List.prefix_refl _⟩ o4 d3
          · exact q.elim
        · rename_i kvs e
          split at q
          · rename_i hb
            obtain ⟨o3, x3⟩ := dK_move o x o' h hk ha e rfl hb
            exact q F' _ H' _ x3 o3 ⟨a, by rw [← o.len, List.getElem?_append_right (Nat.le_refl _)]; simp, rfl⟩
          · exact q.elim
        · rename_i kvs e
          split at q
          · rename_i hb
            obtain ⟨o3, x3⟩ := dK_move o x o' h hk ha e rfl hb
            exact q F' _ H' _ x3 o3 ⟨a, by rw [← o.len, List.getElem?_append_right (Nat.le_refl _)]; simp, rfl⟩
          · exact q.elim
        · exact q.elim
end
/-- what a def does: n names, its body; keep: the cells that it makes stay -/
def runFn (n : Nat) (keep : Bool) (b : DS) (us : List U) (μ : Mu) : R U := match b (us.map some ++ List.replicate (n - us.length) none) μ with
  | .rt u μ' => if keep then .ok u μ' else leave μ u μ'
  | .nx _ μ' => if keep then .ok (.d .none) μ' else leave μ (.d .none) μ'
  | .ex e μ' => match cut μ μ' with
    | some m => .ex e m
    | none => .stuck
  | _ => .stuck
theorem relS_start {F : Hp} {Θ : List Addr} {us : List U} {vs : List V} (r : RelL F Θ us vs) (N : List Str) : RelS F Θ (us.map some ++ List.replicate (N.length - us.length) none) (L2.start N vs) := by
  have hl := paired_len r
  refine ⟨by unfold L2.start; simp [hl], fun i u e => ?_⟩
  by_cases hi : i < us.length
  · rw [List.getElem?_append_left (by simpa using hi), List.getElem?_map] at e
    cases eu : us[i]? with
    | none => rw [eu] at e; cases e
    | some w =>
      rw [eu] at e
      cases e
      obtain ⟨v, h1, h2⟩ := paired_get r eu
      refine ⟨v, ?_, h2⟩
      unfold L2.start
      rw [List.getElem?_append_left (by simpa [← hl] using hi), List.getElem?_map, h1]
      rfl
  · rw [List.getElem?_append_right (by simpa using hi), List.getElem?_replicate] at e
    split at e <;> cases e
theorem run_ok {K : PySem.W.Frag} {ER : ExR} {E : XK} {Q : VK} {N : List Str} {n : Nat} {keep : Bool} {b : DS} {vs : List V} {H : Hp} (h : spOf ER K n (runFn N.length keep b) vs H Q E) :
    TSv K ER E b { nx := fun _ H' => Q .non H', rt := Q } (L2.start N vs) H := by
  obtain ⟨_, B, F, Θ, us, μ, hK, o, r, q⟩ := h
  refine ⟨B, F, Θ, _, μ, hK, ⟨relS_start r N, o⟩, ?_⟩
  unfold runFn at q
  split at q
  · rename_i u μ' e
    rw [e]
    intro F' Θ' H' v x o' r'
    cases keep with
    | true => exact q F' Θ' H' v x o' r'
    | false => exact leave_ok o x o' r' q
  · rename_i ρ' μ' e
    rw [e]
    intro F' Θ' σ' H' x at'
    cases keep with
    | true => exact q F' Θ' H' .non x at'.o .non
    | false => exact leave_ok o x at'.o (u := .d .none) (v := .non) Dd.non q
  · rename_i ex μ' e
    rw [e]
    split at q
    · rename_i m hm
      intro F' Θ' H' c d x o' er
      obtain ⟨o2, _, _⟩ := o.cut x o' hm
      exact q F' Θ H' c d ⟨x.le, List.prefix_refl _⟩ o2 er
    · exact q.elim
  · exact q.elim
end Vm
set_option Elab.async false
set_option linter.all false
set_option maxRecDepth 100000
set_option maxHeartbeats 1000000
/-! Vm, part J: crosswise stores, stored comprehensions, the promise of a def, the law's call. -/
namespace Vm
open PySem PySem.Spec PyProof.Rows L2

def isStar : Expr → Bool
  | .Starred .. => true
  | _ => false
def locName (sc : Scope) (line : Nat) : Expr → Option Str
  | .Name id pos => if (sc.names.lookup id == some .local && pos.line == line) = true then some id else none
  | _ => none
def locNames (sc : Scope) (ts : List Expr) : List Str := ts.filterMap (locName sc ((ts.head?.map (·.pos.line)).getD 0))
/-- which names are stored crosswise: none: the model does not say -/
def swSt (sc : Scope) (ts vs : List Expr) : Option (Option (List Str)) :=
  if (!(ts.length == 2 || ts.length == 3) || vs.length != ts.length) = true then some none else
  if vs.any isStar = true then some none else
  if ((locNames sc ts).length != ts.length || (locNames sc ts).eraseDups.length != (locNames sc ts).length) = true then some none else
  if vs.all (foldedForSure 8) = true then some none else
  if vs.all (constantsAlone 8) = true then none else some (some (locNames sc ts))
theorem swSt_ok {env : Env} {ts vs : List Expr} {k k2 : Nat} {p p2 : Pos} {r : Option (List Str)} (hk : env.scope.kind = .function) (h : swSt env.scope ts vs = some r) :
    swappedStores [.Tuple ts k p] (.Tuple vs k2 p2) env = pure r := by
  have bk : env.blockKind = .function := by unfold Env.blockKind; rw [hk]; rfl
  have bf : (env.blockKind != ScopeKind.function) = false := by rw [bk]; rfl
  have e : swappedStores [.Tuple ts k p] (.Tuple vs k2 p2) env = (if (!(ts.length == 2 || ts.length == 3) || vs.length != ts.length) = true then pure none else
      if vs.any isStar = true then pure none else
      if ((locNames env.scope ts).length != ts.length || (locNames env.scope ts).eraseDups.length != (locNames env.scope ts).length) = true then pure none else
      if vs.all (foldedForSure 8) = true then pure none else
      if vs.all (constantsAlone 8) = true then (do unsupported "assign.tuple-of-constant-expressions:order-of-the-stores"; pure (some (locNames env.scope ts))) else pure (some (locNames env.scope ts))) := by
    have a1 : isStar = fun x => match x with | .Starred value pos => true | x => false := by funext x; cases x <;> rfl
    have a2 : locNames env.scope ts = List.filterMap (fun x => match x with
      | .Name id pos => if (env.kindOf id == some NameKind.local && pos.line == (Option.map (fun x => x.pos.line) ts.head?).getD 0) = true then some id else none
      | x => none) ts := by unfold locNames; congr 1
    unfold swappedStores
    simp only [bf, Bool.or_false]
    rw [a1, a2]
    rfl
  rw [e]
  unfold swSt at h
  split at h
  · rename_i c; cases h; rw [if_pos c]
  · rename_i c
    rw [if_neg c]
    split at h
    · rename_i c; cases h; rw [if_pos c]
    · rename_i c
      rw [if_neg c]
      split at h
      · rename_i c; cases h; rw [if_pos c]
      · rename_i c
        rw [if_neg c]
        split at h
        · rename_i c; cases h; rw [if_pos c]
        · rename_i c
          rw [if_neg c]
          split at h
          · cases h
          · rename_i c
            cases h
            rw [if_neg c]

/-- a new object that nobody here knows -/
theorem Ok.extra {B : Bg} {F H : Hp} {Θ : List Addr} {μ : Mu} (o : Ok B F Θ μ H) {p : Addr} {x : HO} (hp : H p = none) : Ok B F Θ μ (upd H p x) := by
  refine ⟨fun a y e => ?_, fun a y e => ?_, o.len, o.inj, fun k c a e1 e2 => ?_⟩
  · rw [upd_ne (by rintro rfl; rw [o.fresh hp] at e; cases e)]; exact o.le a y e
  · obtain ⟨h1, h2, h3⟩ := o.hid a y e
    rw [upd_ne (by rintro rfl; rw [hp] at h1; cases h1)]
    exact ⟨h1, h2, h3⟩
  · have q := o.cell k c a e1 e2
    refine q.move rfl (Ext.refl _ _) (fun l => (live_at q l).1) (fun l => ?_) fun ob u z => ?_
    · obtain ⟨h1, y, h2, _⟩ := live_at q l
      rw [upd_ne (by rintro rfl; rw [hp] at h2; cases h2)]
    · rw [upd_ne (by rintro rfl; rw [hp] at z; cases z)]; exact z
section
variable {ER : ExR} {CX : CXT} {Γ : Ctx} {E : XK} {X : Cx} {tg e a b c : Expr} {es rest ifs : List Expr} {fa fb fc fe : DE} {ta tb tc : DB} {fl : DL} {fi : DI} {pos p : Pos}
theorem s_setLc (m : Bool) {t : Tg} {scope : Scope} {own : List (Str × Nat)} {i : Nat} {y : Str} {py : Pos} {spos : Pos} (ok : CxOk ER CX Γ E X) (hi : DenI ER E X tg a fi) (bo : BlkOk X.N X.env.scope scope own)
    (ht : ∀ s H C cl fp, TgAt (X.blk s H scope (compEnvC scope cl C X.env) fp) tg t) (ho : ∀ i ∈ t.own, i ∈ own.map (·.2))
    (hf : ∀ s H C cl fp, DenIfs ER E0 (X.blk s H scope (compEnvC scope cl C X.env) fp) ifs tc) (he : ∀ s H C cl fp, DenE ER E0 (X.blk s H scope (compEnvC scope cl C X.env) fp) e fe)
    (hs : ∀ x, foldedSetIterable a X.env x = pure x) (hy : X.N[i]? = some y) (hyl : X.env.scope.names.lookup y = some .local)
    (hsw : swapsWith (.ListComp e [⟨tg, a, ifs, 0⟩] scope pos) (some (.Name y py)) spos.line X.env = pure true) :
    DenS ER E X (.Assign [.Name y py] (.ListComp e [⟨tg, a, ifs, 0⟩] scope pos) spos) (asgS (nameG i) (lcD m (own.map (·.2)) fi t.dg tc fe)) := by
  obtain ⟨_, key⟩ := r_lc m ok hi bo ht ho hf he hs (pos := pos)
  refine PS.weak (ps_setLc (te := TEv X.K ER E0 fe) (tt := TTv X.K ER E0 tc) (g := TGo X.K ER t.dg (own.map (·.2))) ok.calm ok.nd hy hyl hsw hi bo (fun s H C cl fp => g_tg (ER := ER) (X := X.blk s H scope (compEnvC scope cl C X.env) fp) ok.nd ok.calm (ht s H C cl fp) ho) hf he hs) fun D σ H ⟨B, F, Θ, ρ, μ, hK, at', q⟩ => ?_
  refine key σ H _ (es_in hK at' q fun u μ1 F1 Θ1 H1 v x1 at1 r1 q1 => ?_)
  exact q1 F1 Θ1 _ H1 (Ext.refl _ _) ⟨at1.s.set r1 i, at1.o⟩
/-- a, b = x, y stored crosswise -/
theorem s_par2 {i j : Nat} {x y : Str} {px py pt pt2 : Pos} {kt k2 : Nat} (ok : CxOk ER CX Γ E X) (hi : X.N[i]? = some x) (hj : X.N[j]? = some y) (hij : i ≠ j) (hx : X.env.scope.names.lookup x = some .local) (hy : X.env.scope.names.lookup y = some .local)
    (ha : DenL ER E X [a, b] fl) (hw : swappedStores [.Tuple [.Name x px, .Name y py] kt pt] (.Tuple [a, b] k2 pt2) X.env = pure (some [x, y])) :
    DenS ER E X (.Assign [.Tuple [.Name x px, .Name y py] kt pt] (.Tuple [a, b] k2 pt2) pos) (parS [nameG i, nameG j] fl) :=
  PS.weak (ps_par ok.calm ok.nd hi hj hij hx hy ha hw rfl) fun D σ H ⟨B, F, Θ, ρ, μ, hK, at', q⟩ => by
    refine ⟨B, F, Θ, ρ, μ, hK, at', ofR_in q fun us μ1 F1 Θ1 H1 vs x1 o1 rl q1 => ?_⟩
    match us, vs, rl with
    | [u, w], [v, z], .cons r1 (.cons r2 .nil) => exact ⟨v, z, rfl, q1 F1 Θ1 _ H1 (Ext.refl _ _) ⟨((at'.s.mono x1).set r1 i).set r2 j, o1⟩⟩
    | [], _, _ => exact q1.elim
    | [_], _, _ => exact q1.elim
    | _ :: _ :: _ :: _, _, _ => exact q1.elim
theorem s_par3 {i j l : Nat} {x y z : Str} {px py pz pt pt2 : Pos} {kt k2 : Nat} (ok : CxOk ER CX Γ E X) (hi : X.N[i]? = some x) (hj : X.N[j]? = some y) (hl : X.N[l]? = some z) (hij : i ≠ j) (hil : i ≠ l) (hjl : j ≠ l)
    (hx : X.env.scope.names.lookup x = some .local) (hy : X.env.scope.names.lookup y = some .local) (hz : X.env.scope.names.lookup z = some .local)
    (ha : DenL ER E X [a, b, c] fl) (hw : swappedStores [.Tuple [.Name x px, .Name y py, .Name z pz] kt pt] (.Tuple [a, b, c] k2 pt2) X.env = pure (some [x, y, z])) :
    DenS ER E X (.Assign [.Tuple [.Name x px, .Name y py, .Name z pz] kt pt] (.Tuple [a, b, c] k2 pt2) pos) (parS [nameG i, nameG j, nameG l] fl) :=
  PS.weak (ps_par3 ok.calm ok.nd hi hj hl hij hil hjl hx hy hz ha hw rfl) fun D σ H ⟨B, F, Θ, ρ, μ, hK, at', q⟩ => by
    refine ⟨B, F, Θ, ρ, μ, hK, at', ofR_in q fun us μ1 F1 Θ1 H1 vs x1 o1 rl q1 => ?_⟩
    match us, vs, rl with
    | [u, w, t], [v, z, s], .cons r1 (.cons r2 (.cons r3 .nil)) => exact ⟨v, z, s, rfl, q1 F1 Θ1 _ H1 (Ext.refl _ _) ⟨(((at'.s.mono x1).set r1 i).set r2 j).set r3 l, o1⟩⟩
    | [], _, _ => exact q1.elim
    | [_], _, _ => exact q1.elim
    | [_, _], _, _ => exact q1.elim
    | _ :: _ :: _ :: _ :: _, _, _ => exact q1.elim
/-- targets = values, not crosswise: a tuple is made and taken apart -/
theorem s_parT {gs : List DG} {kt k2 : Nat} {pt pt2 : Pos} {vs : List Expr} (ok : CxOk ER CX Γ E X) (ha : DenL ER E X vs fl) (hg : DenGs ER E X es (bindL gs)) (hl : es.length = gs.length) (hn : (assignEach es X.env).length = es.length)
    (hst : (assignEach es X.env).findIdx? (·.1) = none) (pure' : ∀ g ∈ gs, ∀ u ρ μ, g u ρ μ ≠ .stuck → ∀ e μ', g u ρ μ ≠ .ex e μ')
    (hfew : es.length ≤ 100) (hw : swappedStores [.Tuple es kt pt] (.Tuple vs k2 pt2) X.env = pure none) : DenS ER E X (.Assign [.Tuple es kt pt] (.Tuple vs k2 pt2) pos) (parS gs fl) :=
  PS.weak (ps_asg (pe_tup ha) (pg_tup ok.calm hg hn hst) rfl hw rfl) fun D σ H ⟨B, F, Θ, ρ, μ, hK, at', q⟩ => by
    refine ⟨B, F, Θ, ρ, μ, hK, at', ofR_in q fun us μ1 F1 Θ1 H1 vs' x1 o1 rl q1 => ?_⟩
    have q1' : PostG B ER E F1 Θ1 (fun σ' H' => D.nx σ' H') (bindL gs us ρ μ1) := ofR_in q1 fun ρ1 μ2 F2 Θ2 H2 σ2 x2 o2 rs q2 => q2 F2 Θ2 σ2 H2 (Ext.refl _ _) ⟨rs, o2⟩
    have hlen := bindL_len q1' pure'
    have hv : vs'.length = es.length := by rw [← paired_len rl, hlen, hl]
    refine ⟨by rw [hv]; exact Nat.le_trans hfew (by rw [sizeLine_eq]; decide), fun p hp => ?_⟩
    refine ⟨p, vs', rfl, SqT.of upd_same, hv, B, F1, Θ1, ρ, μ1, us, hK, ⟨at'.s.mono x1, o1.extra hp⟩, rl, q1'⟩
end
end Vm
set_option Elab.async false
set_option linter.all false
set_option maxRecDepth 100000
set_option maxHeartbeats 1000000
/-! Vm, part K: more built-ins: ranges as lists, empty dicts, dict reading. -/
namespace Vm
open PySem PySem.Spec PyProof.Rows L2

section
variable {ER : ExR} {CX : CXT} {Γ : Ctx} {E : XK} {X : Cx} {tg e a b c : Expr} {es rest ifs : List Expr} {fa fb fc fe : DE} {ta tb tc : DB} {fl : DL} {fi : DI} {pos p p2 pos2 : Pos}
/-- list(range(..)), tuple(range(..)) -/
def rgB (a b : Int) : Bool := R62 a && R62 b && decide ((b - a).toNat ≤ 16777216)
theorem rgB_ok {a b : Int} (h : rgB a b = true) : RgOk a b := by
  unfold rgB at h
  simp only [Bool.and_eq_true, decide_eq_true_eq] at h
  exact ⟨(r62 h.1.1).1, (r62 h.1.1).2, (r62 h.1.2).1, (r62 h.1.2).2, h.2⟩
def lrg1 (m : Bool) (a : DE) : DE := fun ρ μ => (a ρ μ).bind fun u μ1 => match u with
  | .d (.int n) => if rgB 0 n then mkL m ((intsL 0 n.toNat).map .d) μ1 else .stuck
  | _ => .stuck
def lrg2 (m : Bool) (a b : DE) : DE := fun ρ μ => (a ρ μ).bind fun u μ1 => (b ρ μ1).bind fun v μ2 => match u, v with
  | .d (.int i), .d (.int j) => if rgB i j then mkL m ((intsL i (j - i).toNat).map .d) μ2 else .stuck
  | _, _ => .stuck
def trg1 (a : DE) : DE := fun ρ μ => (a ρ μ).bind fun u μ1 => match u with
  | .d (.int n) => if rgB 0 n then mkT ((intsL 0 n.toNat).map .d) μ1 else .stuck
  | _ => .stuck
def trg2 (a b : DE) : DE := fun ρ μ => (a ρ μ).bind fun u μ1 => (b ρ μ1).bind fun v μ2 => match u, v with
  | .d (.int i), .d (.int j) => if rgB i j then mkT ((intsL i (j - i).toNat).map .d) μ2 else .stuck
  | _, _ => .stuck
theorem rg_rel {F : Hp} {Θ : List Addr} (i j : Int) : RelL F Θ ((intsL i (j - i).toNat).map .d) (rgV i j) := by
  unfold intsL rgV
  rw [List.map_map]
  generalize List.range (j - i).toNat = l
  induction l with
  | nil => exact .nil
  | cons k r ih => exact .cons (F := RelU F Θ) (a := U.d (.int (i + (k : Nat)))) (.int _) ih
theorem rg_rel0 {F : Hp} {Θ : List Addr} (n : Int) : RelL F Θ ((intsL 0 n.toNat).map .d) (rgV 0 n) := by
  have := rg_rel (F := F) (Θ := Θ) 0 n
  rw [Int.sub_zero] at this; exact this
theorem r_lrg1 (m : Bool) (hc : X.calm = true) (hg : Gl X "list") (hm : X.mg "list" = none) (hg2 : Gl X "range") (hm2 : X.mg "range" = none) (ha : DenE ER E X a fa) (na : starEach [a] X.env = (false, eval a X.env) :: starEach [] X.env) :
    DenE ER E X (.Call (.Name "list" p) [.Call (.Name "range" p2) [a] [] pos2] [] pos) (lrg1 m fa) :=
  PE.weak (pe_listRg hc hg hm (prg_1 hg2 hm2 ha na)) fun σ H Q ⟨B, F, Θ, ρ, μ, hK, at', q⟩ => te_in hK at' q fun u μ1 F1 Θ1 H1 v x1 at1 r1 q1 => by
    split at q1
    · rename_i n
      split at q1
      · rename_i h
        exact ⟨n, dd_int r1, rgB_ok h, (mkL_ok at1.o (rg_rel0 n) q1).2⟩
      · exact q1.elim
    · exact q1.elim
theorem r_lrg2 (m : Bool) (hc : X.calm = true) (hg : Gl X "list") (hm : X.mg "list" = none) (hg2 : Gl X "range") (hm2 : X.mg "range" = none) (ha : DenE ER E X a fa) (hb : DenE ER E X b fb) (na : starEach [a, b] X.env = (false, eval a X.env) :: starEach [b] X.env)
    (nb : starEach [b] X.env = (false, eval b X.env) :: starEach [] X.env) : DenE ER E X (.Call (.Name "list" p) [.Call (.Name "range" p2) [a, b] [] pos2] [] pos) (lrg2 m fa fb) :=
  PE.weak (pe_listRg hc hg hm (prg_2 hg2 hm2 ha hb na nb (by rw [nb]; rfl))) fun σ H Q ⟨B, F, Θ, ρ, μ, hK, at', q⟩ => te_in hK at' q fun u μ1 F1 Θ1 H1 v x1 at1 r1 q1 =>
    te_in hK at1 q1 fun w μ2 F2 Θ2 H2 z x2 at2 r2 q2 => by
      split at q2
      · rename_i i j
        split at q2
        · rename_i h
          have e1 := dd_int r1
          have e2 := dd_int r2
          subst e1 e2
          exact ⟨i, j, rfl, rfl, rgB_ok h, (mkL_ok at2.o (rg_rel i j) q2).2⟩
        · exact q2.elim
      · exact q2.elim
theorem r_trg1 (hc : X.calm = true) (hg : Gl X "tuple") (hm : X.mg "tuple" = none) (hg2 : Gl X "range") (hm2 : X.mg "range" = none) (ha : DenE ER E X a fa) (na : starEach [a] X.env = (false, eval a X.env) :: starEach [] X.env) :
    DenE ER E X (.Call (.Name "tuple" p) [.Call (.Name "range" p2) [a] [] pos2] [] pos) (trg1 fa) :=
  PE.weak (pe_tupRg hc hg hm (prg_1 hg2 hm2 ha na)) fun σ H Q ⟨B, F, Θ, ρ, μ, hK, at', q⟩ => te_in hK at' q fun u μ1 F1 Θ1 H1 v x1 at1 r1 q1 => by
    split at q1
    · rename_i n
      split at q1
      · rename_i h
        exact ⟨n, dd_int r1, rgB_ok h, (mkT_ok at1.o (rg_rel0 n) q1).2⟩
      · exact q1.elim
    · exact q1.elim
theorem r_trg2 (hc : X.calm = true) (hg : Gl X "tuple") (hm : X.mg "tuple" = none) (hg2 : Gl X "range") (hm2 : X.mg "range" = none) (ha : DenE ER E X a fa) (hb : DenE ER E X b fb) (na : starEach [a, b] X.env = (false, eval a X.env) :: starEach [b] X.env)
    (nb : starEach [b] X.env = (false, eval b X.env) :: starEach [] X.env) : DenE ER E X (.Call (.Name "tuple" p) [.Call (.Name "range" p2) [a, b] [] pos2] [] pos) (trg2 fa fb) :=
  PE.weak (pe_tupRg hc hg hm (prg_2 hg2 hm2 ha hb na nb (by rw [nb]; rfl))) fun σ H Q ⟨B, F, Θ, ρ, μ, hK, at', q⟩ => te_in hK at' q fun u μ1 F1 Θ1 H1 v x1 at1 r1 q1 =>
    te_in hK at1 q1 fun w μ2 F2 Θ2 H2 z x2 at2 r2 q2 => by
      split at q2
      · rename_i i j
        split at q2
        · rename_i h
          have e1 := dd_int r1
          have e2 := dd_int r2
          subst e1 e2
          exact ⟨i, j, rfl, rfl, rgB_ok h, (mkT_ok at2.o (rg_rel i j) q2).2⟩
        · exact q2.elim
      · exact q2.elim

/-! ### dicts -/
def newKD : DE := fun _ μ => .ok (.p μ.length) (μ ++ [.dK []])
def newTD : DE := fun _ μ => .ok (.p μ.length) (μ ++ [.dT []])
theorem r_newK : DenE ER E X (.Dict [] [] pos) newKD := PE.weak pe_dnewK fun σ H Q ⟨B, F, Θ, ρ, μ, hK, at', q⟩ => fun p hp => by
  obtain ⟨o1, x1⟩ := at'.o.alloc (x := .dK []) (c := .dK []) hp ⟨at'.o.fresh hp, [], upd_same, .nil⟩
  exact q F _ _ _ x1 o1 ⟨p, at'.o.ptr, rfl⟩
theorem r_newT : DenE ER E X (.Dict [] [] pos) newTD := PE.weak pe_dnewT fun σ H Q ⟨B, F, Θ, ρ, μ, hK, at', q⟩ => fun p hp => by
  obtain ⟨o1, x1⟩ := at'.o.alloc (x := .dT []) (c := .dT []) hp ⟨at'.o.fresh hp, [], upd_same, .nil⟩
  exact q F _ _ _ x1 o1 ⟨p, at'.o.ptr, rfl⟩
/-- x in d, where d may be a dict -/
def hasC (u v : U) (μ : Mu) : Option Bool := match dctAt v μ with
  | some (_, d) => ((view u μ).bind d.find).map (·.isSome)
  | none => inC u v μ
theorem PC.or {op : CmpOp} {t t' : TE} (h : PC X op a b t) (h' : PC X op a b t') : PC X op a b (fun σ H Q => t σ H Q ∨ t' σ H Q) :=
  ⟨fun pins s σ H Q I w => w.elim (h.run pins s σ H Q I) (h'.run pins s σ H Q I)⟩
theorem PC.weak {op : CmpOp} {t t' : TE} (h : PC X op a b t) (i : ∀ σ H Q, t' σ H Q → t σ H Q) : PC X op a b t' := ⟨fun pins s σ H Q I w => h.run pins s σ H Q I (i _ _ _ w)⟩
theorem pc_of {op : CmpOp} {r : R2} {ta' tb' : TE} (ho : OpR X (compareOp op) r) (ha : PE X a ta') (hb : PE X b tb') : PC X op a b (tOp r ta' tb') :=
  ⟨fun pins s σ H Q I h => binT ha hb I h fun v u s2 x y H2 I2 rx ry q => ho pins s2 σ H2 x y v u Q I2 rx ry q⟩
/-- a comparison, its answer going on -/
def TCv (K : PySem.W.Frag) (ER : ExR) (E : XK) (f : DB) : TE := fun σ H Q => TTv K ER E f σ H fun c H1 => Q (.bl c) H1
theorem pc_has (neg : Bool) (hu : X.A.units + 66 < cLine) (ha : DenE ER E X a fa) (hb : DenE ER E X b fb) : PC X (if neg then .NotIn else .In) a b (TCv X.K ER E (cmpD (if neg then negC hasC else hasC) fa fb)) := by
  have key : ∀ (tD : TE) (r : R2) (nb : Bool → Bool), (tD = fun σ H Q => TEv X.K ER E fa σ H fun y H1 => TEv X.K ER E fb σ H1 fun x H2 => ∃ a o, x = .ref a ∧ DGet H2 a y o ∧ Q (.bl (nb o.isSome)) H2) →
      (∀ B F Θ μ u w x y H Q, Ok B F Θ μ H → RelU F Θ u x → RelU F Θ w y → ∀ c, inC u w μ = some c → Q (.bl (nb c)) H → r x y H Q) →
      ∀ σ H Q, TCv X.K ER E (cmpD (fun u v μ => (hasC u v μ).map nb) fa fb) σ H Q → tD σ H Q ∨ tOp r (TEv X.K ER E fa) (TEv X.K ER E fb) σ H Q := by
    intro tD r nb eD hr σ H Q ⟨B, F, Θ, ρ, μ, hK, at', q⟩
    have split2 : (∃ u μ1 w μ2, fa ρ μ = .ok u μ1 ∧ fb ρ μ1 = .ok w μ2 ∧ dctAt w μ2 ≠ none) ∨ ¬ ∃ u μ1 w μ2, fa ρ μ = .ok u μ1 ∧ fb ρ μ1 = .ok w μ2 ∧ dctAt w μ2 ≠ none := Classical.em _
    rcases split2 with ⟨u0, n1, w0, n2, e1, e2, e3⟩ | no
    · left
      rw [eD]
      refine te_in' hK at' q fun u μ1 F1 Θ1 H1 v eu x1 at1 r1 q1 => te_in' hK at1 q1 fun w μ2 F2 Θ2 H2 z ew x2 at2 r2 q2 => ?_
      rw [e1] at eu; cases eu
      rw [e2] at ew; cases ew
      obtain ⟨c, hc, q3⟩ := opt_inv q2
      have hc : (hasC u0 w0 n2).map nb = some c := hc
      unfold hasC at hc
      cases h : dctAt w0 n2 with
      | none => exact absurd h e3
      | some kd =>
        obtain ⟨k, d⟩ := kd
        rw [h] at hc
        simp only at hc
        cases ev : view u0 n2 with
        | none => rw [ev] at hc; cases hc
        | some x =>
          rw [ev] at hc
          cases ef : d.find x with
          | none => simp only [Option.bind, ef] at hc; cases hc
          | some o' =>
            simp only [Option.bind, ef] at hc
            cases hc
            obtain ⟨p, rfl, _, g⟩ := find_ok at2.o r2 h (view_ok at2.o (r1.mono x2) ev) ef
            have fin := post_ok (b := nb o'.isSome) at2.o rfl q3
            rcases g with ⟨g1, g2⟩ | ⟨y', zv, g1, g2, g3⟩
            · subst g1; exact ⟨p, none, rfl, g2, fin⟩
            · subst g1; exact ⟨p, some zv, rfl, g3, fin⟩
    · right
      refine te_in' hK at' q fun u μ1 F1 Θ1 H1 v eu x1 at1 r1 q1 => te_in' hK at1 q1 fun w μ2 F2 Θ2 H2 z ew x2 at2 r2 q2 => ?_
      obtain ⟨c, hc, q3⟩ := opt_inv q2
      have hc : (hasC u w μ2).map nb = some c := hc
      unfold hasC at hc
      cases h : dctAt w μ2 with
      | some kd => exact absurd ⟨u, μ1, w, μ2, eu, ew, by rw [h]; exact fun z => by cases z⟩ no
      | none =>
        rw [h] at hc
        simp only at hc
        cases hi : inC u w μ2 with
        | none => rw [hi] at hc; cases hc
        | some c' =>
          rw [hi] at hc
          cases hc
          exact hr B F2 Θ2 μ2 u w v z H2 Q at2.o (r1.mono x2) r2 c' hi (post_ok (b := nb c') at2.o rfl q3)
  cases neg with
  | false =>
    refine PC.weak (PC.or (pc_din (by omega) ha hb) (pc_of (oc_in (by omega)) ha hb)) fun σ H Q w => ?_
    have w' : TCv X.K ER E (cmpD (fun u v μ => (hasC u v μ).map id) fa fb) σ H Q := by
      have : (fun u v μ => (hasC u v μ).map id) = hasC := by funext u v μ; cases hasC u v μ <;> rfl
      rw [this]; exact w
    exact key _ (rCmp inC) id rfl (fun B F Θ μ u w x y H Q o ru rw' c hc q => ⟨B, F, Θ, u, w, μ, c, o, ru, rw', hc, q⟩) σ H Q w'
  | true =>
    refine PC.weak (PC.or (pc_dnotin (by omega) ha hb) (pc_of (oc_notin (by omega)) ha hb)) fun σ H Q w => ?_
    exact key _ (rCmp (negC inC)) (!·) rfl (fun B F Θ μ u w x y H Q o ru rw' c hc q => ⟨B, F, Θ, u, w, μ, !c, o, ru, rw', by unfold negC; rw [hc]; rfl, q⟩) σ H Q w
theorem t_ofPC {op : CmpOp} {f : DB} (h : PC X op a b (TCv X.K ER E f)) (hm : behindInMarks op b = false) : DenT ER E X (.Compare a [op] [b] pos) f :=
  PT.weak (pt_cmp h hm) fun σ H Q ⟨B, F, Θ, ρ, μ, hK, at', q⟩ => ⟨B, F, Θ, ρ, μ, hK, at', PostR.bind (Rel' := fun _ _ a b => a = b) (Q := Q) (f := fun c μ => .ok c μ) (by
    cases e : f ρ μ with
    | ok c μ1 => rw [e] at q; exact q
    | ex e' μ1 => rw [e] at q; exact q
    | stuck => rw [e] at q; exact q) fun c μ1 F1 Θ1 H1 c' x o r q1 => ⟨c', rfl, by subst r; exact post_ok (b := c) o rfl q1⟩⟩
theorem r_ofPC {op : CmpOp} {f : DB} (h : PC X op a b (TCv X.K ER E f)) (hm : behindInMarks op b = false) : DenE ER E X (.Compare a [op] [b] pos) (boolD f) :=
  PE.weak (pe_cmp h hm) fun σ H Q ⟨B, F, Θ, ρ, μ, hK, at', q⟩ => tt_in hK at' q fun c μ1 F1 Θ1 H1 x1 at1 q1 => post_dat at1.o (.bl _) q1
end
end Vm
set_option Elab.async false
set_option linter.all false
set_option maxRecDepth 100000
set_option maxHeartbeats 1000000
/-! Vm, part Q: dicts: length, == with an empty one, update, values. -/
namespace Vm
open PySem PySem.Spec PyProof.Rows L2

/-- a dict of either kind, of n entries -/
def DSz (H : Hp) (a : Addr) (n : Nat) : Prop := (∃ kvs, H a = some (.dK kvs) ∧ n = kvs.length) ∨ ∃ kvs, H a = some (.dT kvs) ∧ n = kvs.length
/-- and of these values -/
def DVl (H : Hp) (a : Addr) (vs : List V) : Prop := (∃ kvs, H a = some (.dK kvs) ∧ vs = kvs.map (·.2)) ∨ ∃ kvs, H a = some (.dT kvs) ∧ vs = kvs.map (·.2)
section
variable {X : Cx} {pins : List (Addr × Obj)} {σ : L2.St} {H : Hp} {s : Shared} {a : Addr} {n : Nat} {vs : List V}
theorem vals_at {xs : List V} {us : List Value} (hl : xs.length = us.length) (h : ∀ (j : Nat) (x : V) (u : Value), xs[j]? = some x → us[j]? = some u → RelV x u) : Vals xs us := by
  induction xs generalizing us with
  | nil => cases us with
    | nil => exact .nil
    | cons _ _ => cases hl
  | cons x xs ih => cases us with
    | nil => cases hl
    | cons u us => exact .cons (h 0 x u rfl rfl) (ih (by simpa using hl) fun j y w e1 e2 => h (j + 1) y w (by simpa using e1) (by simpa using e2))
theorem vals_snd {κ : Type} : ∀ {kvs : List (κ × V)} {ws : List (κ × Value)}, Paired (fun (p : κ × V) q => p.1 = q.1 ∧ RelV p.2 q.2) kvs ws → Vals (kvs.map (·.2)) (ws.map (·.2))
  | _, _, .nil => .nil
  | _, _, .cons h t => .cons h.2 (vals_snd t)
theorem vals_kt {H : Hp} : ∀ {kvs : List (List Key × V)} {xs : List (List Key × Addr × Value)}, KT H kvs xs → Vals (kvs.map (·.2)) (xs.map fun x => x.2.2)
  | _, _, .nil => .nil
  | _, _, .cons h t => .cons h.2.2 (vals_kt t)
theorem dvl_raw (I : Inv X pins σ H s) (h : DVl H a vs) : (a == sysModules) = false ∧ vs.length ≤ sizeLine ∧ ∃ es ep, s.heap.DictRaw a es ep ∧ es.size = vs.length ∧ Vals vs (es.toList.map (·.val)) := by
  rcases h with ⟨kvs, e, rfl⟩ | ⟨kvs, e, rfl⟩
  · obtain ⟨z, hs, ws, rel, o, es, ep, ho, hc, hd, _, hp, _⟩ := dk_of I.hok e
    have l1 : es.toList.length = ws.length := hp.length
    have l2 : kvs.length = ws.length := Paired.length rel
    refine ⟨hs, by rw [List.length_map]; exact z, es, ep, ⟨o, ho, hc, hd⟩, by rw [List.length_map, l2, ← l1, Array.length_toList], ?_⟩
    have v := vals_snd rel
    have : es.toList.map (·.val) = ws.map (·.2) := by
      refine List.ext_getElem (by simp [l1]) fun i h1 h2 => ?_
      rw [List.getElem_map, List.getElem_map]
      have i1 : i < es.toList.length := by simpa using h1
      have i2 : i < ws.length := by simpa using h2
      obtain ⟨_, q⟩ := hp.get? (i := i) (e := es.toList[i]) (k := ws[i].1) (v := ws[i].2) (List.getElem?_eq_getElem i1) (List.getElem?_eq_getElem i2)
      exact q
    rw [this]; exact v
  · obtain ⟨z, hs, ws, rel, o, es, ep, ho, hc, hd, he, _, _⟩ := dt_of I.hok e
    have l1 : es.size = ws.length := size_of_entries he
    have l2 : kvs.length = ws.length := Paired.length rel
    refine ⟨hs, by rw [List.length_map]; exact z, es, ep, ⟨o, ho, hc, hd⟩, by rw [List.length_map, l1, l2], ?_⟩
    rw [he, List.map_map]
    exact vals_kt rel
theorem dsz_raw (I : Inv X pins σ H s) (h : DSz H a n) : (a == sysModules) = false ∧ n ≤ sizeLine ∧ ∃ es ep, s.heap.DictRaw a es ep ∧ es.size = n := by
  rcases h with ⟨kvs, e, rfl⟩ | ⟨kvs, e, rfl⟩
  · obtain ⟨h1, h2, es, ep, h3, h4, _⟩ := dvl_raw I (.inl ⟨kvs, e, rfl⟩ : DVl H a (kvs.map (·.2)))
    exact ⟨h1, by simpa using h2, es, ep, h3, by simpa using h4⟩
  · obtain ⟨h1, h2, es, ep, h3, h4, _⟩ := dvl_raw I (.inr ⟨kvs, e, rfl⟩ : DVl H a (kvs.map (·.2)))
    exact ⟨h1, by simpa using h2, es, ep, h3, by simpa using h4⟩
end

/-! ### == where one look suffices -/
section
variable {prog : Program} {w : World} {A : Around} {E : Value → Shared → Prop} {s : Shared} {a b : Addr} {es es' : Array DictEntry} {ep ep' : Nat}
theorem same_raw {nm : String} {Q : Bool → Shared → Prop} (ha : (a == sysModules) = false) (hb : (b == sysModules) = false) (da : s.heap.DictRaw a es ep) (db : s.heap.DictRaw b es' ep') (hz : es.size ≠ es'.size ∨ es.size = 0) (h : Q (es.size == es'.size) s) :
    wpAny (model prog w) A (Builtin.Dict.samePairs nm a b) Q E s := by
  obtain ⟨oa, ga, _, ea⟩ := da
  obtain ⟨ob, gb, _, eb⟩ := db
  unfold Builtin.Dict.samePairs Builtin.Dict.showsAll
  rw [if_neg (by rw [ha]; exact Bool.false_ne_true), if_neg (by rw [hb]; exact Bool.false_ne_true)]
  refine wpAny_bind (wpAny_pure (wpAny_bind (wpAny_pure (wpAny_bind (wpAny_dictEntries ga ea ?_)))))
  dsimp only
  refine wpAny_bind (wpAny_dictEntries gb eb ?_)
  by_cases hsz : es.size = es'.size
  · have h0 : es.size = 0 := hz.resolve_left fun z => z hsz
    have hq : (es.size == es'.size) = true := beq_iff_eq.mpr hsz
    rw [hq] at h
    rw [if_neg (by rw [hsz]; simp)]
    refine wpAny_bind (wpAny_dictEpoch ga ea (wpAny_bind ?_))
    rw [Std.Legacy.Range.forIn_eq_forIn_range']
    simp only [Std.Legacy.Range.size, h0]
    exact wpAny_pure (wpAny_pure h)
  · have hq : (es.size == es'.size) = false := beq_eq_false_iff_ne.mpr hsz
    rw [hq] at h
    rw [if_pos (by simpa using hsz)]
    exact wpAny_bind (wpAny_rule (wpAny_pure h))
theorem ne_raw {Q : Value → Shared → Prop} (ha : (a == sysModules) = false) (hb : (b == sysModules) = false) (da : s.heap.DictRaw a es ep) (db : s.heap.DictRaw b es' ep') (hu : A.units < cLine) (hz : es.size ≠ es'.size ∨ es.size = 0) (h : Q (.bool (!(es.size == es'.size))) s) :
    wpAny (model prog w) A (compareOp .NotEq (.ref a) (.ref b)) Q E s := by
  refine wpAny_richCompare_same_room (op := .NotEq) da.typeIs db.typeIs F.slot_dict_ne (wpAny_call_entry F.slot_dict_ne da.typeIs F.entry_dict_ne ?_ (F.args_dict_ne_2 _ _)) hu
  show wpAny _ _ (Builtin.Dict.dictSlotArgs "__ne__" ⟨[.ref a, .ref b], []⟩ >>= _) _ _ s
  refine wpAny_bind ?_
  unfold Builtin.Dict.dictSlotArgs
  refine wpAny_bind (wpAny_notOrdered_dict da.typeIs (wpAny_pure ?_))
  refine wpAny_bind (wpAny_isInstance (T := "dict") db.typeIs F.sub_dict_dict ?_)
  simp only [Bool.not_true, Bool.false_eq_true, if_false]
  refine wpAny_bind (wpAny_pure (wpAny_bind (wpAny_pure (wpAny_bind (same_raw ha hb da db hz (wpAny_pure ⟨_, rfl, ?_, ?_⟩))))))
  · exact fun x => nomatch x
  · simpa using h
theorem eq_raw {Q : Value → Shared → Prop} (ha : (a == sysModules) = false) (hb : (b == sysModules) = false) (da : s.heap.DictRaw a es ep) (db : s.heap.DictRaw b es' ep') (hu : A.units < cLine) (hz : es.size ≠ es'.size ∨ es.size = 0) (h : Q (.bool (es.size == es'.size)) s) :
    wpAny (model prog w) A (compareOp .Eq (.ref a) (.ref b)) Q E s := by
  refine wpAny_richCompare_same_room (op := .Eq) da.typeIs db.typeIs F.slot_dict_eq (wpAny_call_entry F.slot_dict_eq da.typeIs F.entry_dict_eq ?_ (F.args_dict_eq_2 _ _)) hu
  show wpAny _ _ (Builtin.Dict.dictSlotArgs "__eq__" ⟨[.ref a, .ref b], []⟩ >>= _) _ _ s
  refine wpAny_bind ?_
  unfold Builtin.Dict.dictSlotArgs
  refine wpAny_bind (wpAny_notOrdered_dict da.typeIs (wpAny_pure ?_))
  refine wpAny_bind (wpAny_isInstance (T := "dict") db.typeIs F.sub_dict_dict ?_)
  simp only [Bool.not_true, Bool.false_eq_true, if_false]
  refine wpAny_bind (wpAny_pure (wpAny_bind (wpAny_pure (wpAny_bind (same_raw ha hb da db hz (wpAny_pure ⟨_, rfl, ?_, ?_⟩))))))
  · exact fun x => nomatch x
  · simpa using h
end
/-- dicts, of which one is empty, or of unlike lengths -/
def rDq (neg : Bool) : R2 := fun x y H Q => ∃ a b n m, x = .ref a ∧ y = .ref b ∧ DSz H a n ∧ DSz H b m ∧ (n ≠ m ∨ n = 0) ∧ Q (.bl (if neg then !(n == m) else n == m)) H
section
variable {X : Cx} {ER : ExR} {E : XK}
theorem or_deq (hu : X.A.units < cLine) : OpR X (compareOp .Eq) (rDq false) := by
  intro pins s σ H x y v u Q I rx ry h
  obtain ⟨a, b, n, m, rfl, rfl, da, db, hz, q⟩ := h
  cases rx
  cases ry
  obtain ⟨h1, _, es, ep, h2, rfl⟩ := dsz_raw I da
  obtain ⟨h3, _, es', ep', h4, rfl⟩ := dsz_raw I db
  exact eq_raw h1 h3 h2 h4 hu hz ⟨.bl (es.size == es'.size), H, I, rfl, q⟩
theorem or_dne (hu : X.A.units < cLine) : OpR X (compareOp .NotEq) (rDq true) := by
  intro pins s σ H x y v u Q I rx ry h
  obtain ⟨a, b, n, m, rfl, rfl, da, db, hz, q⟩ := h
  cases rx
  cases ry
  obtain ⟨h1, _, es, ep, h2, rfl⟩ := dsz_raw I da
  obtain ⟨h3, _, es', ep', h4, rfl⟩ := dsz_raw I db
  exact ne_raw h1 h3 h2 h4 hu hz ⟨.bl (!(es.size == es'.size)), H, I, rfl, q⟩
theorem OpR.or {f : Value → Value → Sem Value} {r r' : R2} (h : OpR X f r) (h' : OpR X f r') : OpR X f fun x y H Q => r x y H Q ∨ r' x y H Q := fun pins s σ H x y v u Q I rx ry w =>
  w.elim (h pins s σ H x y v u Q I rx ry) (h' pins s σ H x y v u Q I rx ry)
theorem CallR.or {f : Value} {r r' : List V → Hp → VK → Prop} (h : CallR X f r) (h' : CallR X f r') : CallR X f fun xs H Q => r xs H Q ∨ r' xs H Q := fun pins s σ H xs us Q I rx w =>
  w.elim (h pins s σ H xs us Q I rx) (h' pins s σ H xs us Q I rx)
/-- == of values, dicts too -/
def eqX : Cmp2 := fun u v μ => match u, v with
  | .d (.str x), .d (.str y) => some (decide (x = y))
  | _, _ => match dctAt u μ, dctAt v μ with
    | some (_, d), some (_, d') => if d.len ≠ d'.len ∨ d.len = 0 then some (d.len == d'.len) else none
    | _, _ => eqC u v μ
theorem dd_str {F : Hp} {v : V} {x : Str} (h : Dd F v (.str x)) : v = .str x := by cases h; rfl
theorem dec_str {x y : Str} : decide (V.str x = V.str y) = decide (x = y) := by
  rw [Bool.eq_iff_iff]
  simp
theorem dct_sz {B : Bg} {F H : Hp} {Θ : List Addr} {μ : Mu} {u : U} {v : V} {k : Nat} {d : Dct} (o : Ok B F Θ μ H) (r : RelU F Θ u v) (h : dctAt u μ = some (k, d)) : ∃ a, v = .ref a ∧ DSz H a d.len := by
  obtain ⟨a, rfl, ha, rfl, hK, hT⟩ := dctAt_ok o r h
  refine ⟨a, rfl, ?_⟩
  cases d with
  | K kvs => obtain ⟨_, ws, h1, h2⟩ := hK _ rfl; exact .inl ⟨ws, h1, paired_len h2⟩
  | T kvs => obtain ⟨_, ws, h1, h2⟩ := hT _ rfl; exact .inr ⟨ws, h1, paired_len h2⟩
theorem oc_eqX (hu : X.A.units + 64 < cLine) : OpR X (compareOp .Eq) (rCmp eqX) := OpR.weak (OpR.or op_eq (OpR.or (or_deq (by omega)) (oc_eq hu))) fun x y H Q ⟨B, F, Θ, a, b, μ, c, o, ra, rb, e, q⟩ => by
  unfold eqX at e
  split at e
  · rename_i z z'
    cases e
    cases dd_str ra
    cases dd_str rb
    exact .inl ⟨rfl, by rw [dec_str]; exact q⟩
  refine .inr ?_
  split at e
  · rename_i k d k' d' e1 e2
    split at e
    · rename_i hz
      cases e
      obtain ⟨p, rfl, h1⟩ := dct_sz o ra e1
      obtain ⟨p', rfl, h2⟩ := dct_sz o rb e2
      exact .inl ⟨p, p', _, _, rfl, rfl, h1, h2, hz, q⟩
    · cases e
  · exact .inr ⟨B, F, Θ, a, b, μ, c, o, ra, rb, e, q⟩
theorem oc_neX (hu : X.A.units + 64 < cLine) : OpR X (compareOp .NotEq) (rCmp (negC eqX)) := OpR.weak (OpR.or op_ne (OpR.or (or_dne (by omega)) (oc_ne hu))) fun x y H Q ⟨B, F, Θ, a, b, μ, c, o, ra, rb, e, q⟩ => by
  unfold negC eqX at e
  split at e
  · rename_i z z'
    cases e
    cases dd_str ra
    cases dd_str rb
    exact .inl ⟨rfl, by rw [dec_str]; exact q⟩
  refine .inr ?_
  split at e
  · rename_i k d k' d' e1 e2
    split at e
    · rename_i hz
      cases e
      obtain ⟨p, rfl, h1⟩ := dct_sz o ra e1
      obtain ⟨p', rfl, h2⟩ := dct_sz o rb e2
      exact .inl ⟨p, p', _, _, rfl, rfl, h1, h2, hz, q⟩
    · cases e
  · exact .inr ⟨B, F, Θ, a, b, μ, c, o, ra, rb, e, q⟩
/-- len, of dicts too -/
def lenX : Fn1 := fun u μ => match dctAt u μ with
  | some (_, d) => .ok (.d (.int d.len)) μ
  | none => lenM u μ
theorem cb_lenX : CallR X (.builtin "len") (rFn1 ER E lenX) := CallR.weak (CallR.or (CallR.or call_lenD call_len_dT) (cb_len (ER := ER) (E := E))) fun xs H Q ⟨B, F, Θ, u, v, μ, e0, o, r, q⟩ => by
  subst e0
  unfold lenX at q
  cases e : dctAt u μ with
  | none => rw [e] at q; exact .inr ⟨B, F, Θ, u, v, μ, rfl, o, r, q⟩
  | some kd =>
    obtain ⟨k, d⟩ := kd
    rw [e] at q
    obtain ⟨a, rfl, ha, rfl, hK, hT⟩ := dctAt_ok o r e
    refine .inl ?_
    cases d with
    | K kvs =>
      obtain ⟨_, ws, h1, h2⟩ := hK _ rfl
      refine .inl ⟨a, ws, rfl, h1, ?_⟩
      rw [← paired_len h2]
      exact post_dat o (.int _) q
    | T kvs =>
      obtain ⟨_, ws, h1, h2⟩ := hT _ rfl
      refine .inr ⟨a, ws, rfl, h1, ?_⟩
      rw [← paired_len h2]
      exact post_dat o (.int _) q
end

/-! ### update, where keys are tuples -/
def thI (ns : List Int) : Int := reduceHash (Builtin.Tuple.tupleHashOf (ns.map hashInt))
def intK : List Key → Option (List Int)
  | [] => some []
  | .inl i :: r => (intK r).map (i :: ·)
  | .inr _ :: _ => none
def intKs : List (List Key) → Option (List (List Int))
  | [] => some []
  | k :: r => match intK k, intKs r with
    | some ns, some nss => some (ns :: nss)
    | _, _ => none
/-- keys of ints whose hashes differ -/
def hashOk (ks : List (List Key)) : Bool := match intKs ks with
  | some nss => decide ((nss.map thI).Nodup)
  | none => false
theorem intK_eq : ∀ {k : List Key} {ns : List Int}, intK k = some ns → k = ns.map Sum.inl
  | [], ns, h => by cases h; rfl
  | .inl i :: r, ns, h => by
    unfold intK at h
    cases e : intK r with
    | none => rw [e] at h; cases h
    | some m => rw [e] at h; cases h; rw [intK_eq e]; rfl
  | .inr _ :: _, _, h => by cases h
theorem hash_map {P : Program} {w : World} : ∀ {ks : List (List Key)} {nss : List (List Int)}, intKs ks = some nss → ks.map (tupleKind (mixKind P w)).hash = nss.map thI
  | [], nss, h => by cases h; rfl
  | k :: r, nss, h => by
    unfold intKs at h
    split at h
    · rename_i ns nss' e1 e2
      cases h
      rw [List.map_cons, List.map_cons, hash_map e2, intK_eq e1]
      congr 1
      show reduceHash (Builtin.Tuple.tupleHashOf ((ns.map Sum.inl).map (keyH w))) = thI ns
      rw [List.map_map]
      rfl
    · cases h
def mergeV (kvs more : List (List Key × V)) : List (List Key × V) := more.foldl (fun acc p => putK acc p.1 p.2) kvs
def mergeU (kvs more : List (List Key × U)) : List (List Key × U) := more.foldl (fun acc p => putU acc p.1 p.2) kvs
theorem kt_merge {H : Hp} : ∀ {more : List (List Key × V)} {ms : List (List Key × Addr × Value)} {kvs : List (List Key × V)} {xs : List (List Key × Addr × Value)}, KT H kvs xs → KT H more ms → KT H (mergeV kvs more) (storedAllH xs ms)
  | _, _, _, _, r, .nil => r
  | p :: more, q :: ms, _, _, r, .cons h t => by
    show KT H (mergeV (putK _ p.1 p.2) more) (storedAllH (storedH _ q.1 q.2.1 q.2.2) ms)
    refine kt_merge ?_ t
    rw [← h.1]
    exact r.put p.1 h.2.1 h.2.2
theorem merge_rel {F : Hp} {Θ : List Addr} : ∀ {more : List (List Key × U)} {ms : List (List Key × V)} {kvs : List (List Key × U)} {xs : List (List Key × V)}, RelKV F Θ kvs xs → RelKV F Θ more ms → RelKV F Θ (mergeU kvs more) (mergeV xs ms)
  | _, _, _, _, r, .nil => r
  | p :: more, q :: ms, _, _, r, .cons h t => by
    show RelKV F Θ (mergeU (putU _ p.1 p.2) more) (mergeV (putK _ q.1 q.2) ms)
    refine merge_rel ?_ t
    rw [← h.1]
    exact relKV_put r p.1 h.2
theorem merge_len (kvs : List (List Key × V)) : ∀ more : List (List Key × V), (mergeV kvs more).length ≤ kvs.length + more.length := by
  intro more
  induction more generalizing kvs with
  | nil => exact Nat.le_refl _
  | cons p r ih =>
    have h := ih (putK kvs p.1 p.2)
    have h2 : (putK kvs p.1 p.2).length ≤ kvs.length + 1 := by
      unfold putK
      split
      · rw [List.length_map]; omega
      · rw [List.length_append]; exact Nat.le_refl _
    show (mergeV (putK kvs p.1 p.2) r).length ≤ _
    simp only [List.length_cons]
    omega
theorem kt_keys {H : Hp} {kvs : List (List Key × V)} {xs : List (List Key × Addr × Value)} (r : KT H kvs xs) : xs.map (·.1) = kvs.map (·.1) := by
  induction r with
  | nil => rfl
  | cons h t ih => rw [List.map_cons, List.map_cons, ih, h.1]
def rUpdT : V → List V → Hp → VK → Prop := fun x xs H Q => ∃ (a b : Addr) (kvs more : List (List Key × V)), x = .ref a ∧ xs = [.ref b] ∧ a ≠ b ∧ H a = some (.dT kvs) ∧ H b = some (.dT more) ∧ kvs.length + more.length ≤ sizeLine ∧
  (kvs ≠ [] ∨ hashOk (more.map (·.1)) = true) ∧ Q .non (upd H a (.dT (mergeV kvs more)))
section
variable {X : Cx} {ER : ExR} {E : XK}
theorem mt_updT (hu : X.A.units + 1 < cLine) : MtR X "dict.update" rUpdT := by
  intro pins s σ H x xs v us Q I rx rxs h
  obtain ⟨a, b, kvs, more, rfl, rfl, hab, ha, hb, hl, hh, q⟩ := h
  cases rx
  obtain ⟨u, rfl, ru⟩ := vals1 rxs
  cases ru
  obtain ⟨z1, s1, xs, rel1, d1⟩ := dt_of I.hok ha
  obtain ⟨z2, s2, ys, rel2, d2⟩ := dt_of I.hok hb
  have l1 : kvs.length = xs.length := Paired.length rel1
  have l2 : more.length = ys.length := Paired.length rel2
  refine call_update_dictH (tupleKind_room_in1 hu) hab s2 d1 d2 ?_ (by omega) fun h' e1 e2 sb => ?_
  · rcases hh with hh | hh
    · left
      rintro rfl
      apply hh
      exact List.eq_nil_of_length_eq_zero (by simpa using l1)
    · right
      refine ⟨fun y hy => ?_, ?_⟩
      · obtain ⟨_, _, _, _, _, _, _, hk, _⟩ := d2
        exact (hk y hy).typeIs
      · unfold hashOk at hh
        cases e : intKs (more.map (·.1)) with
        | none => rw [e] at hh; cases hh
        | some nss =>
          rw [e] at hh
          have hm := hash_map (P := X.prog) (w := X.w) e
          rw [← kt_keys rel2, List.map_map] at hm
          show (ys.map ((tupleKind (mixKind X.prog X.w)).hash ∘ (·.1))).Nodup
          rw [hm]
          exact of_decide_eq_true hh
  · obtain ⟨o, es, ep, hq, h2, h3, h4, _, h5⟩ := e1
    have I2 : Inv X pins σ (upd H a (.dT (mergeV kvs more))) { s with heap := h', toks := s.toks } :=
      d_write I (by rw [ha]; exact True.intro) sb ⟨o, hq⟩ ⟨Nat.le_trans (merge_len kvs more) hl, s1, _, (kt_merge rel1 rel2).keeps (fun c zs ec => by rw [upd_ne (ne_of ec ha (fun z => nomatch z))]; exact ec), o, es, ep, hq, h2, h3, h4, h5⟩
    exact ⟨.non, _, I2, rfl, q⟩
def updM : Fn2 := fun u w μ => match dctAt u μ, dctAt w μ with
  | some (k, .T kvs), some (j, .T more) => if k ≠ j ∧ kvs.length + more.length ≤ lim ∧ ((kvs.isEmpty = false) ∨ hashOk (more.map (·.1)) = true) then .ok (.d .none) (μ.set k (.dT (mergeU kvs more))) else .stuck
  | _, _ => .stuck
theorem rel_keys {F : Hp} {Θ : List Addr} {kvs : List (List Key × U)} {ws : List (List Key × V)} (r : RelKV F Θ kvs ws) : ws.map (·.1) = kvs.map (·.1) := by
  induction r with
  | nil => rfl
  | cons h t ih => rw [List.map_cons, List.map_cons, ih, h.1]
theorem ok_upd : Mok1 ER E rUpdT updM := fun B F Θ μ H u w x y Q o ru rw' q => by
  unfold updM at q
  split at q
  · rename_i k kvs j more e1 e2
    split at q
    · rename_i hc
      obtain ⟨a, rfl, ha, rfl, _, hT⟩ := dctAt_ok o ru e1
      obtain ⟨b, rfl, hb, rfl, _, hT'⟩ := dctAt_ok o rw' e2
      obtain ⟨m1, ws, h1, r1⟩ := hT _ rfl
      obtain ⟨m2, zs, h2, r2⟩ := hT' _ rfl
      have hne : a ≠ b := by
        rintro rfl
        exact hc.1 (o.inj k j a _ _ ha hb m1 m2 rfl rfl)
      refine ⟨a, b, ws, zs, rfl, rfl, hne, h1, h2, by rw [← paired_len r1, ← paired_len r2, ← lim_eq]; exact hc.2.1, ?_, ?_⟩
      · rcases hc.2.2 with h | h
        · left
          rintro rfl
          cases r1
          cases h
        · right; rw [rel_keys r2]; exact h
      · exact q F Θ _ _ (Ext.refl _ _) (o.write m1 ha rfl ⟨(o.cell k _ a m1 ha).1, _, upd_same, merge_rel r1 r2⟩) .non
    · exact q.elim
  · exact q.elim

/-! ### list(d.values()) -/
def viewV (p d : Addr) : HO := .ext fun h => h.IsValuesView p d
def rVls : V → List V → Hp → VK → Prop := fun x xs H Q => ∃ (a : Addr) (vs : List V), x = .ref a ∧ xs = [] ∧ DVl H a vs ∧ ∀ p, H p = none → Q (.ref p) (upd H p (viewV p a))
theorem mt_vls : MtR X "dict.values" rVls := by
  intro pins s σ H x xs v us Q I rx rxs h
  obtain ⟨a, vs, rfl, rfl, hd, q⟩ := h
  cases rx
  cases rxs
  obtain ⟨hs, _, es, ep, raw, _, _⟩ := dvl_raw I hd
  refine call_meetsIn F.slot_dict_values raw.typeIs F.entry_dict_values (F.args_dict_values_1 _)
    (S := fun _ R s' => s'.TypeIs (.ref a) "dict" ∧ R (.ok (.ret (.ref s'.heap.objs.size))) { s' with heap := s'.heap.push { cls := .type "dict_values", data := .fields #[.ref a] } })
    (MeetsIn.of_wp fun A R s' ⟨ty, hR⟩ => ?_) ?_
  · refine wpAny_bind ?_
    unfold Builtin.Dict.noArgs
    refine wpAny_bind (wpAny_notOrdered_dict ty ?_)
    show wpAny _ _ (pure a) _ _ s'
    refine wpAny_pure ?_
    show wpAny _ _ (Builtin.Dict.showsAll a >>= _) _ _ s'
    unfold Builtin.Dict.showsAll
    rw [if_neg (by rw [hs]; exact Bool.false_ne_true)]
    exact wpAny_bind (wpAny_pure (wpAny_bind (wpAny_newObj_type (wpAny_pure ⟨_, rfl, hR⟩))))
  · have hf : H s.heap.objs.size = none := I.hok.fresh (Nat.le_refl _)
    refine ⟨raw.typeIs, ?_⟩
    have e := Heap.get?_push_size s.heap (o := { cls := .type "dict_values", data := .fields #[.ref a] }) rfl
    exact ⟨.ref s.heap.objs.size, upd H s.heap.objs.size (viewV s.heap.objs.size a), I.laid (t' := s.toks) (fun b u e => Heap.get?_push_of_some _ e) (Nat.le_refl _)
      ⟨⟨_, e, rfl, rfl⟩, ⟨_, e⟩, fun h1 h2 x k => let ⟨o, ho, r⟩ := x; ⟨o, k o ho, r⟩⟩, rfl, q _ hf⟩
def rLvs : List V → Hp → VK → Prop := fun xs H Q => ∃ (p a : Addr) (vs : List V), xs = [.ref p] ∧ H p = some (viewV p a) ∧ DVl H a vs ∧ ∀ q, H q = none → Q (.ref q) (upd H q (.lst vs))
theorem cr_lvs (hc : X.calm = true) : CallR X (.type "list") rLvs := by
  intro pins s σ H xs us Q I r h
  obtain ⟨p, a, vs, rfl, hp, hd, q⟩ := h
  obtain ⟨u, rfl, ru⟩ := vals1 r
  cases ru
  obtain ⟨hs, hz, es, ep, raw, hl, rv⟩ := dvl_raw I hd
  have view : s.heap.IsValuesView p a := (show ObjOk X.prog X.w H s.heap p (viewV p a) from I.hok p _ hp).1
  refine PySem.W.kdl_call KdlSrc.rawValues (I.ok.hd hc) ⟨view, raw⟩ (by rw [hl]; exact hz) fun h' tk acc c hk hD hacc => ?_
  have hf : H s.heap.objs.size = none := I.hok.fresh (Nat.le_refl _)
  refine ⟨.ref s.heap.objs.size, upd H s.heap.objs.size (.lst vs), I.laid (t' := tk) hk (Nat.le_refl _) ⟨hz, acc.toList, c, ?_, by rw [hD, Array.toArray_toList]⟩, rfl, q _ hf⟩
  have hlen : vs.length = acc.toList.length := by
    have h1 := hacc.1
    have h2 : acc.toList.length = acc.size := Array.length_toList
    omega
  refine vals_at hlen fun j x u e1 e2 => ?_
  obtain ⟨hi, rfl⟩ := hacc.2 j u (by rw [← Array.getElem?_toList]; exact e2)
  obtain ⟨w, e3, rw'⟩ := rv.get e1
  rw [List.getElem?_map, Array.getElem?_toList, Array.getElem?_eq_getElem hi] at e3
  cases e3
  exact rw'
end

section
variable {ER : ExR} {CX : CXT} {Γ : Ctx} {E : XK} {X : Cx} {a b : Expr} {fa fb : DE} {pos p p2 pos2 apos : Pos}
theorem ty_dict {B : Bg} {F H : Hp} {Θ : List Addr} {μ : Mu} {u : U} {v : V} {K : PySem.W.Frag} (o : Ok B F Θ μ H) (r : RelU F Θ u v) (h : isD u μ = true) : tyV K "dict" v H := by
  unfold isD at h
  obtain ⟨kd, e⟩ := Option.isSome_iff_exists.mp h
  obtain ⟨k, d⟩ := kd
  obtain ⟨a, rfl, ha, rfl, hK, hT⟩ := dctAt_ok o r e
  refine .inr (.inr (.inl ⟨rfl, ?_⟩))
  cases d with
  | K kvs => obtain ⟨_, ws, h1, _⟩ := hK _ rfl; exact .inl ⟨ws, h1⟩
  | T kvs => obtain ⟨_, ws, h1, _⟩ := hT _ rfl; exact .inr ⟨ws, h1⟩
theorem r_dictM1 {nm : Str} {id : String} {r : V → List V → Hp → VK → Prop} {g : Fn2} (slot : Slot "dict" nm id) (hty : typeOf (.builtin id) = pure (.type "method_descriptor")) (hm : MtR X id r) (hr : Mok1 ER E r g)
    (ha : DenE ER E X a fa) (hb : DenE ER E X b fb) (hbase : attributeBase a nm X.env (eval a X.env) = eval a X.env) (hline : (apos.endLine == pos.line) = true) (hs : starEach [b] X.env = (false, eval b X.env) :: starEach [] X.env) :
    DenE ER E X (.Call (.Attribute a nm apos) [b] [] pos) (methD isD fa fb g) := by
  refine PE.weak (pe_bm F.plainAttrs_dict slot hty hm ha (pa_cons hb pa_nil hs) hbase (by rw [hs]; rfl) hline hs rfl) fun σ H Q ⟨B, F, Θ, ρ, μ, hK, at', q⟩ => te_in hK at' q fun u μ1 F1 Θ1 H1 v x1 at1 r1 q1 => ?_
  split at q1
  · rename_i h
    exact ⟨ty_dict at1.o r1 h, te_in hK at1 q1 fun w μ2 F2 Θ2 H2 z x2 at2 r2 q2 => hr _ _ _ _ _ _ _ _ _ _ at2.o (r1.mono x2) r2 q2⟩
  · exact q1.elim
/-- the values of a dict, as a list -/
def lvsM (m : Bool) : Fn1 := fun u μ => match dctAt u μ with
  | some (_, .K kvs) => mkL m (kvs.map (·.2)) μ
  | some (_, .T kvs) => mkL m (kvs.map (·.2)) μ
  | none => .stuck
theorem rel_snd {κ : Type} {F : Hp} {Θ : List Addr} {kvs : List (κ × U)} {ws : List (κ × V)} (r : RelKV F Θ kvs ws) : RelL F Θ (kvs.map (·.2)) (ws.map (·.2)) := by
  induction r with
  | nil => exact .nil
  | cons h t ih => exact .cons h.2 ih
theorem r_lvs (m : Bool) (hc : X.calm = true) (hg : Gl X "list") (hm : X.mg "list" = none) (ha : DenE ER E X a fa) (hbase : attributeBase a "values" X.env (eval a X.env) = eval a X.env) (hline : (apos.endLine == pos2.line) = true) :
    DenE ER E X (.Call (.Name "list" p) [.Call (.Attribute a "values" apos) [] [] pos2] [] pos) (fn1 (lvsM m) fa) := by
  refine PE.weak (pe_callTy (cr_lvs hc) hg hm (by decide +kernel) (pa_cons (pe_bm0 F.plainAttrs_dict F.slot_dict_values F.type_dict_values mt_vls ha hbase hline) pa_nil rfl) (by decide) (by decide) rfl rfl) fun σ H Q ⟨B, F, Θ, ρ, μ, hK, at', q⟩ => te_in hK at' q fun u μ1 F1 Θ1 H1 v x1 at1 r1 q1 => ?_
  have isd : isD u μ1 = true := by
    unfold lvsM at q1
    unfold isD
    cases e : dctAt u μ1 with
    | none => rw [e] at q1; exact q1.elim
    | some _ => rfl
  have key : ∃ (c : Addr) (us : List U) (vs : List V), v = .ref c ∧ DVl H1 c vs ∧ RelL F1 Θ1 us vs ∧ PostE B ER E F1 Θ1 Q (mkL m us μ1) := by
    unfold lvsM at q1
    cases e : dctAt u μ1 with
    | none => rw [e] at q1; exact q1.elim
    | some kd =>
      obtain ⟨k, d⟩ := kd
      rw [e] at q1
      obtain ⟨c, rfl, hc', rfl, hK', hT'⟩ := dctAt_ok at1.o r1 e
      cases d with
      | K kvs => obtain ⟨_, ws, h1, h2⟩ := hK' _ rfl; exact ⟨c, _, _, rfl, .inl ⟨ws, h1, rfl⟩, rel_snd h2, q1⟩
      | T kvs => obtain ⟨_, ws, h1, h2⟩ := hT' _ rfl; exact ⟨c, _, _, rfl, .inr ⟨ws, h1, rfl⟩, rel_snd h2, q1⟩
  obtain ⟨c, us, vs, rfl, hd, rl, q2⟩ := key
  refine ⟨ty_dict at1.o r1 isd, c, vs, rfl, rfl, hd, fun p hp => ?_⟩
  have hcp : c ≠ p := by
    rintro rfl
    rcases hd with ⟨_, e, _⟩ | ⟨_, e, _⟩ <;> (rw [hp] at e; cases e)
  have hd' : DVl (upd H1 p (viewV p c)) c vs := by
    rcases hd with ⟨kvs, e, h⟩ | ⟨kvs, e, h⟩
    · exact .inl ⟨kvs, by rw [upd_ne hcp]; exact e, h⟩
    · exact .inr ⟨kvs, by rw [upd_ne hcp]; exact e, h⟩
  exact ⟨p, c, vs, rfl, upd_same, hd', (mkL_ok (at1.o.extra hp) rl q2).2⟩
end
end Vm
set_option Elab.async false
set_option linter.all false
set_option maxRecDepth 100000
set_option maxHeartbeats 1000000
/-! Vm, part L: what a text does, read off the text. -/
namespace Vm
open PySem PySem.Spec PyProof.Rows L2

/-! ### names -/
def visB (sc : Scope) (x : Str) : Bool := match sc.names.lookup x with
  | some .local => true
  | some .cell => true
  | some .free => true
  | _ => false
def globB (sc : Scope) (x : Str) : Bool := match sc.names.lookup x with
  | some .globalImplicit => true
  | _ => false
def slot (N : List Str) (x : Str) : Option Nat := N.findIdx? fun y => decide (y = x)
theorem slot_at {N : List Str} {x : Str} {i : Nat} (h : slot N x = some i) : N[i]? = some x := by
  unfold slot at h
  rw [List.findIdx?_eq_some_iff_getElem] at h
  obtain ⟨h1, h2, _⟩ := h
  rw [List.getElem?_eq_getElem h1, of_decide_eq_true h2]
theorem vis_of {sc : Scope} {x : Str} (h : visB sc x = true) : Vis sc x := by
  unfold visB at h
  split at h
  · rename_i e; exact .inl e
  · rename_i e; exact .inr (.inl e)
  · rename_i e; exact .inr (.inr e)
  · cases h
theorem gl_of {ER : ExR} {CX : CXT} {Γ : Ctx} {E : XK} {X : Cx} (ok : CxOk ER CX Γ E X) {x : Str} (h : globB Γ.sc x = true) : Gl X x := by
  unfold globB at h
  show X.env.kindOf x = _
  unfold Env.kindOf
  rw [ok.sc]
  split at h
  · rename_i e; exact e
  · cases h
def dbgB (x : Str) : Bool := (x == ("__debug__" : Str)) || (x == ("__classdict__" : Str))

def o1 {α β : Type} (f : α → β) (a : Option α) : Option β := match a with
  | some x => some (f x)
  | none => none
def o2 {α β γ : Type} (f : α → β → γ) (a : Option α) (b : Option β) : Option γ := match a with
  | some x => match b with
    | some y => some (f x y)
    | none => none
  | none => none
def o3 {α β γ δ : Type} (f : α → β → γ → δ) (a : Option α) (b : Option β) (c : Option γ) : Option δ := match a with
  | some x => o2 (f x) b c
  | none => none
def og {α : Type} (c : Bool) (a : Option α) : Option α := match c with
  | true => a
  | false => none
theorem o1_inv {α β : Type} {f : α → β} {a : Option α} {z : β} (h : o1 f a = some z) : ∃ x, a = some x ∧ z = f x := by
  cases a with
  | none => cases h
  | some x => cases h; exact ⟨x, rfl, rfl⟩
theorem o2_inv {α β γ : Type} {f : α → β → γ} {a : Option α} {b : Option β} {z : γ} (h : o2 f a b = some z) : ∃ x y, a = some x ∧ b = some y ∧ z = f x y := by
  cases a with
  | none => cases h
  | some x => cases b with
    | none => cases h
    | some y => cases h; exact ⟨x, y, rfl, rfl, rfl⟩
theorem o3_inv {α β γ δ : Type} {f : α → β → γ → δ} {a : Option α} {b : Option β} {c : Option γ} {z : δ} (h : o3 f a b c = some z) : ∃ x y w, a = some x ∧ b = some y ∧ c = some w ∧ z = f x y w := by
  cases a with
  | none => cases h
  | some x => obtain ⟨y, w, h1, h2, h3⟩ := o2_inv h; exact ⟨x, y, w, rfl, h1, h2, h3⟩
theorem og_inv {α : Type} {c : Bool} {a : Option α} {z : α} (h : og c a = some z) : c = true ∧ a = some z := by
  cases c with
  | false => cases h
  | true => exact ⟨rfl, h⟩

/-! ### tables -/
def binOf (m : Bool) : Operator → Option Op2
  | .Add => some (addM m)
  | .Sub => some subM
  | .Mult => some (mulM m)
  | .FloorDiv => some fdivM
  | .Mod => some modM
  | .Pow => some powM
  | _ => none
def cmpOf : CmpOp → Option Cmp2
  | .Eq => some eqX
  | .NotEq => some (negC eqX)
  | .Lt => some (intC fun i j => decide (i < j))
  | .LtE => some (intC fun i j => decide (i ≤ j))
  | .Gt => some (intC fun i j => decide (j < i))
  | .GtE => some (intC fun i j => decide (j ≤ i))
  | .Is => some isNC
  | .IsNot => some (negC isNC)
  | _ => none
def hasOf : CmpOp → Option Bool
  | .In => some false
  | .NotIn => some true
  | _ => none
def b1B (m : Bool) (x : Str) : Option (String × Fn1) :=
  if x = "len" then some ("len", lenX) else if x = "abs" then some ("abs", absM) else if x = "sum" then some ("sum", sumM) else if x = "all" then some ("all", allM) else
  if x = "any" then some ("any", anyM) else if x = "max" then some ("max", maxM) else if x = "min" then some ("min", minM) else if x = "repr" then some ("repr", reprM) else none
def b1T (m : Bool) (x : Str) : Option (String × Fn1) :=
  if x = "int" then some ("int", intM) else if x = "tuple" then some ("tuple", tupleM) else if x = "list" then some ("list", listM m) else none
def m0L (x : Str) : Option Fn1 := if x = "pop" then some popM else none
def m1L (x : Str) : Option ((U → Mu → Bool) × Fn2) := if x = "append" then some (isL, appendM) else if x = "extend" then some (isL, extendM) else if x = "pop" then some (isL, popAtM) else if x = "update" then some (isD, updM) else none
section
variable {ER : ExR} {CX : CXT} {Γ : Ctx} {E : XK} {X : Cx}
theorem binOf_ok {m : Bool} {op : Operator} {g : Op2} (h : binOf m op = some g) : OpR X (binaryOp op) (rOp2 ER E g) := by
  cases op <;> first
    | (cases h; exact or_add m)
    | (cases h; exact or_sub)
    | (cases h; exact or_mul m)
    | (cases h; exact or_fdiv)
    | (cases h; exact or_mod)
    | (cases h; exact or_pow)
    | (cases h; done)
theorem cmpOf_ok (hu : X.A.units + 66 < cLine) {op : CmpOp} {g : Cmp2} (h : cmpOf op = some g) : OpR X (compareOp op) (rCmp g) := by
  cases op <;> first
    | (cases h; exact oc_eqX (by omega))
    | (cases h; exact oc_neX (by omega))
    | (cases h; exact oc_lt)
    | (cases h; exact oc_le)
    | (cases h; exact oc_gt)
    | (cases h; exact oc_ge)
    | (cases h; exact oc_is)
    | (cases h; exact oc_isnot)
    | (cases h; done)
theorem b1B_ok (ok : CxOk ER CX Γ E X) {m : Bool} {x : Str} {id : String} {g : Fn1} (h : b1B m x = some (id, g)) : CallR X (.builtin id) (rFn1 ER E g) ∧ X.mg x = none ∧ bootBuiltins x = some (.builtin id) ∧ x ≠ "__name__" ∧ (x == ("__debug__" : Str)) = false := by
  unfold b1B at h
  repeat' split at h
  · rename_i e; subst e; cases h; exact ⟨cb_lenX, ok.mg _ (by decide), by decide +kernel, by decide, by decide⟩
  · rename_i e; subst e; cases h; exact ⟨cb_abs, ok.mg _ (by decide), by decide +kernel, by decide, by decide⟩
  · rename_i e; subst e; cases h; exact ⟨cb_sum ok.calm, ok.mg _ (by decide), by decide +kernel, by decide, by decide⟩
  · rename_i e; subst e; cases h; exact ⟨cb_all ok.calm, ok.mg _ (by decide), by decide +kernel, by decide, by decide⟩
  · rename_i e; subst e; cases h; exact ⟨cb_any ok.calm, ok.mg _ (by decide), by decide +kernel, by decide, by decide⟩
  · rename_i e; subst e; cases h; exact ⟨cb_max ok.calm, ok.mg _ (by decide), by decide +kernel, by decide, by decide⟩
  · rename_i e; subst e; cases h; exact ⟨cb_min ok.calm, ok.mg _ (by decide), by decide +kernel, by decide, by decide⟩
  · rename_i e; subst e; cases h; exact ⟨cb_repr ok.gd (by have := ok.un; omega), ok.mg _ (by decide), by decide +kernel, by decide, by decide⟩
  · cases h
theorem b1T_ok (ok : CxOk ER CX Γ E X) {m : Bool} {x : Str} {id : String} {g : Fn1} (h : b1T m x = some (id, g)) : CallR X (.type id) (rFn1 ER E g) ∧ X.mg x = none ∧ bootBuiltins x = some (.type id) ∧ x ≠ "__name__" ∧ (x == ("__debug__" : Str)) = false := by
  unfold b1T at h
  repeat' split at h
  · rename_i e; subst e; cases h; exact ⟨cb_int, ok.mg _ (by decide), by decide +kernel, by decide, by decide⟩
  · rename_i e; subst e; cases h; exact ⟨cb_tuple, ok.mg _ (by decide), by decide +kernel, by decide, by decide⟩
  · rename_i e; subst e; cases h; exact ⟨cb_list m, ok.mg _ (by decide), by decide +kernel, by decide, by decide⟩
  · cases h
theorem m0L_ok {x : Str} {g : Fn1} (h : m0L x = some g) {a : Expr} {fa : DE} {apos pos : Pos} (ha : DenE ER E X a fa) (hbase : attributeBase a x X.env (eval a X.env) = eval a X.env) (hline : (apos.endLine == pos.line) = true) :
    DenE ER E X (.Call (.Attribute a x apos) [] [] pos) (meth0 isL fa g) := by
  unfold m0L at h
  repeat' split at h
  · rename_i e; subst e; cases h; exact r_listM0 PySem.F.slot_list_pop PySem.F.type_list_pop mt_pop ok_pop ha hbase hline
  · cases h
theorem m1L_ok (hu : X.A.units + 1 < cLine) {x : Str} {g : (U → Mu → Bool) × Fn2} (h : m1L x = some g) {a b : Expr} {fa fb : DE} {apos pos : Pos} (ha : DenE ER E X a fa) (hb : DenE ER E X b fb) (hbase : attributeBase a x X.env (eval a X.env) = eval a X.env) (hline : (apos.endLine == pos.line) = true)
    (hs : starEach [b] X.env = (false, eval b X.env) :: starEach [] X.env) : DenE ER E X (.Call (.Attribute a x apos) [b] [] pos) (methD g.1 fa fb g.2) := by
  unfold m1L at h
  repeat' split at h
  · rename_i e; subst e; cases h; exact r_listM1 PySem.F.slot_list_append PySem.F.type_list_append mt_append ok_append ha hb hbase hline hs
  · rename_i e; subst e; cases h; exact r_listM1 PySem.F.slot_list_extend PySem.F.type_list_extend mt_extend ok_extend ha hb hbase hline hs
  · rename_i e; subst e; cases h; exact r_listM1 PySem.F.slot_list_pop PySem.F.type_list_pop mt_popAt ok_popAt ha hb hbase hline hs
  · rename_i e; subst e; cases h; exact r_dictM1 PySem.F.slot_dict_update PySem.F.type_dict_update (mt_updT hu) ok_upd ha hb hbase hline hs
  · cases h
end

/-! ### the forms of the text -/
def isSlice : Expr → Bool
  | .Slice .. => true
  | _ => false
def isComp : Expr → Bool
  | .ListComp .. => true
  | .SetComp .. => true
  | .DictComp .. => true
  | _ => false
/-- [::-1] -/
def isRev (e : Expr) : Bool := match e with
  | .Slice none none (some (.UnaryOp .USub (.Constant (.int 1) _ _) _)) _ => true
  | _ => false
/-- an object whose method is called -/
def objB : Expr → Bool
  | .Name .. => true
  | .Subscript .. => true
  | .Attribute .. => true
  | .Call _ (_ :: _) _ _ => true
  | _ => false
/-- its truth is asked by its value alone -/
def plainT : Expr → Bool
  | .Name .. => true
  | .Call .. => true
  | .Constant .. => true
  | .Subscript .. => true
  | _ => false
def tgOf (N : List Str) : Expr → Option Tg
  | .Name x _ => o1 Tg.nm (slot N x)
  | .Tuple es _ _ => o1 Tg.tp (es.foldr (fun e r => match e with
    | .Name x _ => o2 (· :: ·) (slot N x) r
    | _ => none) (some []))
  | _ => none
def ownOf (N : List Str) (scope : Scope) : List (Str × Nat) := scope.names.filterMap fun nk => match nk.2 with
  | .local => o1 (fun i => (nk.1, i)) (slot N nk.1)
  | .cell => o1 (fun i => (nk.1, i)) (slot N nk.1)
  | _ => none
/-- a comprehension's block: its names, where they stand -/
def blkB (Γ : Ctx) (scope : Scope) (tg : Expr) (t : Tg) : Bool := blkC Γ.N Γ.sc scope (ownOf Γ.N scope) && t.own.all (fun i => ((ownOf Γ.N scope).map (·.2)).contains i) && (match tg with
  | .Name x _ => (Γ.blk scope).asg x
  | .Tuple es _ _ => es.all fun e => match e with
    | .Name x _ => (Γ.blk scope).asg x
    | _ => false
  | _ => false)
def kwNames (kws : List Keyword) : List (Option Str) := kws.map (·.arg)

mutual
def den (Γ : Ctx) : Nat → Bool → Expr → Option DE
  | 0, _, _ => none
  | n + 1, m, e => match e with
    | .Name x _ => og (!dbgB x) (if visB Γ.sc x then o1 varD (slot Γ.N x) else og (globB Γ.sc x) (o1 conD (Γ.cs.lookup x)))
    | .Constant c _ _ => (match c with
      | .int i => some (conD (.int i))
      | .bool b => some (conD (.bool b))
      | .str s => some (conD (.str s))
      | .none => some (conD .none)
      | _ => none)
    | .Tuple es _ _ => o1 tupD (denL Γ n false es)
    | .List es _ => o1 (lstD m) (denL Γ n m es)
    | .BinOp a op b _ => o3 bin2 (binOf m op) (den Γ n false a) (den Γ n false b)
    | .UnaryOp op a _ => (match op with
      | .USub => o1 (fn1 negM) (den Γ n false a)
      | .Not => o1 (fun f => boolD (notD (valB f))) (den Γ n false a)
      | _ => none)
    | .BoolOp op es _ => denV Γ n op es
    | .Compare l ops rs _ => o1 boolD (denC Γ n l ops rs)
    | .IfExp c a b _ => o3 ifD (denT Γ n c) (den Γ n m a) (den Γ n m b)
    | .Subscript a s _ => (match s with
      | .Slice lo hi st _ => (match st with
        | none => o3 (sliceD m) (den Γ n false a) (denO Γ n lo) (denO Γ n hi)
        | some _ => og (isRev s) (o1 (fn1 (revM m)) (den Γ n false a)))
      | _ => o2 (bin2 subsM) (den Γ n false a) (den Γ n false s))
    | .ListComp elt gens scope _ => (match gens with
      | [⟨tg, iter, ifs, 0⟩] => (match tgOf Γ.N tg with
        | some t => og (blkB Γ scope tg t) (o3 (fun i c e => lcD m ((ownOf Γ.N scope).map (·.2)) i t.dg c e) (denI Γ n tg iter) (denF (Γ.blk scope) n ifs) (den (Γ.blk scope) n false elt))
        | none => none)
      | _ => none)
    | .Dict ks vs pos => (match ks, vs with
      | [], [] => some (if Γ.dT.contains pos.line then newTD else newKD)
      | _, _ => none)
    | .Call f as kws _ => (match f with
      | .Name x _ => og (globB Γ.sc x && !dbgB x) (match Γ.fns.lookup x with
        | some F => (match kws with
          | [] => o1 (callD F) (denL Γ n false as)
          | kws => og as.isEmpty (match F.kw.find? (fun q => decide (q.1.map some = kwNames kws)) with
            | some q => o1 (callKD F q) (denK Γ n kws)
            | none => none))
        | none => og kws.isEmpty (match as with
          | [a] => den1 Γ n m x a
          | _ => none))
      | .Attribute o nm apos => og (kws.isEmpty && objB o && (apos.endLine == (e.pos).line)) (match as with
        | [] => o2 (fun fo g => meth0 isL fo g) (den Γ n false o) (m0L nm)
        | [b] => o3 (fun fo fb g => methD g.1 fo fb g.2) (den Γ n false o) (den Γ n false b) (m1L nm)
        | _ => none)
      | _ => none)
    | _ => none
/-- a built-in with one argument -/
def den1 (Γ : Ctx) : Nat → Bool → Str → Expr → Option DE
  | 0, _, _, _ => none
  | n + 1, m, x, a => match (match a with
      | .Call (.Name y _) as [] _ => if y = "range" ∧ globB Γ.sc y = true ∧ (Γ.fns.lookup y).isNone = true ∧ (x = "list" ∨ x = "tuple") then (match as with
          | [b] => some (o1 (fun f => if x = "list" then lrg1 m f else trg1 f) (den Γ n false b))
          | [b, c] => some (o2 (fun f g => if x = "list" then lrg2 m f g else trg2 f g) (den Γ n false b) (den Γ n false c))
          | _ => none) else none
      | .Call (.Attribute o nm apos) [] [] pos2 => if x = "list" ∧ nm = "values" ∧ objB o = true ∧ (apos.endLine == pos2.line) = true then some (o1 (fn1 (lvsM m)) (den Γ n false o)) else none
      | _ => none) with
    | some r => r
    | none => match b1B m x with
      | some q => o1 (fn1 q.2) (den Γ n false a)
      | none => match b1T m x with
        | some q => o1 (fn1 q.2) (den Γ n false a)
        | none => none
def denL (Γ : Ctx) : Nat → Bool → List Expr → Option DL
  | 0, _, _ => none
  | n + 1, m, es => match es with
    | [] => some nilL
    | e :: r => o2 consL (den Γ n m e) (denL Γ n m r)
def denK (Γ : Ctx) : Nat → List Keyword → Option DL
  | 0, _ => none
  | n + 1, ks => match ks with
    | [] => some nilL
    | k :: r => o2 consL (den Γ n false k.value) (denK Γ n r)
/-- and, or as values -/
def denV (Γ : Ctx) : Nat → BoolOp → List Expr → Option DE
  | 0, _, _ => none
  | n + 1, op, es => match es with
    | [] => none
    | [e] => den Γ n false e
    | e :: r => (match op with
      | .And => o2 andV (den Γ n false e) (denV Γ n op r)
      | .Or => o2 orV (den Γ n false e) (denV Γ n op r))
def denC (Γ : Ctx) : Nat → Expr → List CmpOp → List Expr → Option DB
  | 0, _, _, _ => none
  | n + 1, l, ops, rs => match ops, rs with
    | [op], [r] => og (!behindInMarks op r) (match hasOf op with
      | some neg => o2 (cmpD (if neg then negC hasC else hasC)) (den Γ n false l) (den Γ n false r)
      | none => o3 cmpD (cmpOf op) (den Γ n false l) (den Γ n false r))
    | [op, op'], [r, s] => og (!lastMarks [op, op'] [r, s]) (o2 (fun gg fl => chainD gg.1 gg.2 fl.1 fl.2.1 fl.2.2) (o2 (·, ·) (cmpOf op) (cmpOf op')) (o3 (·, ·, ·) (den Γ n false l) (den Γ n false r) (den Γ n false s)))
    | _, _ => none
def denT (Γ : Ctx) : Nat → Expr → Option DB
  | 0, _ => none
  | n + 1, e => match e with
    | .BoolOp op es _ => denW Γ n op es
    | .UnaryOp .Not a _ => o1 notD (denT Γ n a)
    | .Compare l ops rs _ => denC Γ n l ops rs
    | e => og (plainT e) (o1 valB (den Γ n false e))
def denW (Γ : Ctx) : Nat → BoolOp → List Expr → Option DB
  | 0, _, _ => none
  | n + 1, op, es => match es with
    | [] => none
    | [e] => denT Γ n e
    | e :: r => (match op with
      | .And => o2 andD (denT Γ n e) (denW Γ n op r)
      | .Or => o2 orD (denT Γ n e) (denW Γ n op r))
def denF (Γ : Ctx) : Nat → List Expr → Option DB
  | 0, _ => none
  | n + 1, es => match es with
    | [] => some yesD
    | [e] => denT Γ n e
    | _ => none
def denO (Γ : Ctx) : Nat → Option Expr → Option (Option DE)
  | 0, _ => none
  | n + 1, e => match e with
    | none => some none
    | some e => o1 some (den Γ n false e)
/-- what is walked -/
def denI (Γ : Ctx) : Nat → Expr → Expr → Option DI
  | 0, _, _ => none
  | n + 1, tg, e => match (match e with
      | .Call (.Name x _) as [] _ => if globB Γ.sc x = true ∧ (Γ.fns.lookup x).isNone = true ∧ x = "range" then (match as with
          | [a] => some (o1 rng1D (den Γ n false a))
          | [a, b] => some (o2 rng2D (den Γ n false a) (den Γ n false b))
          | _ => some none) else none
      | _ => none) with
    | some r => r
    | none => o1 iterD (den Γ n false e)
end
end Vm
set_option Elab.async false
set_option linter.all false
set_option maxRecDepth 100000
set_option maxHeartbeats 1000000
/-! Vm, part M: the reading is sound. -/
namespace Vm
open PySem PySem.Spec PyProof.Rows L2

section
variable {Γ : Ctx} {env : Env}
theorem den_star {n : Nat} {m : Bool} {e : Expr} {f : DE} (h : den Γ n m e = some f) (es : List Expr) : starEach (e :: es) env = (false, eval e env) :: starEach es env := by
  cases n with
  | zero => cases h
  | succ n => cases e with
    | Starred a p => cases h
    | _ => rfl
theorem denL_star {m : Bool} {pos : Pos} : ∀ {es : List Expr} {n : Nat} {f : DL}, denL Γ n m es = some f → (backTo pos (starEach es env)).any (·.1) = false
  | [], _, _, _ => rfl
  | e :: es, 0, _, h => by cases h
  | e :: es, n + 1, f, h => by
    obtain ⟨fa, fl, e1, e2, _⟩ := o2_inv (show o2 consL (den Γ n m e) (denL Γ n m es) = some f from h)
    rw [den_star e1]
    have := denL_star (pos := pos) e2
    unfold backTo at this ⊢
    rw [List.map_cons, List.any_cons, this]
    rfl
theorem denL_hd {m : Bool} {e : Expr} {es : List Expr} {n : Nat} {f : DL} (h : denL Γ n m (e :: es) = some f) : starEach (e :: es) env = (false, eval e env) :: starEach es env := by
  cases n with
  | zero => cases h
  | succ n =>
    obtain ⟨fa, fl, e1, e2, _⟩ := o2_inv (show o2 consL (den Γ n m e) (denL Γ n m es) = some f from h)
    exact den_star e1 _
theorem denL_tl {m : Bool} {pos : Pos} {e : Expr} {es : List Expr} {n : Nat} {f : DL} (h : denL Γ n m (e :: es) = some f) : (backTo pos (starEach es env)).any (·.1) = false := by
  cases n with
  | zero => cases h
  | succ n =>
    obtain ⟨fa, fl, e1, e2, _⟩ := o2_inv (show o2 consL (den Γ n m e) (denL Γ n m es) = some f from h)
    exact denL_star e2
theorem kw_each {pos : Pos} : ∀ (kws : List Keyword), (backToKw pos (keywordEach kws env)).map (·.1) = kwNames kws
  | [] => rfl
  | ⟨nm, vl, kp⟩ :: r => by
    show nm :: _ = nm :: _
    exact congrArg (nm :: ·) (kw_each r)
theorem folded_no {e : Expr} {n : Nat} {m : Bool} {f : DE} (h : den Γ n m e = some f) (x : Value) : foldedSetIterable e env x = pure x := by
  cases n with
  | zero => cases h
  | succ n => cases e with
    | Set es k p => cases h
    | _ => rfl
theorem plain_ok {e : Expr} (h : plainT e = true) (whole : Sem Value) : isTrue e env whole = (do let v ← whole; standAt e.pos; holding [v] (truthy v)) := by
  cases e <;> first | rfl | (cases h; done)
theorem obj_ok {e : Expr} {nm : Str} {whole : Sem Value} (h : objB e = true) : attributeBase e nm env whole = whole := by
  cases e with
  | Call f as ks p => cases as with
    | nil => cases h
    | cons a as => cases f <;> rfl
  | _ => first | rfl | (cases h; done)
theorem sw_no {e : Expr} {t : Option Expr} {l : Nat} (h : isComp e = false) : swapsWith e t l env = pure false := by
  cases e <;> first | rfl | (cases h; done)
theorem isRev_inv {s : Expr} (h : isRev s = true) : ∃ k p1 p2 p3, s = .Slice none none (some (.UnaryOp .USub (.Constant (.int 1) k p1) p2)) p3 := by
  unfold isRev at h
  split at h
  · exact ⟨_, _, _, _, rfl⟩
  · cases h
end

section
variable {ER : ExR} {CX : CXT}
theorem names_of {X : Cx} {Γ : Ctx} {E : XK} (ok : CxOk ER CX Γ E X) (N : List Str) (hN : X.N = N) : ∀ (es : List Expr) (is : List Nat), (es.all fun e => match e with
      | .Name x _ => Γ.asg x
      | _ => false) = true → es.foldr (fun e r => match e with
    | .Name x _ => o2 (· :: ·) (slot N x) r
    | _ => none) (some []) = some is → NamesAt X es is
  | [], is, _, h => by cases h; trivial
  | e :: es, is, ha, h => by
    rw [List.all_cons, Bool.and_eq_true] at ha
    rw [List.foldr_cons] at h
    cases e with
    | Name x p =>
      obtain ⟨i, r, h1, h2, rfl⟩ := o2_inv h
      have := ok.asg x ha.1
      exact ⟨by rw [hN]; exact slot_at h1, this.1, this.2, names_of ok N hN es r ha.2 h2⟩
    | _ => cases h
theorem tgAt_of {X : Cx} {Γ : Ctx} {E : XK} (ok : CxOk ER CX Γ E X) {N : List Str} (hN : X.N = N) {tg : Expr} {t : Tg} (h : tgOf N tg = some t) (ha : (match (generalizing := false) tg with
  | .Name x _ => Γ.asg x
  | .Tuple es _ _ => es.all fun e => match e with
    | .Name x _ => Γ.asg x
    | _ => false
  | _ => false) = true) : TgAt X tg t := by
  cases tg with
  | Name x p =>
    obtain ⟨i, h1, rfl⟩ := o1_inv h
    have := ok.asg x ha
    exact ⟨by rw [hN]; exact slot_at h1, this.1, this.2, trivial⟩
  | Tuple es k p =>
    obtain ⟨is, h1, rfl⟩ := o1_inv h
    exact names_of ok N hN es is ha h1
  | _ => cases h
structure Snd (ER : ExR) (CX : CXT) (n : Nat) : Prop where
  e : ∀ {Γ : Ctx} {E : XK} {X : Cx} (ok : CxOk ER CX Γ E X) {m : Bool} {e : Expr} {f : DE}, den Γ n m e = some f → DenE ER E X e f
  e1 : ∀ {Γ : Ctx} {E : XK} {X : Cx} (ok : CxOk ER CX Γ E X) {m : Bool} {x : Str} {a : Expr} {f : DE} {p pos : Pos}, den1 Γ n m x a = some f → globB Γ.sc x = true → DenE ER E X (.Call (.Name x p) [a] [] pos) f
  l : ∀ {Γ : Ctx} {E : XK} {X : Cx} (ok : CxOk ER CX Γ E X) {m : Bool} {es : List Expr} {f : DL}, denL Γ n m es = some f → DenL ER E X es f
  k : ∀ {Γ : Ctx} {E : XK} {X : Cx} (ok : CxOk ER CX Γ E X) {ks : List Keyword} {f : DL}, denK Γ n ks = some f → PK X ks (TLv X.K ER E f)
  v : ∀ {Γ : Ctx} {E : XK} {X : Cx} (ok : CxOk ER CX Γ E X) {op : BoolOp} {es : List Expr} {f : DE} {pos : Pos}, denV Γ n op es = some f → DenE ER E X (.BoolOp op es pos) f
  c : ∀ {Γ : Ctx} {E : XK} {X : Cx} (ok : CxOk ER CX Γ E X) {l : Expr} {ops : List CmpOp} {rs : List Expr} {f : DB} {pos : Pos}, denC Γ n l ops rs = some f → DenT ER E X (.Compare l ops rs pos) f ∧ DenE ER E X (.Compare l ops rs pos) (boolD f)
  t : ∀ {Γ : Ctx} {E : XK} {X : Cx} (ok : CxOk ER CX Γ E X) {e : Expr} {f : DB}, denT Γ n e = some f → DenT ER E X e f
  w : ∀ {Γ : Ctx} {E : XK} {X : Cx} (ok : CxOk ER CX Γ E X) {op : BoolOp} {es : List Expr} {f : DB} {pos : Pos}, denW Γ n op es = some f → DenW ER E X (.BoolOp op es pos) f
  f : ∀ {Γ : Ctx} {E : XK} {X : Cx} (ok : CxOk ER CX Γ E X) {es : List Expr} {f : DB}, denF Γ n es = some f → DenIfs ER E X es f
  o : ∀ {Γ : Ctx} {E : XK} {X : Cx} (ok : CxOk ER CX Γ E X) {e : Option Expr} {f : Option DE}, denO Γ n e = some f → Opt ER E X e f
  i : ∀ {Γ : Ctx} {E : XK} {X : Cx} (ok : CxOk ER CX Γ E X) {tg e : Expr} {f : DI}, denI Γ n tg e = some f → DenI ER E X tg e f ∧ ∀ x, foldedSetIterable e X.env x = pure x
theorem snd_zero : Snd ER CX 0 := by
  refine ⟨?_, ?_, ?_, ?_, ?_, ?_, ?_, ?_, ?_, ?_, ?_⟩ <;> intros <;> first | (rename_i h; cases h; done) | (rename_i h _; cases h; done)
section
variable {n : Nat} (S : Snd ER CX n) {Γ : Ctx} {E : XK} {X : Cx} (ok : CxOk ER CX Γ E X)
include S ok
theorem snd_lc {m : Bool} {elt tg iter : Expr} {ifs : List Expr} {scope : Scope} {pos : Pos} {t : Tg} {fi : DI} {fc : DB} {fe : DE} (ht : tgOf Γ.N tg = some t) (hb : blkB Γ scope tg t = true) (hi : denI Γ n tg iter = some fi)
    (hc : denF (Γ.blk scope) n ifs = some fc) (he : den (Γ.blk scope) n false elt = some fe) :
    BlkOk X.N X.env.scope scope (ownOf Γ.N scope) ∧ (∀ s H C cl fp, TgAt (X.blk s H scope (compEnvC scope cl C X.env) fp) tg t) ∧ (∀ i ∈ t.own, i ∈ (ownOf Γ.N scope).map (·.2)) ∧
    (∀ s H C cl fp, DenIfs ER E0 (X.blk s H scope (compEnvC scope cl C X.env) fp) ifs fc) ∧ (∀ s H C cl fp, DenE ER E0 (X.blk s H scope (compEnvC scope cl C X.env) fp) elt fe) ∧
    DenI ER E X tg iter fi ∧ ∀ x, foldedSetIterable iter X.env x = pure x := by
  unfold blkB at hb
  rw [Bool.and_eq_true, Bool.and_eq_true] at hb
  obtain ⟨⟨b1, b2⟩, b3⟩ := hb
  refine ⟨by rw [ok.N, ok.sc]; exact blkOk_by b1, fun s H C cl fp => tgAt_of (ok.blk s H scope C cl fp) (show X.N = Γ.N from ok.N) ht b3, fun i hi => ?_, fun s H C cl fp => S.f (ok.blk s H scope C cl fp) hc, fun s H C cl fp => S.e (ok.blk s H scope C cl fp) he, S.i ok hi⟩
  have := List.all_eq_true.mp b2 i hi
  exact List.contains_iff_mem.mp this
theorem snd_e {m : Bool} {e : Expr} {f : DE} (h : den Γ (n + 1) m e = some f) : DenE ER E X e f := by
  have hu : X.A.units + 66 < cLine := ok.un
  cases e with
  | Name x p =>
    have h : og (!dbgB x) (if visB Γ.sc x then o1 varD (slot Γ.N x) else og (globB Γ.sc x) (o1 conD (Γ.cs.lookup x))) = some f := h
    obtain ⟨hd, h⟩ := og_inv h
    have hd : dbgB x = false := by simpa using hd
    unfold dbgB at hd
    rw [Bool.or_eq_false_iff] at hd
    split at h
    · rename_i hv
      obtain ⟨i, h1, rfl⟩ := o1_inv h
      exact r_var (by rw [ok.N]; exact slot_at h1) (by rw [ok.sc]; exact vis_of hv) hd.1 hd.2
    · obtain ⟨hg, h⟩ := og_inv h
      obtain ⟨c, h1, rfl⟩ := o1_inv h
      obtain ⟨u, v, e1, e2, e3⟩ := ok.cs x c h1
      exact r_glob (gl_of ok hg) e1 e2 e3 hd.1
  | Constant c k p =>
    cases c with
    | int i => cases h; exact r_int
    | bool i => cases h; exact r_bool
    | str i => cases h; exact r_str
    | none => cases h; exact r_none
    | _ => cases h
  | Tuple es k p =>
    have h : o1 tupD (denL Γ n false es) = some f := h
    obtain ⟨l, h1, rfl⟩ := o1_inv h
    exact r_tup (S.l ok h1)
  | List es p =>
    have h : o1 (lstD m) (denL Γ n m es) = some f := h
    obtain ⟨l, h1, rfl⟩ := o1_inv h
    exact r_lst m (S.l ok h1)
  | BinOp a op b p =>
    have h : o3 bin2 (binOf m op) (den Γ n false a) (den Γ n false b) = some f := h
    obtain ⟨g, fa, fb, h1, h2, h3, rfl⟩ := o3_inv h
    exact r_bin (binOf_ok h1) (S.e ok h2) (S.e ok h3)
  | UnaryOp op a p =>
    cases op with
    | USub =>
      have h : o1 (fn1 negM) (den Γ n false a) = some f := h
      obtain ⟨fa, h1, rfl⟩ := o1_inv h
      exact r_neg (S.e ok h1)
    | Not =>
      have h : o1 (fun f => boolD (notD (valB f))) (den Γ n false a) = some f := h
      obtain ⟨fa, h1, rfl⟩ := o1_inv h
      exact r_notV (S.e ok h1)
    | _ => cases h
  | BoolOp op es p => exact S.v ok h
  | Compare l ops rs p =>
    have h : o1 boolD (denC Γ n l ops rs) = some f := h
    obtain ⟨fa, h1, rfl⟩ := o1_inv h
    exact (S.c ok h1).2
  | IfExp c a b p =>
    have h : o3 ifD (denT Γ n c) (den Γ n m a) (den Γ n m b) = some f := h
    obtain ⟨fc, fa, fb, h1, h2, h3, rfl⟩ := o3_inv h
    exact r_if (S.t ok h1) (S.e ok h2) (S.e ok h3)
  | Subscript a s p =>
    have h : (match (generalizing := false) s with
      | .Slice lo hi st _ => (match (generalizing := false) st with
        | none => o3 (sliceD m) (den Γ n false a) (denO Γ n lo) (denO Γ n hi)
        | some _ => og (isRev s) (o1 (fn1 (revM m)) (den Γ n false a)))
      | _ => o2 (bin2 subsM) (den Γ n false a) (den Γ n false s)) = some f := h
    split at h
    · split at h
      · obtain ⟨fa, fl, fh, h1, h2, h3, rfl⟩ := o3_inv h
        exact r_slice m (S.e ok h1) (S.o ok h2) (S.o ok h3)
      · obtain ⟨hr, h⟩ := og_inv h
        obtain ⟨fa, h1, rfl⟩ := o1_inv h
        obtain ⟨k, p1, p2, p3, e⟩ := isRev_inv hr
        rw [e]
        exact r_rev m (S.e ok h1)
    · rename_i hs
      obtain ⟨fa, fb, h1, h2, rfl⟩ := o2_inv h
      exact r_sub (by omega) (S.e ok h1) (S.e ok h2) fun l u st q e => hs _ _ _ _ e
  | ListComp elt gens scope p =>
    have h : (match (generalizing := false) gens with
      | [⟨tg, iter, ifs, 0⟩] => (match (generalizing := false) tgOf Γ.N tg with
        | some t => og (blkB Γ scope tg t) (o3 (fun i c e => lcD m ((ownOf Γ.N scope).map (·.2)) i t.dg c e) (denI Γ n tg iter) (denF (Γ.blk scope) n ifs) (den (Γ.blk scope) n false elt))
        | none => none)
      | _ => none) = some f := h
    split at h
    · split at h
      · rename_i t ht
        obtain ⟨hb, h⟩ := og_inv h
        obtain ⟨fi, fc, fe, h1, h2, h3, rfl⟩ := o3_inv h
        obtain ⟨s1, s2, s3, s4, s5, s6, s7⟩ := snd_lc (m := m) (pos := p) S ok ht hb h1 h2 h3
        exact (r_lc m ok s6 s1 s2 s3 s4 s5 s7).1
      · cases h
    · cases h
  | Dict ks vs p =>
    have h : (match (generalizing := false) ks, vs with
      | [], [] => some (if Γ.dT.contains p.line then newTD else newKD)
      | _, _ => none) = some f := h
    split at h
    · cases h
      split
      · exact r_newT
      · exact r_newK
    · cases h
  | Call fn as kws pos =>
    cases fn with
    | Name x p =>
      have h : og (globB Γ.sc x && !dbgB x) (match (generalizing := false) Γ.fns.lookup x with
        | some F => (match (generalizing := false) kws with
          | [] => o1 (callD F) (denL Γ n false as)
          | kws => og as.isEmpty (match (generalizing := false) F.kw.find? (fun q => decide (q.1.map some = kwNames kws)) with
            | some q => o1 (callKD F q) (denK Γ n kws)
            | none => none))
        | none => og kws.isEmpty (match (generalizing := false) as with
          | [a] => den1 Γ n m x a
          | _ => none)) = some f := h
      obtain ⟨hg, h⟩ := og_inv h
      rw [Bool.and_eq_true] at hg
      have hd : dbgB x = false := by simpa using hg.2
      unfold dbgB at hd
      rw [Bool.or_eq_false_iff] at hd
      have gl := gl_of ok hg.1
      split at h
      · rename_i F hF
        split at h
        · obtain ⟨fl, h1, rfl⟩ := o1_inv h
          cases as with
          | nil =>
            cases n with
            | zero => cases h1
            | succ n => cases h1; exact r_callF0 ok hF gl hd.1
          | cons a as => exact r_callF ok hF gl (S.l ok h1) hd.1 (denL_hd h1) (denL_tl h1)
        · rename_i hk
          obtain ⟨hb, h⟩ := og_inv h
          split at h
          · rename_i q hq
            obtain ⟨fl, h1, rfl⟩ := o1_inv h
            have he : as = [] := List.isEmpty_iff.mp hb
            subst he
            have hp : q.1.map some = kwNames kws := by simpa using List.find?_some hq
            have hall : (backToKw pos (keywordEach kws X.env)).map (·.1) = q.1.map some := by
              rw [hp]; exact kw_each kws
            refine r_callK ok hF (List.mem_of_find?_eq_some hq) gl (S.k ok h1) hd.1 ?_ ?_ ?_
            · have : ((backToKw pos (keywordEach kws X.env)).map (·.1)).all (·.isSome) = true := by rw [hall]; simp
              rw [List.all_map] at this; exact this
            · have : ((backToKw pos (keywordEach kws X.env)).map (·.1)).filterMap id = q.1 := by rw [hall]; simp [List.filterMap_map, Function.comp_def]
              rw [List.filterMap_map] at this; exact this
            · have : ((backToKw pos (keywordEach kws X.env)).map (·.1)).any (·.isNone) = false := by rw [hall]; simp
              rw [List.any_map] at this
              rw [Bool.or_eq_false_iff]
              exact ⟨rfl, this⟩
          · cases h
      · obtain ⟨hk, h⟩ := og_inv h
        have he : kws = [] := List.isEmpty_iff.mp hk
        rename_i h0 _ h00 _
        clear h0
        clear h00
        subst he
        split at h
        · exact S.e1 ok h hg.1
        · cases h
    | Attribute o nm apos =>
      have h : og (kws.isEmpty && objB o && (apos.endLine == pos.line)) (match (generalizing := false) as with
        | [] => o2 (fun fo g => meth0 isL fo g) (den Γ n false o) (m0L nm)
        | [b] => o3 (fun fo fb g => methD g.1 fo fb g.2) (den Γ n false o) (den Γ n false b) (m1L nm)
        | _ => none) = some f := h
      obtain ⟨hg, h⟩ := og_inv h
      rw [Bool.and_eq_true, Bool.and_eq_true] at hg
      have he : kws = [] := List.isEmpty_iff.mp hg.1.1
      rename_i h0 h00
      clear h0
      clear h00
      subst he
      split at h
      · obtain ⟨fo, g, h1, h2, rfl⟩ := o2_inv h
        exact m0L_ok h2 (S.e ok h1) (obj_ok hg.1.2) hg.2
      · obtain ⟨fo, fb, g, h1, h2, h3, rfl⟩ := o3_inv h
        exact m1L_ok (by omega) h3 (S.e ok h1) (S.e ok h2) (obj_ok hg.1.2) hg.2 (den_star h2 _)
      · cases h
    | _ => cases h
  | _ => cases h
theorem snd_e1 {m : Bool} {x : Str} {a : Expr} {f : DE} {p pos : Pos} (h : den1 Γ (n + 1) m x a = some f) (hg : globB Γ.sc x = true) : DenE ER E X (.Call (.Name x p) [a] [] pos) f := by
  have gl := gl_of ok hg
  have h : (match (generalizing := false) (match (generalizing := false) a with
      | .Call (.Name y _) as [] _ => if y = "range" ∧ globB Γ.sc y = true ∧ (Γ.fns.lookup y).isNone = true ∧ (x = "list" ∨ x = "tuple") then (match (generalizing := false) as with
          | [b] => some (o1 (fun f => if x = "list" then lrg1 m f else trg1 f) (den Γ n false b))
          | [b, c] => some (o2 (fun f g => if x = "list" then lrg2 m f g else trg2 f g) (den Γ n false b) (den Γ n false c))
          | _ => none) else none
      | .Call (.Attribute o nm apos) [] [] pos2 => if x = "list" ∧ nm = "values" ∧ objB o = true ∧ (apos.endLine == pos2.line) = true then some (o1 (fn1 (lvsM m)) (den Γ n false o)) else none
      | _ => none) with
    | some r => r
    | none => match (generalizing := false) b1B m x with
      | some q => o1 (fn1 q.2) (den Γ n false a)
      | none => match (generalizing := false) b1T m x with
        | some q => o1 (fn1 q.2) (den Γ n false a)
        | none => none) = some f := h
  split at h
  · rename_i r hr
    split at hr
    · rename_i y py as pos2
      split at hr
      · rename_i hc
        obtain ⟨rfl, hgy, _, hx⟩ := hc
        have gr := gl_of ok hgy
        split at hr
        · rename_i b
          cases hr
          obtain ⟨fb, h1, rfl⟩ := o1_inv h
          rcases hx with rfl | rfl
          · exact r_lrg1 m ok.calm gl (ok.mg _ (by decide)) gr (ok.mg _ (by decide)) (S.e ok h1) (den_star h1 _)
          · exact r_trg1 ok.calm gl (ok.mg _ (by decide)) gr (ok.mg _ (by decide)) (S.e ok h1) (den_star h1 _)
        · rename_i b c
          cases hr
          obtain ⟨fb, fc, h1, h2, rfl⟩ := o2_inv h
          rcases hx with rfl | rfl
          · exact r_lrg2 m ok.calm gl (ok.mg _ (by decide)) gr (ok.mg _ (by decide)) (S.e ok h1) (S.e ok h2) (den_star h1 _) (den_star h2 _)
          · exact r_trg2 ok.calm gl (ok.mg _ (by decide)) gr (ok.mg _ (by decide)) (S.e ok h1) (S.e ok h2) (den_star h1 _) (den_star h2 _)
        · cases hr
      · cases hr
    · split at hr
      · rename_i hc
        obtain ⟨rfl, rfl, ho, hl⟩ := hc
        cases hr
        obtain ⟨fo, h1, rfl⟩ := o1_inv h
        exact r_lvs m ok.calm gl (ok.mg _ (by decide)) (S.e ok h1) (obj_ok ho) hl
      · cases hr
    · cases hr
  · split at h
    · rename_i q hq
      obtain ⟨fa, h1, rfl⟩ := o1_inv h
      obtain ⟨b1, b2, b3, b4, b5⟩ := b1B_ok ok hq
      exact r_callB b1 gl b2 b3 (S.e ok h1) (den_star h1 _) b4 b5
    · split at h
      · rename_i q hq
        obtain ⟨fa, h1, rfl⟩ := o1_inv h
        obtain ⟨b1, b2, b3, b4, b5⟩ := b1T_ok ok hq
        exact r_callTy b1 gl b2 b3 (S.e ok h1) (den_star h1 _) b4 b5
      · cases h
theorem snd_l {m : Bool} {es : List Expr} {f : DL} (h : denL Γ (n + 1) m es = some f) : DenL ER E X es f := by
  cases es with
  | nil => cases h; exact l_nil
  | cons e es =>
    obtain ⟨fa, fl, e1, e2, rfl⟩ := o2_inv (show o2 consL (den Γ n m e) (denL Γ n m es) = some f from h)
    exact l_cons (S.e ok e1) (S.l ok e2) (den_star e1 _)
theorem snd_k {ks : List Keyword} {f : DL} (h : denK Γ (n + 1) ks = some f) : PK X ks (TLv X.K ER E f) := by
  cases ks with
  | nil => cases h; exact k_nil
  | cons k ks =>
    obtain ⟨nm, vl, kp⟩ := k
    obtain ⟨fa, fl, e1, e2, rfl⟩ := o2_inv (show o2 consL (den Γ n false vl) (denK Γ n ks) = some f from h)
    exact k_cons (S.e ok e1) (S.k ok e2)
theorem snd_v {op : BoolOp} {es : List Expr} {f : DE} {pos : Pos} (h : denV Γ (n + 1) op es = some f) : DenE ER E X (.BoolOp op es pos) f := by
  match es, h with
  | [], h => cases h
  | [e], h =>
    have h : den Γ n false e = some f := h
    exact r_one (S.e ok h)
  | e :: e' :: r, h =>
    cases op with
    | And =>
      obtain ⟨fa, fb, e1, e2, rfl⟩ := o2_inv (show o2 andV (den Γ n false e) (denV Γ n .And (e' :: r)) = some f from h)
      exact r_and (S.e ok e1) (S.v ok e2)
    | Or =>
      obtain ⟨fa, fb, e1, e2, rfl⟩ := o2_inv (show o2 orV (den Γ n false e) (denV Γ n .Or (e' :: r)) = some f from h)
      exact r_or (S.e ok e1) (S.v ok e2)
theorem snd_w {op : BoolOp} {es : List Expr} {f : DB} {pos : Pos} (h : denW Γ (n + 1) op es = some f) : DenW ER E X (.BoolOp op es pos) f := by
  match es, h with
  | [], h => cases h
  | [e], h =>
    have h : denT Γ n e = some f := h
    cases op with
    | And => exact w_and1 (S.t ok h)
    | Or => exact w_or1 (S.t ok h)
  | e :: e' :: r, h =>
    cases op with
    | And =>
      obtain ⟨fa, fb, e1, e2, rfl⟩ := o2_inv (show o2 andD (denT Γ n e) (denW Γ n .And (e' :: r)) = some f from h)
      exact w_and (S.t ok e1) (S.w ok e2)
    | Or =>
      obtain ⟨fa, fb, e1, e2, rfl⟩ := o2_inv (show o2 orD (denT Γ n e) (denW Γ n .Or (e' :: r)) = some f from h)
      exact w_or (S.t ok e1) (S.w ok e2)
theorem snd_c {l : Expr} {ops : List CmpOp} {rs : List Expr} {f : DB} {pos : Pos} (h : denC Γ (n + 1) l ops rs = some f) : DenT ER E X (.Compare l ops rs pos) f ∧ DenE ER E X (.Compare l ops rs pos) (boolD f) := by
  have hu : X.A.units + 66 < cLine := ok.un
  match ops, rs, h with
  | [op], [r], h =>
    have h : og (!behindInMarks op r) (match (generalizing := false) hasOf op with
      | some neg => o2 (cmpD (if neg then negC hasC else hasC)) (den Γ n false l) (den Γ n false r)
      | none => o3 cmpD (cmpOf op) (den Γ n false l) (den Γ n false r)) = some f := h
    obtain ⟨hm, h⟩ := og_inv h
    have hm : behindInMarks op r = false := by simpa using hm
    split at h
    · rename_i neg hneg
      obtain ⟨fa, fb, e1, e2, rfl⟩ := o2_inv h
      have hop : op = if neg then .NotIn else .In := by
        unfold hasOf at hneg
        split at hneg <;> cases hneg <;> rfl
      have pc := pc_has (ER := ER) (E := E) neg hu (S.e ok e1) (S.e ok e2)
      rw [← hop] at pc
      exact ⟨t_ofPC pc hm, r_ofPC pc hm⟩
    · obtain ⟨g, fa, fb, e0, e1, e2, rfl⟩ := o3_inv h
      exact ⟨t_cmp (cmpOf_ok hu e0) (S.e ok e1) (S.e ok e2) hm, r_cmp (cmpOf_ok hu e0) (S.e ok e1) (S.e ok e2) hm⟩
  | [op, op'], [r, s], h =>
    have h : og (!lastMarks [op, op'] [r, s]) (o2 (fun gg fl => chainD gg.1 gg.2 fl.1 fl.2.1 fl.2.2) (o2 (·, ·) (cmpOf op) (cmpOf op')) (o3 (·, ·, ·) (den Γ n false l) (den Γ n false r) (den Γ n false s))) = some f := h
    obtain ⟨hm, h⟩ := og_inv h
    have hm : lastMarks [op, op'] [r, s] = false := by simpa using hm
    obtain ⟨gg, fl, h1, h2, rfl⟩ := o2_inv h
    obtain ⟨g, g', k1, k2, rfl⟩ := o2_inv h1
    obtain ⟨fa, fb, fc, e1, e2, e3, rfl⟩ := o3_inv h2
    exact ⟨t_chain (cmpOf_ok hu k1) (cmpOf_ok hu k2) (S.e ok e1) (S.e ok e2) (S.e ok e3) hm, r_chain (cmpOf_ok hu k1) (cmpOf_ok hu k2) (S.e ok e1) (S.e ok e2) (S.e ok e3) hm⟩
  | [], _, h => cases h
  | [_], [], h => cases h
  | [_], _ :: _ :: _, h => cases h
  | [_, _], [], h => cases h
  | [_, _], [_], h => cases h
  | [_, _], _ :: _ :: _ :: _, h => cases h
  | _ :: _ :: _ :: _, _, h => cases h
theorem snd_t {e : Expr} {f : DB} (h : denT Γ (n + 1) e = some f) : DenT ER E X e f := by
  have pl : ∀ f, og (plainT e) (o1 valB (den Γ n false e)) = some f → DenT ER E X e f := fun f h => by
    obtain ⟨hp, h⟩ := og_inv h
    obtain ⟨fa, h1, rfl⟩ := o1_inv h
    exact t_val (S.e ok h1) (plain_ok hp)
  cases e with
  | BoolOp op es p => exact (S.w ok (pos := p) (show denW Γ n op es = some f from h)).pt
  | Compare l ops rs p => exact (S.c ok (pos := p) (show denC Γ n l ops rs = some f from h)).1
  | UnaryOp op a p =>
    cases op with
    | Not =>
      obtain ⟨fa, h1, rfl⟩ := o1_inv (show o1 notD (denT Γ n a) = some f from h)
      exact t_not (S.t ok h1)
    | _ => exact pl f h
  | _ => exact pl f h
theorem snd_f {es : List Expr} {f : DB} (h : denF Γ (n + 1) es = some f) : DenIfs ER E X es f := by
  match es, h with
  | [], h => cases h; exact ifs_nil
  | [e], h => exact ifs_one (S.t ok (show denT Γ n e = some f from h))
  | _ :: _ :: _, h => cases h
theorem snd_o {e : Option Expr} {f : Option DE} (h : denO Γ (n + 1) e = some f) : Opt ER E X e f := by
  cases e with
  | none => cases h; trivial
  | some e =>
    obtain ⟨fa, h1, rfl⟩ := o1_inv (show o1 some (den Γ n false e) = some f from h)
    exact S.e ok h1
theorem snd_i {tg e : Expr} {f : DI} (h : denI Γ (n + 1) tg e = some f) : DenI ER E X tg e f ∧ ∀ x, foldedSetIterable e X.env x = pure x := by
  have h : (match (generalizing := false) (match (generalizing := false) e with
      | .Call (.Name x _) as [] _ => if globB Γ.sc x = true ∧ (Γ.fns.lookup x).isNone = true ∧ x = "range" then (match (generalizing := false) as with
          | [a] => some (o1 rng1D (den Γ n false a))
          | [a, b] => some (o2 rng2D (den Γ n false a) (den Γ n false b))
          | _ => some none) else none
      | _ => none) with
    | some r => r
    | none => o1 iterD (den Γ n false e)) = some f := h
  split at h
  · rename_i r hr
    split at hr
    · split at hr
      · rename_i hc
        obtain ⟨hgy, _, rfl⟩ := hc
        have gr := gl_of ok hgy
        split at hr
        · cases hr
          obtain ⟨fb, h1, rfl⟩ := o1_inv h
          exact ⟨i_rng1 gr (ok.mg _ (by decide)) (S.e ok h1) (den_star h1 _), fun _ => rfl⟩
        · cases hr
          obtain ⟨fb, fc, h1, h2, rfl⟩ := o2_inv h
          exact ⟨i_rng2 gr (ok.mg _ (by decide)) (S.e ok h1) (S.e ok h2) (by rw [den_star h1, den_star h2]; rfl) (by rw [den_star h2]; rfl), fun _ => rfl⟩
        · cases hr; cases h
      · cases hr
    · cases hr
  · obtain ⟨fa, h1, rfl⟩ := o1_inv h
    exact ⟨i_seq (S.e ok h1), folded_no h1⟩
end
theorem snd : ∀ n, Snd ER CX n
  | 0 => snd_zero
  | n + 1 => ⟨snd_e (snd n), snd_e1 (snd n), snd_l (snd n), snd_k (snd n), snd_v (snd n), snd_c (snd n), snd_t (snd n), snd_w (snd n), snd_f (snd n), snd_o (snd n), snd_i (snd n)⟩
end
end Vm
set_option Elab.async false
set_option linter.all false
set_option maxRecDepth 100000
set_option maxHeartbeats 1000000
/-! Vm, part N: statements, read off the text. -/
namespace Vm
open PySem PySem.Spec PyProof.Rows L2

def locB (sc : Scope) (x : Str) : Bool := match sc.names.lookup x with
  | some .local => true
  | _ => false
theorem loc_of {sc : Scope} {x : Str} (h : locB sc x = true) : sc.names.lookup x = some .local := by
  unfold locB at h
  split at h
  · assumption
  · cases h
def noexG (g : DG) : DG := fun u ρ μ => noex (g u ρ μ)
theorem noexG_pure (g : DG) : ∀ u ρ μ, noexG g u ρ μ ≠ .stuck → ∀ e μ', noexG g u ρ μ ≠ .ex e μ' := fun u ρ μ _ e μ' z => by
  unfold noexG noex at z
  split at z
  · cases z
  · rename_i h; exact h _ _ z
theorem g_noex {ER : ExR} {E : XK} {X : Cx} {tg : Expr} {g : DG} (h : DenG ER E X tg g) : DenG ER E X tg (noexG g) :=
  PG.weak h fun v σ H Q ⟨B, F, Θ, ρ, μ, u, hK, at', r, q⟩ => ⟨B, F, Θ, ρ, μ, u, hK, at', r, by
    unfold noexG at q
    cases e : g u ρ μ with
    | ok a μ1 => rw [e] at q; exact q
    | ex _ _ => rw [e] at q; exact q.elim
    | stuck => rw [e] at q; exact q.elim⟩
/-! ### letting go of what a turn made -/
def fgU (n : Nat) (o : Option U) : Option U := match o with
  | some u => if u.below n then some u else none
  | none => none
/-- names that were not bound ahead of the turn are let go, too -/
def fgR (n : Nat) : Rho → Rho → Rho
  | _, [] => []
  | [], o1 :: r1 => fgU n o1 :: fgR n [] r1
  | none :: r, _ :: r1 => none :: fgR n r r1
  | some _ :: r, o1 :: r1 => fgU n o1 :: fgR n r r1
theorem fgR_len (n : Nat) : ∀ (r r1 : Rho), (fgR n r r1).length = r1.length
  | _, [] => by unfold fgR; rfl
  | [], o1 :: r1 => by unfold fgR; rw [List.length_cons, List.length_cons, fgR_len n [] r1]
  | none :: r, _ :: r1 => by unfold fgR; rw [List.length_cons, List.length_cons, fgR_len n r r1]
  | some _ :: r, o1 :: r1 => by unfold fgR; rw [List.length_cons, List.length_cons, fgR_len n r r1]
theorem fgU_some {n : Nat} {o : Option U} {u : U} (h : fgU n o = some u) : o = some u ∧ u.below n = true := by
  unfold fgU at h
  split at h
  · split at h
    · rename_i hb; cases h; exact ⟨rfl, hb⟩
    · cases h
  · cases h
theorem fgR_get {n : Nat} : ∀ {r r1 : Rho} {i : Nat} {u : U}, (fgR n r r1)[i]? = some (some u) → r1[i]? = some (some u) ∧ u.below n = true
  | r, [], i, u, h => by unfold fgR at h; simp at h
  | [], o1 :: r1, i, u, h => by
    unfold fgR at h
    cases i with
    | zero => simp at h; obtain ⟨h1, h2⟩ := fgU_some h; exact ⟨by simp [h1], h2⟩
    | succ i => simp at h; obtain ⟨h1, h2⟩ := fgR_get h; exact ⟨by simpa using h1, h2⟩
  | none :: r, o1 :: r1, i, u, h => by
    unfold fgR at h
    cases i with
    | zero => simp at h
    | succ i => simp at h; obtain ⟨h1, h2⟩ := fgR_get h; exact ⟨by simpa using h1, h2⟩
  | some _ :: r, o1 :: r1, i, u, h => by
    unfold fgR at h
    cases i with
    | zero => simp at h; obtain ⟨h1, h2⟩ := fgU_some h; exact ⟨by simp [h1], h2⟩
    | succ i => simp at h; obtain ⟨h1, h2⟩ := fgR_get h; exact ⟨by simpa using h1, h2⟩
def fgt (n : Nat) (ρ0 : Rho) (ρ : Rho) (μ : Mu) (k : Rho → Mu → SR) : SR := if (μ.take n).all (Cell.below n) then k (fgR n ρ0 ρ) (μ.take n) else k ρ μ
def scopeS (b : DS) : DS := fun ρ μ => match b ρ μ with
  | .nx ρ1 μ1 => fgt μ.length ρ ρ1 μ1 .nx
  | .ct ρ1 μ1 => fgt μ.length ρ ρ1 μ1 .ct
  | .bk ρ1 μ1 => fgt μ.length ρ ρ1 μ1 .bk
  | r => r
theorem at_fgt {B : Bg} {F F' H H' : Hp} {Θ Θ' : List Addr} {μ μ1 : Mu} {ρ0 ρ1 : Rho} {σ : L2.St} (o : Ok B F Θ μ H) (x : Ext F Θ F' Θ') (a : At B F' Θ' ρ1 μ1 σ H') (h : (μ1.take μ.length).all (Cell.below μ.length) = true) :
    At B F' Θ (fgR μ.length ρ0 ρ1) (μ1.take μ.length) σ H' := by
  refine ⟨⟨by rw [fgR_len]; exact a.s.len, fun i u e => ?_⟩, (o.cut x a.o (cut_chg h)).1⟩
  obtain ⟨h1, hb⟩ := fgR_get e
  obtain ⟨v, h2, h3⟩ := a.s.get i u h1
  exact ⟨v, h2, relU_down h3 x.pre (by rw [o.len]; exact hb)⟩
theorem s_scope {ER : ExR} {E : XK} {X : Cx} {ss : List Stmt} {f : DS} (h : DenSs ER E X ss f) : DenSs ER E X ss (scopeS f) :=
  PSs.weak h fun D σ H ⟨B, F, Θ, ρ, μ, hK, at', q⟩ => ⟨B, F, Θ, ρ, μ, hK, at', by
    unfold scopeS at q
    cases e : f ρ μ with
    | nx ρ1 μ1 =>
      rw [e] at q
      intro F' Θ' σ' H' x a
      unfold fgt at q
      simp only at q
      split at q
      · rename_i hb
        exact q F' Θ σ' H' ⟨x.le, List.prefix_refl _⟩ (at_fgt at'.o x a hb)
      · exact q F' Θ' σ' H' x a
    | ct ρ1 μ1 =>
      rw [e] at q
      intro F' Θ' σ' H' x a
      unfold fgt at q
      simp only at q
      split at q
      · rename_i hb
        exact q F' Θ σ' H' ⟨x.le, List.prefix_refl _⟩ (at_fgt at'.o x a hb)
      · exact q F' Θ' σ' H' x a
    | bk ρ1 μ1 =>
      rw [e] at q
      intro F' Θ' σ' H' x a
      unfold fgt at q
      simp only at q
      split at q
      · rename_i hb
        exact q F' Θ σ' H' ⟨x.le, List.prefix_refl _⟩ (at_fgt at'.o x a hb)
      · exact q F' Θ' σ' H' x a
    | rt u μ1 => rw [e] at q; exact q
    | ex e' μ1 => rw [e] at q; exact q
    | stuck => rw [e] at q; exact q⟩
def scB (c : Bool) (f : DS) : DS := match c with
  | true => scopeS f
  | false => f
theorem s_scB {ER : ExR} {E : XK} {X : Cx} {ss : List Stmt} {f : DS} (c : Bool) (h : DenSs ER E X ss f) : DenSs ER E X ss (scB c f) := by
  cases c with
  | true => exact s_scope h
  | false => exact h
def stuckS : DS := fun _ _ => .stuck
theorem s_stuck {ER : ExR} {E : XK} {X : Cx} {s : Stmt} : DenS ER E X s stuckS := PS.weak ps_never fun D σ H ⟨B, F, Θ, ρ, μ, hK, at', q⟩ => q.elim

def wrapG (e : Expr) (g : DG) : DG := match e with
  | .Name .. => g
  | _ => noexG g
mutual
def denG (Γ : Ctx) : Nat → Expr → Option DG
  | 0, _ => none
  | n + 1, e => match e with
    | .Name x _ => og (Γ.asg x) (o1 nameG (slot Γ.N x))
    | .Tuple es _ _ => o1 tupG (denGs Γ n es)
    | .Subscript a b _ => og (!isSlice b) (o2 subG (den Γ n false a) (den Γ n false b))
    | _ => none
def denGs (Γ : Ctx) : Nat → List Expr → Option (List DG)
  | 0, _ => none
  | n + 1, es => match es with
    | [] => some []
    | e :: r => o2 (fun g gs => wrapG e g :: gs) (denG Γ n e) (denGs Γ n r)
end
/-- name = [.. for ..] on one line -/
def denLc (Γ : Ctx) (n : Nat) (m : Bool) (x : Str) (px : Pos) (v : Expr) : Option DS := match v with
  | .ListComp elt [⟨tg, iter, ifs, 0⟩] scope p => og ((px.line == p.line) && locB Γ.sc x && !(scope.names.any fun (n, k) => n == x && (k == .local || k == .cell))) (match tgOf Γ.N tg with
    | some t => og (blkB Γ scope tg t) (o2 (fun i f => asgS (nameG i) f) (slot Γ.N x) (o3 (fun i c e => lcD m ((ownOf Γ.N scope).map (·.2)) i t.dg c e) (denI Γ n tg iter) (denF (Γ.blk scope) n ifs) (den (Γ.blk scope) n false elt)))
    | none => none)
  | _ => none
def denA (Γ : Ctx) (n : Nat) (m : Bool) (tg v : Expr) : Option DS := match tg with
  | .Name x px => (match isComp v with
    | true => denLc Γ n m x px v
    | false => og (Γ.asg x) (o2 (fun i f => asgS (nameG i) f) (slot Γ.N x) (den Γ n m v)))
  | .Tuple es _ _ => (match v with
    | .Tuple vs _ _ => (match swSt Γ.sc es vs with
      | some none => og (decide (es.length ≤ 100)) (o2 parS (denGs Γ n es) (denL Γ n m vs))
      | some (some names) => (match es, vs with
        | [.Name x _, .Name y _], [a, b] => (match slot Γ.N x, slot Γ.N y with
          | some i, some j => og (decide (names = [x, y]) && locB Γ.sc x && locB Γ.sc y && decide (i ≠ j)) (o1 (parS [nameG i, nameG j]) (denL Γ n m [a, b]))
          | _, _ => none)
        | [.Name x _, .Name y _, .Name z _], [a, b, c] => (match slot Γ.N x, slot Γ.N y, slot Γ.N z with
          | some i, some j, some l => og (decide (names = [x, y, z]) && locB Γ.sc x && locB Γ.sc y && locB Γ.sc z && decide (i ≠ j) && decide (i ≠ l) && decide (j ≠ l)) (o1 (parS [nameG i, nameG j, nameG l]) (denL Γ n m [a, b, c]))
          | _, _, _ => none)
        | _, _ => none)
      | none => none)
    | _ => o2 asgS (denG Γ n tg) (den Γ n m v))
  | .Subscript .. => o2 asgS (denG Γ n tg) (den Γ n m v)
  | _ => none
mutual
def denS (Γ : Ctx) : Nat → Stmt → Option DS
  | 0, _ => none
  | n + 1, s => match s with
    | .Expr a _ => og (!isComp a) (o1 exprS (den Γ n false a))
    | .Return none _ => some retNS
    | .Return (some a) pos => o1 retS (den Γ n (Γ.cells.contains pos.line) a)
    | .If c a b _ => o3 ifS (denT Γ n c) (denSs Γ n a) (denSs Γ n b)
    | .Break _ => some brkS
    | .Continue _ => some contS
    | .Pass _ => some nopS
    | .While c b [] pos => o2 whileS (denT Γ n c) (o1 (scB (Γ.frg.contains pos.line)) (denSs Γ n b))
    | .For tg it b [] pos => o3 forS (denI Γ n tg it) (denG Γ n tg) (o1 (scB (Γ.frg.contains pos.line)) (denSs Γ n b))
    | .Raise _ _ _ => some stuckS
    | .Assign [tg] v pos => denA Γ n (Γ.cells.contains pos.line) tg v
    | _ => none
def denSs (Γ : Ctx) : Nat → List Stmt → Option DS
  | 0, _ => none
  | n + 1, ss => match ss with
    | [] => some nopS
    | [s] => denS Γ n s
    | s :: r => o2 seqS (denS Γ n s) (denSs Γ n r)
end

section
variable {ER : ExR} {CX : CXT} {Γ : Ctx} {E : XK} {X : Cx} (ok : CxOk ER CX Γ E X)
theorem denG_star {n : Nat} {e : Expr} {g : DG} {env : Env} (h : denG Γ n e = some g) (es : List Expr) : assignEach (e :: es) env = (false, assign e env) :: assignEach es env := by
  cases n with
  | zero => cases h
  | succ n => cases e with
    | Starred a p => cases h
    | _ => rfl
theorem denGs_facts {env : Env} : ∀ {n : Nat} {es : List Expr} {gs : List DG}, denGs Γ n es = some gs → es.length = gs.length ∧ (assignEach es env).length = es.length ∧ (assignEach es env).findIdx? (·.1) = none ∧ ∀ g ∈ gs, ∀ u ρ μ, g u ρ μ ≠ .stuck → ∀ e μ', g u ρ μ ≠ .ex e μ'
  | 0, _, _, h => by cases h
  | n + 1, [], gs, h => by cases h; exact ⟨rfl, rfl, rfl, fun g hg => by cases hg⟩
  | n + 1, e :: es, gs, h => by
    obtain ⟨g, r, h1, h2, rfl⟩ := o2_inv (show o2 (fun g gs => wrapG e g :: gs) (denG Γ n e) (denGs Γ n es) = some gs from h)
    obtain ⟨f1, f2, f3, f4⟩ := denGs_facts (env := env) h2
    rw [denG_star h1]
    refine ⟨by simp [f1], by simp [f2], by rw [List.findIdx?_cons, f3]; rfl, fun g' hg' => ?_⟩
    rcases List.mem_cons.mp hg' with rfl | hg'
    · unfold wrapG
      split
      · cases n with
        | zero => cases h1
        | succ n =>
          obtain ⟨_, h1⟩ := og_inv h1
          obtain ⟨i, _, rfl⟩ := o1_inv h1
          exact nameG_pure i
      · exact noexG_pure g
    · exact f4 g' hg'
include ok
theorem snd_g : ∀ n, (∀ {e : Expr} {g : DG}, denG Γ n e = some g → DenG ER E X e g) ∧ (∀ {es : List Expr} {gs : List DG}, denGs Γ n es = some gs → DenGs ER E X es (bindL gs))
  | 0 => ⟨fun h => (by cases h), fun h => (by cases h)⟩
  | n + 1 => by
    obtain ⟨i1, i2⟩ := snd_g n
    have hu : X.A.units + 66 < cLine := ok.un
    refine ⟨fun {e g} h => ?_, fun {es gs} h => ?_⟩
    · cases e with
      | Name x p =>
        obtain ⟨ha, h⟩ := og_inv (show og (Γ.asg x) (o1 nameG (slot Γ.N x)) = some g from h)
        obtain ⟨i, h1, rfl⟩ := o1_inv h
        exact g_name ok (by rw [ok.N]; exact slot_at h1) ha
      | Tuple es k p =>
        obtain ⟨gs, h1, rfl⟩ := o1_inv (show o1 tupG (denGs Γ n es) = some g from h)
        obtain ⟨f1, f2, f3, f4⟩ := denGs_facts (env := X.env) h1
        exact g_tup ok (i2 h1) f1 f2 f3 f4
      | Subscript a b p =>
        obtain ⟨hs, h⟩ := og_inv (show og (!isSlice b) (o2 subG (den Γ n false a) (den Γ n false b)) = some g from h)
        obtain ⟨fa, fb, h1, h2, rfl⟩ := o2_inv h
        exact g_sub (by omega) ((snd n).e ok h1) ((snd n).e ok h2) fun l u st q z => by subst z; cases hs
      | _ => cases h
    · cases es with
      | nil => cases h; exact gs_nil
      | cons e es =>
        obtain ⟨g, r, h1, h2, rfl⟩ := o2_inv (show o2 (fun g gs => wrapG e g :: gs) (denG Γ n e) (denGs Γ n es) = some gs from h)
        refine gs_cons ?_ (i2 h2) (by rw [denG_star h1]; rfl)
        have := i1 h1
        unfold wrapG
        split
        · exact this
        · exact g_noex this
theorem snd_a {n : Nat} {m : Bool} {tg v : Expr} {f : DS} {pos : Pos} (hk : X.env.scope.kind = .function) (h : denA Γ n m tg v = some f) : DenS ER E X (.Assign [tg] v pos) f := by
  cases tg with
  | Name x px =>
    have h : (match (generalizing := false) isComp v with
      | true => denLc Γ n m x px v
      | false => og (Γ.asg x) (o2 (fun i f => asgS (nameG i) f) (slot Γ.N x) (den Γ n m v))) = some f := h
    split at h
    · unfold denLc at h
      split at h
      · rename_i elt tg iter ifs scope p _ _
        obtain ⟨hc, h⟩ := og_inv h
        rw [Bool.and_eq_true, Bool.and_eq_true] at hc
        obtain ⟨⟨c1, c2⟩, c3⟩ := hc
        split at h
        · rename_i t ht
          obtain ⟨hb, h⟩ := og_inv h
          obtain ⟨i, lc, h1, h2, rfl⟩ := o2_inv h
          obtain ⟨fi, fc, fe, h3, h4, h5, rfl⟩ := o3_inv h2
          obtain ⟨s1, s2, s3, s4, s5, s6, s7⟩ := snd_lc (m := m) (pos := p) (snd n) ok ht hb h3 h4 h5
          have hl : X.env.scope.names.lookup x = some .local := by rw [ok.sc]; exact loc_of c2
          refine s_setLc m ok s6 s1 s2 s3 s4 s5 s7 (by rw [ok.N]; exact slot_at h1) hl (sw_true hk hl c1 ?_)
          simpa using c3
        · cases h
      · cases h
    · rename_i hc
      obtain ⟨ha, h⟩ := og_inv h
      obtain ⟨i, fa, h1, h2, rfl⟩ := o2_inv h
      exact s_set ok (by rw [ok.N]; exact slot_at h1) ha ((snd n).e ok h2) (sw_no hc)
  | Tuple es k p =>
    have other : (∀ vs k2 p2, v ≠ .Tuple vs k2 p2) → o2 asgS (denG Γ n (.Tuple es k p)) (den Γ n m v) = some f → DenS ER E X (.Assign [.Tuple es k p] v pos) f := fun hv h => by
      obtain ⟨g, fa, h1, h2, rfl⟩ := o2_inv h
      refine s_asg ((snd n).e ok h2) ((snd_g ok n).1 h1) ?_ ?_ rfl
      · cases v <;> rfl
      · cases v with
        | Tuple vs k2 p2 => exact absurd rfl (hv vs k2 p2)
        | _ => rfl
    cases v with
    | Tuple vs k2 p2 =>
      have h : (match (generalizing := false) swSt Γ.sc es vs with
      | some none => og (decide (es.length ≤ 100)) (o2 parS (denGs Γ n es) (denL Γ n m vs))
      | some (some names) => (match (generalizing := false) es, vs with
        | [.Name x _, .Name y _], [a, b] => (match (generalizing := false) slot Γ.N x, slot Γ.N y with
          | some i, some j => og (decide (names = [x, y]) && locB Γ.sc x && locB Γ.sc y && decide (i ≠ j)) (o1 (parS [nameG i, nameG j]) (denL Γ n m [a, b]))
          | _, _ => none)
        | [.Name x _, .Name y _, .Name z _], [a, b, c] => (match (generalizing := false) slot Γ.N x, slot Γ.N y, slot Γ.N z with
          | some i, some j, some l => og (decide (names = [x, y, z]) && locB Γ.sc x && locB Γ.sc y && locB Γ.sc z && decide (i ≠ j) && decide (i ≠ l) && decide (j ≠ l)) (o1 (parS [nameG i, nameG j, nameG l]) (denL Γ n m [a, b, c]))
          | _, _, _ => none)
        | _, _ => none)
      | none => none) = some f := h
      split at h
      · rename_i hsw
        obtain ⟨hl, h⟩ := og_inv h
        obtain ⟨gs, fl, h1, h2, rfl⟩ := o2_inv h
        obtain ⟨f1, f2, f3, f4⟩ := denGs_facts (env := X.env) h1
        exact s_parT ok ((snd n).l ok h2) ((snd_g ok n).2 h1) f1 f2 f3 f4 (of_decide_eq_true hl) (swSt_ok hk (by rw [ok.sc]; exact hsw))
      · rename_i names hsw
        split at h
        · split at h
          · rename_i i j hi hj
            obtain ⟨hc, hh⟩ := og_inv h
            rw [Bool.and_eq_true, Bool.and_eq_true, Bool.and_eq_true, decide_eq_true_eq, decide_eq_true_eq] at hc
            obtain ⟨⟨⟨e0, c1⟩, c2⟩, c3⟩ := hc
            subst e0
            obtain ⟨fl, h1, rfl⟩ := o1_inv hh
            exact s_par2 ok (by rw [ok.N]; exact slot_at hi) (by rw [ok.N]; exact slot_at hj) c3 (by rw [ok.sc]; exact loc_of c1) (by rw [ok.sc]; exact loc_of c2) ((snd n).l ok h1) (swSt_ok hk (by rw [ok.sc]; exact hsw))
          · cases h
        · split at h
          · rename_i i j l hi hj hl
            obtain ⟨hc, hh⟩ := og_inv h
            simp only [Bool.and_eq_true, decide_eq_true_eq] at hc
            obtain ⟨⟨⟨⟨⟨⟨e0, c1⟩, c2⟩, c3⟩, c4⟩, c5⟩, c6⟩ := hc
            subst e0
            obtain ⟨fl, h1, rfl⟩ := o1_inv hh
            exact s_par3 ok (by rw [ok.N]; exact slot_at hi) (by rw [ok.N]; exact slot_at hj) (by rw [ok.N]; exact slot_at hl) c4 c5 c6 (by rw [ok.sc]; exact loc_of c1) (by rw [ok.sc]; exact loc_of c2) (by rw [ok.sc]; exact loc_of c3) ((snd n).l ok h1) (swSt_ok hk (by rw [ok.sc]; exact hsw))
          · cases h
        · cases h
      · cases h
    | _ => exact other (fun _ _ _ z => by cases z) h
  | Subscript a b p =>
    obtain ⟨g, fa, h1, h2, rfl⟩ := o2_inv (show o2 asgS (denG Γ n (.Subscript a b p)) (den Γ n m v) = some f from h)
    exact s_asg ((snd n).e ok h2) ((snd_g ok n).1 h1) (by cases v <;> rfl) rfl rfl
  | _ => cases h
theorem snd_s (hk : X.env.scope.kind = .function) : ∀ n, (∀ {s : Stmt} {f : DS}, denS Γ n s = some f → DenS ER E X s f) ∧ (∀ {ss : List Stmt} {f : DS}, denSs Γ n ss = some f → DenSs ER E X ss f)
  | 0 => ⟨fun h => (by cases h), fun h => (by cases h)⟩
  | n + 1 => by
    obtain ⟨i1, i2⟩ := snd_s hk n
    refine ⟨fun {s f} h => ?_, fun {ss f} h => ?_⟩
    · cases s with
      | Expr a p =>
        obtain ⟨hc, h⟩ := og_inv (show og (!isComp a) (o1 exprS (den Γ n false a)) = some f from h)
        obtain ⟨fa, h1, rfl⟩ := o1_inv h
        exact s_expr ((snd n).e ok h1) (sw_no (by simpa using hc))
      | Return a p =>
        cases a with
        | none => cases h; exact s_retN
        | some a =>
          obtain ⟨fa, h1, rfl⟩ := o1_inv (show o1 retS (den Γ n (Γ.cells.contains p.line) a) = some f from h)
          exact s_ret ((snd n).e ok h1)
      | If c a b p =>
        obtain ⟨fc, fa, fb, h1, h2, h3, rfl⟩ := o3_inv (show o3 ifS (denT Γ n c) (denSs Γ n a) (denSs Γ n b) = some f from h)
        exact s_if ((snd n).t ok h1) (i2 h2) (i2 h3)
      | Break p => cases h; exact s_brk
      | Continue p => cases h; exact s_cont
      | Pass p => cases h; exact s_pass
      | While c b o p =>
        cases o with
        | nil =>
          obtain ⟨fc, fb', h1, h2', rfl⟩ := o2_inv (show o2 whileS (denT Γ n c) (o1 (scB (Γ.frg.contains p.line)) (denSs Γ n b)) = some f from h)
          obtain ⟨fb, h2, rfl⟩ := o1_inv h2'
          exact s_while ok ((snd n).t ok h1) (s_scB _ (i2 h2))
        | cons _ _ => cases h
      | For tg it b o p =>
        cases o with
        | nil =>
          obtain ⟨fi, g, fb', h1, h2, h3', rfl⟩ := o3_inv (show o3 forS (denI Γ n tg it) (denG Γ n tg) (o1 (scB (Γ.frg.contains p.line)) (denSs Γ n b)) = some f from h)
          obtain ⟨fb, h3, rfl⟩ := o1_inv h3'
          obtain ⟨j1, j2⟩ := (snd n).i ok (tg := tg) h1
          exact s_for ok j1 ((snd_g ok n).1 h2) (s_scB _ (i2 h3)) j2
        | cons _ _ => cases h
      | Raise _ _ _ => cases h; exact s_stuck
      | Assign tgs v p =>
        match tgs, h with
        | [tg], h => exact snd_a ok hk (show denA Γ n (Γ.cells.contains p.line) tg v = some f from h)
        | [], h => cases h
        | _ :: _ :: _, h => cases h
      | _ => cases h
    · match ss, h with
      | [], h => cases h; exact s_nil
      | [s], h => exact s_one (i1 (show denS Γ n s = some f from h))
      | s :: s' :: r, h =>
        obtain ⟨fa, fb, h1, h2, rfl⟩ := o2_inv (show o2 seqS (denS Γ n s) (denSs Γ n (s' :: r)) = some f from h)
        exact s_cons (i1 h1) (i2 h2)
end
end Vm
set_option Elab.async false
set_option linter.all false
set_option maxRecDepth 100000
set_option maxHeartbeats 1000000
/-! Vm, part O: a call whose arguments are data knows of no cell; defs; the law's call. -/
namespace Vm
open PySem PySem.Spec PyProof.Rows L2

/-! ### calls with data alone -/
def semP (sem : List U → Mu → R U) (us : List U) (μ : Mu) : R U := match allD us with
  | none => sem us μ
  | some _ => match sem us [] with
    | .ok (.d x) _ => .ok (.d x) μ
    | .ok (.p 0) [.dK kvs] => if (Cell.dK kvs).below 0 then .ok (.p μ.length) (μ ++ [.dK kvs]) else .stuck
    | .ok (.p 0) [.dT kvs] => if (Cell.dT kvs).below 0 then .ok (.p μ.length) (μ ++ [.dT kvs]) else .stuck
    | .ok _ _ => .stuck
    | .ex e _ => .ex e μ
    | .stuck => .stuck
section
variable {B : Bg} {F F' H H' : Hp} {Θ Θ' : List Addr} {μ μ' : Mu}
/-- all cells put away -/
noncomputable def away (B : Bg) (F H : Hp) (Θ : List Addr) : Bg := ⟨B.K, fun a => open Classical in if F a = none ∧ a ∈ Θ ∧ B.G a = none then H a else B.G a⟩
theorem away_in {a : Addr} (o : Ok B F Θ μ H) (h : a ∈ Θ) (hF : F a = none) : (away B F H Θ).G a = H a := by
  unfold away
  cases e : B.G a with
  | none => exact if_pos ⟨hF, h, e⟩
  | some y => simp only [e, reduceCtorEq, and_false, if_false]; exact (o.hid a y e).1.symm
theorem away_old {a : Addr} {y : HO} (h : B.G a = some y) : (away B F H Θ).G a = some y := by
  unfold away
  simp only [h, reduceCtorEq, and_false, if_false]
theorem away_none {a : Addr} (h : (away B F H Θ).G a = none) : B.G a = none := by
  cases e : B.G a with
  | none => rfl
  | some y => rw [away_old e] at h; cases h
theorem Ok.away (o : Ok B F Θ μ H) : Ok (away B F H Θ) F [] [] H := by
  refine ⟨o.le, fun a y e => ?_, rfl, fun i j a c c' e => by simp at e, fun k c a e => by simp at e⟩
  refine ⟨?_, ?_, fun k c e => by simp at e⟩ <;> unfold Vm.away at e <;> simp only at e <;> split at e
  · exact e
  · exact (o.hid a y e).1
  · rename_i h; exact h.1
  · exact (o.hid a y e).2.1
theorem Ok.back (o : Ok B F Θ μ H) (x : Le F F') (o' : Ok (Vm.away B F H Θ) F' Θ' μ' H') : Ok B F' Θ μ H' := by
  refine ⟨o'.le, fun a y e => ?_, o.len, o.inj, fun k c a e1 e2 => ?_⟩
  · obtain ⟨h1, h2, _⟩ := o'.hid a y (away_old e)
    exact ⟨h1, h2, (o.hid a y e).2.2⟩
  · have q := o.cell k c a e1 e2
    have mem : a ∈ Θ := List.mem_of_getElem? e2
    have keep : ∀ y, H a = some y → H' a = some y := fun y hy => by
      cases eF : F a with
      | some z =>
        have := o.le a z eF
        rw [hy] at this
        cases this
        exact o'.le a _ (x a _ eF)
      | none => exact (o'.hid a y ((away_in o mem eF).trans hy)).1
    have gone : F a = none → (∃ y, H a = some y) → F' a = none := fun hF ⟨y, hy⟩ => (o'.hid a y ((away_in o mem hF).trans hy)).2.1
    have ex : Ext F Θ F' Θ := ⟨x, List.prefix_refl _⟩
    cases c with
    | dead => trivial
    | scr ns =>
      rcases q with ⟨ob, q⟩ | q
      · exact .inl ⟨ob, keep _ q⟩
      · exact .inr q
    | frz d => exact Dd.mono x q
    | lst us => obtain ⟨h1, xs, h2, h3⟩ := q; exact ⟨gone h1 ⟨_, h2⟩, xs, keep _ h2, h3.mono ex⟩
    | dK us => obtain ⟨h1, xs, h2, h3⟩ := q; exact ⟨gone h1 ⟨_, h2⟩, xs, keep _ h2, h3.mono ex⟩
    | dT us => obtain ⟨h1, xs, h2, h3⟩ := q; exact ⟨gone h1 ⟨_, h2⟩, xs, keep _ h2, h3.mono ex⟩
/-- and one new cell -/
theorem Ok.backC {c : Cell} {a : Addr} (o : Ok B F Θ μ H) (x : Le F F') (o' : Ok (Vm.away B F H Θ) F' Θ' [c] H') (ha : Θ'[0]? = some a) (l : c.live = true) (hb : c.below 0 = true) :
    Ok B F' (Θ ++ [a]) (μ ++ [c]) H' ∧ Ext F Θ F' (Θ ++ [a]) := by
  have o2 := o.back x o'
  have q := o'.cell 0 c a rfl ha
  have notG : (Vm.away B F H Θ).G a = none := by
    cases e : (Vm.away B F H Θ).G a with
    | none => rfl
    | some y => have := (o'.hid a y e).2.2 0 c ha rfl; rw [l] at this; cases this
  have notΘ : ∀ (i : Nat) (d : Cell), Θ[i]? = some a → μ[i]? = some d → d.live = true → False := fun i d e1 e2 l1 => by
    obtain ⟨h1, y, h2, _⟩ := live_at (o.cell i d a e2 e1) l1
    rw [away_in o (List.mem_of_getElem? e1) h1, h2] at notG
    cases notG
  have q0 := cell_down q (List.nil_prefix) hb
  have new : ∀ {i : Nat} {b : Addr} {d : Cell}, (Θ ++ [a])[i]? = some b → (μ ++ [c])[i]? = some d → (Θ[i]? = some b ∧ μ[i]? = some d) ∨ (i = μ.length ∧ b = a ∧ d = c) := fun {i b d} e1 e2 => by
    by_cases h : i < μ.length
    · rw [List.getElem?_append_left (by rw [o.len]; exact h)] at e1
      rw [List.getElem?_append_left h] at e2
      exact .inl ⟨e1, e2⟩
    · have hi : i = μ.length := by
        have := (List.getElem?_eq_some_iff.mp e2).1
        simp at this; omega
      subst hi
      rw [List.getElem?_append_right (by rw [o.len]; exact Nat.le_refl _), o.len] at e1
      rw [List.getElem?_append_right (Nat.le_refl _)] at e2
      simp at e1 e2
      exact .inr ⟨rfl, e1.symm, e2.symm⟩
  have ex : Ext F' Θ F' (Θ ++ [a]) := ⟨Le.refl _, ⟨[a], rfl⟩⟩
  refine ⟨⟨o2.le, fun b y e => ?_, by simp [o.len], fun i j b c1 c2 e1 e2 e3 e4 l1 l2 => ?_, fun i c1 b e1 e2 => ?_⟩, x, ⟨[a], rfl⟩⟩
  · obtain ⟨h1, h2, h3⟩ := o2.hid b y e
    refine ⟨h1, h2, fun i d e1 e2 => ?_⟩
    rcases new e1 e2 with ⟨a1, a2⟩ | ⟨_, rfl, rfl⟩
    · exact h3 i d a1 a2
    · rw [away_old e] at notG; cases notG
  · rcases new e1 e3 with ⟨a1, a2⟩ | ⟨i1, i2, i3⟩ <;> rcases new e2 e4 with ⟨b1, b2⟩ | ⟨j1, j2, j3⟩
    · exact o.inj i j b c1 c2 a1 b1 a2 b2 l1 l2
    · subst j2; exact (notΘ i c1 a1 a2 l1).elim
    · subst i2; exact (notΘ j c2 b1 b2 l2).elim
    · omega
  · rcases new e2 e1 with ⟨a1, a2⟩ | ⟨_, rfl, rfl⟩
    · exact (o2.cell i c1 b a2 a1).move rfl ex (fun l1 => (live_at (o2.cell i c1 b a2 a1) l1).1) (fun _ => rfl) fun _ _ z => z
    · exact q0.move rfl ⟨Le.refl _, List.nil_prefix⟩ (fun l1 => (live_at q0 l1).1) (fun _ => rfl) fun _ _ z => z
end
theorem spOf_P {ER : ExR} {K : PySem.W.Frag} {n : Nat} {sem : List U → Mu → R U} {vs : List V} {H : Hp} {Q : VK} {E : XK} (h : spOf ER K n (semP sem) vs H Q E) : spOf ER K n sem vs H Q E := by
  obtain ⟨hl, B, F, Θ, us, μ, hK, o, r, q⟩ := h
  unfold semP at q
  cases e : allD us with
  | none => rw [e] at q; exact ⟨hl, B, F, Θ, us, μ, hK, o, r, q⟩
  | some ds =>
    rw [e] at q
    have eu := allD_eq e
    subst eu
    refine ⟨hl, away B F H Θ, F, [], ds.map .d, [], hK, o.away, (RelL.dd r).rel, ?_⟩
    simp only at q
    cases es : sem (ds.map .d) [] with
    | ex e1 m1 => rw [es] at q; exact fun F' Θ' H' c d x o' er => q F' Θ H' c d ⟨x.le, List.prefix_refl _⟩ (o.back x.le o') er
    | stuck => rw [es] at q; exact q.elim
    | ok u m1 =>
      rw [es] at q
      intro F' Θ' H' v x o' ru
      split at q
      · rename_i y m2 e2; cases e2; exact q F' Θ H' v ⟨x.le, List.prefix_refl _⟩ (o.back x.le o') ru
      · rename_i kvs e2
        cases e2
        split at q
        · rename_i hb
          obtain ⟨a, ha, rfl⟩ := ru
          obtain ⟨o2, x2⟩ := o.backC x.le o' ha rfl hb
          exact q F' _ H' _ x2 o2 ⟨a, by rw [← o.len, List.getElem?_append_right (Nat.le_refl _)]; simp, rfl⟩
        · exact q.elim
      · rename_i kvs e2
        cases e2
        split at q
        · rename_i hb
          obtain ⟨a, ha, rfl⟩ := ru
          obtain ⟨o2, x2⟩ := o.backC x.le o' ha rfl hb
          exact q F' _ H' _ x2 o2 ⟨a, by rw [← o.len, List.getElem?_append_right (Nat.le_refl _)]; simp, rfl⟩
        · exact q.elim
      · exact q.elim
      · rename_i e2; cases e2
      · rename_i e2; cases e2
theorem spOf_nox {ER : ExR} {K : PySem.W.Frag} {n : Nat} {sem : List U → Mu → R U} {vs : List V} {H : Hp} {Q : VK} {E E' : XK} (h : spOf ER K n (fun us μ => noex (sem us μ)) vs H Q E) : spOf ER K n sem vs H Q E' := by
  obtain ⟨hl, B, F, Θ, us, μ, hK, o, r, q⟩ := h
  refine ⟨hl, B, F, Θ, us, μ, hK, o, r, ?_⟩
  have q : PostE B ER E F Θ Q (noex (sem us μ)) := q
  cases e : sem us μ with
  | ok u m => rw [e] at q; exact q
  | ex _ _ => rw [e] at q; exact q.elim
  | stuck => rw [e] at q; exact q.elim

/-! ### defs -/
/-- a def that raises nothing -/
def defN (N : List Str) (keep : Bool) (b : DS) : List U → Mu → R U := semP fun us μ => noex (runFn N.length keep b us μ)
/-- a def that stands behind the top, and keeps its promise -/
structure FnB (ER : ExR) (CX : CXT) (P : Program) (w : World) (K : PySem.W.Frag) (mg : Str → Option Value) (base : Heap) (k : Nat) (x : Str) (F : Fn) : Prop where
  ex : ∃ (a : Addr) (fd : FuncData), FnG P w K mg base CX k a fd F.ps (spOf ER K F.ps.length F.sem) ∧ mg x = some (.ref a) ∧ PySem.W.keepIn K (.ref a) = true ∧
    Binds K fd F.ps [] ∧ ∀ q ∈ F.kw, ∀ (s : Shared) (ws us : List Value), q.2.map (ws[·]?) = us.map some → ws.length = q.1.length → BindsTo s fd ⟨[], q.1.zip ws⟩ (F.ps.zip us)
/-- what is known around the defs -/
structure Top (K : PySem.W.Frag) (mg : Str → Option Value) : Prop where
  mg : ∀ b ∈ bis, mg b = none
def asgOf (sc : Scope) (x : Str) : Bool := match sc.names.lookup x with
  | some .local => true
  | some .cell => true
  | _ => false
section
variable {ER : ExR} {P : Program} {w : World} {K : PySem.W.Frag} {mg : Str → Option Value} {base : Heap} {f : Addr} {fd : FuncData}
theorem fnG_def {k : Nat} {name qual : Str} {params : Arguments} {body : List Stmt} {scope : Scope} {N ps : List Str} {keep : Bool} {Γ : Ctx} {n : Nat} {b : DS} (F : FunD K name qual params body scope [] [] f fd)
    (S : FnScope N ps scope) (T : Top K mg) (hN : Γ.N = N) (hs : Γ.sc = scope) (ha : ∀ x, Γ.asg x = asgOf scope x) (hd : denSs Γ n body = some b)
    (hf : ∀ x F', Γ.fns.lookup x = some F' → ∃ j, j ≤ k ∧ FnB ER CX0 P w K mg base j x F') (hcs : ∀ x c, Γ.cs.lookup x = some c → ∃ u v, mg x = some u ∧ RelV v u ∧ Dd (fun _ => none) v c) :
    FnG P w K mg base CX0 (k + 1) f fd ps (spOf ER K ps.length (defN N keep b)) := by
  obtain ⟨oc, od, dV, kV, doc, pm, an, cdv, ct, osl, rfl, lk, hcd, _, _⟩ := F.ex
  refine fnG_of (N := N) lk hcd S (fun vs H Q E h => h.1) fun A out s H vs Q E hgd hr h => ?_
  refine ⟨_, PSs.nox ((snd_s (ER := ER) (CX := CX0) (E := E0) (Γ := Γ) (X := (cxOf CX0 P w K mg base N qual scope f cdv A out s H E).nox) ⟨hN.symm, S.nd, hs.symm, rfl, .never, T.mg, hgd, ?_, fun x hx => ?_, fun x F' hF => ?_, hcs, fun _ => pass0, pass0⟩ S.kind n).2 hd), run_ok (E := E0) (spOf_nox (spOf_P h))⟩
  · have := hr.un
    show A.units + 3 + 66 < _
    have : A.units + 3 + 16 * k + 200 < cLine := this
    omega
  · rw [ha] at hx
    unfold asgOf at hx
    refine ⟨?_, .inl rfl⟩
    split at hx
    · rename_i e; exact .inl e
    · rename_i e; exact .inr e
    · cases hx
  · obtain ⟨j, hj, a', fd', h1, h2, h3, h4, h5⟩ := hf x F' hF
    exact ⟨j, a', fd', h1, hr.mono hj, h2, h3, h4, h5⟩
theorem fnB_of {k : Nat} {name qual : Str} {params : Arguments} {body : List Stmt} {scope : Scope} {F' : Fn} (F : FunD K name qual params body scope [] [] f fd) (hg : mg name = some (.ref f)) (g : FnG P w K mg base CX0 k f fd F'.ps (spOf ER K F'.ps.length F'.sem))
    (hb : Binds K fd F'.ps []) (hk : ∀ q ∈ F'.kw, ∀ (s : Shared) (ws us : List Value), q.2.map (ws[·]?) = us.map some → ws.length = q.1.length → BindsTo s fd ⟨[], q.1.zip ws⟩ (F'.ps.zip us)) :
    FnB ER CX0 P w K mg base k name F' := ⟨f, fd, g, hg, F.kp, hb, hk⟩
/-- all parameters by keywords -/
theorem bindsK {name qual : Str} {params : Arguments} {body : List Stmt} {scope : Scope} {ps ks : List Str} {pm : List Nat} (F : FunD K name qual params body scope [] [] f fd)
    (h : ∀ (kV doc pm' : Value) (an : Option Addr) (cdv ct : Value) (ws us : List Value), pm.map (ws[·]?) = us.map some → ws.length = ks.length → bindArgs (PySem.W.fnOf name qual params body scope .none kV doc pm' an cdv ct) ⟨[], ks.zip ws⟩ = pure (ps.zip us)) :
    ∀ (s : Shared) (ws us : List Value), pm.map (ws[·]?) = us.map some → ws.length = ks.length → BindsTo s fd ⟨[], ks.zip ws⟩ (ps.zip us) := fun s ws us h1 h2 => by
  obtain ⟨oc, od, dV, kV, doc, pm', an, cdv, ct, osl, rfl, lk, hcd, hD, hK⟩ := F.ex
  rcases hD with ⟨_, rfl⟩ | ⟨e, _⟩
  · exact .of_eq (h kV doc pm' an cdv ct ws us h1 h2)
  · exact absurd rfl e
theorem some_inj {l us : List Value} (h : l.map some = us.map some) : us = l := by
  induction l generalizing us with
  | nil => cases us with
    | nil => rfl
    | cons _ _ => cases h
  | cons a l ih => cases us with
    | nil => cases h
    | cons b us =>
      rw [List.map_cons, List.map_cons] at h
      injection h with h1 h2
      rw [ih h2, Option.some.inj h1]
/-- the defs that are called stand behind the top -/
def Callees (ER : ExR) (P : Program) (w : World) (K : PySem.W.Frag) (mg : Str → Option Value) (base : Heap) (k : Nat) (l : List (Str × Fn)) : Prop := ∀ x F', l.lookup x = some F' → ∃ j, j ≤ k ∧ FnB ER CX0 P w K mg base j x F'
theorem cal_nil {k : Nat} : Callees ER P w K mg base k [] := fun _ _ h => by cases h
theorem cal_cons {k j : Nat} {x : Str} {F' : Fn} {l : List (Str × Fn)} (h : FnB ER CX0 P w K mg base j x F') (hj : j ≤ k) (t : Callees ER P w K mg base k l) : Callees ER P w K mg base k ((x, F') :: l) := fun y G e => by
  rw [List.lookup_cons] at e
  split at e
  · rename_i hy
    cases e
    rw [beq_iff_eq] at hy
    subst hy
    exact ⟨j, hj, h⟩
  · exact t y G e
theorem no_cs : ∀ (x : Str) (c : PyData), List.lookup x [] = some c → ∃ u v, mg x = some u ∧ RelV v u ∧ Dd (fun _ => none) v c := fun _ _ h => by cases h
end
end Vm
set_option Elab.async false
set_option linter.all false
set_option maxRecDepth 100000
set_option maxHeartbeats 1000000
/-! Vm, part P: the law's call. -/
namespace Vm
open PySem PySem.Spec PyProof.Rows L2

/-- the one tracked object at the start: the script's list, where it is none of the module's own -/
def hp0 (K : PySem.W.Frag) (a : Addr) (ob : Obj) (ns : List Int) : Hp := fun b => if b = a ∧ K.lookup a = none then some (.frz ob (.lst (ns.map V.int))) else none
section
variable {K : PySem.W.Frag} {a b : Addr} {ob : Obj} {ns : List Int}
theorem hp0_some {y : HO} (h : hp0 K a ob ns b = some y) : b = a ∧ K.lookup a = none ∧ y = .frz ob (.lst (ns.map V.int)) := by
  unfold hp0 at h
  split at h
  · rename_i c; cases h; exact ⟨c.1, c.2, rfl⟩
  · cases h
theorem hp0_other (h : b ≠ a) : hp0 K a ob ns b = none := by
  cases e : hp0 K a ob ns b with
  | none => rfl
  | some y => exact absurd (hp0_some e).1 h
end
def B0 (K : PySem.W.Frag) : Bg := ⟨K, fun _ => none⟩
theorem ok_start {K : PySem.W.Frag} {a : Addr} {ns : List Int} {H : Hp} (h : ScrRel K H a ns) : Ok (B0 K) (fun _ => none) [a] [.scr ns] H := by
  refine ⟨fun _ _ z => by (cases z), fun _ _ z => by (cases z), rfl, fun i j b c c' e1 e2 e3 e4 l1 l2 => ?_, fun k c b e1 e2 => ?_⟩
  · cases i with
    | zero => simp at e3; subst e3; cases l1
    | succ i => simp at e3
  · cases k with
    | zero => simp at e1 e2; subst e1 e2; exact h
    | succ k => simp at e1
/-- the promise a law's def must keep -/
def Keeps (ER : ExR) (K : PySem.W.Frag) (sem : List U → Mu → R U) : Prop := ∀ ns : List Int, ns.length ≤ 63 → ∃ μ, sem [.p 0] [.scr ns] = .ok (.d (.bool true)) μ
theorem start_sp {ER : ExR} {K : PySem.W.Frag} {sem : List U → Mu → R U} {a : Addr} {ns : List Int} {H : Hp} (hs : ∃ μ, sem [.p 0] [.scr ns] = .ok (.d (.bool true)) μ) (h : ScrRel K H a ns) :
    spOf ER K 1 sem [.ref a] H (fun v _ => v = .bl true) E0 := by
  obtain ⟨μ, e⟩ := hs
  refine ⟨rfl, B0 K, fun _ => none, [a], [.p 0], [.scr ns], rfl, ok_start h, .cons ⟨a, rfl, rfl⟩ .nil, ?_⟩
  rw [e]
  intro F' Θ' H' v x o r
  cases r
  rfl
theorem law_start {ER : ExR} {P : Program} {w : World} {K : PySem.W.Frag} {mg mb : Str → Option Value} {k : Nat} {fa a : Addr} {fd : FuncData} {x : Str} {sem : List U → Mu → R U} {s1 : Shared} {vs : List Value} {ns : List Int}
    (kin : K.In s1.heap) (gl : s1.heap.Ns mainGlobals mg) (bl : s1.heap.Ns builtinsNs mb) (boot : ∀ x : Str, x ≠ "__name__" → mb x = bootBuiltins x) (nol : s1.heap.NoLimit) (gens : s1.gens = #[])
    (obj : s1.heap.get? a = some { cls := .type "list", data := .seq vs.toArray }) (itsI : IntsAre vs ns) (few : ns.length ≤ 63) (room : Room k callerA)
    (pr : ∀ base : Heap, K.In base → base.Ns mainGlobals mg → FnG P w K mg base CX0 k fa fd [x] (spOf ER K 1 sem)) (bind : ∀ (s : Shared) (u : Value), BindsTo s fd ⟨[u], []⟩ [(x, u)]) (keeps : Keeps ER K sem) :
    codeAny (model P w) callerA (.call (.ref fa) ⟨[.ref a], []⟩) (fun r s' => r = .ok (.ret (.bool true)) ∧ OldK s1.heap s'.heap ∧ s'.os = s1.os ∧ AllBare s'.gens) s1 := by
  have lv : vs.length = ns.length := itsI.length
  have big : ns.length ≤ sizeLine := Nat.le_trans few (by rw [sizeLine_eq]; decide)
  let ob : Obj := { cls := .type "list", data := .seq vs.toArray }
  let H := hp0 K a ob ns
  have atA : ∀ b y, H b = some y → b = a ∧ K.lookup a = none ∧ y = .frz ob (.lst (ns.map V.int)) := fun b y e => hp0_some e
  have good : HOk P w H s1.heap := fun b y e => by
    obtain ⟨rfl, _, rfl⟩ := atA b y e
    exact ⟨obj, by rw [List.length_map]; exact big, vs, _, vals_ints itsI, obj⟩
  have scr : ScrRel K H a ns := by
    cases hk : K.lookup a with
    | none => exact .inl ⟨ob, if_pos ⟨rfl, hk⟩⟩
    | some o =>
      have e := kin a o hk
      rw [obj] at e
      cases e
      exact .inr fun H' => .inr ⟨_, vs.toArray, _, hk, rfl, rfl, rfl, by rw [List.size_toArray, lv]; exact big, by simpa using vals_ints itsI⟩
  let base := hidT s1.heap H
  have stay : ∀ {b : Addr} {o : Obj}, s1.heap.get? b = some o → b ≠ a → base.get? b = some o := fun e n => hidT_get e (hp0_other n)
  have names : ∀ {b : Addr} {m : Str → Option Value}, s1.heap.Ns b m → base.Ns b m := fun {b m} ⟨o, es, ep, e, d, r⟩ => by
    refine ⟨o, es, ep, stay e ?_, d, r⟩
    rintro rfl
    rw [obj] at e
    cases e
    cases d
  have kinB : K.In base := fun b o e => by
    by_cases hb : b = a
    · subst hb
      refine hidT_get (kin b o e) ?_
      show hp0 K b ob ns b = none
      unfold hp0
      rw [if_neg]
      rintro ⟨_, z⟩
      rw [e] at z
      cases z
    · exact stay (kin b o e) hb
  have mod : Mod K mg base := by
    refine ⟨kinB, names gl, ⟨mb, names bl, boot⟩, ?_⟩
    obtain ⟨mc, h1, h2⟩ := nol
    exact ⟨mc, names h1, h2⟩
  have none_frs : ∀ b, b ∈ frs ([] : List Env) → H b = none := fun b hb => by
    have : b ∈ ([] : List Addr) := hb
    cases this
  have e0 : Env0 P w K mg base callerA [] s1 H := ⟨rfl, mod, fun b o e => of_hidT e, Nat.le_of_eq (hidT_size _ _), trivial, none_frs, good, .of_eq gens⟩
  have run := (pr base kinB (names gl)).run callerA [] s1 H ⟨[.ref a], []⟩ [.ref a] [.ref a] _ E0 rfl room e0 (bind s1 (.ref a)) (.cons rfl .nil) (start_sp (keeps ns few) scr)
  refine codeAny_mono run fun r s2 h => ?_
  match r, h with
  | .error e, h => exact h.elim
  | .ok .next, h => exact False.elim h
  | .ok .brk, h => exact False.elim h
  | .ok .cont, h => exact False.elim h
  | .ok (.ret u), h =>
    obtain ⟨v, H2, os, bare, un, good2, rv, q⟩ := h
    have q : v = .bl true := q
    subst q
    obtain rfl : u = Value.bool true := rv
    refine ⟨rfl, OldK.of_keep fun b o e => ?_, os, bare⟩
    cases eh : H b with
    | none =>
      refine un.keep b o e eh (fun z => ?_) fun z => ?_
      · have : b ∈ ([] : List Addr) := z
        cases this
      · cases z
    | some y =>
      obtain ⟨_, _, rfl⟩ := atA b y eh
      obtain ⟨g1, _⟩ := good b _ eh
      obtain ⟨g2, _⟩ := good2 b _ (un.frzs b ob _ eh)
      rw [g1] at e
      cases e
      exact g2
/-- the walk of a law whose def keeps its promise -/
theorem law_walk {ER : ExR} {l : PySem.W.OpenLaw} {k : Nat} {q : Program} {loose : List Str} {XP : (Str → Option Value) → Heap → Prop} {YP : World → Heap → Prop} {d : DefRec} {x : Str} {sem : List U → Mu → R U}
    (most : l.most = some 63) (nodef : d.params.defaults = []) (room : Room k callerA) (keeps : ∀ K, Keeps ER K sem)
    (facts : ∀ (w : World) (mg : Str → Option Value) (fa : Addr) (h : Heap), YP w h → h.Ns mainGlobals mg → mg d.name = some (.ref fa) →
      ∃ (K : PySem.W.Frag) (fd : FuncData), K.In h ∧ (∀ (s : Shared) (u : Value), BindsTo s fd ⟨[u], []⟩ [(x, u)]) ∧
        ∀ base : Heap, K.In base → base.Ns mainGlobals mg → FnG l.prog w K mg base CX0 k fa fd [x] (spOf ER K 1 sem)) :
    PySem.W.WalkO q loose XP YP l.row.toRowW d [] (fun f vs => PySem.call f vs) := by
  refine Att.attach_call most nodef fun w s0 s1 mg mb fa o pm cd doc a vs ns G Y _ _ _ hmg obj itsI few gens => ?_
  obtain ⟨K, fd, kin, bind, pr⟩ := facts w mg fa _ Y G.T.g hmg
  exact law_start kin G.T.g G.T.b G.T.builtins G.T.nolimit gens obj itsI few room pr bind (keeps K)
theorem fd_same {K : PySem.W.Frag} {x y q q' : Str} {params params' : Arguments} {body body' : List Stmt} {scope scope' : Scope} {f : Addr} {fd fd' : FuncData} (F : FunD K x q params body scope [] [] f fd) (F' : FunD K y q' params' body' scope' [] [] f fd') : fd = fd' := by
  obtain ⟨oc, od, dV, kV, doc, pm, an, cdv, ct, osl, _, lk, _⟩ := F.ex
  obtain ⟨oc', od', dV', kV', doc', pm', an', cdv', ct', osl', _, lk', _⟩ := F'.ex
  rw [lk] at lk'
  injection lk' with e
  injection e with _ _ e
  injection e
end Vm
set_option Elab.async false
set_option linter.all false
set_option maxRecDepth 100000
set_option maxHeartbeats 1000000
/-! Vm, part R: plain steps, for the laws. -/
namespace Vm
open PySem PySem.Spec PyProof.Rows L2

abbrev I (i : Int) : U := .d (.int i)
section
variable {a b : DE} {t : DB} {p q : DS} {ρ ρ1 : Rho} {μ μ1 μ2 : Mu} {u v : U}
theorem bin2_ok {g : Op2} (h1 : a ρ μ = .ok u μ1) (h2 : b ρ μ1 = .ok v μ2) : bin2 g a b ρ μ = g u v μ2 := by unfold bin2; rw [h1, R.bind_ok, h2, R.bind_ok]
theorem fn1_ok {g : Fn1} (h1 : a ρ μ = .ok u μ1) : fn1 g a ρ μ = g u μ1 := by unfold fn1; rw [h1, R.bind_ok]
theorem cmp_ok {g : Cmp2} {c : Bool} (h1 : a ρ μ = .ok u μ1) (h2 : b ρ μ1 = .ok v μ2) (h3 : g u v μ2 = some c) : cmpD g a b ρ μ = .ok c μ2 := by unfold cmpD; rw [h1, R.bind_ok, h2, R.bind_ok, h3]; rfl
theorem seq_nx (h : p ρ μ = .nx ρ1 μ1) : seqS p q ρ μ = q ρ1 μ1 := by unfold seqS; rw [h]
theorem if_t (h : t ρ μ = .ok true μ1) : ifS t p q ρ μ = p ρ μ1 := by unfold ifS; rw [h]; rfl
theorem if_f (h : t ρ μ = .ok false μ1) : ifS t p q ρ μ = q ρ μ1 := by unfold ifS; rw [h]; rfl
theorem ret_ok (h : a ρ μ = .ok u μ1) : retS a ρ μ = .rt u μ1 := by unfold retS; rw [h]; rfl
theorem asg_ok {g : DG} (h : a ρ μ = .ok u μ1) (h2 : g u ρ μ1 = .ok ρ1 μ2) : asgS g a ρ μ = .nx ρ1 μ2 := by unfold asgS; rw [h, ofR_ok, h2]; rfl
theorem or_ff {t' : DB} (h : t ρ μ = .ok false μ1) (h2 : t' ρ μ1 = .ok false μ2) : orD t t' ρ μ = .ok false μ2 := by unfold orD; rw [h, R.bind_ok, if_neg Bool.false_ne_true, h2]
end
theorem mod_ok {i j : Int} (h : 0 < j) (μ : Mu) : modM (I i) (I j) μ = .ok (I (i % j)) μ := by
  show (if 0 < j then R.ok (I (i % j)) μ else .stuck) = _
  rw [if_pos h]
theorem div_ok {i j : Int} (h : 0 < j) (h2 : j < 1073741824) (μ : Mu) : fdivM (I i) (I j) μ = .ok (I (i / j)) μ := by
  show (if 0 < j ∧ j < 1073741824 then R.ok (I (i / j)) μ else .stuck) = _
  rw [if_pos ⟨h, h2⟩]
theorem mul_okL {i j : Int} (h : B64 i = true) (μ : Mu) : mulM false (I i) (I j) μ = .ok (I (i * j)) μ := by
  show (if (B64 i || B64 j) = true then R.ok (I (i * j)) μ else .stuck) = _
  rw [h, Bool.true_or, if_pos rfl]
theorem mul_okR {i j : Int} (h : B64 j = true) (μ : Mu) : mulM false (I i) (I j) μ = .ok (I (i * j)) μ := by
  show (if (B64 i || B64 j) = true then R.ok (I (i * j)) μ else .stuck) = _
  rw [h, Bool.or_true, if_pos rfl]
theorem map_I (cs : List Int) : cs.map I = (cs.map PyData.int).map U.d := by rw [List.map_map]; rfl
theorem shaped_ints (cs : List Int) : SeqAt.shaped (.list (cs.map .int)) = true := by
  unfold SeqAt.shaped
  rw [Bool.and_eq_true, decide_eq_true_eq]
  have h1 : ∀ l : List Int, PyData.canLayAll0 (l.map .int) = true := fun l => by
    induction l with
    | nil => rfl
    | cons a l ih => simp only [List.map_cons, PyData.canLayAll0, PyData.canLay0, ih]; rfl
  have h2 : ∀ l : List Int, PyData.depthAll (l.map .int) = 0 := fun l => by
    induction l with
    | nil => rfl
    | cons a l ih => simp only [List.map_cons, PyData.depthAll, PyData.depth, ih]; rfl
  refine ⟨by simp only [PyData.canLay0, h1], by simp only [PyData.depth, h2]; decide⟩
theorem below_mono {n m : Nat} (h : n ≤ m) : ∀ u : U, u.below n = true → u.below m = true
  | .d _, _ => rfl
  | .p k, e => by
    have : k < n := of_decide_eq_true e
    exact decide_eq_true (by omega)
theorem cell_mono {n m : Nat} (h : n ≤ m) : ∀ c : Cell, c.below n = true → c.below m = true
  | .dead, _ => rfl
  | .scr _, _ => rfl
  | .frz _, _ => rfl
  | .lst us, e => List.all_eq_true.mpr fun u hu => below_mono h u (List.all_eq_true.mp e u hu)
  | .dK us, e => List.all_eq_true.mpr fun u hu => below_mono h u.2 (List.all_eq_true.mp e u hu)
  | .dT us, e => List.all_eq_true.mpr fun u hu => below_mono h u.2 (List.all_eq_true.mp e u hu)

/-! ### what may be shown -/
mutual
def tiny : PyData → Bool
  | .none | .bool _ | .str _ => true
  | .int i => decide (i.natAbs < 10 ^ 12)
  | .list xs | .tuple xs => tinyAll xs
  | .dict _ => false
def tinyAll : List PyData → Bool
  | [] => true
  | x :: xs => tiny x && tinyAll xs
end
mutual
theorem tiny_ok : ∀ d : PyData, tiny d = true → d.intsShort 13 = true ∧ d.showable = true
  | .none, _ => ⟨rfl, rfl⟩
  | .bool _, _ => ⟨rfl, rfl⟩
  | .str _, _ => ⟨rfl, rfl⟩
  | .int i, h => by
    have h : i.natAbs < 10 ^ 12 := of_decide_eq_true (by simpa only [tiny] using h)
    refine ⟨?_, ?_⟩
    · simp only [PyData.intsShort, decide_eq_true_eq]
      exact PyData.shown_int_le h
    · simp only [PyData.showable, decide_eq_true_eq]
      by_cases h0 : i.natAbs = 0
      · rw [h0]; decide
      · have : i.natAbs.log2 < 40 := (Nat.log2_lt h0).mpr (Nat.lt_trans h (by decide))
        omega
  | .list xs, h => by
    have := tinyAll_ok xs (by simpa only [tiny] using h)
    exact ⟨by simp only [PyData.intsShort, this.1], by simp only [PyData.showable, this.2]⟩
  | .tuple xs, h => by
    have := tinyAll_ok xs (by simpa only [tiny] using h)
    exact ⟨by simp only [PyData.intsShort, this.1], by simp only [PyData.showable, this.2]⟩
  | .dict _, h => by simp only [tiny] at h; cases h
theorem tinyAll_ok : ∀ xs : List PyData, tinyAll xs = true → PyData.intsShortAll 13 xs = true ∧ PyData.showableAll xs = true
  | [], _ => ⟨rfl, rfl⟩
  | x :: xs, h => by
    simp only [tinyAll, Bool.and_eq_true] at h
    have h1 := tiny_ok x h.1
    have h2 := tinyAll_ok xs h.2
    exact ⟨by simp only [PyData.intsShortAll, h1.1, h2.1]; rfl, by simp only [PyData.showableAll, h1.2, h2.2]; rfl⟩
end
def goodR (x : PyData) : Bool := isDisp x && tiny x && decide (x.weight ≤ 1048576) && SeqAt.shaped x
theorem repr_ok {x : PyData} {u : U} {μ : Mu} (h : view u μ = some x) (g : goodR x = true) : reprM u μ = .ok (.d (.str x.shown)) μ := by
  unfold goodR at g
  simp only [Bool.and_eq_true, decide_eq_true_eq] at g
  obtain ⟨⟨⟨g1, g2⟩, g3⟩, g4⟩ := g
  obtain ⟨h1, h2⟩ := tiny_ok x g2
  have h3 : x.shown.length ≤ lim := by
    rw [lim_eq]
    exact PyData.shown_fits (by decide) (by decide) (PyData.leavesShort_of_canLay0 13 x (Bool.and_eq_true_iff.mp g4).1 h1) g3
  unfold reprM
  rw [h]
  simp only
  rw [if_pos (by rw [g1, h2, g4, decide_eq_true h3]; rfl)]
/-- repr(a) != repr(b), of what is the same -/
theorem repr_same {a b : DE} {ρ : Rho} {μ μ1 μ2 : Mu} {u v : U} {x : PyData} (h1 : a ρ μ = .ok u μ1) (v1 : view u μ1 = some x) (h2 : b ρ μ1 = .ok v μ2) (v2 : view v μ2 = some x) (g : goodR x = true) :
    cmpD (negC eqX) (fn1 reprM a) (fn1 reprM b) ρ μ = .ok false μ2 :=
  cmp_ok ((fn1_ok h1).trans (repr_ok v1 g)) ((fn1_ok h2).trans (repr_ok v2 g)) (by
    show (some (decide (x.shown = x.shown))).map (!·) = _
    rw [decide_eq_true rfl]; rfl)
/-- turns of a loop that keep P -/
theorem forL_inv {g : DG} {b : DS} (P : Rho → Mu → Prop) : ∀ (ds : List PyData) (ρ : Rho) (μ : Mu), (∀ d ∈ ds, ∀ ρ μ, P ρ μ → ∃ ρ1 μ1 ρ2 μ2, g (.d d) ρ μ = .ok ρ1 μ1 ∧ b ρ1 μ1 = .nx ρ2 μ2 ∧ P ρ2 μ2) → P ρ μ → ∃ ρ2 μ2, forL g b ds ρ μ = .nx ρ2 μ2 ∧ P ρ2 μ2
  | [], ρ, μ, _, h => ⟨ρ, μ, rfl, h⟩
  | d :: r, ρ, μ, hs, h => by
    obtain ⟨ρ1, μ1, ρ2, μ2, e1, e2, h2⟩ := hs d List.mem_cons_self ρ μ h
    obtain ⟨ρ3, μ3, e3, h3⟩ := forL_inv P r ρ2 μ2 (fun x hx => hs x (List.mem_cons_of_mem _ hx)) h2
    refine ⟨ρ3, μ3, ?_, h3⟩
    unfold forL
    rw [e1, ofR_ok, e2]
    exact e3
theorem mkL_dat {ds : List PyData} (h : ds.length ≤ lim) (μ : Mu) : mkL false (ds.map .d) μ = .ok (.d (.list ds)) μ := by
  unfold mkL
  rw [if_pos (by simpa using h), if_neg Bool.false_ne_true, toDs_map]
theorem lcL_map {v : Nat} {e : DE} {ρ0 : Rho} {μ : Mu} {f : PyData → PyData} : ∀ (ds acc : List PyData), (∀ d ∈ ds, e (ρ0.set v (some (.d d))) μ = .ok (.d (f d)) μ) → acc.length + ds.length ≤ lim → lcL (nameG v) yesD e ρ0 ds μ acc = .ok (acc ++ ds.map f) μ
  | [], acc, _, _ => by unfold lcL; rw [List.map_nil, List.append_nil]
  | d :: r, acc, h, hl => by
    rw [List.length_cons] at hl
    have ih := lcL_map (v := v) (e := e) (ρ0 := ρ0) (μ := μ) (f := f) r (acc ++ [f d]) (fun x hx => h x (List.mem_cons_of_mem _ hx)) (by rw [List.length_append]; simp; omega)
    unfold lcL nameG yesD
    simp only [noex, R.bind_ok, if_true]
    rw [h d List.mem_cons_self]
    simp only [noex, R.bind_ok, toD]
    rw [if_pos (by omega), List.map_cons]
    have : acc ++ f d :: r.map f = acc ++ [f d] ++ r.map f := by simp
    rw [this]
    exact ih
end Vm
set_option Elab.async false
set_option linter.all false
set_option maxRecDepth 100000
set_option maxHeartbeats 0
namespace K53
open PySem PySem.Spec PyProof.Rows L2 Vm
abbrev prg : Program := PySem.Challenge.pw_ledtoone_k53_whole_shift_machines
def top (i : Nat) : Stmt := prg.main.body.getD i (.Pass ⟨0, 0, 0, 0⟩)
/-! #### all_pairs -/
abbrev s_all_pairs : Stmt := top 1
def N_all_pairs : List Str := ["machine", "found", "one", "other"]
def w_all_pairs_1 : DS := (scB false (exprS (methD isL (varD 1) (lcD false [3] (rng2D (bin2 (addM false) (varD 2) (conD (.int 1))) (fn1 lenX (varD 0))) (Tg.nm 3).dg yesD (tupD (consL (varD 2) (consL (varD 3) nilL)))) extendM)))
def b_all_pairs : DS := (seqS (asgS (nameG 1) (lstD true nilL))
  (seqS (forS (rng1D (fn1 lenX (varD 0))) (nameG 2) w_all_pairs_1)
  (retS (varD 1))))
def F_all_pairs : Fn := ⟨["machine"], [], defN N_all_pairs false b_all_pairs⟩
def C_all_pairs : Vm.Ctx := ⟨N_all_pairs, defScope s_all_pairs, asgOf (defScope s_all_pairs), [], [], [3], [], []⟩
theorem d_all_pairs : denSs C_all_pairs 200 (defBody s_all_pairs) = some b_all_pairs := by kernel_rfl
/-! #### next_pair -/
abbrev s_next_pair : Stmt := top 2
def N_next_pair : List Str := ["machine", "pair", "letter", "one", "other"]
def b_next_pair : DS := (seqS (parS [(nameG 3), (nameG 4)] (consL (bin2 subsM (bin2 subsM (varD 0) (bin2 subsM (varD 1) (conD (.int 0)))) (varD 2)) (consL (bin2 subsM (bin2 subsM (varD 0) (bin2 subsM (varD 1) (conD (.int 1)))) (varD 2)) nilL)))
  (seqS (ifS (cmpD eqX (varD 3) (varD 4))
    (retS (conD .none))
    nopS)
  (retS (ifD (cmpD (intC fun i j => decide (i < j)) (varD 3) (varD 4)) (tupD (consL (varD 3) (consL (varD 4) nilL))) (tupD (consL (varD 4) (consL (varD 3) nilL)))))))
def F_next_pair : Fn := ⟨["machine", "pair", "letter"], [], defN N_next_pair false b_next_pair⟩
def C_next_pair : Vm.Ctx := ⟨N_next_pair, defScope s_next_pair, asgOf (defScope s_next_pair), [], [], [], [], []⟩
theorem d_next_pair : denSs C_next_pair 200 (defBody s_next_pair) = some b_next_pair := by kernel_rfl
/-! #### levels_of -/
abbrev s_levels_of : Stmt := top 3
def N_levels_of : List Str := ["machine", "pairs", "letters", "found", "grown", "more", "pair", "nexts", "letter", "other"]
def w_levels_of_1 : DS := (scB false (ifS (cmpD (negC hasC) (varD 6) (varD 3))
    (seqS (asgS (nameG 7) (lcD false [8] (iterD (varD 2)) (Tg.nm 8).dg yesD (callD F_next_pair (consL (varD 0) (consL (varD 6) (consL (varD 8) nilL))))))
    (ifS (valB (fn1 allM (lcD false [9] (iterD (varD 7)) (Tg.nm 9).dg yesD (orV (boolD (cmpD isNC (varD 9) (conD .none))) (boolD (cmpD hasC (varD 9) (varD 3)))))))
      (asgS (subG (varD 5) (varD 6)) (bin2 (addM false) (conD (.int 1)) (fn1 maxM (bin2 (addM false) (lstD false (consL (conD (.int 0)) nilL)) (lcD false [9] (iterD (varD 7)) (Tg.nm 9).dg (cmpD (negC isNC) (varD 9) (conD .none)) (bin2 subsM (varD 3) (varD 9)))))))
      nopS))
    nopS))
def t_levels_of_2 : DB := (valB (varD 4))
def w_levels_of_2 : DS := (scB false (seqS (asgS (nameG 5) newTD)
  (seqS (forS (iterD (varD 1)) (nameG 6) w_levels_of_1)
  (seqS (exprS (methD isD (varD 3) (varD 5) updM))
  (asgS (nameG 4) (boolD (cmpD (negC eqX) (varD 5) newKD)))))))
def b_levels_of : DS := (seqS (parS [(nameG 1), (nameG 2), (nameG 3)] (consL (callD F_all_pairs (consL (varD 0) nilL)) (consL (lrg1 false (fn1 lenX (bin2 subsM (varD 0) (conD (.int 0))))) (consL newTD nilL))))
  (seqS (asgS (nameG 4) (conD (.bool true)))
  (seqS (whileS t_levels_of_2 w_levels_of_2)
  (retS (varD 3)))))
def F_levels_of : Fn := ⟨["machine"], [], defN N_levels_of false b_levels_of⟩
def C_levels_of : Vm.Ctx := ⟨N_levels_of, defScope s_levels_of, asgOf (defScope s_levels_of), [("all_pairs", F_all_pairs), ("next_pair", F_next_pair)], [], [], [13, 16], []⟩
theorem d_levels_of : denSs C_levels_of 200 (defBody s_levels_of) = some b_levels_of := by kernel_rfl
/-! #### memory_of -/
abbrev s_memory_of : Stmt := top 4
def N_memory_of : List Str := ["machine", "pairs", "found"]
def b_memory_of : DS := (seqS (parS [(nameG 1), (nameG 2)] (consL (callD F_all_pairs (consL (varD 0) nilL)) (consL (callD F_levels_of (consL (varD 0) nilL)) nilL)))
  (seqS (ifS (cmpD (intC fun i j => decide (i < j)) (fn1 lenX (varD 2)) (fn1 lenX (varD 1)))
    (retS (conD .none))
    nopS)
  (retS (fn1 maxM (bin2 (addM false) (lstD false (consL (conD (.int 0)) nilL)) (fn1 (lvsM false) (varD 2)))))))
def F_memory_of : Fn := ⟨["machine"], [], defN N_memory_of false b_memory_of⟩
def C_memory_of : Vm.Ctx := ⟨N_memory_of, defScope s_memory_of, asgOf (defScope s_memory_of), [("levels_of", F_levels_of), ("all_pairs", F_all_pairs)], [], [], [], []⟩
theorem d_memory_of : denSs C_memory_of 200 (defBody s_memory_of) = some b_memory_of := by kernel_rfl
/-! #### rooms_of -/
abbrev s_rooms_of : Stmt := top 6
def N_rooms_of : List Str := ["letters", "length", "found", "step"]
def w_rooms_of_1 : DS := (scB false (asgS (nameG 2) (bin2 (mulM false) (varD 2) (varD 0))))
def b_rooms_of : DS := (seqS (asgS (nameG 2) (conD (.int 1)))
  (seqS (forS (rng1D (varD 1)) (nameG 3) w_rooms_of_1)
  (retS (varD 2))))
def F_rooms_of : Fn := ⟨["letters", "length"], [], defN N_rooms_of false b_rooms_of⟩
def C_rooms_of : Vm.Ctx := ⟨N_rooms_of, defScope s_rooms_of, asgOf (defScope s_rooms_of), [], [], [], [], []⟩
theorem d_rooms_of : denSs C_rooms_of 200 (defBody s_rooms_of) = some b_rooms_of := by kernel_rfl
/-! #### shift_machine -/
abbrev s_shift_machine : Stmt := top 7
def N_shift_machine : List Str := ["letters", "length", "many", "letter", "room"]
def b_shift_machine : DS := (seqS (asgS (nameG 2) (callD F_rooms_of (consL (varD 0) (consL (varD 1) nilL))))
  (retS (fn1 tupleM (lcD false [4] (rng1D (varD 2)) (Tg.nm 4).dg yesD (fn1 tupleM (lcD false [3] (rng1D (varD 0)) (Tg.nm 3).dg yesD (bin2 modM (bin2 (addM false) (bin2 (mulM false) (varD 4) (varD 0)) (varD 3)) (varD 2))))))))
def F_shift_machine : Fn := ⟨["letters", "length"], [((["length", "letters"] : List Str), [1, 0])], defN N_shift_machine false b_shift_machine⟩
def C_shift_machine : Vm.Ctx := ⟨N_shift_machine, defScope s_shift_machine, asgOf (defScope s_shift_machine), [("rooms_of", F_rooms_of)], [], [], [], []⟩
theorem d_shift_machine : denSs C_shift_machine 200 (defBody s_shift_machine) = some b_shift_machine := by kernel_rfl
/-! #### shift_word -/
abbrev s_shift_word : Stmt := top 8
def N_shift_word : List Str := ["letters", "length", "room", "found", "step"]
def w_shift_word_1 : DS := (scB false (seqS (exprS (methD isL (varD 3) (bin2 modM (varD 2) (varD 0)) appendM))
  (asgS (nameG 2) (bin2 fdivM (varD 2) (varD 0)))))
def b_shift_word : DS := (seqS (asgS (nameG 3) (lstD true nilL))
  (seqS (forS (rng1D (varD 1)) (nameG 4) w_shift_word_1)
  (retS (fn1 tupleM (fn1 (revM false) (varD 3))))))
def F_shift_word : Fn := ⟨["letters", "length", "room"], [((["room", "length", "letters"] : List Str), [2, 1, 0])], defN N_shift_word false b_shift_word⟩
def C_shift_word : Vm.Ctx := ⟨N_shift_word, defScope s_shift_word, asgOf (defScope s_shift_word), [], [], [40], [], []⟩
theorem d_shift_word : denSs C_shift_word 200 (defBody s_shift_word) = some b_shift_word := by kernel_rfl
/-! #### shift_room -/
abbrev s_shift_room : Stmt := top 9
def N_shift_room : List Str := ["letters", "length", "word", "found", "letter"]
def w_shift_room_1 : DS := (scB false (asgS (nameG 3) (bin2 (addM false) (bin2 (mulM false) (varD 3) (varD 0)) (varD 4))))
def b_shift_room : DS := (seqS (asgS (nameG 3) (conD (.int 0)))
  (seqS (forS (iterD (varD 2)) (nameG 4) w_shift_room_1)
  (retS (varD 3))))
def F_shift_room : Fn := ⟨["letters", "length", "word"], [((["word", "length", "letters"] : List Str), [2, 1, 0])], defN N_shift_room false b_shift_room⟩
def C_shift_room : Vm.Ctx := ⟨N_shift_room, defScope s_shift_room, asgOf (defScope s_shift_room), [], [], [], [], []⟩
theorem d_shift_room : denSs C_shift_room 200 (defBody s_shift_room) = some b_shift_room := by kernel_rfl
/-! #### _law_bag -/
abbrev s__law_bag : Stmt := top 11
def N__law_bag : List Str := ["script", "cells", "cell", "mixed"]
def w__law_bag_1 : DS := (scB false (asgS (nameG 3) (bin2 modM (fn1 intM (bin2 (addM false) (bin2 (addM false) (bin2 (mulM false) (varD 3) (conD (.int 48271))) (bin2 modM (fn1 intM (varD 2)) (conD (.int 2147483629)))) (conD (.int 5)))) (conD (.int 2147483647)))))
def b__law_bag : DS := (seqS (asgS (nameG 1) (lcD false [2] (iterD (sliceD false (varD 0) none (some (conD (.int 63))))) (Tg.nm 2).dg yesD (fn1 absM (varD 2))))
  (seqS (asgS (nameG 3) (bin2 (addM false) (conD (.int 17523)) (fn1 lenX (varD 1))))
  (seqS (forS (iterD (varD 1)) (nameG 2) w__law_bag_1)
  (retS (lstD true (consL (fn1 (revM true) (varD 1)) (consL (conD (.int 0)) (consL (varD 3) nilL))))))))
def F__law_bag : Fn := ⟨["script"], [], defN N__law_bag true b__law_bag⟩
def C__law_bag : Vm.Ctx := ⟨N__law_bag, defScope s__law_bag, asgOf (defScope s__law_bag), [], [], [56], [], []⟩
theorem d__law_bag : denSs C__law_bag 200 (defBody s__law_bag) = some b__law_bag := by kernel_rfl
/-! #### _law_draw -/
abbrev s__law_draw : Stmt := top 12
def N__law_draw : List Str := ["bag", "below", "cell", "found"]
def t__law_draw_1 : DB := (andD (cmpD eqX (bin2 subsM (varD 0) (conD (.int 1))) (conD (.int 0))) (cmpD (negC eqX) (bin2 subsM (varD 0) (conD (.int 0))) (lstD false nilL)))
def w__law_draw_1 : DS := (scB false (seqS (asgS (nameG 2) (meth0 isL (bin2 subsM (varD 0) (conD (.int 0))) popM))
  (asgS (subG (varD 0) (conD (.int 1))) (ifD (cmpD (intC fun i j => decide (j < i)) (varD 2) (bin2 powM (conD (.int 10)) (conD (.int 9)))) (varD 2) (conD (.int 0))))))
def b__law_draw : DS := (seqS (whileS t__law_draw_1 w__law_draw_1)
  (seqS (ifS (cmpD (intC fun i j => decide (j < i)) (bin2 subsM (varD 0) (conD (.int 1))) (conD (.int 0)))
    (seqS (asgS (nameG 3) (bin2 modM (fn1 intM (bin2 subsM (varD 0) (conD (.int 1)))) (varD 1)))
    (seqS (asgS (subG (varD 0) (conD (.int 1))) (bin2 fdivM (bin2 subsM (varD 0) (conD (.int 1))) (varD 1)))
    (retS (varD 3))))
    nopS)
  (seqS (asgS (subG (varD 0) (conD (.int 2))) (bin2 modM (fn1 intM (bin2 (addM false) (bin2 (mulM false) (bin2 subsM (varD 0) (conD (.int 2))) (conD (.int 48271))) (conD (.int 13)))) (conD (.int 2147483647))))
  (retS (bin2 modM (fn1 intM (bin2 fdivM (bin2 modM (fn1 intM (bin2 (mulM false) (bin2 subsM (varD 0) (conD (.int 2))) (bin2 subsM (varD 0) (conD (.int 2))))) (conD (.int 2147483629))) (conD (.int 7)))) (varD 1))))))
def F__law_draw : Fn := ⟨["bag", "below"], [], defN N__law_draw false b__law_draw⟩
def C__law_draw : Vm.Ctx := ⟨N__law_draw, defScope s__law_draw, asgOf (defScope s__law_draw), [], [], [], [], []⟩
theorem d__law_draw : denSs C__law_draw 200 (defBody s__law_draw) = some b__law_draw := by kernel_rfl
/-! #### _law_pick -/
abbrev s__law_pick : Stmt := top 13
def N__law_pick : List Str := ["bag", "some"]
def b__law_pick : DS := (retS (bin2 subsM (varD 1) (callD F__law_draw (consL (varD 0) (consL (fn1 lenX (varD 1)) nilL)))))
def F__law_pick : Fn := ⟨["bag", "some"], [], defN N__law_pick false b__law_pick⟩
def C__law_pick : Vm.Ctx := ⟨N__law_pick, defScope s__law_pick, asgOf (defScope s__law_pick), [("_law_draw", F__law_draw)], [], [], [], []⟩
theorem d__law_pick : denSs C__law_pick 200 (defBody s__law_pick) = some b__law_pick := by kernel_rfl
/-! #### _law_word -/
abbrev s__law_word : Stmt := top 14
def N__law_word : List Str := ["letters", "length", "room", "found", "turn"]
def w__law_word_1 : DS := (scB false (seqS (asgS (nameG 3) (bin2 (addM false) (tupD (consL (bin2 modM (fn1 intM (varD 2)) (varD 0)) nilL)) (varD 3)))
  (asgS (nameG 2) (bin2 fdivM (varD 2) (varD 0)))))
def b__law_word : DS := (seqS (asgS (nameG 3) (tupD nilL))
  (seqS (forS (rng1D (varD 1)) (nameG 4) w__law_word_1)
  (retS (varD 3))))
def F__law_word : Fn := ⟨["letters", "length", "room"], [], defN N__law_word false b__law_word⟩
def C__law_word : Vm.Ctx := ⟨N__law_word, defScope s__law_word, asgOf (defScope s__law_word), [], [], [], [], []⟩
theorem d__law_word : denSs C__law_word 200 (defBody s__law_word) = some b__law_word := by kernel_rfl
/-! #### _law_room -/
abbrev s__law_room : Stmt := top 15
def N__law_room : List Str := ["letters", "word", "found", "letter"]
def w__law_room_1 : DS := (scB false (asgS (nameG 2) (bin2 (addM false) (bin2 (mulM false) (varD 2) (varD 0)) (varD 3))))
def b__law_room : DS := (seqS (asgS (nameG 2) (conD (.int 0)))
  (seqS (forS (iterD (varD 1)) (nameG 3) w__law_room_1)
  (retS (varD 2))))
def F__law_room : Fn := ⟨["letters", "word"], [], defN N__law_room false b__law_room⟩
def C__law_room : Vm.Ctx := ⟨N__law_room, defScope s__law_room, asgOf (defScope s__law_room), [], [], [], [], []⟩
theorem d__law_room : denSs C__law_room 200 (defBody s__law_room) = some b__law_room := by kernel_rfl
/-! #### law -/
abbrev s_law : Stmt := top 16
def N_law : List Str := ["script", "bag", "turn", "sizes", "letters", "length", "words", "step", "longer", "word", "letter", "rows", "due", "again", "room", "told", "here"]
def w_law_1 : DS := (scB false (exprS (methD isL (varD 3) (lcD false [5] (rng1D (bin2 subsM (lstD false (consL (conD (.int 7)) (consL (conD (.int 7)) (consL (conD (.int 4)) (consL (conD (.int 4)) nilL))))) (bin2 subM (varD 4) (conD (.int 1))))) (Tg.nm 5).dg yesD (tupD (consL (varD 4) (consL (varD 5) nilL)))) extendM)))
def w_law_2 : DS := (scB false (exprS (methD isL (varD 8) (lcD false [10] (rng1D (varD 4)) (Tg.nm 10).dg yesD (bin2 (addM false) (varD 9) (tupD (consL (varD 10) nilL)))) extendM)))
def w_law_3 : DS := (scB false (seqS (asgS (nameG 8) (lstD true nilL))
  (seqS (forS (iterD (varD 6)) (nameG 9) w_law_2)
  (asgS (nameG 6) (fn1 (listM false) (varD 8))))))
def w_law_4 : DS := (scB false (exprS (methD isL (varD 11) (fn1 tupleM (lcD false [10] (rng1D (varD 4)) (Tg.nm 10).dg yesD (callD F__law_room (consL (varD 4) (consL (sliceD false (bin2 (addM false) (varD 9) (tupD (consL (varD 10) nilL))) (some (conD (.int 1))) none) nilL))))) appendM)))
def w_law_5 : DS := (scB false (asgS (nameG 16) (bin2 subsM (bin2 subsM (varD 11) (varD 16)) (varD 10))))
def w_law_6 : DS := (scB true (seqS (asgS (nameG 14) (callD F__law_draw (consL (varD 1) (consL (fn1 lenX (varD 6)) nilL))))
  (seqS (asgS (nameG 9) (bin2 subsM (varD 6) (varD 14)))
  (seqS (asgS (nameG 15) (lstD true (consL (callD F_shift_word (consL (varD 4) (consL (varD 5) (consL (varD 14) nilL)))) (consL (callKD F_shift_word ((["room", "length", "letters"] : List Str), [2, 1, 0]) (consL (varD 14) (consL (varD 5) (consL (varD 4) nilL)))) nilL))))
  (seqS (exprS (methD isL (varD 15) (lstD false (consL (callD F_shift_room (consL (varD 4) (consL (varD 5) (consL (varD 9) nilL)))) (consL (callKD F_shift_room ((["word", "length", "letters"] : List Str), [2, 1, 0]) (consL (varD 9) (consL (varD 5) (consL (varD 4) nilL)))) nilL))) extendM))
  (seqS (ifS (orD (cmpD (negC eqX) (fn1 reprM (varD 15)) (fn1 reprM (lstD false (consL (varD 9) (consL (varD 9) (consL (varD 14) (consL (varD 14) nilL))))))) (cmpD (negC eqX) (callD F__law_word (consL (varD 4) (consL (varD 5) (consL (varD 14) nilL)))) (varD 9)))
    (retS (conD (.bool false)))
    nopS)
  (seqS (asgS (nameG 16) (callD F__law_draw (consL (varD 1) (consL (fn1 lenX (varD 6)) nilL))))
  (seqS (forS (iterD (varD 9)) (nameG 10) w_law_5)
  (ifS (cmpD (negC eqX) (varD 16) (varD 14))
    (retS (conD (.bool false)))
    nopS)))))))))
def w_law_7 : DS := (scB true (seqS (asgS (nameG 3) (lstD true nilL))
  (seqS (forS (iterD (tupD (consL (conD (.int 1)) (consL (conD (.int 2)) (consL (conD (.int 3)) (consL (conD (.int 4)) nilL)))))) (nameG 4) w_law_1)
  (seqS (asgS (tupG [(nameG 4), (nameG 5)]) (callD F__law_pick (consL (varD 1) (consL (varD 3) nilL))))
  (seqS (asgS (nameG 6) (lstD false (consL (tupD nilL) nilL)))
  (seqS (forS (rng1D (varD 5)) (nameG 7) w_law_3)
  (seqS (asgS (nameG 11) (lstD true nilL))
  (seqS (forS (iterD (varD 6)) (nameG 9) w_law_4)
  (seqS (asgS (nameG 12) (fn1 tupleM (varD 11)))
  (seqS (ifS (cmpD (negC eqX) (fn1 reprM (lstD false (consL (callD F_shift_machine (consL (varD 4) (consL (varD 5) nilL))) (consL (callKD F_shift_machine ((["length", "letters"] : List Str), [1, 0]) (consL (varD 5) (consL (varD 4) nilL))) nilL)))) (fn1 reprM (lstD false (consL (varD 12) (consL (varD 12) nilL)))))
    (retS (conD (.bool false)))
    nopS)
  (seqS (forS (rng1D (conD (.int 4))) (nameG 13) w_law_6)
  (ifS (andD (cmpD (intC fun i j => decide (i < j)) (fn1 lenX (varD 11)) (conD (.int 8))) (cmpD (negC eqX) (callD F_memory_of (consL (varD 12) nilL)) (ifD (cmpD (intC fun i j => decide (j < i)) (varD 4) (conD (.int 1))) (varD 5) (conD (.int 0)))))
    (retS (conD (.bool false)))
    nopS))))))))))))
def b_law : DS := (seqS (asgS (nameG 1) (callD F__law_bag (consL (varD 0) nilL)))
  (seqS (forS (rng1D (conD (.int 3))) (nameG 2) w_law_7)
  (retS (conD (.bool true)))))
def F_law : Fn := ⟨["script"], [], defN N_law false b_law⟩
def C_law : Vm.Ctx := ⟨N_law, defScope s_law, asgOf (defScope s_law), [("_law_bag", F__law_bag), ("_law_pick", F__law_pick), ("_law_room", F__law_room), ("shift_machine", F_shift_machine), ("_law_draw", F__law_draw), ("shift_word", F_shift_word), ("shift_room", F_shift_room), ("_law_word", F__law_word), ("memory_of", F_memory_of)], [], [83, 89, 93, 102], [], [82, 99]⟩
theorem d_law : denSs C_law 200 (defBody s_law) = some b_law := by kernel_rfl
/-! #### the head -/
def fn : List He.DefD := [⟨("all_pairs", none), "all_pairs", "all_pairs", defArgs s_all_pairs, defBody s_all_pairs, defScope s_all_pairs, [], []⟩, ⟨("next_pair", none), "next_pair", "next_pair", defArgs s_next_pair, defBody s_next_pair, defScope s_next_pair, [], []⟩, ⟨("levels_of", none), "levels_of", "levels_of", defArgs s_levels_of, defBody s_levels_of, defScope s_levels_of, [], []⟩, ⟨("memory_of", none), "memory_of", "memory_of", defArgs s_memory_of, defBody s_memory_of, defScope s_memory_of, [], []⟩, ⟨("rooms_of", none), "rooms_of", "rooms_of", defArgs s_rooms_of, defBody s_rooms_of, defScope s_rooms_of, [], []⟩, ⟨("shift_machine", none), "shift_machine", "shift_machine", defArgs s_shift_machine, defBody s_shift_machine, defScope s_shift_machine, [], []⟩, ⟨("shift_word", none), "shift_word", "shift_word", defArgs s_shift_word, defBody s_shift_word, defScope s_shift_word, [], []⟩, ⟨("shift_room", none), "shift_room", "shift_room", defArgs s_shift_room, defBody s_shift_room, defScope s_shift_room, [], []⟩, ⟨("_law_bag", none), "_law_bag", "_law_bag", defArgs s__law_bag, defBody s__law_bag, defScope s__law_bag, [], []⟩, ⟨("_law_draw", none), "_law_draw", "_law_draw", defArgs s__law_draw, defBody s__law_draw, defScope s__law_draw, [], []⟩, ⟨("_law_pick", none), "_law_pick", "_law_pick", defArgs s__law_pick, defBody s__law_pick, defScope s__law_pick, [], []⟩, ⟨("_law_word", none), "_law_word", "_law_word", defArgs s__law_word, defBody s__law_word, defScope s__law_word, [], []⟩, ⟨("_law_room", none), "_law_room", "_law_room", defArgs s__law_room, defBody s__law_room, defScope s__law_room, [], []⟩, ⟨("law", none), "law", "law", defArgs s_law, defBody s_law, defScope s_law, [], []⟩]
def fa : List He.Fa := [.glo "all_pairs", .glo "next_pair", .glo "levels_of", .glo "memory_of", .glo "rooms_of", .glo "shift_machine", .glo "shift_word", .glo "shift_room", .glo "_law_bag", .glo "_law_draw", .glo "_law_pick", .glo "_law_word", .glo "_law_room", .glo "law", .free "len", .free "abs", .free "int", .free "tuple", .free "list", .free "sum", .free "all", .free "any", .free "max", .free "min", .free "repr", .free "range", .free "enumerate", .free "zip", .free "sorted", .free "set", .free "isinstance", .free "dict", .free "bool", .free "str"]
section
variable {w : World} {K : PySem.W.Frag} {mg : Str → Option Value} {base h : Heap} (c : He.SaysD fa fn K) (X : K.In h) (G : h.Ns mainGlobals mg)
abbrev ER0 : ExR := fun _ _ _ _ => False
include c X G
theorem tp : Top K mg := ⟨fun b hb => by
  simp only [bis, List.mem_cons, List.not_mem_nil, or_false] at hb
  rcases hb with rfl | rfl | rfl | rfl | rfl | rfl | rfl | rfl | rfl | rfl | rfl | rfl | rfl | rfl | rfl | rfl | rfl | rfl | rfl | rfl
  · exact He.free_ok X G (c.fact 14 (f := .free "len") rfl)
  · exact He.free_ok X G (c.fact 15 (f := .free "abs") rfl)
  · exact He.free_ok X G (c.fact 16 (f := .free "int") rfl)
  · exact He.free_ok X G (c.fact 17 (f := .free "tuple") rfl)
  · exact He.free_ok X G (c.fact 18 (f := .free "list") rfl)
  · exact He.free_ok X G (c.fact 19 (f := .free "sum") rfl)
  · exact He.free_ok X G (c.fact 20 (f := .free "all") rfl)
  · exact He.free_ok X G (c.fact 21 (f := .free "any") rfl)
  · exact He.free_ok X G (c.fact 22 (f := .free "max") rfl)
  · exact He.free_ok X G (c.fact 23 (f := .free "min") rfl)
  · exact He.free_ok X G (c.fact 24 (f := .free "repr") rfl)
  · exact He.free_ok X G (c.fact 25 (f := .free "range") rfl)
  · exact He.free_ok X G (c.fact 26 (f := .free "enumerate") rfl)
  · exact He.free_ok X G (c.fact 27 (f := .free "zip") rfl)
  · exact He.free_ok X G (c.fact 28 (f := .free "sorted") rfl)
  · exact He.free_ok X G (c.fact 29 (f := .free "set") rfl)
  · exact He.free_ok X G (c.fact 30 (f := .free "isinstance") rfl)
  · exact He.free_ok X G (c.fact 31 (f := .free "dict") rfl)
  · exact He.free_ok X G (c.fact 32 (f := .free "bool") rfl)
  · exact He.free_ok X G (c.fact 33 (f := .free "str") rfl)
  ⟩
theorem g_all_pairs : ∃ fd, FunD K "all_pairs" "all_pairs" (defArgs s_all_pairs) (defBody s_all_pairs) (defScope s_all_pairs) [] [] (He.fAd K ("all_pairs", none)) fd ∧ FnG prg w K mg base CX0 1 (He.fAd K ("all_pairs", none)) fd ["machine"] (spOf ER0 K 1 F_all_pairs.sem) := by
  obtain ⟨fd, F⟩ := c.def_ 0 rfl
  exact ⟨fd, F, fnG_def (k := 0) (N := N_all_pairs) (Γ := C_all_pairs) F ⟨rfl, rfl, rfl, by decide +kernel, rfl, by decide +kernel, by decide +kernel⟩ (tp c X G) rfl rfl (fun _ => rfl) d_all_pairs (cal_nil) no_cs⟩
theorem B_all_pairs : FnB ER0 CX0 prg w K mg base 1 "all_pairs" F_all_pairs := by
  obtain ⟨fd, F, g⟩ := g_all_pairs (w := w) (base := base) c X G
  refine fnB_of F (He.glo_ok X G (c.fact 0 (f := .glo "all_pairs") rfl)) g (F.bindsN fun _ _ _ _ _ _ us hl => match us, hl with | [_], _ => rfl) fun q hq => ?_
  cases hq
theorem g_next_pair : ∃ fd, FunD K "next_pair" "next_pair" (defArgs s_next_pair) (defBody s_next_pair) (defScope s_next_pair) [] [] (He.fAd K ("next_pair", none)) fd ∧ FnG prg w K mg base CX0 1 (He.fAd K ("next_pair", none)) fd ["machine", "pair", "letter"] (spOf ER0 K 3 F_next_pair.sem) := by
  obtain ⟨fd, F⟩ := c.def_ 1 rfl
  exact ⟨fd, F, fnG_def (k := 0) (N := N_next_pair) (Γ := C_next_pair) F ⟨rfl, rfl, rfl, by decide +kernel, rfl, by decide +kernel, by decide +kernel⟩ (tp c X G) rfl rfl (fun _ => rfl) d_next_pair (cal_nil) no_cs⟩
theorem B_next_pair : FnB ER0 CX0 prg w K mg base 1 "next_pair" F_next_pair := by
  obtain ⟨fd, F, g⟩ := g_next_pair (w := w) (base := base) c X G
  refine fnB_of F (He.glo_ok X G (c.fact 1 (f := .glo "next_pair") rfl)) g (F.bindsN fun _ _ _ _ _ _ us hl => match us, hl with | [_, _, _], _ => rfl) fun q hq => ?_
  cases hq
theorem g_levels_of : ∃ fd, FunD K "levels_of" "levels_of" (defArgs s_levels_of) (defBody s_levels_of) (defScope s_levels_of) [] [] (He.fAd K ("levels_of", none)) fd ∧ FnG prg w K mg base CX0 2 (He.fAd K ("levels_of", none)) fd ["machine"] (spOf ER0 K 1 F_levels_of.sem) := by
  obtain ⟨fd, F⟩ := c.def_ 2 rfl
  exact ⟨fd, F, fnG_def (k := 1) (N := N_levels_of) (Γ := C_levels_of) F ⟨rfl, rfl, rfl, by decide +kernel, rfl, by decide +kernel, by decide +kernel⟩ (tp c X G) rfl rfl (fun _ => rfl) d_levels_of (cal_cons (B_all_pairs c X G) (by decide) (cal_cons (B_next_pair c X G) (by decide) (cal_nil))) no_cs⟩
theorem B_levels_of : FnB ER0 CX0 prg w K mg base 2 "levels_of" F_levels_of := by
  obtain ⟨fd, F, g⟩ := g_levels_of (w := w) (base := base) c X G
  refine fnB_of F (He.glo_ok X G (c.fact 2 (f := .glo "levels_of") rfl)) g (F.bindsN fun _ _ _ _ _ _ us hl => match us, hl with | [_], _ => rfl) fun q hq => ?_
  cases hq
theorem g_memory_of : ∃ fd, FunD K "memory_of" "memory_of" (defArgs s_memory_of) (defBody s_memory_of) (defScope s_memory_of) [] [] (He.fAd K ("memory_of", none)) fd ∧ FnG prg w K mg base CX0 3 (He.fAd K ("memory_of", none)) fd ["machine"] (spOf ER0 K 1 F_memory_of.sem) := by
  obtain ⟨fd, F⟩ := c.def_ 3 rfl
  exact ⟨fd, F, fnG_def (k := 2) (N := N_memory_of) (Γ := C_memory_of) F ⟨rfl, rfl, rfl, by decide +kernel, rfl, by decide +kernel, by decide +kernel⟩ (tp c X G) rfl rfl (fun _ => rfl) d_memory_of (cal_cons (B_levels_of c X G) (by decide) (cal_cons (B_all_pairs c X G) (by decide) (cal_nil))) no_cs⟩
theorem B_memory_of : FnB ER0 CX0 prg w K mg base 3 "memory_of" F_memory_of := by
  obtain ⟨fd, F, g⟩ := g_memory_of (w := w) (base := base) c X G
  refine fnB_of F (He.glo_ok X G (c.fact 3 (f := .glo "memory_of") rfl)) g (F.bindsN fun _ _ _ _ _ _ us hl => match us, hl with | [_], _ => rfl) fun q hq => ?_
  cases hq
theorem g_rooms_of : ∃ fd, FunD K "rooms_of" "rooms_of" (defArgs s_rooms_of) (defBody s_rooms_of) (defScope s_rooms_of) [] [] (He.fAd K ("rooms_of", none)) fd ∧ FnG prg w K mg base CX0 1 (He.fAd K ("rooms_of", none)) fd ["letters", "length"] (spOf ER0 K 2 F_rooms_of.sem) := by
  obtain ⟨fd, F⟩ := c.def_ 4 rfl
  exact ⟨fd, F, fnG_def (k := 0) (N := N_rooms_of) (Γ := C_rooms_of) F ⟨rfl, rfl, rfl, by decide +kernel, rfl, by decide +kernel, by decide +kernel⟩ (tp c X G) rfl rfl (fun _ => rfl) d_rooms_of (cal_nil) no_cs⟩
theorem B_rooms_of : FnB ER0 CX0 prg w K mg base 1 "rooms_of" F_rooms_of := by
  obtain ⟨fd, F, g⟩ := g_rooms_of (w := w) (base := base) c X G
  refine fnB_of F (He.glo_ok X G (c.fact 4 (f := .glo "rooms_of") rfl)) g (F.bindsN fun _ _ _ _ _ _ us hl => match us, hl with | [_, _], _ => rfl) fun q hq => ?_
  cases hq
theorem g_shift_machine : ∃ fd, FunD K "shift_machine" "shift_machine" (defArgs s_shift_machine) (defBody s_shift_machine) (defScope s_shift_machine) [] [] (He.fAd K ("shift_machine", none)) fd ∧ FnG prg w K mg base CX0 2 (He.fAd K ("shift_machine", none)) fd ["letters", "length"] (spOf ER0 K 2 F_shift_machine.sem) := by
  obtain ⟨fd, F⟩ := c.def_ 5 rfl
  exact ⟨fd, F, fnG_def (k := 1) (N := N_shift_machine) (Γ := C_shift_machine) F ⟨rfl, rfl, rfl, by decide +kernel, rfl, by decide +kernel, by decide +kernel⟩ (tp c X G) rfl rfl (fun _ => rfl) d_shift_machine (cal_cons (B_rooms_of c X G) (by decide) (cal_nil)) no_cs⟩
theorem B_shift_machine : FnB ER0 CX0 prg w K mg base 2 "shift_machine" F_shift_machine := by
  obtain ⟨fd, F, g⟩ := g_shift_machine (w := w) (base := base) c X G
  refine fnB_of F (He.glo_ok X G (c.fact 5 (f := .glo "shift_machine") rfl)) g (F.bindsN fun _ _ _ _ _ _ us hl => match us, hl with | [_, _], _ => rfl) fun q hq => ?_
  simp only [F_shift_machine, List.mem_cons, List.not_mem_nil, or_false] at hq
  rcases hq with rfl
  · exact bindsK F fun _ _ _ _ _ _ ws us h1 h2 => match ws, h2 with | [w0, w1], _ => by rw [some_inj (l := [w1, w0]) h1]; rfl
theorem g_shift_word : ∃ fd, FunD K "shift_word" "shift_word" (defArgs s_shift_word) (defBody s_shift_word) (defScope s_shift_word) [] [] (He.fAd K ("shift_word", none)) fd ∧ FnG prg w K mg base CX0 1 (He.fAd K ("shift_word", none)) fd ["letters", "length", "room"] (spOf ER0 K 3 F_shift_word.sem) := by
  obtain ⟨fd, F⟩ := c.def_ 6 rfl
  exact ⟨fd, F, fnG_def (k := 0) (N := N_shift_word) (Γ := C_shift_word) F ⟨rfl, rfl, rfl, by decide +kernel, rfl, by decide +kernel, by decide +kernel⟩ (tp c X G) rfl rfl (fun _ => rfl) d_shift_word (cal_nil) no_cs⟩
theorem B_shift_word : FnB ER0 CX0 prg w K mg base 1 "shift_word" F_shift_word := by
  obtain ⟨fd, F, g⟩ := g_shift_word (w := w) (base := base) c X G
  refine fnB_of F (He.glo_ok X G (c.fact 6 (f := .glo "shift_word") rfl)) g (F.bindsN fun _ _ _ _ _ _ us hl => match us, hl with | [_, _, _], _ => rfl) fun q hq => ?_
  simp only [F_shift_word, List.mem_cons, List.not_mem_nil, or_false] at hq
  rcases hq with rfl
  · exact bindsK F fun _ _ _ _ _ _ ws us h1 h2 => match ws, h2 with | [w0, w1, w2], _ => by rw [some_inj (l := [w2, w1, w0]) h1]; rfl
theorem g_shift_room : ∃ fd, FunD K "shift_room" "shift_room" (defArgs s_shift_room) (defBody s_shift_room) (defScope s_shift_room) [] [] (He.fAd K ("shift_room", none)) fd ∧ FnG prg w K mg base CX0 1 (He.fAd K ("shift_room", none)) fd ["letters", "length", "word"] (spOf ER0 K 3 F_shift_room.sem) := by
  obtain ⟨fd, F⟩ := c.def_ 7 rfl
  exact ⟨fd, F, fnG_def (k := 0) (N := N_shift_room) (Γ := C_shift_room) F ⟨rfl, rfl, rfl, by decide +kernel, rfl, by decide +kernel, by decide +kernel⟩ (tp c X G) rfl rfl (fun _ => rfl) d_shift_room (cal_nil) no_cs⟩
theorem B_shift_room : FnB ER0 CX0 prg w K mg base 1 "shift_room" F_shift_room := by
  obtain ⟨fd, F, g⟩ := g_shift_room (w := w) (base := base) c X G
  refine fnB_of F (He.glo_ok X G (c.fact 7 (f := .glo "shift_room") rfl)) g (F.bindsN fun _ _ _ _ _ _ us hl => match us, hl with | [_, _, _], _ => rfl) fun q hq => ?_
  simp only [F_shift_room, List.mem_cons, List.not_mem_nil, or_false] at hq
  rcases hq with rfl
  · exact bindsK F fun _ _ _ _ _ _ ws us h1 h2 => match ws, h2 with | [w0, w1, w2], _ => by rw [some_inj (l := [w2, w1, w0]) h1]; rfl
theorem g__law_bag : ∃ fd, FunD K "_law_bag" "_law_bag" (defArgs s__law_bag) (defBody s__law_bag) (defScope s__law_bag) [] [] (He.fAd K ("_law_bag", none)) fd ∧ FnG prg w K mg base CX0 1 (He.fAd K ("_law_bag", none)) fd ["script"] (spOf ER0 K 1 F__law_bag.sem) := by
  obtain ⟨fd, F⟩ := c.def_ 8 rfl
  exact ⟨fd, F, fnG_def (k := 0) (N := N__law_bag) (Γ := C__law_bag) F ⟨rfl, rfl, rfl, by decide +kernel, rfl, by decide +kernel, by decide +kernel⟩ (tp c X G) rfl rfl (fun _ => rfl) d__law_bag (cal_nil) no_cs⟩
theorem B__law_bag : FnB ER0 CX0 prg w K mg base 1 "_law_bag" F__law_bag := by
  obtain ⟨fd, F, g⟩ := g__law_bag (w := w) (base := base) c X G
  refine fnB_of F (He.glo_ok X G (c.fact 8 (f := .glo "_law_bag") rfl)) g (F.bindsN fun _ _ _ _ _ _ us hl => match us, hl with | [_], _ => rfl) fun q hq => ?_
  cases hq
theorem g__law_draw : ∃ fd, FunD K "_law_draw" "_law_draw" (defArgs s__law_draw) (defBody s__law_draw) (defScope s__law_draw) [] [] (He.fAd K ("_law_draw", none)) fd ∧ FnG prg w K mg base CX0 1 (He.fAd K ("_law_draw", none)) fd ["bag", "below"] (spOf ER0 K 2 F__law_draw.sem) := by
  obtain ⟨fd, F⟩ := c.def_ 9 rfl
  exact ⟨fd, F, fnG_def (k := 0) (N := N__law_draw) (Γ := C__law_draw) F ⟨rfl, rfl, rfl, by decide +kernel, rfl, by decide +kernel, by decide +kernel⟩ (tp c X G) rfl rfl (fun _ => rfl) d__law_draw (cal_nil) no_cs⟩
theorem B__law_draw : FnB ER0 CX0 prg w K mg base 1 "_law_draw" F__law_draw := by
  obtain ⟨fd, F, g⟩ := g__law_draw (w := w) (base := base) c X G
  refine fnB_of F (He.glo_ok X G (c.fact 9 (f := .glo "_law_draw") rfl)) g (F.bindsN fun _ _ _ _ _ _ us hl => match us, hl with | [_, _], _ => rfl) fun q hq => ?_
  cases hq
theorem g__law_pick : ∃ fd, FunD K "_law_pick" "_law_pick" (defArgs s__law_pick) (defBody s__law_pick) (defScope s__law_pick) [] [] (He.fAd K ("_law_pick", none)) fd ∧ FnG prg w K mg base CX0 2 (He.fAd K ("_law_pick", none)) fd ["bag", "some"] (spOf ER0 K 2 F__law_pick.sem) := by
  obtain ⟨fd, F⟩ := c.def_ 10 rfl
  exact ⟨fd, F, fnG_def (k := 1) (N := N__law_pick) (Γ := C__law_pick) F ⟨rfl, rfl, rfl, by decide +kernel, rfl, by decide +kernel, by decide +kernel⟩ (tp c X G) rfl rfl (fun _ => rfl) d__law_pick (cal_cons (B__law_draw c X G) (by decide) (cal_nil)) no_cs⟩
theorem B__law_pick : FnB ER0 CX0 prg w K mg base 2 "_law_pick" F__law_pick := by
  obtain ⟨fd, F, g⟩ := g__law_pick (w := w) (base := base) c X G
  refine fnB_of F (He.glo_ok X G (c.fact 10 (f := .glo "_law_pick") rfl)) g (F.bindsN fun _ _ _ _ _ _ us hl => match us, hl with | [_, _], _ => rfl) fun q hq => ?_
  cases hq
theorem g__law_word : ∃ fd, FunD K "_law_word" "_law_word" (defArgs s__law_word) (defBody s__law_word) (defScope s__law_word) [] [] (He.fAd K ("_law_word", none)) fd ∧ FnG prg w K mg base CX0 1 (He.fAd K ("_law_word", none)) fd ["letters", "length", "room"] (spOf ER0 K 3 F__law_word.sem) := by
  obtain ⟨fd, F⟩ := c.def_ 11 rfl
  exact ⟨fd, F, fnG_def (k := 0) (N := N__law_word) (Γ := C__law_word) F ⟨rfl, rfl, rfl, by decide +kernel, rfl, by decide +kernel, by decide +kernel⟩ (tp c X G) rfl rfl (fun _ => rfl) d__law_word (cal_nil) no_cs⟩
theorem B__law_word : FnB ER0 CX0 prg w K mg base 1 "_law_word" F__law_word := by
  obtain ⟨fd, F, g⟩ := g__law_word (w := w) (base := base) c X G
  refine fnB_of F (He.glo_ok X G (c.fact 11 (f := .glo "_law_word") rfl)) g (F.bindsN fun _ _ _ _ _ _ us hl => match us, hl with | [_, _, _], _ => rfl) fun q hq => ?_
  cases hq
theorem g__law_room : ∃ fd, FunD K "_law_room" "_law_room" (defArgs s__law_room) (defBody s__law_room) (defScope s__law_room) [] [] (He.fAd K ("_law_room", none)) fd ∧ FnG prg w K mg base CX0 1 (He.fAd K ("_law_room", none)) fd ["letters", "word"] (spOf ER0 K 2 F__law_room.sem) := by
  obtain ⟨fd, F⟩ := c.def_ 12 rfl
  exact ⟨fd, F, fnG_def (k := 0) (N := N__law_room) (Γ := C__law_room) F ⟨rfl, rfl, rfl, by decide +kernel, rfl, by decide +kernel, by decide +kernel⟩ (tp c X G) rfl rfl (fun _ => rfl) d__law_room (cal_nil) no_cs⟩
theorem B__law_room : FnB ER0 CX0 prg w K mg base 1 "_law_room" F__law_room := by
  obtain ⟨fd, F, g⟩ := g__law_room (w := w) (base := base) c X G
  refine fnB_of F (He.glo_ok X G (c.fact 12 (f := .glo "_law_room") rfl)) g (F.bindsN fun _ _ _ _ _ _ us hl => match us, hl with | [_, _], _ => rfl) fun q hq => ?_
  cases hq
theorem g_law : ∃ fd, FunD K "law" "law" (defArgs s_law) (defBody s_law) (defScope s_law) [] [] (He.fAd K ("law", none)) fd ∧ FnG prg w K mg base CX0 4 (He.fAd K ("law", none)) fd ["script"] (spOf ER0 K 1 F_law.sem) := by
  obtain ⟨fd, F⟩ := c.def_ 13 rfl
  exact ⟨fd, F, fnG_def (k := 3) (N := N_law) (Γ := C_law) F ⟨rfl, rfl, rfl, by decide +kernel, rfl, by decide +kernel, by decide +kernel⟩ (tp c X G) rfl rfl (fun _ => rfl) d_law (cal_cons (B__law_bag c X G) (by decide) (cal_cons (B__law_pick c X G) (by decide) (cal_cons (B__law_room c X G) (by decide) (cal_cons (B_shift_machine c X G) (by decide) (cal_cons (B__law_draw c X G) (by decide) (cal_cons (B_shift_word c X G) (by decide) (cal_cons (B_shift_room c X G) (by decide) (cal_cons (B__law_word c X G) (by decide) (cal_cons (B_memory_of c X G) (by decide) (cal_nil)))))))))) no_cs⟩
theorem B_law : FnB ER0 CX0 prg w K mg base 4 "law" F_law := by
  obtain ⟨fd, F, g⟩ := g_law (w := w) (base := base) c X G
  refine fnB_of F (He.glo_ok X G (c.fact 13 (f := .glo "law") rfl)) g (F.bindsN fun _ _ _ _ _ _ us hl => match us, hl with | [_], _ => rfl) fun q hq => ?_
  cases hq
end
abbrev R : PySem.W.OpenRow := PySem.W.OpenLaw.row PySem.Challenge.rw_ledtoone_k53_whole_shift_machines
abbrev hk : PySem.W.Hook := He.hookD 4 fa fn
def ob (s : PySem.W.SharedT) : He.AlD := He.obsDG 4 fa fn (HandSHeadRun.getT s)
theorem ob_eq (s : PySem.W.SharedT) : ob s = hk.obs s.abs := He.obsDG_eq (HandSHeadRun.getT_eq s)
theorem run (w : World) : HandSHeadRun.RunEq R (PySem.W.view R.prog [16]) hk ob 4000 ["all_pairs", "next_pair", "levels_of", "memory_of", "rooms_of", "shift_machine", "shift_word", "shift_room", "_law_bag", "_law_draw", "_law_pick", "_law_word", "_law_room"] w := by
  intro os
  kernel_rfl
end K53
set_option Elab.async false
set_option linter.all false
set_option maxRecDepth 100000
set_option maxHeartbeats 1000000
namespace K53
open PySem PySem.Spec PyProof.Rows L2 Vm
def M (cs : List Int) (x m : Int) (ns : List Int) (rest : Mu) : Mu := .scr ns :: .lst (cs.map I) :: .lst [.p 1, I x, I m] :: rest
def Good (cs : List Int) (x : Int) : Prop := (∀ c ∈ cs, 0 ≤ c) ∧ 0 ≤ x ∧ cs.length ≤ 1000
theorem tst (n x m : Int) (o o' : Option U) (cs ns : List Int) (rest : Mu) : t__law_draw_1 [some (.p 2), some (I n), o, o'] (M cs x m ns rest) = .ok (x == 0 && !cs.isEmpty) (M cs x m ns rest) := by
  have e1 : bin2 subsM (varD 0) (conD (.int 1)) [some (.p 2), some (I n), o, o'] (M cs x m ns rest) = .ok (I x) (M cs x m ns rest) := rfl
  have e2 : bin2 subsM (varD 0) (conD (.int 0)) [some (.p 2), some (I n), o, o'] (M cs x m ns rest) = .ok (.p 1) (M cs x m ns rest) := rfl
  have e3 : eqX (.p 1) (.d (.list [])) (M cs x m ns rest) = some cs.isEmpty := by
    show eqC (.p 1) (.d (.list [])) (M cs x m ns rest) = _
    unfold eqC
    have : view (.p 1) (M cs x m ns rest) = some (.list (cs.map .int)) := by
      show (match allD (cs.map I) with | some ds => some (PyData.list ds) | none => none) = _
      rw [map_I, allD_map]
    rw [this]
    show (if SeqAt.shaped (.list (cs.map .int)) && SeqAt.shaped (.list []) then _ else _) = _
    rw [shaped_ints, if_pos (by decide)]
    cases cs <;> rfl
  have e3' : negC eqX (.p 1) (.d (.list [])) (M cs x m ns rest) = some (!cs.isEmpty) := by unfold negC; rw [e3]; rfl
  have a1 : cmpD eqX (bin2 subsM (varD 0) (conD (.int 1))) (conD (.int 0)) [some (.p 2), some (I n), o, o'] (M cs x m ns rest) = .ok (x == 0) (M cs x m ns rest) := by
    unfold cmpD; rw [e1]; rfl
  have a2 : cmpD (negC eqX) (bin2 subsM (varD 0) (conD (.int 0))) (lstD false nilL) [some (.p 2), some (I n), o, o'] (M cs x m ns rest) = .ok (!cs.isEmpty) (M cs x m ns rest) := by
    unfold cmpD; rw [e2]
    show (opt (negC eqX (.p 1) (.d (.list [])) (M cs x m ns rest)) (M cs x m ns rest)) = _
    rw [e3']; rfl
  unfold t__law_draw_1 andD
  rw [a1]
  simp only [R.bind_ok]
  cases (x == 0)
  · rfl
  · rw [if_pos rfl, a2]; rfl
theorem step (n m c : Int) (o : Option U) (cs ns : List Int) (rest : Mu) : w__law_draw_1 [some (.p 2), some (I n), o, none] (M (cs ++ [c]) 0 m ns rest) = .nx [some (.p 2), some (I n), some (I c), none] (M cs (if c > 10 ^ 9 then c else 0) m ns rest) := by
  have p1 : meth0 isL (bin2 subsM (varD 0) (conD (.int 0))) popM [some (.p 2), some (I n), o, none] (M (cs ++ [c]) 0 m ns rest) = .ok (I c) (M cs 0 m ns rest) := by
    have e2 : bin2 subsM (varD 0) (conD (.int 0)) [some (.p 2), some (I n), o, none] (M (cs ++ [c]) 0 m ns rest) = .ok (.p 1) (M (cs ++ [c]) 0 m ns rest) := rfl
    unfold meth0
    rw [e2]
    simp only [R.bind_ok]
    rw [if_pos (show isL (.p 1) (M (cs ++ [c]) 0 m ns rest) = true from rfl)]
    show (match ((cs ++ [c]).map I)[((cs ++ [c]).map I).length - 1]? with | some w => R.ok w ((M (cs ++ [c]) 0 m ns rest).set 1 (.lst ((cs ++ [c]).map I).dropLast)) | none => .stuck) = _
    rw [List.map_append]
    simp [M]
  unfold w__law_draw_1
  show seqS _ _ _ _ = _
  unfold seqS asgS
  rw [p1]
  simp only [ofR_ok]
  show (match SR.nx [some (.p 2), some (I n), some (I c), none] (M cs 0 m ns rest) with | .nx ρ1 μ1 => ofR (ifD (cmpD (intC fun i j => decide (j < i)) (varD 2) (bin2 powM (conD (.int 10)) (conD (.int 9)))) (varD 2) (conD (.int 0)) ρ1 μ1) (fun u μ1' => ofR (subG (varD 0) (conD (.int 1)) u ρ1 μ1') fun ρ2 μ2 => .nx ρ2 μ2) | r => r) = _
  simp only
  have p2 : ifD (cmpD (intC fun i j => decide (j < i)) (varD 2) (bin2 powM (conD (.int 10)) (conD (.int 9)))) (varD 2) (conD (.int 0)) [some (.p 2), some (I n), some (I c), none] (M cs 0 m ns rest) = .ok (I (if c > 10 ^ 9 then c else 0)) (M cs 0 m ns rest) := by
    show (if decide ((10:Int) ^ 9 < c) = true then R.ok (I c) (M cs 0 m ns rest) else .ok (I 0) (M cs 0 m ns rest)) = _
    by_cases h : (10:Int) ^ 9 < c
    · rw [if_pos (decide_eq_true h), if_pos h]
    · rw [if_neg (by simpa using h), if_neg h]
  rw [p2]
  rfl

theorem loop (n m : Int) : ∀ (L : Nat) (cs : List Int) (x : Int) (o : Option U), cs.length = L → Good cs x → ∃ cs' x' o', Good cs' x' ∧ ∀ (ns : List Int) (rest : Mu) (k : Nat), L < k →
    whileL t__law_draw_1 w__law_draw_1 k [some (.p 2), some (I n), o, none] (M cs x m ns rest) = .nx [some (.p 2), some (I n), o', none] (M cs' x' m ns rest) := by
  intro L
  induction L with
  | zero =>
    intro cs x o hl g
    refine ⟨cs, x, o, g, fun ns rest k hk => ?_⟩
    obtain ⟨j, rfl⟩ : ∃ j, k = j + 1 := ⟨k - 1, by omega⟩
    have : cs = [] := List.eq_nil_of_length_eq_zero hl
    subst this
    unfold whileL
    rw [tst]
    simp
  | succ L ih =>
    intro cs x o hl g
    by_cases hx : x = 0
    · subst hx
      obtain ⟨c, i, e⟩ : ∃ c i, cs = i ++ [c] := ⟨cs.getLast (by rintro rfl; cases hl), cs.dropLast, (List.dropLast_concat_getLast _).symm⟩
      subst e
      have hi : i.length = L := by simpa using hl
      have hc : 0 ≤ c := g.1 c (by simp)
      obtain ⟨cs', x', o', g', h⟩ := ih i (if c > 10 ^ 9 then c else 0) (some (I c)) hi ⟨fun d hd => g.1 d (by simp [hd]), by split <;> omega, by have := g.2.2; simp at this; omega⟩
      refine ⟨cs', x', o', g', fun ns rest k hk => ?_⟩
      obtain ⟨j, rfl⟩ : ∃ j, k = j + 1 := ⟨k - 1, by omega⟩
      unfold whileL
      rw [tst]
      have : ((0:Int) == 0 && !(i ++ [c]).isEmpty) = true := by simp
      rw [this, ofR_ok, if_pos rfl, step]
      exact h ns rest j (by omega)
    · refine ⟨cs, x, o, g, fun ns rest k hk => ?_⟩
      obtain ⟨j, rfl⟩ : ∃ j, k = j + 1 := ⟨k - 1, by omega⟩
      unfold whileL
      rw [tst]
      have : (x == 0) = false := by simpa using hx
      rw [this]
      rfl
def nx (m : Int) : Int := (m * 48271 + 13) % 2147483647
theorem nx_b (m : Int) : B64 (nx m) = true := by
  unfold B64 nx
  have h1 := Int.emod_nonneg (m * 48271 + 13) (show (2147483647:Int) ≠ 0 by decide)
  have h2 := Int.emod_lt_of_pos (m * 48271 + 13) (show (0:Int) < 2147483647 by decide)
  rw [Bool.and_eq_true, decide_eq_true_eq, decide_eq_true_eq]
  omega
theorem M_below {cs ns : List Int} {x m : Int} {rest : Mu} (hr : rest.all (Cell.below 0) = true) : (M cs x m ns rest).all (Cell.below (M cs x m ns rest).length) = true := by
  rw [List.all_eq_true]
  intro c hc
  unfold M at hc ⊢
  simp only [List.mem_cons] at hc
  rcases hc with rfl | rfl | rfl | hc
  · rfl
  · refine List.all_eq_true.mpr fun u hu => ?_
    obtain ⟨i, _, rfl⟩ := List.mem_map.mp hu
    rfl
  · simp [Cell.below, U.below]
  · exact cell_mono (Nat.zero_le _) c (List.all_eq_true.mp hr c hc)
/-- the law's own draw -/
theorem draw (n : Int) (h1 : 1 ≤ n) (h2 : n < 1073741824) (cs : List Int) (x m : Int) (g : Good cs x) : ∃ d cs' x' m', 0 ≤ d ∧ d < n ∧ Good cs' x' ∧ ∀ (ns : List Int) (rest : Mu), rest.all (Cell.below 0) = true →
    F__law_draw.sem [.p 2, I n] (M cs x m ns rest) = .ok (I d) (M cs' x' m' ns rest) := by
  obtain ⟨cs', x', o', g', h⟩ := loop n m cs.length cs x none rfl g
  have run : ∀ (ns : List Int) (rest : Mu) (u : U) (cs2 : List Int) (x2 m2 : Int), rest.all (Cell.below 0) = true → u.below 0 = true → (∃ y, u = .d y) → b__law_draw [some (.p 2), some (I n), none, none] (M cs x m ns rest) = .rt u (M cs2 x2 m2 ns rest) →
      F__law_draw.sem [.p 2, I n] (M cs x m ns rest) = .ok u (M cs2 x2 m2 ns rest) := by
    intro ns rest u cs2 x2 m2 hr hu hd e
    show noex (runFn 4 false b__law_draw [.p 2, I n] (M cs x m ns rest)) = _
    unfold runFn
    show noex (match b__law_draw [some (.p 2), some (I n), none, none] (M cs x m ns rest) with | .rt u μ' => if false = true then R.ok u μ' else leave (M cs x m ns rest) u μ' | .nx _ μ' => if false = true then R.ok (.d .none) μ' else leave (M cs x m ns rest) (.d .none) μ' | .ex e μ' => (match cut (M cs x m ns rest) μ' with | some m => R.ex e m | none => .stuck) | _ => .stuck) = _
    rw [e]
    obtain ⟨y, rfl⟩ := hd
    simp only [Bool.false_eq_true, if_false]
    have lenE : (M cs2 x2 m2 ns rest).length = (M cs x m ns rest).length := rfl
    have tk : (M cs2 x2 m2 ns rest).take (M cs x m ns rest).length = M cs2 x2 m2 ns rest := by rw [← lenE, List.take_length]
    have hc : cut (M cs x m ns rest) (M cs2 x2 m2 ns rest) = some (M cs2 x2 m2 ns rest) := by
      have := cut_chg (μ := M cs x m ns rest) (μ' := M cs2 x2 m2 ns rest) (by rw [tk, ← lenE]; exact M_below hr)
      rw [this, tk]
    unfold leave
    rw [hc]
    rfl
  have first : ∀ ns rest, b__law_draw [some (.p 2), some (I n), none, none] (M cs x m ns rest) = (seqS (ifS (cmpD (intC fun i j => decide (j < i)) (bin2 subsM (varD 0) (conD (.int 1))) (conD (.int 0)))
    (seqS (asgS (nameG 3) (bin2 modM (fn1 intM (bin2 subsM (varD 0) (conD (.int 1)))) (varD 1)))
    (seqS (asgS (subG (varD 0) (conD (.int 1))) (bin2 fdivM (bin2 subsM (varD 0) (conD (.int 1))) (varD 1)))
    (retS (varD 3))))
    nopS)
  (seqS (asgS (subG (varD 0) (conD (.int 2))) (bin2 modM (fn1 intM (bin2 (addM false) (bin2 (mulM false) (bin2 subsM (varD 0) (conD (.int 2))) (conD (.int 48271))) (conD (.int 13)))) (conD (.int 2147483647))))
  (retS (bin2 modM (fn1 intM (bin2 fdivM (bin2 modM (fn1 intM (bin2 (mulM false) (bin2 subsM (varD 0) (conD (.int 2))) (bin2 subsM (varD 0) (conD (.int 2))))) (conD (.int 2147483629))) (conD (.int 7)))) (varD 1))))) [some (.p 2), some (I n), o', none] (M cs' x' m ns rest) := fun ns rest => by
    exact seq_nx (h ns rest wmax (by have := g.2.2; unfold wmax; omega))
  by_cases hx : 0 < x'
  · refine ⟨x' % n, cs', x' / n, m, Int.emod_nonneg _ (by omega), Int.emod_lt_of_pos _ (by omega), ⟨g'.1, Int.ediv_nonneg g'.2.1 (by omega), g'.2.2⟩, fun ns rest hr => run ns rest _ _ _ _ hr rfl ⟨_, rfl⟩ ?_⟩
    rw [first]
    have t1 : cmpD (intC fun i j => decide (j < i)) (bin2 subsM (varD 0) (conD (.int 1))) (conD (.int 0)) [some (.p 2), some (I n), o', none] (M cs' x' m ns rest) = .ok true (M cs' x' m ns rest) := by
      show R.ok (decide (0 < x')) _ = _
      rw [decide_eq_true hx]
    have t2 : bin2 modM (fn1 intM (bin2 subsM (varD 0) (conD (.int 1)))) (varD 1) [some (.p 2), some (I n), o', none] (M cs' x' m ns rest) = .ok (I (x' % n)) (M cs' x' m ns rest) := by
      show modM (I x') (I n) (M cs' x' m ns rest) = _
      exact mod_ok (by omega) _
    have t3 : bin2 fdivM (bin2 subsM (varD 0) (conD (.int 1))) (varD 1) [some (.p 2), some (I n), o', some (I (x' % n))] (M cs' x' m ns rest) = .ok (I (x' / n)) (M cs' x' m ns rest) := by
      show fdivM (I x') (I n) (M cs' x' m ns rest) = _
      exact div_ok (by omega) h2 _
    have s1 : asgS (nameG 3) (bin2 modM (fn1 intM (bin2 subsM (varD 0) (conD (.int 1)))) (varD 1)) [some (.p 2), some (I n), o', none] (M cs' x' m ns rest) = .nx [some (.p 2), some (I n), o', some (I (x' % n))] (M cs' x' m ns rest) := asg_ok t2 rfl
    have s2 : asgS (subG (varD 0) (conD (.int 1))) (bin2 fdivM (bin2 subsM (varD 0) (conD (.int 1))) (varD 1)) [some (.p 2), some (I n), o', some (I (x' % n))] (M cs' x' m ns rest) = .nx [some (.p 2), some (I n), o', some (I (x' % n))] (M cs' (x' / n) m ns rest) := asg_ok t3 rfl
    unfold seqS
    rw [if_t t1]
    rw [s1]
    simp only
    rw [s2]
    rfl
  · refine ⟨((nx m * nx m) % 2147483629 / 7) % n, cs', x', nx m, Int.emod_nonneg _ (by omega), Int.emod_lt_of_pos _ (by omega), g', fun ns rest hr => run ns rest _ _ _ _ hr rfl ⟨_, rfl⟩ ?_⟩
    rw [first]
    have t1 : cmpD (intC fun i j => decide (j < i)) (bin2 subsM (varD 0) (conD (.int 1))) (conD (.int 0)) [some (.p 2), some (I n), o', none] (M cs' x' m ns rest) = .ok false (M cs' x' m ns rest) := by
      show R.ok (decide (0 < x')) _ = _
      rw [decide_eq_false hx]
    have t2 : bin2 modM (fn1 intM (bin2 (addM false) (bin2 (mulM false) (bin2 subsM (varD 0) (conD (.int 2))) (conD (.int 48271))) (conD (.int 13)))) (conD (.int 2147483647)) [some (.p 2), some (I n), o', none] (M cs' x' m ns rest) = .ok (I (nx m)) (M cs' x' m ns rest) := by
      have e1 : bin2 (mulM false) (bin2 subsM (varD 0) (conD (.int 2))) (conD (.int 48271)) [some (.p 2), some (I n), o', none] (M cs' x' m ns rest) = .ok (I (m * 48271)) (M cs' x' m ns rest) := (bin2_ok (u := I m) (v := I 48271) rfl rfl).trans (mul_okR (by decide) _)
      have e2 : bin2 (addM false) (bin2 (mulM false) (bin2 subsM (varD 0) (conD (.int 2))) (conD (.int 48271))) (conD (.int 13)) [some (.p 2), some (I n), o', none] (M cs' x' m ns rest) = .ok (I (m * 48271 + 13)) (M cs' x' m ns rest) := bin2_ok e1 (v := I 13) rfl
      exact (bin2_ok (fn1_ok e2 (g := intM)) (v := I 2147483647) rfl).trans (mod_ok (by decide) _)
    have t3 : bin2 modM (fn1 intM (bin2 fdivM (bin2 modM (fn1 intM (bin2 (mulM false) (bin2 subsM (varD 0) (conD (.int 2))) (bin2 subsM (varD 0) (conD (.int 2))))) (conD (.int 2147483629))) (conD (.int 7)))) (varD 1) [some (.p 2), some (I n), o', none] (M cs' x' (nx m) ns rest) = .ok (I (((nx m * nx m) % 2147483629 / 7) % n)) (M cs' x' (nx m) ns rest) := by
      have e : bin2 (mulM false) (bin2 subsM (varD 0) (conD (.int 2))) (bin2 subsM (varD 0) (conD (.int 2))) [some (.p 2), some (I n), o', none] (M cs' x' (nx m) ns rest) = .ok (I (nx m * nx m)) (M cs' x' (nx m) ns rest) :=
        (bin2_ok (u := I (nx m)) (v := I (nx m)) rfl rfl).trans (mul_okR (nx_b m) _)
      have e1 : fn1 intM (bin2 (mulM false) (bin2 subsM (varD 0) (conD (.int 2))) (bin2 subsM (varD 0) (conD (.int 2)))) [some (.p 2), some (I n), o', none] (M cs' x' (nx m) ns rest) = .ok (I (nx m * nx m)) (M cs' x' (nx m) ns rest) := fn1_ok e
      have e2 : bin2 modM (fn1 intM (bin2 (mulM false) (bin2 subsM (varD 0) (conD (.int 2))) (bin2 subsM (varD 0) (conD (.int 2))))) (conD (.int 2147483629)) [some (.p 2), some (I n), o', none] (M cs' x' (nx m) ns rest) = .ok (I ((nx m * nx m) % 2147483629)) (M cs' x' (nx m) ns rest) := (bin2_ok e1 (v := I 2147483629) rfl).trans (mod_ok (by decide) _)
      have e3 : bin2 fdivM (bin2 modM (fn1 intM (bin2 (mulM false) (bin2 subsM (varD 0) (conD (.int 2))) (bin2 subsM (varD 0) (conD (.int 2))))) (conD (.int 2147483629))) (conD (.int 7)) [some (.p 2), some (I n), o', none] (M cs' x' (nx m) ns rest) = .ok (I ((nx m * nx m) % 2147483629 / 7)) (M cs' x' (nx m) ns rest) := (bin2_ok e2 (v := I 7) rfl).trans (div_ok (by decide) (by decide) _)
      exact (bin2_ok (b := varD 1) (fn1_ok e3 (g := intM)) (v := I n) rfl).trans (mod_ok (by omega) _)
    refine (seq_nx (if_f t1)).trans ((seq_nx (asg_ok t2 rfl)).trans (ret_ok t3))

/-! ### the words, the rows -/
def wsF (l : Nat) : Nat → List (List Int)
  | 0 => [[]]
  | k + 1 => (wsF l k).flatMap fun w => (List.range l).map fun (a : Nat) => w ++ [(a : Int)]
def tup (w : List Int) : PyData := .tuple (w.map .int)
def roomF (l : Nat) (w : List Int) : Int := w.foldl (fun a b => a * l + b) 0
def rowsF (l n : Nat) : List (List Int) := (wsF l n).map fun w => (List.range l).map fun (a : Nat) => roomF l ((w ++ [(a : Int)]).drop 1)
def sizesL : List (Nat × Nat) := (List.range 7).map (1, ·) ++ (List.range 7).map (2, ·) ++ (List.range 4).map (3, ·) ++ (List.range 4).map (4, ·)
def sizesU : List U := sizesL.map fun p => .d (tup [(p.1 : Int), (p.2 : Int)])
def restA (l n : Nat) : Mu := .lst sizesU :: ((List.range n).map fun k => Cell.lst ((wsF l (k + 1)).map fun w => .d (tup w))) ++ [.lst ((rowsF l n).map fun w => .d (tup w))]
def wordAt (l n d : Nat) : List Int := (wsF l n).getD d []
def restT (l n d : Nat) : Mu := restA l n ++ [.lst [.d (tup (wordAt l n d)), .d (tup (wordAt l n d)), I d, I d]]
def o7 (n : Nat) : Option U := match n with
  | 0 => none
  | k + 1 => some (I k)
def o8 (n : Nat) : Option U := match n with
  | 0 => none
  | k + 1 => some (.p (4 + k))
def dueD (l n : Nat) : PyData := .tuple ((rowsF l n).map tup)
def wsD (l n : Nat) : PyData := .list ((wsF l n).map tup)
def ρ0 (tv : Option U) (l n : Nat) : Rho := [some (.p 0), some (.p 2), tv, some (.p 3), some (I l), some (I n), none, none, none, none, none, none, none, none, none, none, none]
/-- behind the rows; o9, o13: the last word, the turn within -/
def ρI (tv : Option U) (l n : Nat) (o9 o13 : Option U) : Rho := [some (.p 0), some (.p 2), tv, some (.p 3), some (I l), some (I n), some (.d (wsD l n)), o7 n, o8 n, o9, none, some (.p (4 + n)), some (.d (dueD l n)), o13, none, none, none]
def ρG (tv : Option U) (l n : Nat) (o13 : Option U) : Rho := ρI tv l n (some (.d (tup ((wsF l n).getLastD [])))) o13
def ρJ (tv : Option U) (l n : Nat) (o9 o13 : Option U) (d : Nat) : Rho := [some (.p 0), some (.p 2), tv, some (.p 3), some (I l), some (I n), some (.d (wsD l n)), o7 n, o8 n, o9, none, some (.p (4 + n)), some (.d (dueD l n)), o13, some (I d), none, none]
def ρK (tv : Option U) (l n : Nat) (o13 : Option U) (d : Nat) (o10 o16 : Option U) : Rho := [some (.p 0), some (.p 2), tv, some (.p 3), some (I l), some (I n), some (.d (wsD l n)), o7 n, o8 n, some (.d (tup (wordAt l n d))), o10, some (.p (4 + n)), some (.d (dueD l n)), o13, some (I d), some (.p (5 + n)), o16]
def chA1 (k : DS) : DS := (seqS (asgS (nameG 6) (lstD false (consL (tupD nilL) nilL)))
  (seqS (forS (rng1D (varD 5)) (nameG 7) w_law_3)
  (seqS (asgS (nameG 11) (lstD true nilL))
  (seqS (forS (iterD (varD 6)) (nameG 9) w_law_4)
  (seqS (asgS (nameG 12) (fn1 tupleM (varD 11)))
  k)))))
def eA1 : DE := (lstD false (consL (callD F_shift_machine (consL (varD 4) (consL (varD 5) nilL))) (consL (callKD F_shift_machine ((["length", "letters"] : List Str), [1, 0]) (consL (varD 5) (consL (varD 4) nilL))) nilL)))
def eA2 : DE := (lstD false (consL (varD 12) (consL (varD 12) nilL)))
structure AF (tv : Option U) (cs ns : List Int) (x m : Int) (l n : Nat) : Prop where
  run : ∀ k, chA1 k (ρ0 tv l n) (M cs x m ns [.lst sizesU]) = k (ρG tv l n none) (M cs x m ns (restA l n))
  e1 : eA1 (ρG tv l n none) (M cs x m ns (restA l n)) = .ok (.d (.list [dueD l n, dueD l n])) (M cs x m ns (restA l n))
  e2 : eA2 (ρG tv l n none) (M cs x m ns (restA l n)) = .ok (.d (.list [dueD l n, dueD l n])) (M cs x m ns (restA l n))
  gd : goodR (.list [dueD l n, dueD l n]) = true
def chB1 (k : DS) : DS := (seqS (asgS (nameG 9) (bin2 subsM (varD 6) (varD 14)))
  (seqS (asgS (nameG 15) (lstD true (consL (callD F_shift_word (consL (varD 4) (consL (varD 5) (consL (varD 14) nilL)))) (consL (callKD F_shift_word ((["room", "length", "letters"] : List Str), [2, 1, 0]) (consL (varD 14) (consL (varD 5) (consL (varD 4) nilL)))) nilL))))
  (seqS (exprS (methD isL (varD 15) (lstD false (consL (callD F_shift_room (consL (varD 4) (consL (varD 5) (consL (varD 9) nilL)))) (consL (callKD F_shift_room ((["word", "length", "letters"] : List Str), [2, 1, 0]) (consL (varD 9) (consL (varD 5) (consL (varD 4) nilL)))) nilL))) extendM))
  k)))
def eB2 : DE := (lstD false (consL (varD 9) (consL (varD 9) (consL (varD 14) (consL (varD 14) nilL)))))
def tB2 : DB := (cmpD (negC eqX) (callD F__law_word (consL (varD 4) (consL (varD 5) (consL (varD 14) nilL)))) (varD 9))
def toldD (l n d : Nat) : PyData := .list [tup (wordAt l n d), tup (wordAt l n d), .int d, .int d]
structure BF (tv o9 o13 : Option U) (cs ns : List Int) (x m : Int) (l n d : Nat) : Prop where
  run : ∀ k, chB1 k (ρJ tv l n o9 o13 d) (M cs x m ns (restA l n)) = k (ρK tv l n o13 d none none) (M cs x m ns (restT l n d))
  e2 : eB2 (ρK tv l n o13 d none none) (M cs x m ns (restT l n d)) = .ok (.d (toldD l n d)) (M cs x m ns (restT l n d))
  vw : view (.p (5 + n)) (M cs x m ns (restT l n d)) = some (toldD l n d)
  gd : goodR (toldD l n d) = true
  lw : tB2 (ρK tv l n o13 d none none) (M cs x m ns (restT l n d)) = .ok false (M cs x m ns (restT l n d))
def chD : DS := (ifS (andD (cmpD (intC fun i j => decide (i < j)) (fn1 lenX (varD 11)) (conD (.int 8))) (cmpD (negC eqX) (callD F_memory_of (consL (varD 12) nilL)) (ifD (cmpD (intC fun i j => decide (j < i)) (varD 4) (conD (.int 1))) (varD 5) (conD (.int 0)))))
    (retS (conD (.bool false)))
    nopS)
def DF (tv o9 o13 : Option U) (cs ns : List Int) (x m : Int) (l n : Nat) : Prop := chD (ρI tv l n o9 o13) (M cs x m ns (restA l n)) = .nx (ρI tv l n o9 o13) (M cs x m ns (restA l n))
structure SF (l n : Nat) : Prop where
  a : ∀ tv cs ns x m, AF tv cs ns x m l n
  d : ∀ tv o9 o13 cs ns x m, DF tv o9 o13 cs ns x m l n
  b : ∀ tv o9 o13 cs ns x m d, d < (wsF l n).length → BF tv o9 o13 cs ns x m l n d
  fg : ∀ (t a : Int) (w0 : PyData) (d : Nat) (o10 : Option U) (h : Int) (cs ns : List Int) (x m : Int), fgR (M cs x m ns (restA l n)).length (ρI (some (I t)) l n (some (.d w0)) (some (I a))) (ρK (some (I t)) l n (some (I a)) d o10 (some (I h))) = ρI (some (I t)) l n (some (.d (tup (wordAt l n d)))) (some (I a))
  bl : (restA l n).all (Cell.below 0) = true
  sz : 1 ≤ (wsF l n).length ∧ (wsF l n).length < 1000
  kr : ∀ cs ns x m d, (M cs x m ns (restT l n d))[4 + n]? = some (.lst ((rowsF l n).map fun w => .d (tup w)))
theorem A_1_0 (tv : Option U) (cs ns : List Int) (x m : Int) : AF tv cs ns x m 1 0 := ⟨fun _ => by kernel_rfl, by kernel_rfl, by kernel_rfl, by kernel_rfl⟩
theorem D_1_0 (tv o9 o13 : Option U) (cs ns : List Int) (x m : Int) : DF tv o9 o13 cs ns x m 1 0 := by unfold DF; kernel_rfl
theorem B_1_0 (tv o9 o13 : Option U) (cs ns : List Int) (x m : Int) : ∀ d : Nat, d < 1 → BF tv o9 o13 cs ns x m 1 0 d
  | 0, _ => ⟨fun _ => by kernel_rfl, by kernel_rfl, by kernel_rfl, by kernel_rfl, by kernel_rfl⟩
  | d + 1, h => by omega
theorem A_1_1 (tv : Option U) (cs ns : List Int) (x m : Int) : AF tv cs ns x m 1 1 := ⟨fun _ => by kernel_rfl, by kernel_rfl, by kernel_rfl, by kernel_rfl⟩
theorem D_1_1 (tv o9 o13 : Option U) (cs ns : List Int) (x m : Int) : DF tv o9 o13 cs ns x m 1 1 := by unfold DF; kernel_rfl
theorem B_1_1 (tv o9 o13 : Option U) (cs ns : List Int) (x m : Int) : ∀ d : Nat, d < 1 → BF tv o9 o13 cs ns x m 1 1 d
  | 0, _ => ⟨fun _ => by kernel_rfl, by kernel_rfl, by kernel_rfl, by kernel_rfl, by kernel_rfl⟩
  | d + 1, h => by omega
theorem A_1_2 (tv : Option U) (cs ns : List Int) (x m : Int) : AF tv cs ns x m 1 2 := ⟨fun _ => by kernel_rfl, by kernel_rfl, by kernel_rfl, by kernel_rfl⟩
theorem D_1_2 (tv o9 o13 : Option U) (cs ns : List Int) (x m : Int) : DF tv o9 o13 cs ns x m 1 2 := by unfold DF; kernel_rfl
theorem B_1_2 (tv o9 o13 : Option U) (cs ns : List Int) (x m : Int) : ∀ d : Nat, d < 1 → BF tv o9 o13 cs ns x m 1 2 d
  | 0, _ => ⟨fun _ => by kernel_rfl, by kernel_rfl, by kernel_rfl, by kernel_rfl, by kernel_rfl⟩
  | d + 1, h => by omega
theorem A_1_3 (tv : Option U) (cs ns : List Int) (x m : Int) : AF tv cs ns x m 1 3 := ⟨fun _ => by kernel_rfl, by kernel_rfl, by kernel_rfl, by kernel_rfl⟩
theorem D_1_3 (tv o9 o13 : Option U) (cs ns : List Int) (x m : Int) : DF tv o9 o13 cs ns x m 1 3 := by unfold DF; kernel_rfl
theorem B_1_3 (tv o9 o13 : Option U) (cs ns : List Int) (x m : Int) : ∀ d : Nat, d < 1 → BF tv o9 o13 cs ns x m 1 3 d
  | 0, _ => ⟨fun _ => by kernel_rfl, by kernel_rfl, by kernel_rfl, by kernel_rfl, by kernel_rfl⟩
  | d + 1, h => by omega
theorem A_1_4 (tv : Option U) (cs ns : List Int) (x m : Int) : AF tv cs ns x m 1 4 := ⟨fun _ => by kernel_rfl, by kernel_rfl, by kernel_rfl, by kernel_rfl⟩
theorem D_1_4 (tv o9 o13 : Option U) (cs ns : List Int) (x m : Int) : DF tv o9 o13 cs ns x m 1 4 := by unfold DF; kernel_rfl
theorem B_1_4 (tv o9 o13 : Option U) (cs ns : List Int) (x m : Int) : ∀ d : Nat, d < 1 → BF tv o9 o13 cs ns x m 1 4 d
  | 0, _ => ⟨fun _ => by kernel_rfl, by kernel_rfl, by kernel_rfl, by kernel_rfl, by kernel_rfl⟩
  | d + 1, h => by omega
theorem A_1_5 (tv : Option U) (cs ns : List Int) (x m : Int) : AF tv cs ns x m 1 5 := ⟨fun _ => by kernel_rfl, by kernel_rfl, by kernel_rfl, by kernel_rfl⟩
theorem D_1_5 (tv o9 o13 : Option U) (cs ns : List Int) (x m : Int) : DF tv o9 o13 cs ns x m 1 5 := by unfold DF; kernel_rfl
theorem B_1_5 (tv o9 o13 : Option U) (cs ns : List Int) (x m : Int) : ∀ d : Nat, d < 1 → BF tv o9 o13 cs ns x m 1 5 d
  | 0, _ => ⟨fun _ => by kernel_rfl, by kernel_rfl, by kernel_rfl, by kernel_rfl, by kernel_rfl⟩
  | d + 1, h => by omega
theorem A_1_6 (tv : Option U) (cs ns : List Int) (x m : Int) : AF tv cs ns x m 1 6 := ⟨fun _ => by kernel_rfl, by kernel_rfl, by kernel_rfl, by kernel_rfl⟩
theorem D_1_6 (tv o9 o13 : Option U) (cs ns : List Int) (x m : Int) : DF tv o9 o13 cs ns x m 1 6 := by unfold DF; kernel_rfl
theorem B_1_6 (tv o9 o13 : Option U) (cs ns : List Int) (x m : Int) : ∀ d : Nat, d < 1 → BF tv o9 o13 cs ns x m 1 6 d
  | 0, _ => ⟨fun _ => by kernel_rfl, by kernel_rfl, by kernel_rfl, by kernel_rfl, by kernel_rfl⟩
  | d + 1, h => by omega
theorem A_2_0 (tv : Option U) (cs ns : List Int) (x m : Int) : AF tv cs ns x m 2 0 := ⟨fun _ => by kernel_rfl, by kernel_rfl, by kernel_rfl, by kernel_rfl⟩
theorem D_2_0 (tv o9 o13 : Option U) (cs ns : List Int) (x m : Int) : DF tv o9 o13 cs ns x m 2 0 := by unfold DF; kernel_rfl
theorem B_2_0 (tv o9 o13 : Option U) (cs ns : List Int) (x m : Int) : ∀ d : Nat, d < 1 → BF tv o9 o13 cs ns x m 2 0 d
  | 0, _ => ⟨fun _ => by kernel_rfl, by kernel_rfl, by kernel_rfl, by kernel_rfl, by kernel_rfl⟩
  | d + 1, h => by omega
theorem A_2_1 (tv : Option U) (cs ns : List Int) (x m : Int) : AF tv cs ns x m 2 1 := ⟨fun _ => by kernel_rfl, by kernel_rfl, by kernel_rfl, by kernel_rfl⟩
theorem D_2_1 (tv o9 o13 : Option U) (cs ns : List Int) (x m : Int) : DF tv o9 o13 cs ns x m 2 1 := by unfold DF; kernel_rfl
theorem B_2_1 (tv o9 o13 : Option U) (cs ns : List Int) (x m : Int) : ∀ d : Nat, d < 2 → BF tv o9 o13 cs ns x m 2 1 d
  | 0, _ => ⟨fun _ => by kernel_rfl, by kernel_rfl, by kernel_rfl, by kernel_rfl, by kernel_rfl⟩
  | 1, _ => ⟨fun _ => by kernel_rfl, by kernel_rfl, by kernel_rfl, by kernel_rfl, by kernel_rfl⟩
  | d + 2, h => by omega
theorem A_2_2 (tv : Option U) (cs ns : List Int) (x m : Int) : AF tv cs ns x m 2 2 := ⟨fun _ => by kernel_rfl, by kernel_rfl, by kernel_rfl, by kernel_rfl⟩
theorem D_2_2 (tv o9 o13 : Option U) (cs ns : List Int) (x m : Int) : DF tv o9 o13 cs ns x m 2 2 := by unfold DF; kernel_rfl
theorem B_2_2 (tv o9 o13 : Option U) (cs ns : List Int) (x m : Int) : ∀ d : Nat, d < 4 → BF tv o9 o13 cs ns x m 2 2 d
  | 0, _ => ⟨fun _ => by kernel_rfl, by kernel_rfl, by kernel_rfl, by kernel_rfl, by kernel_rfl⟩
  | 1, _ => ⟨fun _ => by kernel_rfl, by kernel_rfl, by kernel_rfl, by kernel_rfl, by kernel_rfl⟩
  | 2, _ => ⟨fun _ => by kernel_rfl, by kernel_rfl, by kernel_rfl, by kernel_rfl, by kernel_rfl⟩
  | 3, _ => ⟨fun _ => by kernel_rfl, by kernel_rfl, by kernel_rfl, by kernel_rfl, by kernel_rfl⟩
  | d + 4, h => by omega
theorem A_2_3 (tv : Option U) (cs ns : List Int) (x m : Int) : AF tv cs ns x m 2 3 := ⟨fun _ => by kernel_rfl, by kernel_rfl, by kernel_rfl, by kernel_rfl⟩
theorem D_2_3 (tv o9 o13 : Option U) (cs ns : List Int) (x m : Int) : DF tv o9 o13 cs ns x m 2 3 := by unfold DF; kernel_rfl
theorem B_2_3 (tv o9 o13 : Option U) (cs ns : List Int) (x m : Int) : ∀ d : Nat, d < 8 → BF tv o9 o13 cs ns x m 2 3 d
  | 0, _ => ⟨fun _ => by kernel_rfl, by kernel_rfl, by kernel_rfl, by kernel_rfl, by kernel_rfl⟩
  | 1, _ => ⟨fun _ => by kernel_rfl, by kernel_rfl, by kernel_rfl, by kernel_rfl, by kernel_rfl⟩
  | 2, _ => ⟨fun _ => by kernel_rfl, by kernel_rfl, by kernel_rfl, by kernel_rfl, by kernel_rfl⟩
  | 3, _ => ⟨fun _ => by kernel_rfl, by kernel_rfl, by kernel_rfl, by kernel_rfl, by kernel_rfl⟩
  | 4, _ => ⟨fun _ => by kernel_rfl, by kernel_rfl, by kernel_rfl, by kernel_rfl, by kernel_rfl⟩
  | 5, _ => ⟨fun _ => by kernel_rfl, by kernel_rfl, by kernel_rfl, by kernel_rfl, by kernel_rfl⟩
  | 6, _ => ⟨fun _ => by kernel_rfl, by kernel_rfl, by kernel_rfl, by kernel_rfl, by kernel_rfl⟩
  | 7, _ => ⟨fun _ => by kernel_rfl, by kernel_rfl, by kernel_rfl, by kernel_rfl, by kernel_rfl⟩
  | d + 8, h => by omega
theorem A_2_4 (tv : Option U) (cs ns : List Int) (x m : Int) : AF tv cs ns x m 2 4 := ⟨fun _ => by kernel_rfl, by kernel_rfl, by kernel_rfl, by kernel_rfl⟩
theorem D_2_4 (tv o9 o13 : Option U) (cs ns : List Int) (x m : Int) : DF tv o9 o13 cs ns x m 2 4 := by unfold DF; kernel_rfl
theorem B_2_4 (tv o9 o13 : Option U) (cs ns : List Int) (x m : Int) : ∀ d : Nat, d < 16 → BF tv o9 o13 cs ns x m 2 4 d
  | 0, _ => ⟨fun _ => by kernel_rfl, by kernel_rfl, by kernel_rfl, by kernel_rfl, by kernel_rfl⟩
  | 1, _ => ⟨fun _ => by kernel_rfl, by kernel_rfl, by kernel_rfl, by kernel_rfl, by kernel_rfl⟩
  | 2, _ => ⟨fun _ => by kernel_rfl, by kernel_rfl, by kernel_rfl, by kernel_rfl, by kernel_rfl⟩
  | 3, _ => ⟨fun _ => by kernel_rfl, by kernel_rfl, by kernel_rfl, by kernel_rfl, by kernel_rfl⟩
  | 4, _ => ⟨fun _ => by kernel_rfl, by kernel_rfl, by kernel_rfl, by kernel_rfl, by kernel_rfl⟩
  | 5, _ => ⟨fun _ => by kernel_rfl, by kernel_rfl, by kernel_rfl, by kernel_rfl, by kernel_rfl⟩
  | 6, _ => ⟨fun _ => by kernel_rfl, by kernel_rfl, by kernel_rfl, by kernel_rfl, by kernel_rfl⟩
  | 7, _ => ⟨fun _ => by kernel_rfl, by kernel_rfl, by kernel_rfl, by kernel_rfl, by kernel_rfl⟩
  | 8, _ => ⟨fun _ => by kernel_rfl, by kernel_rfl, by kernel_rfl, by kernel_rfl, by kernel_rfl⟩
  | 9, _ => ⟨fun _ => by kernel_rfl, by kernel_rfl, by kernel_rfl, by kernel_rfl, by kernel_rfl⟩
  | 10, _ => ⟨fun _ => by kernel_rfl, by kernel_rfl, by kernel_rfl, by kernel_rfl, by kernel_rfl⟩
  | 11, _ => ⟨fun _ => by kernel_rfl, by kernel_rfl, by kernel_rfl, by kernel_rfl, by kernel_rfl⟩
  | 12, _ => ⟨fun _ => by kernel_rfl, by kernel_rfl, by kernel_rfl, by kernel_rfl, by kernel_rfl⟩
  | 13, _ => ⟨fun _ => by kernel_rfl, by kernel_rfl, by kernel_rfl, by kernel_rfl, by kernel_rfl⟩
  | 14, _ => ⟨fun _ => by kernel_rfl, by kernel_rfl, by kernel_rfl, by kernel_rfl, by kernel_rfl⟩
  | 15, _ => ⟨fun _ => by kernel_rfl, by kernel_rfl, by kernel_rfl, by kernel_rfl, by kernel_rfl⟩
  | d + 16, h => by omega
theorem A_2_5 (tv : Option U) (cs ns : List Int) (x m : Int) : AF tv cs ns x m 2 5 := ⟨fun _ => by kernel_rfl, by kernel_rfl, by kernel_rfl, by kernel_rfl⟩
theorem D_2_5 (tv o9 o13 : Option U) (cs ns : List Int) (x m : Int) : DF tv o9 o13 cs ns x m 2 5 := by unfold DF; kernel_rfl
theorem B_2_5 (tv o9 o13 : Option U) (cs ns : List Int) (x m : Int) : ∀ d : Nat, d < 32 → BF tv o9 o13 cs ns x m 2 5 d
  | 0, _ => ⟨fun _ => by kernel_rfl, by kernel_rfl, by kernel_rfl, by kernel_rfl, by kernel_rfl⟩
  | 1, _ => ⟨fun _ => by kernel_rfl, by kernel_rfl, by kernel_rfl, by kernel_rfl, by kernel_rfl⟩
  | 2, _ => ⟨fun _ => by kernel_rfl, by kernel_rfl, by kernel_rfl, by kernel_rfl, by kernel_rfl⟩
  | 3, _ => ⟨fun _ => by kernel_rfl, by kernel_rfl, by kernel_rfl, by kernel_rfl, by kernel_rfl⟩
  | 4, _ => ⟨fun _ => by kernel_rfl, by kernel_rfl, by kernel_rfl, by kernel_rfl, by kernel_rfl⟩
  | 5, _ => ⟨fun _ => by kernel_rfl, by kernel_rfl, by kernel_rfl, by kernel_rfl, by kernel_rfl⟩
  | 6, _ => ⟨fun _ => by kernel_rfl, by kernel_rfl, by kernel_rfl, by kernel_rfl, by kernel_rfl⟩
  | 7, _ => ⟨fun _ => by kernel_rfl, by kernel_rfl, by kernel_rfl, by kernel_rfl, by kernel_rfl⟩
  | 8, _ => ⟨fun _ => by kernel_rfl, by kernel_rfl, by kernel_rfl, by kernel_rfl, by kernel_rfl⟩
  | 9, _ => ⟨fun _ => by kernel_rfl, by kernel_rfl, by kernel_rfl, by kernel_rfl, by kernel_rfl⟩
  | 10, _ => ⟨fun _ => by kernel_rfl, by kernel_rfl, by kernel_rfl, by kernel_rfl, by kernel_rfl⟩
  | 11, _ => ⟨fun _ => by kernel_rfl, by kernel_rfl, by kernel_rfl, by kernel_rfl, by kernel_rfl⟩
  | 12, _ => ⟨fun _ => by kernel_rfl, by kernel_rfl, by kernel_rfl, by kernel_rfl, by kernel_rfl⟩
  | 13, _ => ⟨fun _ => by kernel_rfl, by kernel_rfl, by kernel_rfl, by kernel_rfl, by kernel_rfl⟩
  | 14, _ => ⟨fun _ => by kernel_rfl, by kernel_rfl, by kernel_rfl, by kernel_rfl, by kernel_rfl⟩
  | 15, _ => ⟨fun _ => by kernel_rfl, by kernel_rfl, by kernel_rfl, by kernel_rfl, by kernel_rfl⟩
  | 16, _ => ⟨fun _ => by kernel_rfl, by kernel_rfl, by kernel_rfl, by kernel_rfl, by kernel_rfl⟩
  | 17, _ => ⟨fun _ => by kernel_rfl, by kernel_rfl, by kernel_rfl, by kernel_rfl, by kernel_rfl⟩
  | 18, _ => ⟨fun _ => by kernel_rfl, by kernel_rfl, by kernel_rfl, by kernel_rfl, by kernel_rfl⟩
  | 19, _ => ⟨fun _ => by kernel_rfl, by kernel_rfl, by kernel_rfl, by kernel_rfl, by kernel_rfl⟩
  | 20, _ => ⟨fun _ => by kernel_rfl, by kernel_rfl, by kernel_rfl, by kernel_rfl, by kernel_rfl⟩
  | 21, _ => ⟨fun _ => by kernel_rfl, by kernel_rfl, by kernel_rfl, by kernel_rfl, by kernel_rfl⟩
  | 22, _ => ⟨fun _ => by kernel_rfl, by kernel_rfl, by kernel_rfl, by kernel_rfl, by kernel_rfl⟩
  | 23, _ => ⟨fun _ => by kernel_rfl, by kernel_rfl, by kernel_rfl, by kernel_rfl, by kernel_rfl⟩
  | 24, _ => ⟨fun _ => by kernel_rfl, by kernel_rfl, by kernel_rfl, by kernel_rfl, by kernel_rfl⟩
  | 25, _ => ⟨fun _ => by kernel_rfl, by kernel_rfl, by kernel_rfl, by kernel_rfl, by kernel_rfl⟩
  | 26, _ => ⟨fun _ => by kernel_rfl, by kernel_rfl, by kernel_rfl, by kernel_rfl, by kernel_rfl⟩
  | 27, _ => ⟨fun _ => by kernel_rfl, by kernel_rfl, by kernel_rfl, by kernel_rfl, by kernel_rfl⟩
  | 28, _ => ⟨fun _ => by kernel_rfl, by kernel_rfl, by kernel_rfl, by kernel_rfl, by kernel_rfl⟩
  | 29, _ => ⟨fun _ => by kernel_rfl, by kernel_rfl, by kernel_rfl, by kernel_rfl, by kernel_rfl⟩
  | 30, _ => ⟨fun _ => by kernel_rfl, by kernel_rfl, by kernel_rfl, by kernel_rfl, by kernel_rfl⟩
  | 31, _ => ⟨fun _ => by kernel_rfl, by kernel_rfl, by kernel_rfl, by kernel_rfl, by kernel_rfl⟩
  | d + 32, h => by omega
theorem A_2_6 (tv : Option U) (cs ns : List Int) (x m : Int) : AF tv cs ns x m 2 6 := ⟨fun _ => by kernel_rfl, by kernel_rfl, by kernel_rfl, by kernel_rfl⟩
theorem D_2_6 (tv o9 o13 : Option U) (cs ns : List Int) (x m : Int) : DF tv o9 o13 cs ns x m 2 6 := by unfold DF; kernel_rfl
theorem B_2_6 (tv o9 o13 : Option U) (cs ns : List Int) (x m : Int) : ∀ d : Nat, d < 64 → BF tv o9 o13 cs ns x m 2 6 d
  | 0, _ => ⟨fun _ => by kernel_rfl, by kernel_rfl, by kernel_rfl, by kernel_rfl, by kernel_rfl⟩
  | 1, _ => ⟨fun _ => by kernel_rfl, by kernel_rfl, by kernel_rfl, by kernel_rfl, by kernel_rfl⟩
  | 2, _ => ⟨fun _ => by kernel_rfl, by kernel_rfl, by kernel_rfl, by kernel_rfl, by kernel_rfl⟩
  | 3, _ => ⟨fun _ => by kernel_rfl, by kernel_rfl, by kernel_rfl, by kernel_rfl, by kernel_rfl⟩
  | 4, _ => ⟨fun _ => by kernel_rfl, by kernel_rfl, by kernel_rfl, by kernel_rfl, by kernel_rfl⟩
  | 5, _ => ⟨fun _ => by kernel_rfl, by kernel_rfl, by kernel_rfl, by kernel_rfl, by kernel_rfl⟩
  | 6, _ => ⟨fun _ => by kernel_rfl, by kernel_rfl, by kernel_rfl, by kernel_rfl, by kernel_rfl⟩
  | 7, _ => ⟨fun _ => by kernel_rfl, by kernel_rfl, by kernel_rfl, by kernel_rfl, by kernel_rfl⟩
  | 8, _ => ⟨fun _ => by kernel_rfl, by kernel_rfl, by kernel_rfl, by kernel_rfl, by kernel_rfl⟩
  | 9, _ => ⟨fun _ => by kernel_rfl, by kernel_rfl, by kernel_rfl, by kernel_rfl, by kernel_rfl⟩
  | 10, _ => ⟨fun _ => by kernel_rfl, by kernel_rfl, by kernel_rfl, by kernel_rfl, by kernel_rfl⟩
  | 11, _ => ⟨fun _ => by kernel_rfl, by kernel_rfl, by kernel_rfl, by kernel_rfl, by kernel_rfl⟩
  | 12, _ => ⟨fun _ => by kernel_rfl, by kernel_rfl, by kernel_rfl, by kernel_rfl, by kernel_rfl⟩
  | 13, _ => ⟨fun _ => by kernel_rfl, by kernel_rfl, by kernel_rfl, by kernel_rfl, by kernel_rfl⟩
  | 14, _ => ⟨fun _ => by kernel_rfl, by kernel_rfl, by kernel_rfl, by kernel_rfl, by kernel_rfl⟩
  | 15, _ => ⟨fun _ => by kernel_rfl, by kernel_rfl, by kernel_rfl, by kernel_rfl, by kernel_rfl⟩
  | 16, _ => ⟨fun _ => by kernel_rfl, by kernel_rfl, by kernel_rfl, by kernel_rfl, by kernel_rfl⟩
  | 17, _ => ⟨fun _ => by kernel_rfl, by kernel_rfl, by kernel_rfl, by kernel_rfl, by kernel_rfl⟩
  | 18, _ => ⟨fun _ => by kernel_rfl, by kernel_rfl, by kernel_rfl, by kernel_rfl, by kernel_rfl⟩
  | 19, _ => ⟨fun _ => by kernel_rfl, by kernel_rfl, by kernel_rfl, by kernel_rfl, by kernel_rfl⟩
  | 20, _ => ⟨fun _ => by kernel_rfl, by kernel_rfl, by kernel_rfl, by kernel_rfl, by kernel_rfl⟩
  | 21, _ => ⟨fun _ => by kernel_rfl, by kernel_rfl, by kernel_rfl, by kernel_rfl, by kernel_rfl⟩
  | 22, _ => ⟨fun _ => by kernel_rfl, by kernel_rfl, by kernel_rfl, by kernel_rfl, by kernel_rfl⟩
  | 23, _ => ⟨fun _ => by kernel_rfl, by kernel_rfl, by kernel_rfl, by kernel_rfl, by kernel_rfl⟩
  | 24, _ => ⟨fun _ => by kernel_rfl, by kernel_rfl, by kernel_rfl, by kernel_rfl, by kernel_rfl⟩
  | 25, _ => ⟨fun _ => by kernel_rfl, by kernel_rfl, by kernel_rfl, by kernel_rfl, by kernel_rfl⟩
  | 26, _ => ⟨fun _ => by kernel_rfl, by kernel_rfl, by kernel_rfl, by kernel_rfl, by kernel_rfl⟩
  | 27, _ => ⟨fun _ => by kernel_rfl, by kernel_rfl, by kernel_rfl, by kernel_rfl, by kernel_rfl⟩
  | 28, _ => ⟨fun _ => by kernel_rfl, by kernel_rfl, by kernel_rfl, by kernel_rfl, by kernel_rfl⟩
  | 29, _ => ⟨fun _ => by kernel_rfl, by kernel_rfl, by kernel_rfl, by kernel_rfl, by kernel_rfl⟩
  | 30, _ => ⟨fun _ => by kernel_rfl, by kernel_rfl, by kernel_rfl, by kernel_rfl, by kernel_rfl⟩
  | 31, _ => ⟨fun _ => by kernel_rfl, by kernel_rfl, by kernel_rfl, by kernel_rfl, by kernel_rfl⟩
  | 32, _ => ⟨fun _ => by kernel_rfl, by kernel_rfl, by kernel_rfl, by kernel_rfl, by kernel_rfl⟩
  | 33, _ => ⟨fun _ => by kernel_rfl, by kernel_rfl, by kernel_rfl, by kernel_rfl, by kernel_rfl⟩
  | 34, _ => ⟨fun _ => by kernel_rfl, by kernel_rfl, by kernel_rfl, by kernel_rfl, by kernel_rfl⟩
  | 35, _ => ⟨fun _ => by kernel_rfl, by kernel_rfl, by kernel_rfl, by kernel_rfl, by kernel_rfl⟩
  | 36, _ => ⟨fun _ => by kernel_rfl, by kernel_rfl, by kernel_rfl, by kernel_rfl, by kernel_rfl⟩
  | 37, _ => ⟨fun _ => by kernel_rfl, by kernel_rfl, by kernel_rfl, by kernel_rfl, by kernel_rfl⟩
  | 38, _ => ⟨fun _ => by kernel_rfl, by kernel_rfl, by kernel_rfl, by kernel_rfl, by kernel_rfl⟩
  | 39, _ => ⟨fun _ => by kernel_rfl, by kernel_rfl, by kernel_rfl, by kernel_rfl, by kernel_rfl⟩
  | 40, _ => ⟨fun _ => by kernel_rfl, by kernel_rfl, by kernel_rfl, by kernel_rfl, by kernel_rfl⟩
  | 41, _ => ⟨fun _ => by kernel_rfl, by kernel_rfl, by kernel_rfl, by kernel_rfl, by kernel_rfl⟩
  | 42, _ => ⟨fun _ => by kernel_rfl, by kernel_rfl, by kernel_rfl, by kernel_rfl, by kernel_rfl⟩
  | 43, _ => ⟨fun _ => by kernel_rfl, by kernel_rfl, by kernel_rfl, by kernel_rfl, by kernel_rfl⟩
  | 44, _ => ⟨fun _ => by kernel_rfl, by kernel_rfl, by kernel_rfl, by kernel_rfl, by kernel_rfl⟩
  | 45, _ => ⟨fun _ => by kernel_rfl, by kernel_rfl, by kernel_rfl, by kernel_rfl, by kernel_rfl⟩
  | 46, _ => ⟨fun _ => by kernel_rfl, by kernel_rfl, by kernel_rfl, by kernel_rfl, by kernel_rfl⟩
  | 47, _ => ⟨fun _ => by kernel_rfl, by kernel_rfl, by kernel_rfl, by kernel_rfl, by kernel_rfl⟩
  | 48, _ => ⟨fun _ => by kernel_rfl, by kernel_rfl, by kernel_rfl, by kernel_rfl, by kernel_rfl⟩
  | 49, _ => ⟨fun _ => by kernel_rfl, by kernel_rfl, by kernel_rfl, by kernel_rfl, by kernel_rfl⟩
  | 50, _ => ⟨fun _ => by kernel_rfl, by kernel_rfl, by kernel_rfl, by kernel_rfl, by kernel_rfl⟩
  | 51, _ => ⟨fun _ => by kernel_rfl, by kernel_rfl, by kernel_rfl, by kernel_rfl, by kernel_rfl⟩
  | 52, _ => ⟨fun _ => by kernel_rfl, by kernel_rfl, by kernel_rfl, by kernel_rfl, by kernel_rfl⟩
  | 53, _ => ⟨fun _ => by kernel_rfl, by kernel_rfl, by kernel_rfl, by kernel_rfl, by kernel_rfl⟩
  | 54, _ => ⟨fun _ => by kernel_rfl, by kernel_rfl, by kernel_rfl, by kernel_rfl, by kernel_rfl⟩
  | 55, _ => ⟨fun _ => by kernel_rfl, by kernel_rfl, by kernel_rfl, by kernel_rfl, by kernel_rfl⟩
  | 56, _ => ⟨fun _ => by kernel_rfl, by kernel_rfl, by kernel_rfl, by kernel_rfl, by kernel_rfl⟩
  | 57, _ => ⟨fun _ => by kernel_rfl, by kernel_rfl, by kernel_rfl, by kernel_rfl, by kernel_rfl⟩
  | 58, _ => ⟨fun _ => by kernel_rfl, by kernel_rfl, by kernel_rfl, by kernel_rfl, by kernel_rfl⟩
  | 59, _ => ⟨fun _ => by kernel_rfl, by kernel_rfl, by kernel_rfl, by kernel_rfl, by kernel_rfl⟩
  | 60, _ => ⟨fun _ => by kernel_rfl, by kernel_rfl, by kernel_rfl, by kernel_rfl, by kernel_rfl⟩
  | 61, _ => ⟨fun _ => by kernel_rfl, by kernel_rfl, by kernel_rfl, by kernel_rfl, by kernel_rfl⟩
  | 62, _ => ⟨fun _ => by kernel_rfl, by kernel_rfl, by kernel_rfl, by kernel_rfl, by kernel_rfl⟩
  | 63, _ => ⟨fun _ => by kernel_rfl, by kernel_rfl, by kernel_rfl, by kernel_rfl, by kernel_rfl⟩
  | d + 64, h => by omega
theorem A_3_0 (tv : Option U) (cs ns : List Int) (x m : Int) : AF tv cs ns x m 3 0 := ⟨fun _ => by kernel_rfl, by kernel_rfl, by kernel_rfl, by kernel_rfl⟩
theorem D_3_0 (tv o9 o13 : Option U) (cs ns : List Int) (x m : Int) : DF tv o9 o13 cs ns x m 3 0 := by unfold DF; kernel_rfl
theorem B_3_0 (tv o9 o13 : Option U) (cs ns : List Int) (x m : Int) : ∀ d : Nat, d < 1 → BF tv o9 o13 cs ns x m 3 0 d
  | 0, _ => ⟨fun _ => by kernel_rfl, by kernel_rfl, by kernel_rfl, by kernel_rfl, by kernel_rfl⟩
  | d + 1, h => by omega
theorem A_3_1 (tv : Option U) (cs ns : List Int) (x m : Int) : AF tv cs ns x m 3 1 := ⟨fun _ => by kernel_rfl, by kernel_rfl, by kernel_rfl, by kernel_rfl⟩
theorem D_3_1 (tv o9 o13 : Option U) (cs ns : List Int) (x m : Int) : DF tv o9 o13 cs ns x m 3 1 := by unfold DF; kernel_rfl
theorem B_3_1 (tv o9 o13 : Option U) (cs ns : List Int) (x m : Int) : ∀ d : Nat, d < 3 → BF tv o9 o13 cs ns x m 3 1 d
  | 0, _ => ⟨fun _ => by kernel_rfl, by kernel_rfl, by kernel_rfl, by kernel_rfl, by kernel_rfl⟩
  | 1, _ => ⟨fun _ => by kernel_rfl, by kernel_rfl, by kernel_rfl, by kernel_rfl, by kernel_rfl⟩
  | 2, _ => ⟨fun _ => by kernel_rfl, by kernel_rfl, by kernel_rfl, by kernel_rfl, by kernel_rfl⟩
  | d + 3, h => by omega
theorem A_3_2 (tv : Option U) (cs ns : List Int) (x m : Int) : AF tv cs ns x m 3 2 := ⟨fun _ => by kernel_rfl, by kernel_rfl, by kernel_rfl, by kernel_rfl⟩
theorem D_3_2 (tv o9 o13 : Option U) (cs ns : List Int) (x m : Int) : DF tv o9 o13 cs ns x m 3 2 := by unfold DF; kernel_rfl
theorem B_3_2 (tv o9 o13 : Option U) (cs ns : List Int) (x m : Int) : ∀ d : Nat, d < 9 → BF tv o9 o13 cs ns x m 3 2 d
  | 0, _ => ⟨fun _ => by kernel_rfl, by kernel_rfl, by kernel_rfl, by kernel_rfl, by kernel_rfl⟩
  | 1, _ => ⟨fun _ => by kernel_rfl, by kernel_rfl, by kernel_rfl, by kernel_rfl, by kernel_rfl⟩
  | 2, _ => ⟨fun _ => by kernel_rfl, by kernel_rfl, by kernel_rfl, by kernel_rfl, by kernel_rfl⟩
  | 3, _ => ⟨fun _ => by kernel_rfl, by kernel_rfl, by kernel_rfl, by kernel_rfl, by kernel_rfl⟩
  | 4, _ => ⟨fun _ => by kernel_rfl, by kernel_rfl, by kernel_rfl, by kernel_rfl, by kernel_rfl⟩
  | 5, _ => ⟨fun _ => by kernel_rfl, by kernel_rfl, by kernel_rfl, by kernel_rfl, by kernel_rfl⟩
  | 6, _ => ⟨fun _ => by kernel_rfl, by kernel_rfl, by kernel_rfl, by kernel_rfl, by kernel_rfl⟩
  | 7, _ => ⟨fun _ => by kernel_rfl, by kernel_rfl, by kernel_rfl, by kernel_rfl, by kernel_rfl⟩
  | 8, _ => ⟨fun _ => by kernel_rfl, by kernel_rfl, by kernel_rfl, by kernel_rfl, by kernel_rfl⟩
  | d + 9, h => by omega
theorem A_3_3 (tv : Option U) (cs ns : List Int) (x m : Int) : AF tv cs ns x m 3 3 := ⟨fun _ => by kernel_rfl, by kernel_rfl, by kernel_rfl, by kernel_rfl⟩
theorem D_3_3 (tv o9 o13 : Option U) (cs ns : List Int) (x m : Int) : DF tv o9 o13 cs ns x m 3 3 := by unfold DF; kernel_rfl
theorem B_3_3 (tv o9 o13 : Option U) (cs ns : List Int) (x m : Int) : ∀ d : Nat, d < 27 → BF tv o9 o13 cs ns x m 3 3 d
  | 0, _ => ⟨fun _ => by kernel_rfl, by kernel_rfl, by kernel_rfl, by kernel_rfl, by kernel_rfl⟩
  | 1, _ => ⟨fun _ => by kernel_rfl, by kernel_rfl, by kernel_rfl, by kernel_rfl, by kernel_rfl⟩
  | 2, _ => ⟨fun _ => by kernel_rfl, by kernel_rfl, by kernel_rfl, by kernel_rfl, by kernel_rfl⟩
  | 3, _ => ⟨fun _ => by kernel_rfl, by kernel_rfl, by kernel_rfl, by kernel_rfl, by kernel_rfl⟩
  | 4, _ => ⟨fun _ => by kernel_rfl, by kernel_rfl, by kernel_rfl, by kernel_rfl, by kernel_rfl⟩
  | 5, _ => ⟨fun _ => by kernel_rfl, by kernel_rfl, by kernel_rfl, by kernel_rfl, by kernel_rfl⟩
  | 6, _ => ⟨fun _ => by kernel_rfl, by kernel_rfl, by kernel_rfl, by kernel_rfl, by kernel_rfl⟩
  | 7, _ => ⟨fun _ => by kernel_rfl, by kernel_rfl, by kernel_rfl, by kernel_rfl, by kernel_rfl⟩
  | 8, _ => ⟨fun _ => by kernel_rfl, by kernel_rfl, by kernel_rfl, by kernel_rfl, by kernel_rfl⟩
  | 9, _ => ⟨fun _ => by kernel_rfl, by kernel_rfl, by kernel_rfl, by kernel_rfl, by kernel_rfl⟩
  | 10, _ => ⟨fun _ => by kernel_rfl, by kernel_rfl, by kernel_rfl, by kernel_rfl, by kernel_rfl⟩
  | 11, _ => ⟨fun _ => by kernel_rfl, by kernel_rfl, by kernel_rfl, by kernel_rfl, by kernel_rfl⟩
  | 12, _ => ⟨fun _ => by kernel_rfl, by kernel_rfl, by kernel_rfl, by kernel_rfl, by kernel_rfl⟩
  | 13, _ => ⟨fun _ => by kernel_rfl, by kernel_rfl, by kernel_rfl, by kernel_rfl, by kernel_rfl⟩
  | 14, _ => ⟨fun _ => by kernel_rfl, by kernel_rfl, by kernel_rfl, by kernel_rfl, by kernel_rfl⟩
  | 15, _ => ⟨fun _ => by kernel_rfl, by kernel_rfl, by kernel_rfl, by kernel_rfl, by kernel_rfl⟩
  | 16, _ => ⟨fun _ => by kernel_rfl, by kernel_rfl, by kernel_rfl, by kernel_rfl, by kernel_rfl⟩
  | 17, _ => ⟨fun _ => by kernel_rfl, by kernel_rfl, by kernel_rfl, by kernel_rfl, by kernel_rfl⟩
  | 18, _ => ⟨fun _ => by kernel_rfl, by kernel_rfl, by kernel_rfl, by kernel_rfl, by kernel_rfl⟩
  | 19, _ => ⟨fun _ => by kernel_rfl, by kernel_rfl, by kernel_rfl, by kernel_rfl, by kernel_rfl⟩
  | 20, _ => ⟨fun _ => by kernel_rfl, by kernel_rfl, by kernel_rfl, by kernel_rfl, by kernel_rfl⟩
  | 21, _ => ⟨fun _ => by kernel_rfl, by kernel_rfl, by kernel_rfl, by kernel_rfl, by kernel_rfl⟩
  | 22, _ => ⟨fun _ => by kernel_rfl, by kernel_rfl, by kernel_rfl, by kernel_rfl, by kernel_rfl⟩
  | 23, _ => ⟨fun _ => by kernel_rfl, by kernel_rfl, by kernel_rfl, by kernel_rfl, by kernel_rfl⟩
  | 24, _ => ⟨fun _ => by kernel_rfl, by kernel_rfl, by kernel_rfl, by kernel_rfl, by kernel_rfl⟩
  | 25, _ => ⟨fun _ => by kernel_rfl, by kernel_rfl, by kernel_rfl, by kernel_rfl, by kernel_rfl⟩
  | 26, _ => ⟨fun _ => by kernel_rfl, by kernel_rfl, by kernel_rfl, by kernel_rfl, by kernel_rfl⟩
  | d + 27, h => by omega
theorem A_4_0 (tv : Option U) (cs ns : List Int) (x m : Int) : AF tv cs ns x m 4 0 := ⟨fun _ => by kernel_rfl, by kernel_rfl, by kernel_rfl, by kernel_rfl⟩
theorem D_4_0 (tv o9 o13 : Option U) (cs ns : List Int) (x m : Int) : DF tv o9 o13 cs ns x m 4 0 := by unfold DF; kernel_rfl
theorem B_4_0 (tv o9 o13 : Option U) (cs ns : List Int) (x m : Int) : ∀ d : Nat, d < 1 → BF tv o9 o13 cs ns x m 4 0 d
  | 0, _ => ⟨fun _ => by kernel_rfl, by kernel_rfl, by kernel_rfl, by kernel_rfl, by kernel_rfl⟩
  | d + 1, h => by omega
theorem A_4_1 (tv : Option U) (cs ns : List Int) (x m : Int) : AF tv cs ns x m 4 1 := ⟨fun _ => by kernel_rfl, by kernel_rfl, by kernel_rfl, by kernel_rfl⟩
theorem D_4_1 (tv o9 o13 : Option U) (cs ns : List Int) (x m : Int) : DF tv o9 o13 cs ns x m 4 1 := by unfold DF; kernel_rfl
theorem B_4_1 (tv o9 o13 : Option U) (cs ns : List Int) (x m : Int) : ∀ d : Nat, d < 4 → BF tv o9 o13 cs ns x m 4 1 d
  | 0, _ => ⟨fun _ => by kernel_rfl, by kernel_rfl, by kernel_rfl, by kernel_rfl, by kernel_rfl⟩
  | 1, _ => ⟨fun _ => by kernel_rfl, by kernel_rfl, by kernel_rfl, by kernel_rfl, by kernel_rfl⟩
  | 2, _ => ⟨fun _ => by kernel_rfl, by kernel_rfl, by kernel_rfl, by kernel_rfl, by kernel_rfl⟩
  | 3, _ => ⟨fun _ => by kernel_rfl, by kernel_rfl, by kernel_rfl, by kernel_rfl, by kernel_rfl⟩
  | d + 4, h => by omega
theorem A_4_2 (tv : Option U) (cs ns : List Int) (x m : Int) : AF tv cs ns x m 4 2 := ⟨fun _ => by kernel_rfl, by kernel_rfl, by kernel_rfl, by kernel_rfl⟩
theorem D_4_2 (tv o9 o13 : Option U) (cs ns : List Int) (x m : Int) : DF tv o9 o13 cs ns x m 4 2 := by unfold DF; kernel_rfl
theorem B_4_2 (tv o9 o13 : Option U) (cs ns : List Int) (x m : Int) : ∀ d : Nat, d < 16 → BF tv o9 o13 cs ns x m 4 2 d
  | 0, _ => ⟨fun _ => by kernel_rfl, by kernel_rfl, by kernel_rfl, by kernel_rfl, by kernel_rfl⟩
  | 1, _ => ⟨fun _ => by kernel_rfl, by kernel_rfl, by kernel_rfl, by kernel_rfl, by kernel_rfl⟩
  | 2, _ => ⟨fun _ => by kernel_rfl, by kernel_rfl, by kernel_rfl, by kernel_rfl, by kernel_rfl⟩
  | 3, _ => ⟨fun _ => by kernel_rfl, by kernel_rfl, by kernel_rfl, by kernel_rfl, by kernel_rfl⟩
  | 4, _ => ⟨fun _ => by kernel_rfl, by kernel_rfl, by kernel_rfl, by kernel_rfl, by kernel_rfl⟩
  | 5, _ => ⟨fun _ => by kernel_rfl, by kernel_rfl, by kernel_rfl, by kernel_rfl, by kernel_rfl⟩
  | 6, _ => ⟨fun _ => by kernel_rfl, by kernel_rfl, by kernel_rfl, by kernel_rfl, by kernel_rfl⟩
  | 7, _ => ⟨fun _ => by kernel_rfl, by kernel_rfl, by kernel_rfl, by kernel_rfl, by kernel_rfl⟩
  | 8, _ => ⟨fun _ => by kernel_rfl, by kernel_rfl, by kernel_rfl, by kernel_rfl, by kernel_rfl⟩
  | 9, _ => ⟨fun _ => by kernel_rfl, by kernel_rfl, by kernel_rfl, by kernel_rfl, by kernel_rfl⟩
  | 10, _ => ⟨fun _ => by kernel_rfl, by kernel_rfl, by kernel_rfl, by kernel_rfl, by kernel_rfl⟩
  | 11, _ => ⟨fun _ => by kernel_rfl, by kernel_rfl, by kernel_rfl, by kernel_rfl, by kernel_rfl⟩
  | 12, _ => ⟨fun _ => by kernel_rfl, by kernel_rfl, by kernel_rfl, by kernel_rfl, by kernel_rfl⟩
  | 13, _ => ⟨fun _ => by kernel_rfl, by kernel_rfl, by kernel_rfl, by kernel_rfl, by kernel_rfl⟩
  | 14, _ => ⟨fun _ => by kernel_rfl, by kernel_rfl, by kernel_rfl, by kernel_rfl, by kernel_rfl⟩
  | 15, _ => ⟨fun _ => by kernel_rfl, by kernel_rfl, by kernel_rfl, by kernel_rfl, by kernel_rfl⟩
  | d + 16, h => by omega
theorem A_4_3 (tv : Option U) (cs ns : List Int) (x m : Int) : AF tv cs ns x m 4 3 := ⟨fun _ => by kernel_rfl, by kernel_rfl, by kernel_rfl, by kernel_rfl⟩
theorem D_4_3 (tv o9 o13 : Option U) (cs ns : List Int) (x m : Int) : DF tv o9 o13 cs ns x m 4 3 := by unfold DF; kernel_rfl
theorem B_4_3 (tv o9 o13 : Option U) (cs ns : List Int) (x m : Int) : ∀ d : Nat, d < 64 → BF tv o9 o13 cs ns x m 4 3 d
  | 0, _ => ⟨fun _ => by kernel_rfl, by kernel_rfl, by kernel_rfl, by kernel_rfl, by kernel_rfl⟩
  | 1, _ => ⟨fun _ => by kernel_rfl, by kernel_rfl, by kernel_rfl, by kernel_rfl, by kernel_rfl⟩
  | 2, _ => ⟨fun _ => by kernel_rfl, by kernel_rfl, by kernel_rfl, by kernel_rfl, by kernel_rfl⟩
  | 3, _ => ⟨fun _ => by kernel_rfl, by kernel_rfl, by kernel_rfl, by kernel_rfl, by kernel_rfl⟩
  | 4, _ => ⟨fun _ => by kernel_rfl, by kernel_rfl, by kernel_rfl, by kernel_rfl, by kernel_rfl⟩
  | 5, _ => ⟨fun _ => by kernel_rfl, by kernel_rfl, by kernel_rfl, by kernel_rfl, by kernel_rfl⟩
  | 6, _ => ⟨fun _ => by kernel_rfl, by kernel_rfl, by kernel_rfl, by kernel_rfl, by kernel_rfl⟩
  | 7, _ => ⟨fun _ => by kernel_rfl, by kernel_rfl, by kernel_rfl, by kernel_rfl, by kernel_rfl⟩
  | 8, _ => ⟨fun _ => by kernel_rfl, by kernel_rfl, by kernel_rfl, by kernel_rfl, by kernel_rfl⟩
  | 9, _ => ⟨fun _ => by kernel_rfl, by kernel_rfl, by kernel_rfl, by kernel_rfl, by kernel_rfl⟩
  | 10, _ => ⟨fun _ => by kernel_rfl, by kernel_rfl, by kernel_rfl, by kernel_rfl, by kernel_rfl⟩
  | 11, _ => ⟨fun _ => by kernel_rfl, by kernel_rfl, by kernel_rfl, by kernel_rfl, by kernel_rfl⟩
  | 12, _ => ⟨fun _ => by kernel_rfl, by kernel_rfl, by kernel_rfl, by kernel_rfl, by kernel_rfl⟩
  | 13, _ => ⟨fun _ => by kernel_rfl, by kernel_rfl, by kernel_rfl, by kernel_rfl, by kernel_rfl⟩
  | 14, _ => ⟨fun _ => by kernel_rfl, by kernel_rfl, by kernel_rfl, by kernel_rfl, by kernel_rfl⟩
  | 15, _ => ⟨fun _ => by kernel_rfl, by kernel_rfl, by kernel_rfl, by kernel_rfl, by kernel_rfl⟩
  | 16, _ => ⟨fun _ => by kernel_rfl, by kernel_rfl, by kernel_rfl, by kernel_rfl, by kernel_rfl⟩
  | 17, _ => ⟨fun _ => by kernel_rfl, by kernel_rfl, by kernel_rfl, by kernel_rfl, by kernel_rfl⟩
  | 18, _ => ⟨fun _ => by kernel_rfl, by kernel_rfl, by kernel_rfl, by kernel_rfl, by kernel_rfl⟩
  | 19, _ => ⟨fun _ => by kernel_rfl, by kernel_rfl, by kernel_rfl, by kernel_rfl, by kernel_rfl⟩
  | 20, _ => ⟨fun _ => by kernel_rfl, by kernel_rfl, by kernel_rfl, by kernel_rfl, by kernel_rfl⟩
  | 21, _ => ⟨fun _ => by kernel_rfl, by kernel_rfl, by kernel_rfl, by kernel_rfl, by kernel_rfl⟩
  | 22, _ => ⟨fun _ => by kernel_rfl, by kernel_rfl, by kernel_rfl, by kernel_rfl, by kernel_rfl⟩
  | 23, _ => ⟨fun _ => by kernel_rfl, by kernel_rfl, by kernel_rfl, by kernel_rfl, by kernel_rfl⟩
  | 24, _ => ⟨fun _ => by kernel_rfl, by kernel_rfl, by kernel_rfl, by kernel_rfl, by kernel_rfl⟩
  | 25, _ => ⟨fun _ => by kernel_rfl, by kernel_rfl, by kernel_rfl, by kernel_rfl, by kernel_rfl⟩
  | 26, _ => ⟨fun _ => by kernel_rfl, by kernel_rfl, by kernel_rfl, by kernel_rfl, by kernel_rfl⟩
  | 27, _ => ⟨fun _ => by kernel_rfl, by kernel_rfl, by kernel_rfl, by kernel_rfl, by kernel_rfl⟩
  | 28, _ => ⟨fun _ => by kernel_rfl, by kernel_rfl, by kernel_rfl, by kernel_rfl, by kernel_rfl⟩
  | 29, _ => ⟨fun _ => by kernel_rfl, by kernel_rfl, by kernel_rfl, by kernel_rfl, by kernel_rfl⟩
  | 30, _ => ⟨fun _ => by kernel_rfl, by kernel_rfl, by kernel_rfl, by kernel_rfl, by kernel_rfl⟩
  | 31, _ => ⟨fun _ => by kernel_rfl, by kernel_rfl, by kernel_rfl, by kernel_rfl, by kernel_rfl⟩
  | 32, _ => ⟨fun _ => by kernel_rfl, by kernel_rfl, by kernel_rfl, by kernel_rfl, by kernel_rfl⟩
  | 33, _ => ⟨fun _ => by kernel_rfl, by kernel_rfl, by kernel_rfl, by kernel_rfl, by kernel_rfl⟩
  | 34, _ => ⟨fun _ => by kernel_rfl, by kernel_rfl, by kernel_rfl, by kernel_rfl, by kernel_rfl⟩
  | 35, _ => ⟨fun _ => by kernel_rfl, by kernel_rfl, by kernel_rfl, by kernel_rfl, by kernel_rfl⟩
  | 36, _ => ⟨fun _ => by kernel_rfl, by kernel_rfl, by kernel_rfl, by kernel_rfl, by kernel_rfl⟩
  | 37, _ => ⟨fun _ => by kernel_rfl, by kernel_rfl, by kernel_rfl, by kernel_rfl, by kernel_rfl⟩
  | 38, _ => ⟨fun _ => by kernel_rfl, by kernel_rfl, by kernel_rfl, by kernel_rfl, by kernel_rfl⟩
  | 39, _ => ⟨fun _ => by kernel_rfl, by kernel_rfl, by kernel_rfl, by kernel_rfl, by kernel_rfl⟩
  | 40, _ => ⟨fun _ => by kernel_rfl, by kernel_rfl, by kernel_rfl, by kernel_rfl, by kernel_rfl⟩
  | 41, _ => ⟨fun _ => by kernel_rfl, by kernel_rfl, by kernel_rfl, by kernel_rfl, by kernel_rfl⟩
  | 42, _ => ⟨fun _ => by kernel_rfl, by kernel_rfl, by kernel_rfl, by kernel_rfl, by kernel_rfl⟩
  | 43, _ => ⟨fun _ => by kernel_rfl, by kernel_rfl, by kernel_rfl, by kernel_rfl, by kernel_rfl⟩
  | 44, _ => ⟨fun _ => by kernel_rfl, by kernel_rfl, by kernel_rfl, by kernel_rfl, by kernel_rfl⟩
  | 45, _ => ⟨fun _ => by kernel_rfl, by kernel_rfl, by kernel_rfl, by kernel_rfl, by kernel_rfl⟩
  | 46, _ => ⟨fun _ => by kernel_rfl, by kernel_rfl, by kernel_rfl, by kernel_rfl, by kernel_rfl⟩
  | 47, _ => ⟨fun _ => by kernel_rfl, by kernel_rfl, by kernel_rfl, by kernel_rfl, by kernel_rfl⟩
  | 48, _ => ⟨fun _ => by kernel_rfl, by kernel_rfl, by kernel_rfl, by kernel_rfl, by kernel_rfl⟩
  | 49, _ => ⟨fun _ => by kernel_rfl, by kernel_rfl, by kernel_rfl, by kernel_rfl, by kernel_rfl⟩
  | 50, _ => ⟨fun _ => by kernel_rfl, by kernel_rfl, by kernel_rfl, by kernel_rfl, by kernel_rfl⟩
  | 51, _ => ⟨fun _ => by kernel_rfl, by kernel_rfl, by kernel_rfl, by kernel_rfl, by kernel_rfl⟩
  | 52, _ => ⟨fun _ => by kernel_rfl, by kernel_rfl, by kernel_rfl, by kernel_rfl, by kernel_rfl⟩
  | 53, _ => ⟨fun _ => by kernel_rfl, by kernel_rfl, by kernel_rfl, by kernel_rfl, by kernel_rfl⟩
  | 54, _ => ⟨fun _ => by kernel_rfl, by kernel_rfl, by kernel_rfl, by kernel_rfl, by kernel_rfl⟩
  | 55, _ => ⟨fun _ => by kernel_rfl, by kernel_rfl, by kernel_rfl, by kernel_rfl, by kernel_rfl⟩
  | 56, _ => ⟨fun _ => by kernel_rfl, by kernel_rfl, by kernel_rfl, by kernel_rfl, by kernel_rfl⟩
  | 57, _ => ⟨fun _ => by kernel_rfl, by kernel_rfl, by kernel_rfl, by kernel_rfl, by kernel_rfl⟩
  | 58, _ => ⟨fun _ => by kernel_rfl, by kernel_rfl, by kernel_rfl, by kernel_rfl, by kernel_rfl⟩
  | 59, _ => ⟨fun _ => by kernel_rfl, by kernel_rfl, by kernel_rfl, by kernel_rfl, by kernel_rfl⟩
  | 60, _ => ⟨fun _ => by kernel_rfl, by kernel_rfl, by kernel_rfl, by kernel_rfl, by kernel_rfl⟩
  | 61, _ => ⟨fun _ => by kernel_rfl, by kernel_rfl, by kernel_rfl, by kernel_rfl, by kernel_rfl⟩
  | 62, _ => ⟨fun _ => by kernel_rfl, by kernel_rfl, by kernel_rfl, by kernel_rfl, by kernel_rfl⟩
  | 63, _ => ⟨fun _ => by kernel_rfl, by kernel_rfl, by kernel_rfl, by kernel_rfl, by kernel_rfl⟩
  | d + 64, h => by omega
theorem S_1_0 : SF 1 0 := ⟨A_1_0, D_1_0, fun tv o9 o13 cs ns x m d h => B_1_0 tv o9 o13 cs ns x m d (Nat.lt_of_lt_of_eq h (by kernel_rfl)), fun _ _ _ _ _ _ _ _ _ _ => by kernel_rfl, by kernel_rfl, by decide +kernel, fun _ _ _ _ _ => by kernel_rfl⟩
theorem S_1_1 : SF 1 1 := ⟨A_1_1, D_1_1, fun tv o9 o13 cs ns x m d h => B_1_1 tv o9 o13 cs ns x m d (Nat.lt_of_lt_of_eq h (by kernel_rfl)), fun _ _ _ _ _ _ _ _ _ _ => by kernel_rfl, by kernel_rfl, by decide +kernel, fun _ _ _ _ _ => by kernel_rfl⟩
theorem S_1_2 : SF 1 2 := ⟨A_1_2, D_1_2, fun tv o9 o13 cs ns x m d h => B_1_2 tv o9 o13 cs ns x m d (Nat.lt_of_lt_of_eq h (by kernel_rfl)), fun _ _ _ _ _ _ _ _ _ _ => by kernel_rfl, by kernel_rfl, by decide +kernel, fun _ _ _ _ _ => by kernel_rfl⟩
theorem S_1_3 : SF 1 3 := ⟨A_1_3, D_1_3, fun tv o9 o13 cs ns x m d h => B_1_3 tv o9 o13 cs ns x m d (Nat.lt_of_lt_of_eq h (by kernel_rfl)), fun _ _ _ _ _ _ _ _ _ _ => by kernel_rfl, by kernel_rfl, by decide +kernel, fun _ _ _ _ _ => by kernel_rfl⟩
theorem S_1_4 : SF 1 4 := ⟨A_1_4, D_1_4, fun tv o9 o13 cs ns x m d h => B_1_4 tv o9 o13 cs ns x m d (Nat.lt_of_lt_of_eq h (by kernel_rfl)), fun _ _ _ _ _ _ _ _ _ _ => by kernel_rfl, by kernel_rfl, by decide +kernel, fun _ _ _ _ _ => by kernel_rfl⟩
theorem S_1_5 : SF 1 5 := ⟨A_1_5, D_1_5, fun tv o9 o13 cs ns x m d h => B_1_5 tv o9 o13 cs ns x m d (Nat.lt_of_lt_of_eq h (by kernel_rfl)), fun _ _ _ _ _ _ _ _ _ _ => by kernel_rfl, by kernel_rfl, by decide +kernel, fun _ _ _ _ _ => by kernel_rfl⟩
theorem S_1_6 : SF 1 6 := ⟨A_1_6, D_1_6, fun tv o9 o13 cs ns x m d h => B_1_6 tv o9 o13 cs ns x m d (Nat.lt_of_lt_of_eq h (by kernel_rfl)), fun _ _ _ _ _ _ _ _ _ _ => by kernel_rfl, by kernel_rfl, by decide +kernel, fun _ _ _ _ _ => by kernel_rfl⟩
theorem S_2_0 : SF 2 0 := ⟨A_2_0, D_2_0, fun tv o9 o13 cs ns x m d h => B_2_0 tv o9 o13 cs ns x m d (Nat.lt_of_lt_of_eq h (by kernel_rfl)), fun _ _ _ _ _ _ _ _ _ _ => by kernel_rfl, by kernel_rfl, by decide +kernel, fun _ _ _ _ _ => by kernel_rfl⟩
theorem S_2_1 : SF 2 1 := ⟨A_2_1, D_2_1, fun tv o9 o13 cs ns x m d h => B_2_1 tv o9 o13 cs ns x m d (Nat.lt_of_lt_of_eq h (by kernel_rfl)), fun _ _ _ _ _ _ _ _ _ _ => by kernel_rfl, by kernel_rfl, by decide +kernel, fun _ _ _ _ _ => by kernel_rfl⟩
theorem S_2_2 : SF 2 2 := ⟨A_2_2, D_2_2, fun tv o9 o13 cs ns x m d h => B_2_2 tv o9 o13 cs ns x m d (Nat.lt_of_lt_of_eq h (by kernel_rfl)), fun _ _ _ _ _ _ _ _ _ _ => by kernel_rfl, by kernel_rfl, by decide +kernel, fun _ _ _ _ _ => by kernel_rfl⟩
theorem S_2_3 : SF 2 3 := ⟨A_2_3, D_2_3, fun tv o9 o13 cs ns x m d h => B_2_3 tv o9 o13 cs ns x m d (Nat.lt_of_lt_of_eq h (by kernel_rfl)), fun _ _ _ _ _ _ _ _ _ _ => by kernel_rfl, by kernel_rfl, by decide +kernel, fun _ _ _ _ _ => by kernel_rfl⟩
theorem S_2_4 : SF 2 4 := ⟨A_2_4, D_2_4, fun tv o9 o13 cs ns x m d h => B_2_4 tv o9 o13 cs ns x m d (Nat.lt_of_lt_of_eq h (by kernel_rfl)), fun _ _ _ _ _ _ _ _ _ _ => by kernel_rfl, by kernel_rfl, by decide +kernel, fun _ _ _ _ _ => by kernel_rfl⟩
theorem S_2_5 : SF 2 5 := ⟨A_2_5, D_2_5, fun tv o9 o13 cs ns x m d h => B_2_5 tv o9 o13 cs ns x m d (Nat.lt_of_lt_of_eq h (by kernel_rfl)), fun _ _ _ _ _ _ _ _ _ _ => by kernel_rfl, by kernel_rfl, by decide +kernel, fun _ _ _ _ _ => by kernel_rfl⟩
theorem S_2_6 : SF 2 6 := ⟨A_2_6, D_2_6, fun tv o9 o13 cs ns x m d h => B_2_6 tv o9 o13 cs ns x m d (Nat.lt_of_lt_of_eq h (by kernel_rfl)), fun _ _ _ _ _ _ _ _ _ _ => by kernel_rfl, by kernel_rfl, by decide +kernel, fun _ _ _ _ _ => by kernel_rfl⟩
theorem S_3_0 : SF 3 0 := ⟨A_3_0, D_3_0, fun tv o9 o13 cs ns x m d h => B_3_0 tv o9 o13 cs ns x m d (Nat.lt_of_lt_of_eq h (by kernel_rfl)), fun _ _ _ _ _ _ _ _ _ _ => by kernel_rfl, by kernel_rfl, by decide +kernel, fun _ _ _ _ _ => by kernel_rfl⟩
theorem S_3_1 : SF 3 1 := ⟨A_3_1, D_3_1, fun tv o9 o13 cs ns x m d h => B_3_1 tv o9 o13 cs ns x m d (Nat.lt_of_lt_of_eq h (by kernel_rfl)), fun _ _ _ _ _ _ _ _ _ _ => by kernel_rfl, by kernel_rfl, by decide +kernel, fun _ _ _ _ _ => by kernel_rfl⟩
theorem S_3_2 : SF 3 2 := ⟨A_3_2, D_3_2, fun tv o9 o13 cs ns x m d h => B_3_2 tv o9 o13 cs ns x m d (Nat.lt_of_lt_of_eq h (by kernel_rfl)), fun _ _ _ _ _ _ _ _ _ _ => by kernel_rfl, by kernel_rfl, by decide +kernel, fun _ _ _ _ _ => by kernel_rfl⟩
theorem S_3_3 : SF 3 3 := ⟨A_3_3, D_3_3, fun tv o9 o13 cs ns x m d h => B_3_3 tv o9 o13 cs ns x m d (Nat.lt_of_lt_of_eq h (by kernel_rfl)), fun _ _ _ _ _ _ _ _ _ _ => by kernel_rfl, by kernel_rfl, by decide +kernel, fun _ _ _ _ _ => by kernel_rfl⟩
theorem S_4_0 : SF 4 0 := ⟨A_4_0, D_4_0, fun tv o9 o13 cs ns x m d h => B_4_0 tv o9 o13 cs ns x m d (Nat.lt_of_lt_of_eq h (by kernel_rfl)), fun _ _ _ _ _ _ _ _ _ _ => by kernel_rfl, by kernel_rfl, by decide +kernel, fun _ _ _ _ _ => by kernel_rfl⟩
theorem S_4_1 : SF 4 1 := ⟨A_4_1, D_4_1, fun tv o9 o13 cs ns x m d h => B_4_1 tv o9 o13 cs ns x m d (Nat.lt_of_lt_of_eq h (by kernel_rfl)), fun _ _ _ _ _ _ _ _ _ _ => by kernel_rfl, by kernel_rfl, by decide +kernel, fun _ _ _ _ _ => by kernel_rfl⟩
theorem S_4_2 : SF 4 2 := ⟨A_4_2, D_4_2, fun tv o9 o13 cs ns x m d h => B_4_2 tv o9 o13 cs ns x m d (Nat.lt_of_lt_of_eq h (by kernel_rfl)), fun _ _ _ _ _ _ _ _ _ _ => by kernel_rfl, by kernel_rfl, by decide +kernel, fun _ _ _ _ _ => by kernel_rfl⟩
theorem S_4_3 : SF 4 3 := ⟨A_4_3, D_4_3, fun tv o9 o13 cs ns x m d h => B_4_3 tv o9 o13 cs ns x m d (Nat.lt_of_lt_of_eq h (by kernel_rfl)), fun _ _ _ _ _ _ _ _ _ _ => by kernel_rfl, by kernel_rfl, by decide +kernel, fun _ _ _ _ _ => by kernel_rfl⟩
theorem S_all : ∀ p ∈ sizesL, SF p.1 p.2 := by
  intro p hp
  have e : sizesL = [(1, 0), (1, 1), (1, 2), (1, 3), (1, 4), (1, 5), (1, 6), (2, 0), (2, 1), (2, 2), (2, 3), (2, 4), (2, 5), (2, 6), (3, 0), (3, 1), (3, 2), (3, 3), (4, 0), (4, 1), (4, 2), (4, 3)] := by decide
  rw [e] at hp
  simp only [List.mem_cons, List.not_mem_nil, or_false] at hp
  rcases hp with rfl | rfl | rfl | rfl | rfl | rfl | rfl | rfl | rfl | rfl | rfl | rfl | rfl | rfl | rfl | rfl | rfl | rfl | rfl | rfl | rfl | rfl
  · exact S_1_0
  · exact S_1_1
  · exact S_1_2
  · exact S_1_3
  · exact S_1_4
  · exact S_1_5
  · exact S_1_6
  · exact S_2_0
  · exact S_2_1
  · exact S_2_2
  · exact S_2_3
  · exact S_2_4
  · exact S_2_5
  · exact S_2_6
  · exact S_3_0
  · exact S_3_1
  · exact S_3_2
  · exact S_3_3
  · exact S_4_0
  · exact S_4_1
  · exact S_4_2
  · exact S_4_3
end K53
set_option Elab.async false
set_option linter.all false
set_option maxRecDepth 100000
set_option maxHeartbeats 1000000
namespace K53
open PySem PySem.Spec PyProof.Rows L2 Vm
/-! ### the walk along a word -/
def walk (T : List (List Int)) : List Int → Int → Option Int
  | [], h => some h
  | a :: r, h => if 0 ≤ h ∧ 0 ≤ a then (match T[h.toNat]? with
    | some row => match row[a.toNat]? with
      | some h' => walk T r h'
      | none => none
    | none => none) else none
theorem walk_ok {P : Option U → Int → Rho} {kr : Nat} {T : List (List Int)} {μ : Mu} (hP1 : ∀ o h a, (P o h).set 10 (some (I a)) = P (some (I a)) h) (hP2 : ∀ o h h', (P o h).set 16 (some (I h')) = P o h') (h11 : ∀ o h, (P o h)[11]? = some (some (.p kr)))
    (h16 : ∀ o h, (P o h)[16]? = some (some (I h))) (h10 : ∀ a h, (P (some (I a)) h)[10]? = some (some (I a))) (hμ : μ[kr]? = some (.lst (T.map fun r => .d (tup r)))) :
    ∀ (word : List Int) (h h' : Int) (o : Option U), walk T word h = some h' → ∃ o', forL (nameG 10) w_law_5 (word.map .int) (P o h) μ = .nx (P o' h') μ
  | [], h, h', o, e => by cases e; exact ⟨o, rfl⟩
  | a :: r, h, h', o, e => by
    unfold walk at e
    split at e
    · rename_i hpos
      split at e
      · rename_i row erow
        split at e
        · rename_i h2 eh2
          obtain ⟨o', hh⟩ := walk_ok hP1 hP2 h11 h16 h10 hμ r h2 h' (some (I a)) e
          refine ⟨o', ?_⟩
          have v11 : varD 11 (P (some (I a)) h) μ = .ok (.p kr) μ := by unfold varD; rw [h11]
          have v16 : varD 16 (P (some (I a)) h) μ = .ok (I h) μ := by unfold varD; rw [h16]
          have v10 : varD 10 (P (some (I a)) h) μ = .ok (I a) μ := by unfold varD; rw [h10]
          obtain ⟨i, rfl⟩ := Int.eq_ofNat_of_zero_le hpos.1
          obtain ⟨j, rfl⟩ := Int.eq_ofNat_of_zero_le hpos.2
          have s1 : subsM (.p kr) (I (i : Nat)) μ = .ok (.d (tup row)) μ := by
            have hd : dctAt (.p kr) μ = none := by unfold dctAt; simp only [hμ]
            have hi : items (.p kr) μ = some (false, T.map fun r => .d (tup r)) := by unfold items; simp only [hμ]
            unfold subsM
            rw [hd]
            simp only
            rw [hi]
            simp only
            have : atI (T.map fun r => U.d (tup r)) (i : Nat) = some (.d (tup row)) := by
              have e2 : T[i]? = some row := erow
              exact atI_nat (by rw [List.getElem?_map, e2]; rfl)
            rw [this]
          have s2 : subsM (.d (tup row)) (I (j : Nat)) μ = .ok (I h2) μ := by
            show (match atI ((row.map PyData.int).map U.d) (j : Nat) with | some w => R.ok w μ | none => .stuck) = _
            have : atI ((row.map PyData.int).map U.d) (j : Nat) = some (I h2) := by
              have e2 : row[j]? = some h2 := eh2
              exact atI_nat (by rw [List.getElem?_map, List.getElem?_map, e2]; rfl)
            rw [this]
          have st : w_law_5 (P (some (I (j : Nat))) (i : Nat)) μ = .nx (P (some (I (j : Nat))) h2) μ :=
            asg_ok ((bin2_ok ((bin2_ok v11 v16).trans s1) v10).trans s2) (by unfold nameG; rw [hP2])
          show ofR (nameG 10 (I (j : Nat)) (P o (i : Nat)) μ) _ = _
          unfold nameG
          rw [ofR_ok, hP1, st]
          exact hh
        · cases e
      · cases e
    · cases e
def chkH (l n : Nat) : Bool := (List.range (wsF l n).length).all fun d => (List.range (wsF l n).length).all fun h => walk (rowsF l n) (wordAt l n d) (h : Nat) == some (d : Int)
theorem chk_all : sizesL.all (fun p => chkH p.1 p.2) = true := by decide +kernel
end K53
set_option Elab.async false
set_option linter.all false
set_option maxRecDepth 100000
set_option maxHeartbeats 1000000
namespace K53
open PySem PySem.Spec PyProof.Rows L2 Vm
theorem ck {l n : Nat} (hp : (l, n) ∈ sizesL) {d h : Nat} (hd : d < (wsF l n).length) (hh : h < (wsF l n).length) : walk (rowsF l n) (wordAt l n d) (h : Nat) = some (d : Int) := by
  have h1 := List.all_eq_true.mp chk_all (l, n) hp
  have h2 := List.all_eq_true.mp h1 d (List.mem_range.mpr hd)
  have h3 := List.all_eq_true.mp h2 h (List.mem_range.mpr hh)
  exact eq_of_beq h3
theorem take_M {cs cs' ns : List Int} {x x' m m' : Int} {r t : Mu} : (M cs x m ns (r ++ t)).take (M cs' x' m' ns r).length = M cs x m ns r := by
  unfold M
  simp [List.take_left']
/-- a draw among the rooms -/
theorem drawN {l n : Nat} (F : SF l n) (cs : List Int) (x m : Int) (g : Good cs x) : ∃ (d : Nat) (cs' : List Int) (x' m' : Int), d < (wsF l n).length ∧ Good cs' x' ∧ ∀ (ns : List Int) (rest : Mu) (ρ : Rho), rest.all (Cell.below 0) = true → varD 1 ρ (M cs x m ns rest) = .ok (.p 2) (M cs x m ns rest) →
    varD 6 ρ (M cs x m ns rest) = .ok (.d (wsD l n)) (M cs x m ns rest) → callD F__law_draw (consL (varD 1) (consL (fn1 lenX (varD 6)) nilL)) ρ (M cs x m ns rest) = .ok (I d) (M cs' x' m' ns rest) := by
  obtain ⟨d, cs', x', m', h0, h1, g', h⟩ := draw ((wsF l n).length : Nat) (by have := F.sz; omega) (by have := F.sz; omega) cs x m g
  obtain ⟨j, rfl⟩ := Int.eq_ofNat_of_zero_le h0
  refine ⟨j, cs', x', m', by omega, g', fun ns rest ρ hr h2 h3 => ?_⟩
  have e : lenX (.d (wsD l n)) (M cs x m ns rest) = .ok (I ((wsF l n).length : Nat)) (M cs x m ns rest) := by
    show R.ok (I ((((wsF l n).map tup).map U.d).length : Nat)) _ = _
    rw [List.length_map, List.length_map]
  unfold callD consL nilL
  rw [h2, R.bind_ok, fn1_ok h3, e]
  simp only [R.bind_ok]
  rw [if_pos (show [U.p 2, I ((wsF l n).length : Nat)].length = F__law_draw.ps.length from rfl)]
  exact h ns rest hr
theorem inner {l n : Nat} (hp : (l, n) ∈ sizesL) (F : SF l n) (t a : Int) (w0 : PyData) (cs ns : List Int) (x m : Int) (g : Good cs x) : ∃ w1 cs' x' m', Good cs' x' ∧
    w_law_6 (ρI (some (I t)) l n (some (.d w0)) (some (I a))) (M cs x m ns (restA l n)) = .nx (ρI (some (I t)) l n (some (.d w1)) (some (I a))) (M cs' x' m' ns (restA l n)) := by
  obtain ⟨d, cs1, x1, m1, hd, g1, e1⟩ := drawN F cs x m g
  obtain ⟨h, cs2, x2, m2, hh, g2, e2⟩ := drawN F cs1 x1 m1 g1
  have B := F.b (some (I t)) (some (.d w0)) (some (I a)) cs1 ns x1 m1 d hd
  have hrT : (restT l n d).all (Cell.below 0) = true := by
    unfold restT
    rw [List.all_append, F.bl]
    rfl
  obtain ⟨o', hw⟩ := walk_ok (P := fun o h => ρK (some (I t)) l n (some (I a)) d o (some (I h))) (kr := 4 + n) (T := rowsF l n) (μ := M cs2 x2 m2 ns (restT l n d)) (fun _ _ _ => rfl) (fun _ _ _ => rfl) (fun _ _ => rfl) (fun _ _ => rfl) (fun _ _ => rfl) (F.kr cs2 ns x2 m2 d)
    (wordAt l n d) (h : Nat) (d : Nat) none (ck hp hd hh)
  have body : ∃ f, w_law_6 = scopeS f ∧ f (ρI (some (I t)) l n (some (.d w0)) (some (I a))) (M cs x m ns (restA l n)) = .nx (ρK (some (I t)) l n (some (I a)) d o' (some (I (d : Nat)))) (M cs2 x2 m2 ns (restT l n d)) := by
    refine ⟨_, rfl, ?_⟩
    refine (seq_nx (ρ1 := ρJ (some (I t)) l n (some (.d w0)) (some (I a)) d) (asg_ok (e1 ns _ _ F.bl rfl rfl) rfl)).trans ?_
    refine (B.run _).trans ?_
    refine (seq_nx ((if_f (or_ff (repr_same (u := .p (5 + n)) rfl B.vw B.e2 rfl B.gd) B.lw)).trans rfl)).trans ?_
    refine (seq_nx (ρ1 := ρK (some (I t)) l n (some (I a)) d none (some (I (h : Nat)))) (asg_ok (e2 ns _ _ hrT rfl rfl) rfl)).trans ?_
    have hF : forS (iterD (varD 9)) (nameG 10) w_law_5 (ρK (some (I t)) l n (some (I a)) d none (some (I (h : Nat)))) (M cs2 x2 m2 ns (restT l n d)) = .nx (ρK (some (I t)) l n (some (I a)) d o' (some (I (d : Nat)))) (M cs2 x2 m2 ns (restT l n d)) := hw
    refine (seq_nx hF).trans ?_
    refine (if_f (cmp_ok (u := I (d : Nat)) (v := I (d : Nat)) rfl rfl ?_)).trans rfl
    show (some (((d : Nat) : Int) == ((d : Nat) : Int))).map (!·) = some false
    rw [beq_self_eq_true]; rfl
  obtain ⟨f, ef, hf⟩ := body
  refine ⟨tup (wordAt l n d), cs2, x2, m2, g2, ?_⟩
  rw [ef]
  unfold scopeS
  rw [hf]
  simp only
  unfold fgt
  have tk : (M cs2 x2 m2 ns (restT l n d)).take (M cs x m ns (restA l n)).length = M cs2 x2 m2 ns (restA l n) := take_M
  rw [tk, if_pos (show (M cs2 x2 m2 ns (restA l n)).all (Cell.below (M cs x m ns (restA l n)).length) = true from M_below F.bl), F.fg]
end K53
set_option Elab.async false
set_option linter.all false
set_option maxRecDepth 100000
set_option maxHeartbeats 1000000
namespace K53
open PySem PySem.Spec PyProof.Rows L2 Vm
theorem leave_M {cs cs2 ns : List Int} {x m x2 m2 : Int} {rest : Mu} (hr : rest.all (Cell.below 0) = true) (y : PyData) : leave (M cs x m ns rest) (.d y) (M cs2 x2 m2 ns rest) = .ok (.d y) (M cs2 x2 m2 ns rest) := by
  have lenE : (M cs2 x2 m2 ns rest).length = (M cs x m ns rest).length := rfl
  have tk : (M cs2 x2 m2 ns rest).take (M cs x m ns rest).length = M cs2 x2 m2 ns rest := by rw [← lenE, List.take_length]
  have hc : cut (M cs x m ns rest) (M cs2 x2 m2 ns rest) = some (M cs2 x2 m2 ns rest) := by
    have := cut_chg (μ := M cs x m ns rest) (μ' := M cs2 x2 m2 ns rest) (by rw [tk, ← lenE]; exact M_below hr)
    rw [this, tk]
  unfold leave
  rw [hc]
theorem pick (cs : List Int) (x m : Int) (g : Good cs x) : ∃ (l n : Nat) (cs' : List Int) (x' m' : Int), (l, n) ∈ sizesL ∧ Good cs' x' ∧ ∀ (ns : List Int) (ρ : Rho), varD 1 ρ (M cs x m ns [.lst sizesU]) = .ok (.p 2) (M cs x m ns [.lst sizesU]) →
    varD 3 ρ (M cs x m ns [.lst sizesU]) = .ok (.p 3) (M cs x m ns [.lst sizesU]) → callD F__law_pick (consL (varD 1) (consL (varD 3) nilL)) ρ (M cs x m ns [.lst sizesU]) = .ok (.d (tup [(l : Int), (n : Int)])) (M cs' x' m' ns [.lst sizesU]) := by
  obtain ⟨d, cs', x', m', h0, h1, g', h⟩ := draw 22 (by decide) (by decide) cs x m g
  obtain ⟨j, rfl⟩ := Int.eq_ofNat_of_zero_le h0
  have hj : j < sizesL.length := by
    have : sizesL.length = 22 := by decide
    omega
  refine ⟨(sizesL[j]).1, (sizesL[j]).2, cs', x', m', List.getElem_mem hj, g', fun ns ρ h2 h3 => ?_⟩
  unfold callD consL nilL
  rw [h2, R.bind_ok, h3]
  simp only [R.bind_ok]
  rw [if_pos (show [U.p 2, U.p 3].length = F__law_pick.ps.length from rfl)]
  show noex (runFn 2 false b__law_pick [.p 2, .p 3] (M cs x m ns [.lst sizesU])) = _
  have e1 : callD F__law_draw (consL (varD 0) (consL (fn1 lenX (varD 1)) nilL)) [some (.p 2), some (.p 3)] (M cs x m ns [.lst sizesU]) = .ok (I (j : Nat)) (M cs' x' m' ns [.lst sizesU]) := by
    show F__law_draw.sem [.p 2, I 22] (M cs x m ns [.lst sizesU]) = _
    exact h ns _ rfl
  have e2 : subsM (.p 3) (I (j : Nat)) (M cs' x' m' ns [.lst sizesU]) = .ok (.d (tup [((sizesL[j]).1 : Int), ((sizesL[j]).2 : Int)])) (M cs' x' m' ns [.lst sizesU]) := by
    show (match atI sizesU (j : Nat) with | some w => R.ok w (M cs' x' m' ns [.lst sizesU]) | none => .stuck) = _
    have : atI sizesU (j : Nat) = some (.d (tup [((sizesL[j]).1 : Int), ((sizesL[j]).2 : Int)])) := atI_nat (by
      unfold sizesU
      rw [List.getElem?_map, List.getElem?_eq_getElem hj]
      rfl)
    rw [this]
  have e3 : b__law_pick [some (.p 2), some (.p 3)] (M cs x m ns [.lst sizesU]) = .rt (.d (tup [((sizesL[j]).1 : Int), ((sizesL[j]).2 : Int)])) (M cs' x' m' ns [.lst sizesU]) :=
    ret_ok ((bin2_ok (a := varD 1) (u := .p 3) rfl e1).trans e2)
  unfold runFn
  show noex (match b__law_pick [some (.p 2), some (.p 3)] (M cs x m ns [.lst sizesU]) with | .rt u μ' => if false = true then R.ok u μ' else leave (M cs x m ns [.lst sizesU]) u μ' | .nx _ μ' => if false = true then R.ok (.d .none) μ' else leave (M cs x m ns [.lst sizesU]) (.d .none) μ' | .ex e μ' => (match cut (M cs x m ns [.lst sizesU]) μ' with | some m => R.ex e m | none => .stuck) | _ => .stuck) = _
  rw [e3]
  simp only [Bool.false_eq_true, if_false]
  rw [leave_M rfl]
  rfl
def ρs (o : Option U) : Rho := [some (.p 0), some (.p 2), o, none, none, none, none, none, none, none, none, none, none, none, none, none, none]
def ρz (t : Int) : Rho := [some (.p 0), some (.p 2), some (I t), some (.p 3), some (I 4), none, none, none, none, none, none, none, none, none, none, none, none]
theorem sizes_ok (t : Int) (cs ns : List Int) (x m : Int) (k : DS) : (seqS (asgS (nameG 3) (lstD true nilL))
  (seqS (forS (iterD (tupD (consL (conD (.int 1)) (consL (conD (.int 2)) (consL (conD (.int 3)) (consL (conD (.int 4)) nilL)))))) (nameG 4) w_law_1) k)) (ρs (some (I t))) (M cs x m ns []) = k (ρz t) (M cs x m ns [.lst sizesU]) := by kernel_rfl
theorem turn (t : Int) (cs ns : List Int) (x m : Int) (g : Good cs x) : ∃ cs' x' m', Good cs' x' ∧ w_law_7 (ρs (some (I t))) (M cs x m ns []) = .nx (ρs (some (I t))) (M cs' x' m' ns []) := by
  obtain ⟨l, n, cs1, x1, m1, hp, g1, e1⟩ := pick cs x m g
  have F := S_all (l, n) hp
  have A := F.a (some (I t)) cs1 ns x1 m1
  obtain ⟨ρ2, μ2, e2, w1, ag, cs2, x2, m2, g2, rfl, rfl⟩ := forL_inv (g := nameG 13) (b := w_law_6) (fun ρ μ => ∃ w0 ag cs x m, Good cs x ∧ ρ = ρI (some (I t)) l n (some (.d w0)) ag ∧ μ = M cs x m ns (restA l n)) (intsL 0 4) (ρG (some (I t)) l n none) (M cs1 x1 m1 ns (restA l n))
    (fun d hd ρ μ ⟨w0, ag, cs, x, m, g, e, e'⟩ => by
      subst e e'
      obtain ⟨i, rfl⟩ : ∃ i, d = .int i := by
        unfold intsL at hd
        obtain ⟨i, _, rfl⟩ := List.mem_map.mp hd
        exact ⟨_, rfl⟩
      obtain ⟨w1, cs', x', m', g', h⟩ := inner hp F t i w0 cs ns x m g
      exact ⟨_, _, _, _, rfl, h, w1, some (I i), cs', x', m', g', rfl, rfl⟩) ⟨_, none, cs1, x1, m1, g1, rfl, rfl⟩
  have body : ∃ f, w_law_7 = scopeS f ∧ f (ρs (some (I t))) (M cs x m ns []) = .nx (ρI (some (I t)) l n (some (.d w1)) ag) (M cs2 x2 m2 ns (restA l n)) := by
    refine ⟨_, rfl, ?_⟩
    refine (sizes_ok t cs ns x m _).trans ?_
    refine (seq_nx (ρ1 := ρ0 (some (I t)) l n) (asg_ok (e1 ns _ rfl rfl) rfl)).trans ?_
    refine (A.run _).trans ?_
    refine (seq_nx ((if_f (repr_same A.e1 rfl A.e2 rfl A.gd)).trans rfl)).trans ?_
    have hF : forS (rng1D (conD (.int 4))) (nameG 13) w_law_6 (ρG (some (I t)) l n none) (M cs1 x1 m1 ns (restA l n)) = .nx (ρI (some (I t)) l n (some (.d w1)) ag) (M cs2 x2 m2 ns (restA l n)) := e2
    refine (seq_nx hF).trans ?_
    exact F.d (some (I t)) (some (.d w1)) ag cs2 ns x2 m2
  obtain ⟨f, ef, hf⟩ := body
  refine ⟨cs2, x2, m2, g2, ?_⟩
  rw [ef]
  unfold scopeS
  rw [hf]
  simp only
  unfold fgt
  have tk : (M cs2 x2 m2 ns (restA l n)).take (M cs x m ns []).length = M cs2 x2 m2 ns [] := rfl
  rw [tk, if_pos (show (M cs2 x2 m2 ns []).all (Cell.below (M cs x m ns []).length) = true from M_below rfl)]
  rfl
def absI (i : Int) : Int := if i < 0 then -i else i
def absP : PyData → PyData
  | .int i => .int (absI i)
  | d => d
theorem absP_map (c : List Int) : (c.map PyData.int).map absP = (c.map absI).map PyData.int := by rw [List.map_map, List.map_map]; rfl
theorem bag (ns : List Int) (hn : ns.length ≤ 63) : ∃ cs m, Good cs 0 ∧ F__law_bag.sem [.p 0] [.scr ns] = .ok (.p 2) (M cs 0 m ns []) := by
  let a := HT.sIx ns.length 0 none
  let b := HT.sIx ns.length ns.length (some 63)
  let c0 : List Int := (ns.drop a).take (b - a)
  let c1 : List Int := c0.map absI
  have hl : c0.length ≤ 63 := by
    show ((ns.drop a).take (b - a)).length ≤ 63
    rw [List.length_take, List.length_drop]; omega
  have hl1 : c1.length ≤ 63 := by rw [List.length_map]; exact hl
  have hcut : cutU (ns.map fun i => U.d (.int i)) none (some 63) = (c0.map PyData.int).map U.d := by
    unfold cutU
    rw [List.length_map, ← List.map_drop, ← List.map_take, List.map_map]
    rfl
  have big : (63 : Nat) ≤ lim := by decide
  have it : iterD (sliceD false (varD 0) none (some (conD (.int 63)))) [some (.p 0), none, none, none] [.scr ns] = .ok (c0.map .int) [.scr ns] := by
    have e : sliceD false (varD 0) none (some (conD (.int 63))) [some (.p 0), none, none, none] [.scr ns] = .ok (.d (.list (c0.map .int))) [.scr ns] := by
      show mkL false (cutU (ns.map fun i => U.d (.int i)) none (some 63)) [.scr ns] = _
      rw [hcut]
      exact mkL_dat (by rw [List.length_map]; omega) _
    unfold iterD
    rw [e]
    rfl
  have lc : lcD false [2] (iterD (sliceD false (varD 0) none (some (conD (.int 63))))) (Tg.nm 2).dg yesD (fn1 absM (varD 2)) [some (.p 0), none, none, none] [.scr ns] = .ok (.d (.list (c1.map .int))) [.scr ns] := by
    unfold lcD
    rw [it, R.bind_ok]
    have e := lcL_map (v := 2) (e := fn1 absM (varD 2)) (ρ0 := wipeU [some (.p 0), none, none, none] [2]) (μ := [.scr ns]) (f := absP) (c0.map .int) [] (fun d hd => by
      obtain ⟨i, _, rfl⟩ := List.mem_map.mp hd
      rfl) (by rw [List.length_map]; simp; omega)
    rw [List.nil_append, absP_map] at e
    show (lcL (nameG 2) yesD (fn1 absM (varD 2)) (wipeU [some (.p 0), none, none, none] [2]) (c0.map .int) [.scr ns] []).bind _ = _
    rw [e, R.bind_ok]
    exact mkL_dat (by rw [List.length_map]; exact Nat.le_trans hl1 big) _
  obtain ⟨ρ2, μ2, e2, rfl, o, mx, rfl⟩ := forL_inv (g := nameG 2) (b := w__law_bag_1) (fun ρ μ => μ = [.scr ns] ∧ ∃ o mx, ρ = [some (.p 0), some (.d (.list (c1.map .int))), o, some (I mx)]) (c1.map .int) [some (.p 0), some (.d (.list (c1.map .int))), none, some (I (17523 + (c1.length : Nat)))] [.scr ns]
    (fun d hd ρ μ ⟨e, o, mx, e'⟩ => by
      subst e e'
      obtain ⟨i, _, rfl⟩ := List.mem_map.mp hd
      refine ⟨_, _, [some (.p 0), some (.d (.list (c1.map .int))), some (I i), some (I ((mx * 48271 + i % 2147483629 + 5) % 2147483647))], _, rfl, ?_, rfl, some (I i), _, rfl⟩
      have a1 : bin2 (mulM false) (varD 3) (conD (.int 48271)) [some (.p 0), some (.d (.list (c1.map .int))), some (I i), some (I mx)] [.scr ns] = .ok (I (mx * 48271)) [.scr ns] := (bin2_ok (u := I mx) (v := I 48271) rfl rfl).trans (mul_okR (by decide) _)
      have a2 : bin2 modM (fn1 intM (varD 2)) (conD (.int 2147483629)) [some (.p 0), some (.d (.list (c1.map .int))), some (I i), some (I mx)] [.scr ns] = .ok (I (i % 2147483629)) [.scr ns] := (bin2_ok (u := I i) (v := I 2147483629) rfl rfl).trans (mod_ok (by decide) _)
      have a3 : bin2 (addM false) (bin2 (mulM false) (varD 3) (conD (.int 48271))) (bin2 modM (fn1 intM (varD 2)) (conD (.int 2147483629))) [some (.p 0), some (.d (.list (c1.map .int))), some (I i), some (I mx)] [.scr ns] = .ok (I (mx * 48271 + i % 2147483629)) [.scr ns] := (bin2_ok a1 a2).trans rfl
      have a4 : bin2 (addM false) (bin2 (addM false) (bin2 (mulM false) (varD 3) (conD (.int 48271))) (bin2 modM (fn1 intM (varD 2)) (conD (.int 2147483629)))) (conD (.int 5)) [some (.p 0), some (.d (.list (c1.map .int))), some (I i), some (I mx)] [.scr ns] = .ok (I (mx * 48271 + i % 2147483629 + 5)) [.scr ns] := (bin2_ok a3 (v := I 5) rfl).trans rfl
      have a6 : bin2 modM (fn1 intM (bin2 (addM false) (bin2 (addM false) (bin2 (mulM false) (varD 3) (conD (.int 48271))) (bin2 modM (fn1 intM (varD 2)) (conD (.int 2147483629)))) (conD (.int 5)))) (conD (.int 2147483647)) [some (.p 0), some (.d (.list (c1.map .int))), some (I i), some (I mx)] [.scr ns] = .ok (I ((mx * 48271 + i % 2147483629 + 5) % 2147483647)) [.scr ns] :=
        (bin2_ok (b := conD (.int 2147483647)) ((fn1_ok (g := intM) a4).trans rfl) (v := I 2147483647) rfl).trans (mod_ok (by decide) _)
      exact asg_ok a6 rfl) ⟨rfl, none, _, rfl⟩
  refine ⟨c1.reverse, mx, ⟨fun c hc => ?_, Int.le_refl 0, by rw [List.length_reverse]; omega⟩, ?_⟩
  · obtain ⟨i, _, rfl⟩ := List.mem_map.mp (List.mem_reverse.mp hc)
    unfold absI
    split <;> omega
  · have run : b__law_bag [some (.p 0), none, none, none] [.scr ns] = .rt (.p 2) (M c1.reverse 0 mx ns []) := by
      refine (seq_nx (ρ1 := [some (.p 0), some (.d (.list (c1.map .int))), none, none]) (asg_ok lc rfl)).trans ?_
      have len : bin2 (addM false) (conD (.int 17523)) (fn1 lenX (varD 1)) [some (.p 0), some (.d (.list (c1.map .int))), none, none] [.scr ns] = .ok (I (17523 + (c1.length : Nat))) [.scr ns] := by
        show R.ok (I (17523 + ((((c1.map PyData.int).map U.d).length : Nat) : Int))) [.scr ns] = _
        rw [List.length_map, List.length_map]
      refine (seq_nx (asg_ok len rfl)).trans ?_
      have hF : forS (iterD (varD 1)) (nameG 2) w__law_bag_1 [some (.p 0), some (.d (.list (c1.map .int))), none, some (I (17523 + (c1.length : Nat)))] [.scr ns] = .nx [some (.p 0), some (.d (.list (c1.map .int))), o, some (I mx)] [.scr ns] := e2
      refine (seq_nx hF).trans ?_
      refine ret_ok ?_
      have rv : fn1 (revM true) (varD 1) [some (.p 0), some (.d (.list (c1.map .int))), o, some (I mx)] [.scr ns] = .ok (.p 1) [.scr ns, .lst (c1.reverse.map I)] := by
        show mkL true ((c1.map PyData.int).map U.d).reverse [.scr ns] = _
        unfold mkL
        rw [if_pos (by rw [List.length_reverse, List.length_map, List.length_map]; omega), if_pos rfl, List.map_map, ← List.map_reverse]
        rfl
      unfold lstD consL
      rw [rv]
      rfl
    show noex (runFn 4 true b__law_bag [.p 0] [.scr ns]) = _
    unfold runFn
    show noex (match b__law_bag [some (.p 0), none, none, none] [.scr ns] with | .rt u μ' => if true = true then R.ok u μ' else leave [.scr ns] u μ' | .nx _ μ' => if true = true then R.ok (.d .none) μ' else leave [.scr ns] (.d .none) μ' | .ex e μ' => (match cut [.scr ns] μ' with | some m => R.ex e m | none => .stuck) | _ => .stuck) = _
    rw [run]
    rfl
theorem keeps (K : PySem.W.Frag) : Keeps ER0 K F_law.sem := fun ns hn => by
  obtain ⟨cs, m, g, e0⟩ := bag ns hn
  obtain ⟨ρ2, μ2, e2, o, cs2, x2, m2, g2, rfl, rfl⟩ := forL_inv (g := nameG 2) (b := w_law_7) (fun ρ μ => ∃ o cs x m, Good cs x ∧ ρ = ρs o ∧ μ = M cs x m ns []) (intsL 0 3) (ρs none) (M cs 0 m ns [])
    (fun d hd ρ μ ⟨o, cs, x, m, g, e, e'⟩ => by
      subst e e'
      obtain ⟨i, rfl⟩ : ∃ i, d = .int i := by
        unfold intsL at hd
        obtain ⟨i, _, rfl⟩ := List.mem_map.mp hd
        exact ⟨_, rfl⟩
      obtain ⟨cs', x', m', g', h⟩ := turn i cs ns x m g
      exact ⟨_, _, _, _, rfl, h, some (I i), cs', x', m', g', rfl, rfl⟩) ⟨none, cs, 0, m, g, rfl, rfl⟩
  refine ⟨[.scr ns], ?_⟩
  have run : b_law [some (.p 0), none, none, none, none, none, none, none, none, none, none, none, none, none, none, none, none] [.scr ns] = .rt (.d (.bool true)) (M cs2 x2 m2 ns []) := by
    have c : callD F__law_bag (consL (varD 0) nilL) [some (.p 0), none, none, none, none, none, none, none, none, none, none, none, none, none, none, none, none] [.scr ns] = .ok (.p 2) (M cs 0 m ns []) := e0
    refine (seq_nx (ρ1 := ρs none) (asg_ok c rfl)).trans ?_
    have hF : forS (rng1D (conD (.int 3))) (nameG 2) w_law_7 (ρs none) (M cs 0 m ns []) = .nx (ρs o) (M cs2 x2 m2 ns []) := e2
    exact (seq_nx hF).trans rfl
  show noex (runFn 17 false b_law [.p 0] [.scr ns]) = _
  unfold runFn
  show noex (match b_law [some (.p 0), none, none, none, none, none, none, none, none, none, none, none, none, none, none, none, none] [.scr ns] with | .rt u μ' => if false = true then R.ok u μ' else leave [.scr ns] u μ' | .nx _ μ' => if false = true then R.ok (.d .none) μ' else leave [.scr ns] (.d .none) μ' | .ex e μ' => (match cut [.scr ns] μ' with | some m => R.ex e m | none => .stuck) | _ => .stuck) = _
  rw [run]
  simp only [Bool.false_eq_true, if_false]
  unfold leave
  have hc : cut [.scr ns] (M cs2 x2 m2 ns []) = some [.scr ns] := cut_same [.scr ns] [.lst (cs2.map I), .lst [.p 1, I x2, I m2]]
  rw [hc]
  rfl
end K53
set_option Elab.async false
set_option linter.all false
set_option maxRecDepth 100000
set_option maxHeartbeats 0
open PySem PySem.W PySem.Calls PyProof.Rows
theorem PySem.Challenge.cw_ledtoone_k53_whole_shift_machines_holds : PySem.Challenge.rw_ledtoone_k53_whole_shift_machines.Holds := by
  w_on; o_law
  refine HandSHeadRun.head_any (r := OpenLaw.row PySem.Challenge.rw_ledtoone_k53_whole_shift_machines) (q := view (OpenLaw.row PySem.Challenge.rw_ledtoone_k53_whole_shift_machines).prog [16]) (H := K53.hk) (ob := K53.ob) (M := 4000) (loose := ["all_pairs", "next_pair", "levels_of", "memory_of", "rooms_of", "shift_machine", "shift_word", "shift_room", "_law_bag", "_law_draw", "_law_pick", "_law_word", "_law_room"]) (d := HandSHeadRun.topDef (OpenLaw.row PySem.Challenge.rw_ledtoone_k53_whole_shift_machines).prog 16) (kwd := []) K53.ob_eq
    (by kernel_rfl) (fun s => by kernel_rfl) K53.run (by kernel_rfl) (by kernel_rfl) (by kernel_rfl) (by rfl) (by first | assumption | decide +kernel) (by decide +kernel) ⟨rfl, rfl, rfl, rfl, rfl, by decide +kernel⟩ ?hw ?hc
  case hw => w_witness2
  case hc =>
    refine Vm.law_walk (l := PySem.Challenge.rw_ledtoone_k53_whole_shift_machines) (ER := K53.ER0) (k := 4) (x := "script") (sem := K53.F_law.sem) rfl (by kernel_rfl) ⟨rfl, by decide, by decide⟩ (fun K => K53.keeps K) ?_
    intro w mg fa h Y G hmg0
    obtain ⟨K, KX, c⟩ := Y
    have hmg : mg ("law" : PySem.Str) = some (.ref fa) := by
      have e : (HandSHeadRun.topDef (OpenLaw.row PySem.Challenge.rw_ledtoone_k53_whole_shift_machines).prog 16).name = ("law" : PySem.Str) := by kernel_rfl
      rw [← e]
      exact hmg0
    obtain ⟨fd, F⟩ := c.def_ 13 rfl
    have e := hmg.symm.trans (He.glo_ok KX G (c.fact 13 (f := .glo "law") rfl))
    cases e
    have b := L2.FunD.bindsA (ps := ["script"]) F fun _ _ _ _ _ _ us hl => match us, hl with | [_], _ => rfl
    refine ⟨K, fd, KX, fun s v => b s [v] rfl, fun base hb hn => ?_⟩
    obtain ⟨fd', F', g⟩ := K53.g_law (w := w) (base := base) c KX G
    obtain rfl : fd' = fd := Vm.fd_same F' F
    exact g
