import PyProof.Rows.All
import Wide.All
import OpenK.AllK
import Wide.FinOn
import HandS.ForMost
import HandS.Lambda
import HandS.Flow
import HandS.TupAny
import HandS.Gcd
import HandS.Wide
import HandS.WideBits
import HandS.Deep
import HandS.CallLocal
import HandS.DictComp
import HandS.Star
import HandS.More
import PyProof.Rows.InDataRows
import HandS.IsInst
import HandS.Defaults
import HandS.RaiseMore
import HandS.NoneIn
import HandS.Style
import HandS.Walk
import HandS.Zip
import KE.GoesEnum
import HandS.Words
import HandS.HeadEnd
import HandS.Small
import HandS.TupLen
import PyProof.ReprReads
import PyProof.ReprRoads
import PyProof.AutoSeq1
import PyProof.AutoIntG7
import PyProof.TwoTypesSub
import PyProof.StrOps2
import HandS.Text
import HandS.HeadHook1
import HandS.HeadHook2
import HandS.HeadHook3
import HandS.HeadHook4
import KE.KDictOf
import HandS.Head1
import HandS.Head2
import HandS.ExcValue
import HandS.TupSets
import HandS.Iter
import HandS.EndTab
import HandS.EndBits
import HandS.NestedK
import KE.KNestM
import PySem.Challenge.RW_scaletongue_k59_whole_machines_with_jump
import KE.KStateDown
import HandS.Head0
import HandS.Head3
section
set_option Elab.async false
set_option linter.all false
set_option maxRecDepth 100000
set_option maxHeartbeats 1000000
/-! Y: values as data and cells; what an expression, a statement means. -/
namespace Y
open PySem PySem.Spec L2

inductive T where
  | d (x : PyData)
  | scr (ns : List Int)
  | ref (n : Nat)
  | kd (i : Nat)
  | fn (i : Nat)
  | met (n m : Nat)
  | clo (i : Nat) (vs : List T)

inductive Cell where
  | lst (xs : List T)
  | dk (kvs : List (Key × T))
  | dt (kvs : List (List Key × T))
  | ins (c : Nat) (fs : List (Str × T))
  | dead

abbrev Cs := List Cell
abbrev Rho := List (Option T)

inductive R (α : Type) where
  | ok (a : α) (cs : Cs)
  | stuck
def R.bind {α β : Type} (r : R α) (k : α → Cs → R β) : R β := match r with
  | .ok a cs => k a cs
  | .stuck => .stuck
@[simp] theorem R.bind_ok {α β : Type} (a : α) (cs : Cs) (k : α → Cs → R β) : (R.ok a cs).bind k = k a cs := rfl
@[simp] theorem R.bind_stuck {α β : Type} (k : α → Cs → R β) : (R.stuck).bind k = .stuck := rfl
theorem R.bind_inv {α β : Type} {r : R α} {k : α → Cs → R β} {b : β} {c : Cs} (h : r.bind k = .ok b c) : ∃ a c1, r = .ok a c1 ∧ k a c1 = .ok b c := by
  cases r with
  | ok a c1 => exact ⟨a, c1, rfl, h⟩
  | stuck => cases h

/-- a lambda's words -/
structure Lam where
  qual : Str
  params : Arguments
  body : Expr
  scope : Scope
/-- the object of a lambda that captures nothing, its code at c -/
def LmO (L : Lam) (c f : Addr) : HO := .ext fun h => ∃ (pm ctv : Value), h.get? f = some (PySem.W.kla_obj "<lambda>" L.qual L.params L.body L.scope [] pm c ctv)
/-- the program's addresses -/
structure Wd where
  fad : Nat → Addr
  cad : Nat → Addr
  kad : Nat → Addr
  kdv : Nat → List (Str × T)
  okf : Nat → Str → Bool
  tbs : List (Addr × Str)
  lam : Nat → Lam

/-! data in the part that stays: lists are our own -/
mutual
inductive Dz (K : PySem.W.Frag) (Z : Hp) : V → PyData → Prop
  | non : Dz K Z .non .none
  | bl (b : Bool) : Dz K Z (.bl b) (.bool b)
  | int (i : Int) : Dz K Z (.int i) (.int i)
  | str (x : Str) : Dz K Z (.str x) (.str x)
  | lst {a : Addr} {xs : List V} {ds : List PyData} : Z a = some (.lst xs) → DzAll K Z xs ds → Dz K Z (.ref a) (.list ds)
  | tup {a : Addr} {xs : List V} {ds : List PyData} : SqT K Z a xs → DzAll K Z xs ds → Dz K Z (.ref a) (.tuple ds)
inductive DzAll (K : PySem.W.Frag) (Z : Hp) : List V → List PyData → Prop
  | nil : DzAll K Z [] []
  | cons {v : V} {vs : List V} {d : PyData} {ds : List PyData} : Dz K Z v d → DzAll K Z vs ds → DzAll K Z (v :: vs) (d :: ds)
end
theorem SqL.zmono {K : PySem.W.Frag} {Z Z' : Hp} (hz : ∀ a o, Z a = some o → Z' a = some o) {a : Addr} {xs : List V} (h : SqL K Z a xs) : SqL K Z' a xs := by
  rcases h with h | h
  · refine .inl ?_
    rcases h with h | ⟨o, h⟩
    · exact .inl (hz _ _ h)
    · exact .inr ⟨o, hz _ _ h⟩
  · exact .inr h
theorem SqT.zmono {K : PySem.W.Frag} {Z Z' : Hp} (hz : ∀ a o, Z a = some o → Z' a = some o) {a : Addr} {xs : List V} (h : SqT K Z a xs) : SqT K Z' a xs := by
  rcases h with h | h
  · refine .inl ?_
    rcases h with h | ⟨o, h⟩
    · exact .inl (hz _ _ h)
    · exact .inr ⟨o, hz _ _ h⟩
  · exact .inr h
mutual
theorem Dz.dp {K : PySem.W.Frag} {Z Z' : Hp} (hz : ∀ a o, Z a = some o → Z' a = some o) : ∀ (d : PyData) (v : V), Dz K Z v d → Dp K Z' v d
  | .none, _, h => by cases h; exact .non
  | .bool _, _, h => by cases h; exact .bl _
  | .int _, _, h => by cases h; exact .int _
  | .str _, _, h => by cases h; exact .str _
  | .list ds, _, h => by
    cases h with
    | lst hs ha => exact .lst (SqL.of (hz _ _ hs)) (DzAll.dp hz ds _ ha)
  | .tuple ds, _, h => by
    cases h with
    | tup hs ha => exact .tup (SqT.zmono hz hs) (DzAll.dp hz ds _ ha)
  | .dict _, _, h => by cases h
theorem DzAll.dp {K : PySem.W.Frag} {Z Z' : Hp} (hz : ∀ a o, Z a = some o → Z' a = some o) : ∀ (ds : List PyData) (vs : List V), DzAll K Z vs ds → DpAll K Z' vs ds
  | [], _, h => by cases h; exact .nil
  | d :: ds, _, h => by
    cases h with
    | cons h1 h2 => exact .cons (Dz.dp hz d _ h1) (DzAll.dp hz ds _ h2)
end

/-- a table of code objects, all of them told: it is written, but nothing else -/
def TabZ (Z H : Hp) (P : Addr) (q : Str) : Prop := Z P = none ∧ ∃ ps : Array Value, H P = some (.tbl ps) ∧ TriplesOk ps.toList ∧ ∀ (pos : Pos) (cv : Value), PySem.codeAmong pos ps.toList = some cv → ∃ c, cv = .ref c ∧ Z c = some (LamX.CodeO c q)
section
variable (W : Wd) (K : PySem.W.Frag)
inductive Rep (φ : List Addr) (Z : Hp) : T → V → Prop
  | d {x : PyData} {v : V} : Dz K Z v x → Rep φ Z (.d x) v
  | scr {ns : List Int} {a : Addr} : SqL K Z a (ns.map V.int) → Rep φ Z (.scr ns) (.ref a)
  | ref {n : Nat} {a : Addr} : φ[n]? = some a → Rep φ Z (.ref n) (.ref a)
  | kd (i : Nat) : Rep φ Z (.kd i) (.ref (W.kad i))
  | fn (i : Nat) : Rep φ Z (.fn i) (.ref (W.fad i))
  | met {n m : Nat} {a p : Addr} : φ[n]? = some a → Z p = some (.met (W.fad m) a) → Rep φ Z (.met n m) (.ref p)
  | clo {i : Nat} {f c : Addr} : Z f = some (LmO (W.lam i) c f) → Z c = some (LamX.CodeO c (W.lam i).qual) → Rep φ Z (.clo i []) (.ref f)
abbrev Reps (φ : List Addr) (Z : Hp) : List T → List V → Prop := Paired (Rep W K φ Z)
abbrev RepKV {κ : Type} (φ : List Addr) (Z : Hp) : List (κ × T) → List (κ × V) → Prop := Paired fun p q => p.1 = q.1 ∧ Rep W K φ Z p.2 q.2

def CellAt (φ : List Addr) (Z H : Hp) (a : Addr) : Cell → Prop
  | .lst xs => Z a = none ∧ ∃ vs, H a = some (.lst vs) ∧ Reps W K φ Z xs vs
  | .dk kvs => Z a = none ∧ ∃ vs, H a = some (.dK vs) ∧ RepKV W K φ Z kvs vs
  | .dt kvs => Z a = none ∧ ∃ vs, H a = some (.dT vs) ∧ RepKV W K φ Z kvs vs
  | .ins c fs => Z a = none ∧ ∃ dx vs, H a = some (.ins (W.cad c) dx vs) ∧ RepKV W K φ Z fs vs
  | .dead => True

structure Sim (φ : List Addr) (Z : Hp) (cs : Cs) (H : Hp) : Prop where
  sub : ∀ a o, Z a = some o → H a = some o
  len : φ.length = cs.length
  nd : φ.Nodup
  there : ∀ a ∈ φ, ∃ o, H a = some o
  cell : ∀ (n : Nat) c a, cs[n]? = some c → φ[n]? = some a → CellAt W K φ Z H a c
  tb : ∀ p ∈ W.tbs, TabZ Z H p.1 p.2
end

/-- how the state has moved on -/
structure Ext (φ : List Addr) (Z H : Hp) (φ' : List Addr) (Z' H' : Hp) : Prop where
  pre : φ <+: φ'
  zsub : ∀ a o, Z a = some o → Z' a = some o
  znew : ∀ a o, Z' a = some o → Z a = some o ∨ H a = none ∨ a ∈ φ
  frame : ∀ a o, H a = some o → a ∉ φ → H' a = some o ∨ ∃ ps ps', o = .tbl ps ∧ H' a = some (.tbl ps')
  fresh : ∀ a ∈ φ', a ∈ φ ∨ H a = none

theorem Ext.refl (φ : List Addr) (Z H : Hp) : Ext φ Z H φ Z H :=
  ⟨List.prefix_refl _, fun _ _ h => h, fun _ _ h => .inl h, fun _ _ h _ => .inl h, fun _ h => .inl h⟩
theorem Ext.fr {φ φ' : List Addr} {Z H Z' H' : Hp} (x : Ext φ Z H φ' Z' H') {a : Addr} {o : HO} (h : H a = some o) (ha : a ∉ φ) (hn : ∀ ps, o ≠ .tbl ps) : H' a = some o := by
  rcases x.frame a o h ha with q | ⟨ps, _, e, _⟩
  · exact q
  · exact absurd e (hn ps)
theorem Ext.dom {φ φ' : List Addr} {Z H Z' H' : Hp} (x : Ext φ Z H φ' Z' H') {a : Addr} {o : HO} (h : H a = some o) (ha : a ∉ φ) : H' a ≠ none := by
  rcases x.frame a o h ha with q | ⟨_, ps', _, q⟩ <;> rw [q] <;> exact fun h => by cases h
theorem Ext.trans {φ φ1 φ2 : List Addr} {Z H Z1 H1 Z2 H2 : Hp} (a : Ext φ Z H φ1 Z1 H1) (b : Ext φ1 Z1 H1 φ2 Z2 H2) : Ext φ Z H φ2 Z2 H2 where
  pre := a.pre.trans b.pre
  zsub := fun x o h => b.zsub x o (a.zsub x o h)
  znew := fun x o h => by
    rcases b.znew x o h with q | q | q
    · exact a.znew x o q
    · cases e : H x with
      | none => exact .inr (.inl rfl)
      | some u =>
        by_cases hx : x ∈ φ
        · exact .inr (.inr hx)
        · exact absurd q (a.dom e hx)
    · rcases a.fresh x q with q | q
      · exact .inr (.inr q)
      · exact .inr (.inl q)
  frame := fun x o h n => by
    have hm : x ∉ φ1 := fun hm => by
      rcases a.fresh x hm with q | q
      · exact n q
      · rw [h] at q; cases q
    rcases a.frame x o h n with q | ⟨ps, ps', e, q⟩
    · exact b.frame x o q hm
    · rcases b.frame x _ q hm with q2 | ⟨_, ps2, _, q2⟩
      · exact .inr ⟨ps, ps', e, q2⟩
      · exact .inr ⟨ps, ps2, e, q2⟩
  fresh := fun x hx => by
    rcases b.fresh x hx with q | q
    · exact a.fresh x q
    · cases e : H x with
      | none => exact .inr rfl
      | some u =>
        by_cases hm : x ∈ φ
        · exact .inl hm
        · exact absurd q (a.dom e hm)

section
variable {W : Wd} {K : PySem.W.Frag} {φ φ' : List Addr} {Z Z' H H' : Hp}
mutual
theorem Dz.zmono (hz : ∀ a o, Z a = some o → Z' a = some o) : ∀ (d : PyData) (v : V), Dz K Z v d → Dz K Z' v d
  | .none, _, h => by cases h; exact .non
  | .bool _, _, h => by cases h; exact .bl _
  | .int _, _, h => by cases h; exact .int _
  | .str _, _, h => by cases h; exact .str _
  | .list ds, _, h => by
    cases h with
    | lst hs ha => exact .lst (hz _ _ hs) (DzAll.zmono hz ds _ ha)
  | .tuple ds, _, h => by
    cases h with
    | tup hs ha => exact .tup (SqT.zmono hz hs) (DzAll.zmono hz ds _ ha)
  | .dict _, _, h => by cases h
theorem DzAll.zmono (hz : ∀ a o, Z a = some o → Z' a = some o) : ∀ (ds : List PyData) (vs : List V), DzAll K Z vs ds → DzAll K Z' vs ds
  | [], _, h => by cases h; exact .nil
  | d :: ds, _, h => by
    cases h with
    | cons h1 h2 => exact .cons (Dz.zmono hz d _ h1) (DzAll.zmono hz ds _ h2)
end
theorem pre_get {α : Type} {l l' : List α} (h : l <+: l') {n : Nat} {a : α} (e : l[n]? = some a) : l'[n]? = some a := by
  obtain ⟨t, rfl⟩ := h
  rw [List.getElem?_append_left (List.getElem?_eq_some_iff.mp e).1]
  exact e
theorem Rep.mono (hp : φ <+: φ') (hz : ∀ a o, Z a = some o → Z' a = some o) {t : T} {v : V} (h : Rep W K φ Z t v) : Rep W K φ' Z' t v := by
  cases h with
  | d h => exact .d (Dz.zmono hz _ _ h)
  | scr h => exact .scr (SqL.zmono hz h)
  | ref h => exact .ref (pre_get hp h)
  | kd i => exact .kd i
  | fn i => exact .fn i
  | met h1 h2 => exact .met (pre_get hp h1) (hz _ _ h2)
  | clo h1 h2 => exact .clo (hz _ _ h1) (hz _ _ h2)
theorem Rep.ext (x : Ext φ Z H φ' Z' H') {t : T} {v : V} (h : Rep W K φ Z t v) : Rep W K φ' Z' t v := h.mono x.pre x.zsub
theorem Paired.imp {α β : Type} {F G : α → β → Prop} (f : ∀ a b, F a b → G a b) : ∀ {l : List α} {m : List β}, Paired F l m → Paired G l m
  | _, _, .nil => .nil
  | _, _, .cons h t => .cons (f _ _ h) (Paired.imp f t)
theorem Reps.mono (hp : φ <+: φ') (hz : ∀ a o, Z a = some o → Z' a = some o) {ts : List T} {vs : List V} (h : Reps W K φ Z ts vs) : Reps W K φ' Z' ts vs := Paired.imp (fun _ _ q => q.mono hp hz) h
theorem Reps.ext (x : Ext φ Z H φ' Z' H') {ts : List T} {vs : List V} (h : Reps W K φ Z ts vs) : Reps W K φ' Z' ts vs := Reps.mono x.pre x.zsub h
theorem RepKV.mono {κ : Type} (hp : φ <+: φ') (hz : ∀ a o, Z a = some o → Z' a = some o) {ts : List (κ × T)} {vs : List (κ × V)} (h : RepKV W K φ Z ts vs) : RepKV W K φ' Z' ts vs :=
  Paired.imp (fun _ _ q => ⟨q.1, q.2.mono hp hz⟩) h
theorem Paired.get {α β : Type} {F : α → β → Prop} : ∀ {l : List α} {m : List β} {n : Nat} {a : α}, Paired F l m → l[n]? = some a → ∃ b, m[n]? = some b ∧ F a b
  | _, _, _, _, .nil, e => by simp at e
  | _, _, 0, _, .cons h _, e => by simp at e; subst e; exact ⟨_, rfl, h⟩
  | _, _, n + 1, a, .cons _ t, e => by
    obtain ⟨b, h1, h2⟩ := Paired.get (n := n) (a := a) t (by simpa using e)
    exact ⟨b, by simpa using h1, h2⟩
theorem Paired.app {α β : Type} {F : α → β → Prop} : ∀ {l l' : List α} {m m' : List β}, Paired F l m → Paired F l' m' → Paired F (l ++ l') (m ++ m')
  | _, _, _, _, .nil, h => h
  | _, _, _, _, .cons h t, h' => .cons h (Paired.app t h')
theorem Paired.len {α β : Type} {F : α → β → Prop} : ∀ {l : List α} {m : List β}, Paired F l m → l.length = m.length
  | _, _, .nil => rfl
  | _, _, .cons _ t => by simp [Paired.len t]
theorem Paired.setAt {α β : Type} {F : α → β → Prop} : ∀ {l : List α} {m : List β} (n : Nat) {a : α} {b : β}, F a b → Paired F l m → Paired F (l.set n a) (m.set n b)
  | _, _, _, _, _, _, .nil => .nil
  | _, _, 0, _, _, h, .cons _ t => .cons h t
  | _, _, n + 1, _, _, h, .cons q t => .cons q (Paired.setAt n h t)

/-- the slots -/
def Slots (W : Wd) (K : PySem.W.Frag) (φ : List Addr) (Z : Hp) (ρ : Rho) (σ : St) : Prop := ρ.length = σ.length ∧ ∀ (i : Nat) (t : T), ρ[i]? = some (some t) → ∃ v, σ[i]? = some (some v) ∧ Rep W K φ Z t v
theorem Slots.mono (hp : φ <+: φ') (hz : ∀ a o, Z a = some o → Z' a = some o) {ρ : Rho} {σ : St} (h : Slots W K φ Z ρ σ) : Slots W K φ' Z' ρ σ :=
  ⟨h.1, fun i t e => let ⟨v, e1, r⟩ := h.2 i t e; ⟨v, e1, r.mono hp hz⟩⟩
theorem Slots.ext (x : Ext φ Z H φ' Z' H') {ρ : Rho} {σ : St} (h : Slots W K φ Z ρ σ) : Slots W K φ' Z' ρ σ := h.mono x.pre x.zsub
theorem Slots.set {ρ : Rho} {σ : St} (h : Slots W K φ Z ρ σ) {t : T} {v : V} (r : Rep W K φ Z t v) (i : Nat) : Slots W K φ Z (ρ.set i (some t)) (σ.set i (some v)) := by
  refine ⟨by simp [h.1], fun j u e => ?_⟩
  by_cases hj : i = j
  · subst hj
    by_cases hi : i < ρ.length
    · rw [List.getElem?_set_self hi] at e
      cases e
      exact ⟨v, List.getElem?_set_self (by have := h.1; omega), r⟩
    · rw [List.getElem?_eq_none (by simp; omega)] at e
      cases e
  · rw [List.getElem?_set_ne hj] at e
    obtain ⟨w, e1, r1⟩ := h.2 j u e
    exact ⟨w, by rw [List.getElem?_set_ne hj]; exact e1, r1⟩
theorem Slots.wipe {ρ : Rho} {σ : St} (h : Slots W K φ Z ρ σ) (i : Nat) : Slots W K φ Z (ρ.set i none) (σ.set i none) := by
  refine ⟨by simp [h.1], fun j u e => ?_⟩
  by_cases hj : i = j
  · subst hj
    by_cases hi : i < ρ.length
    · rw [List.getElem?_set_self hi] at e
      cases e
    · rw [List.getElem?_eq_none (by simp; omega)] at e
      cases e
  · rw [List.getElem?_set_ne hj] at e
    obtain ⟨w, e1, r1⟩ := h.2 j u e
    exact ⟨w, by rw [List.getElem?_set_ne hj]; exact e1, r1⟩
end

/-! ### changes of the state -/
section
variable {W : Wd} {K : PySem.W.Frag} {φ : List Addr} {Z H : Hp} {cs : Cs}
theorem CellAt.stay {φ' : List Addr} {Z' H' : Hp} {a : Addr} {c : Cell} (h : CellAt W K φ Z H a c) (hp : φ <+: φ') (hz : ∀ a o, Z a = some o → Z' a = some o) (hn : Z a = none → Z' a = none) (hh : ∀ o, H a = some o → H' a = some o) : CellAt W K φ' Z' H' a c := by
  cases c with
  | lst xs => obtain ⟨n, vs, e, r⟩ := h; exact ⟨hn n, vs, hh _ e, Reps.mono hp hz r⟩
  | dk xs => obtain ⟨n, vs, e, r⟩ := h; exact ⟨hn n, vs, hh _ e, RepKV.mono hp hz r⟩
  | dt xs => obtain ⟨n, vs, e, r⟩ := h; exact ⟨hn n, vs, hh _ e, RepKV.mono hp hz r⟩
  | ins c xs => obtain ⟨n, dx, vs, e, r⟩ := h; exact ⟨hn n, dx, vs, hh _ e, RepKV.mono hp hz r⟩
  | dead => trivial
theorem upd_some {H : Hp} {p : Addr} {o : HO} (hp : H p = none) {a : Addr} {u : HO} (h : H a = some u) : upd H p o a = some u := by
  rw [upd_ne (ne_of_none h hp)]; exact h
theorem TabZ.stay {Z Z' H H' : Hp} {P : Addr} {q : Str} (t : TabZ Z H P q) (hz : ∀ a o, Z a = some o → Z' a = some o) (hn : Z' P = none) (hh : H' P = H P) : TabZ Z' H' P q := by
  obtain ⟨_, ps, h1, h2, h3⟩ := t
  refine ⟨hn, ps, hh.trans h1, h2, fun pos cv hc => ?_⟩
  obtain ⟨c, e1, e2⟩ := h3 pos cv hc
  exact ⟨c, e1, hz _ _ e2⟩
theorem TabZ.ne {Z H : Hp} {P a : Addr} {q : Str} (t : TabZ Z H P q) (h : ∀ u, H a = some u → ∀ ps, u ≠ .tbl ps) : P ≠ a := fun e => by
  obtain ⟨_, ps, h1, _⟩ := t
  rw [e] at h1
  exact h _ h1 ps rfl
theorem CellAt.old {a : Addr} {c : Cell} (h : CellAt W K φ Z H a c) (hd : c ≠ .dead) : ∃ o, H a = some o ∧ (∀ ps, o ≠ .tbl ps) ∧ ∀ φ, o ≠ .ext φ := by
  cases c with
  | lst xs => obtain ⟨n, vs, e, r⟩ := h; exact ⟨_, e, (fun _ q => by cases q), fun _ q => by cases q⟩
  | dk xs => obtain ⟨n, vs, e, r⟩ := h; exact ⟨_, e, (fun _ q => by cases q), fun _ q => by cases q⟩
  | dt xs => obtain ⟨n, vs, e, r⟩ := h; exact ⟨_, e, (fun _ q => by cases q), fun _ q => by cases q⟩
  | ins c xs => obtain ⟨n, dx, vs, e, r⟩ := h; exact ⟨_, e, (fun _ q => by cases q), fun _ q => by cases q⟩
  | dead => exact absurd rfl hd
/-- a new object that nothing changes: frozen -/
theorem Sim.frozen (S : Sim W K φ Z cs H) {p : Addr} (hp : H p = none) (o : HO) : Sim W K φ (upd Z p o) cs (upd H p o) ∧ Ext φ Z H φ (upd Z p o) (upd H p o) := by
  have zp : Z p = none := by
    cases e : Z p with
    | none => rfl
    | some u => rw [S.sub _ _ e] at hp; cases hp
  have hz : ∀ a u, Z a = some u → upd Z p o a = some u := fun a u h => upd_some zp h
  have np : ∀ a ∈ φ, a ≠ p := fun a ha e => by
    obtain ⟨u, q⟩ := S.there a ha
    rw [e, hp] at q; cases q
  refine ⟨⟨fun a u h => ?_, S.len, S.nd, fun a ha => ?_, fun n c a h1 h2 => ?_, fun q hq => ?_⟩, ⟨List.prefix_refl _, hz, fun a u h => ?_, fun a u h _ => .inl (upd_some hp h), fun a ha => .inl ha⟩⟩
  · by_cases e : a = p
    · subst e; rw [upd_same] at h; rw [upd_same]; exact h
    · rw [upd_ne e] at h; rw [upd_ne e]; exact S.sub _ _ h
  · obtain ⟨u, q⟩ := S.there a ha
    exact ⟨u, upd_some hp q⟩
  · refine (S.cell n c a h1 h2).stay (List.prefix_refl _) hz (fun hn => ?_) (fun u h => upd_some hp h)
    rw [upd_ne (np a (List.mem_of_getElem? h2))]; exact hn
  · have ne := (S.tb q hq).ne (a := p) fun u h => by rw [hp] at h; cases h
    exact (S.tb q hq).stay hz (by rw [upd_ne ne]; exact (S.tb q hq).1) (upd_ne ne)
  · by_cases e : a = p
    · subst e; exact .inr (.inl hp)
    · rw [upd_ne e] at h; exact .inl h
/-- a new cell -/
theorem Sim.newCell (S : Sim W K φ Z cs H) {p : Addr} (hp : H p = none) {o : HO} {c : Cell} (hc : Z p = none → CellAt W K (φ ++ [p]) Z (upd H p o) p c) : Sim W K (φ ++ [p]) Z (cs ++ [c]) (upd H p o) ∧ Ext φ Z H (φ ++ [p]) Z (upd H p o) := by
  have zp : Z p = none := by
    cases e : Z p with
    | none => rfl
    | some u => rw [S.sub _ _ e] at hp; cases hp
  have np : ∀ a ∈ φ, a ≠ p := fun a ha e => by
    obtain ⟨u, q⟩ := S.there a ha
    rw [e, hp] at q; cases q
  refine ⟨⟨fun a u h => upd_some hp (S.sub _ _ h), by simp [S.len], ?_, fun a ha => ?_, fun n c' a h1 h2 => ?_, fun q hq => (S.tb q hq).stay (fun _ _ h => h) (S.tb q hq).1 (upd_ne ((S.tb q hq).ne fun u h => by rw [hp] at h; cases h))⟩, ⟨List.prefix_append _ _, fun _ _ h => h, fun a u h => .inl h, fun a u h _ => .inl (upd_some hp h), fun a ha => ?_⟩⟩
  · rw [List.nodup_append]
    exact ⟨S.nd, by simp, fun a ha b hb => by simp at hb; subst hb; exact np a ha⟩
  · rcases List.mem_append.mp ha with h | h
    · obtain ⟨u, q⟩ := S.there a h
      exact ⟨u, upd_some hp q⟩
    · have e : a = p := by simpa using h
      subst e; exact ⟨o, upd_same⟩
  · by_cases hn : n < cs.length
    · rw [List.getElem?_append_left hn] at h1
      have hn' : n < φ.length := by have := S.len; omega
      rw [List.getElem?_append_left hn'] at h2
      exact (S.cell n c' a h1 h2).stay (List.prefix_append _ _) (fun _ _ h => h) (fun h => h) fun u h => upd_some hp h
    · rw [List.getElem?_append_right (by omega)] at h1
      have e : n - cs.length = 0 := by
        cases q : n - cs.length with
        | zero => rfl
        | succ m => rw [q] at h1; simp at h1
      rw [e] at h1
      simp at h1
      subst h1
      rw [List.getElem?_append_right (by have := S.len; omega)] at h2
      have e2 : n - φ.length = 0 := by have := S.len; omega
      rw [e2] at h2
      simp at h2
      subst h2
      exact hc zp
  · rcases List.mem_append.mp ha with h | h
    · exact .inl h
    · have e : a = p := by simpa using h
      subst e; exact .inr hp
/-- a cell written -/
theorem Sim.setCell (S : Sim W K φ Z cs H) {n : Nat} {a : Addr} {c0 c : Cell} {o : HO} (h0 : cs[n]? = some c0) (ha : φ[n]? = some a) (hz : Z a = none) (hc : CellAt W K φ Z (upd H a o) a c) (hd : c0 ≠ .dead := by intro h; cases h) : Sim W K φ Z (cs.set n c) (upd H a o) ∧ Ext φ Z H φ Z (upd H a o) := by
  have hn : n < cs.length := (List.getElem?_eq_some_iff.mp h0).1
  refine ⟨⟨fun b u h => ?_, by simp [S.len], S.nd, fun b hb => ?_, fun m c' b h1 h2 => ?_, ?_⟩, ⟨List.prefix_refl _, fun _ _ h => h, fun b u h => .inl h, fun b u h hb => ?_, fun b hb => .inl hb⟩⟩
  · have : b ≠ a := fun e => by rw [e, hz] at h; cases h
    rw [upd_ne this]; exact S.sub _ _ h
  · by_cases e : b = a
    · subst e; exact ⟨o, upd_same⟩
    · rw [upd_ne e]; exact S.there b hb
  · by_cases e : n = m
    · subst e
      rw [List.getElem?_set_self hn] at h1
      cases h1
      rw [ha] at h2; cases h2
      exact hc
    · rw [List.getElem?_set_ne e] at h1
      have ne : b ≠ a := fun q => by
        subst q
        obtain ⟨i1, j1⟩ := List.getElem?_eq_some_iff.mp h2
        obtain ⟨i2, j2⟩ := List.getElem?_eq_some_iff.mp ha
        exact e (((List.getElem_inj S.nd).mp (j2.trans j1.symm)))
      exact (S.cell m c' b h1 h2).stay (List.prefix_refl _) (fun _ _ h => h) (fun h => h) fun u h => by rw [upd_ne ne]; exact h
  · obtain ⟨old, e1, e2, e3⟩ := (S.cell n c0 a h0 ha).old hd
    exact fun p hp => (S.tb p hp).stay (fun _ _ h => h) (S.tb p hp).1 (upd_ne ((S.tb p hp).ne fun u h => by rw [e1] at h; cases h; exact e2))
  · have : b ≠ a := fun e => hb (by rw [e]; exact List.mem_of_getElem? ha)
    rw [upd_ne this]; exact .inl h
end

/-! ### meanings -/
abbrev EF := Rho → Cs → R T
abbrev BF := Rho → Cs → R Bool
abbrev AF := Rho → Cs → R (List T)
inductive RS where
  | nx (ρ : Rho) (cs : Cs)
  | rt (t : T) (cs : Cs)
  | bk (ρ : Rho) (cs : Cs)
  | ct (ρ : Rho) (cs : Cs)
  | stuck
abbrev SF := Rho → Cs → RS

section
variable (W : Wd) (K : PySem.W.Frag)
def tE (f : EF) : TE := fun σ H Q => ∃ φ Z ρ cs, Sim W K φ Z cs H ∧ Slots W K φ Z ρ σ ∧ ∃ t cs', f ρ cs = .ok t cs' ∧
  ∀ φ' Z' H' v, Ext φ Z H φ' Z' H' → Sim W K φ' Z' cs' H' → Rep W K φ' Z' t v → Q v H'
def tB (f : BF) : TT := fun σ H Q => ∃ φ Z ρ cs, Sim W K φ Z cs H ∧ Slots W K φ Z ρ σ ∧ ∃ b cs', f ρ cs = .ok b cs' ∧
  ∀ φ' Z' H', Ext φ Z H φ' Z' H' → Sim W K φ' Z' cs' H' → Q b H'
def tA (f : AF) : TA := fun σ H Q => ∃ φ Z ρ cs, Sim W K φ Z cs H ∧ Slots W K φ Z ρ σ ∧ ∃ ts cs', f ρ cs = .ok ts cs' ∧
  ∀ φ' Z' H' vs, Ext φ Z H φ' Z' H' → Sim W K φ' Z' cs' H' → Reps W K φ' Z' ts vs → Q vs H'
def endS (D : Ends) (φ : List Addr) (Z H : Hp) : RS → Prop
  | .nx ρ cs => ∀ φ' Z' H' σ', Ext φ Z H φ' Z' H' → Sim W K φ' Z' cs H' → Slots W K φ' Z' ρ σ' → D.nx σ' H'
  | .rt t cs => ∀ φ' Z' H' v, Ext φ Z H φ' Z' H' → Sim W K φ' Z' cs H' → Rep W K φ' Z' t v → D.rt v H'
  | .bk ρ cs => ∀ φ' Z' H' σ', Ext φ Z H φ' Z' H' → Sim W K φ' Z' cs H' → Slots W K φ' Z' ρ σ' → D.bk σ' H'
  | .ct ρ cs => ∀ φ' Z' H' σ', Ext φ Z H φ' Z' H' → Sim W K φ' Z' cs H' → Slots W K φ' Z' ρ σ' → D.ct σ' H'
  | .stuck => False
def tS (f : SF) : TS := fun D σ H => ∃ φ Z ρ cs, Sim W K φ Z cs H ∧ Slots W K φ Z ρ σ ∧ endS W K D φ Z H (f ρ cs)
end
/-- an expression, a test, arguments, a statement, a block mean f -/
def SE (W : Wd) (X : Cx) (e : Expr) (f : EF) : Prop := PE X e (tE W X.K f)
def SB (W : Wd) (X : Cx) (e : Expr) (f : BF) : Prop := PT X e (tB W X.K f)
def SA (W : Wd) (X : Cx) (es : List Expr) (f : AF) : Prop := PA X es (tA W X.K f)
def SS (W : Wd) (X : Cx) (s : Stmt) (f : SF) : Prop := PS X s (tS W X.K f)
def SSs (W : Wd) (X : Cx) (s : List Stmt) (f : SF) : Prop := PSs X s (tS W X.K f)
theorem PE.imp {X : Cx} {e : Expr} {t t' : TE} (h : PE X e t) (k : ∀ σ H Q, t' σ H Q → t σ H Q) : PE X e t' := ⟨fun pins s σ H Q I q => h.run pins s σ H Q I (k σ H Q q)⟩
theorem PT.imp {X : Cx} {e : Expr} {t t' : TT} (h : PT X e t) (k : ∀ σ H Q, t' σ H Q → t σ H Q) : PT X e t' := ⟨fun pins s σ H Q I q => h.run pins s σ H Q I (k σ H Q q)⟩
theorem PA.imp {X : Cx} {e : List Expr} {t t' : TA} (h : PA X e t) (k : ∀ σ H Q, t' σ H Q → t σ H Q) : PA X e t' := ⟨fun pos pins s σ H Q I q => h.run pos pins s σ H Q I (k σ H Q q)⟩
theorem PS.imp {X : Cx} {e : Stmt} {t t' : TS} (h : PS X e t) (k : ∀ D σ H, t' D σ H → t D σ H) : PS X e t' := ⟨fun pins s σ H Q I q => h.run pins s σ H Q I (k Q σ H q)⟩
theorem PSs.imp {X : Cx} {e : List Stmt} {t t' : TS} (h : PSs X e t) (k : ∀ D σ H, t' D σ H → t D σ H) : PSs X e t' := ⟨fun pins s σ H Q I q => h.run pins s σ H Q I (k Q σ H q)⟩
end Y
end
section
set_option Elab.async false
set_option linter.all false
set_option maxRecDepth 100000
set_option maxHeartbeats 1000000
namespace Y
open PySem PySem.Spec L2

/-! ### values by the cells -/
def getV (ρ : Rho) (i : Nat) (cs : Cs) : R T := match ρ[i]? with
  | some (some t) => .ok t cs
  | _ => .stuck
/-- the items of a list -/
def asL (cs : Cs) : T → Option (List T)
  | .d (.list ds) => some (ds.map .d)
  | .scr ns => some (ns.map fun i => .d (.int i))
  | .ref n => (match cs[n]? with
    | some (.lst xs) => some xs
    | _ => none)
  | _ => none
/-- .. of a list of ours -/
def asM (cs : Cs) : T → Option (List T)
  | .d (.list ds) => some (ds.map .d)
  | .ref n => (match cs[n]? with
    | some (.lst xs) => some xs
    | _ => none)
  | _ => none
def asT : T → Option (List PyData)
  | .d (.tuple ds) => some ds
  | _ => none
/-- the items of a list or a tuple -/
def asQ (cs : Cs) (t : T) : Option (List T) := match asT t with
  | some ds => some (ds.map .d)
  | none => asL cs t
def asD : T → Option PyData
  | .d x => some x
  | _ => none
def allD : List T → Option (List PyData)
  | [] => some []
  | .d x :: r => (match allD r with
    | some ds => some (x :: ds)
    | none => none)
  | _ :: _ => none
theorem allD_eq : ∀ {ts : List T} {ds : List PyData}, allD ts = some ds → ts = ds.map .d
  | [], _, h => by cases h; rfl
  | t :: r, ds, h => by
    cases t with
    | d x =>
      unfold allD at h
      cases e : allD r with
      | none => rw [e] at h; cases h
      | some ys => rw [e] at h; cases h; rw [allD_eq e]; rfl
    | _ => cases h
theorem allD_map (ds : List PyData) : allD (ds.map .d) = some ds := by
  induction ds with
  | nil => rfl
  | cons x r ih => simp [allD, ih]
/-- a value as data, a list by its cell too -/
def toD (cs : Cs) (t : T) : Option PyData := match t with
  | .d x => some x
  | .ref n => (match cs[n]? with
    | some (.lst xs) => (allD xs).map .list
    | _ => none)
  | _ => none
section
variable {W : Wd} {K : PySem.W.Frag} {φ : List Addr} {Z H : Hp} {cs : Cs}
theorem Reps.of_all : ∀ {ds : List PyData} {vs : List V}, DzAll K Z vs ds → Reps W K φ Z (ds.map .d) vs
  | [], _, h => by cases h; exact .nil
  | _ :: _, _, h => by
    cases h with
    | cons h1 h2 => exact .cons (.d h1) (Reps.of_all h2)
theorem Reps.all : ∀ {ds : List PyData} {vs : List V}, Reps W K φ Z (ds.map .d) vs → DzAll K Z vs ds
  | [], _, h => by cases h; exact .nil
  | _ :: _, _, h => by
    cases h with
    | cons h1 h2 =>
      cases h1 with
      | d h1 => exact .cons h1 (Reps.all h2)
theorem Reps.ints : ∀ ns : List Int, Reps W K φ Z (ns.map fun i => .d (.int i)) (ns.map V.int)
  | [] => .nil
  | _ :: r => .cons (.d (.int _)) (Reps.ints r)
theorem Sim.asL (S : Sim W K φ Z cs H) {t : T} {v : V} {xs : List T} (r : Rep W K φ Z t v) (e : asL cs t = some xs) : ∃ a vs, v = .ref a ∧ SqL K H a vs ∧ Reps W K φ Z xs vs := by
  unfold Y.asL at e
  split at e
  · cases e
    cases r with
    | d h =>
      cases h with
      | lst h1 h2 => exact ⟨_, _, rfl, SqL.of (S.sub _ _ h1), Reps.of_all h2⟩
  · cases e
    cases r with
    | scr h => exact ⟨_, _, rfl, SqL.zmono S.sub h, Reps.ints _⟩
  · split at e
    · rename_i q
      cases e
      cases r with
      | ref h =>
        obtain ⟨_, vs, h1, h2⟩ := S.cell _ _ _ q h
        exact ⟨_, vs, rfl, SqL.of h1, h2⟩
    · cases e
  · cases e
theorem Sim.asT (S : Sim W K φ Z cs H) {t : T} {v : V} {ds : List PyData} (r : Rep W K φ Z t v) (e : asT t = some ds) : ∃ a vs, v = .ref a ∧ SqT K Z a vs ∧ SqT K H a vs ∧ DzAll K Z vs ds := by
  unfold Y.asT at e
  split at e
  · cases e
    cases r with
    | d h =>
      cases h with
      | tup h1 h2 => exact ⟨_, _, rfl, h1, SqT.zmono S.sub h1, h2⟩
  · cases e
theorem Sim.asQ (S : Sim W K φ Z cs H) {t : T} {v : V} {xs : List T} (r : Rep W K φ Z t v) (e : asQ cs t = some xs) : ∃ a vs, v = .ref a ∧ (SqL K H a vs ∨ SqT K H a vs) ∧ Reps W K φ Z xs vs := by
  unfold Y.asQ at e
  split at e
  · rename_i q
    cases e
    obtain ⟨a, vs, h1, h2, h3, h4⟩ := S.asT r q
    exact ⟨a, vs, h1, .inr h3, Reps.of_all h4⟩
  · obtain ⟨a, vs, h1, h2, h3⟩ := S.asL r e
    exact ⟨a, vs, h1, .inl h2, h3⟩
theorem Sim.toD (S : Sim W K φ Z cs H) {t : T} {v : V} {x : PyData} (r : Rep W K φ Z t v) (e : toD cs t = some x) : Dp K H v x := by
  unfold Y.toD at e
  split at e
  · cases e
    cases r with
    | d h => exact Dz.dp S.sub _ _ h
  · split at e
    · rename_i q
      cases r with
      | ref h =>
        obtain ⟨_, vs, h1, h2⟩ := S.cell _ _ _ q h
        obtain ⟨ds, h3, h4⟩ := Option.map_eq_some_iff.mp e
        cases h4
        rw [allD_eq h3] at h2
        exact .lst (SqL.of h1) (DzAll.dp S.sub _ _ (Reps.all h2))
    · cases e
  · cases e
/-- the items of a list of ours -/
theorem Sim.asM (S : Sim W K φ Z cs H) {t : T} {v : V} {xs : List T} (r : Rep W K φ Z t v) (e : asM cs t = some xs) : ∃ a vs, v = .ref a ∧ H a = some (.lst vs) ∧ Reps W K φ Z xs vs := by
  unfold Y.asM at e
  split at e
  · cases e
    cases r with
    | d h =>
      cases h with
      | lst h1 h2 => exact ⟨_, _, rfl, S.sub _ _ h1, Reps.of_all h2⟩
  · split at e
    · rename_i q
      cases e
      cases r with
      | ref h =>
        obtain ⟨_, vs, h1, h2⟩ := S.cell _ _ _ q h
        exact ⟨_, vs, rfl, h1, h2⟩
    · cases e
  · cases e
theorem Rep.dInt {i : Int} {v : V} (r : Rep W K φ Z (.d (.int i)) v) : v = .int i := by
  cases r with | d h => cases h; rfl
theorem Rep.dBool {i : Bool} {v : V} (r : Rep W K φ Z (.d (.bool i)) v) : v = .bl i := by
  cases r with | d h => cases h; rfl
theorem Rep.dStr {i : Str} {v : V} (r : Rep W K φ Z (.d (.str i)) v) : v = .str i := by
  cases r with | d h => cases h; rfl
theorem Rep.dNone {v : V} (r : Rep W K φ Z (.d .none) v) : v = .non := by
  cases r with | d h => cases h; rfl
theorem Rep.int (i : Int) : Rep W K φ Z (.d (.int i)) (.int i) := .d (.int i)
theorem Rep.bool (i : Bool) : Rep W K φ Z (.d (.bool i)) (.bl i) := .d (.bl i)
theorem Rep.str (i : Str) : Rep W K φ Z (.d (.str i)) (.str i) := .d (.str i)
theorem Rep.none : Rep W K φ Z (.d .none) .non := .d .non
end

/-! ### names and constants -/
section
variable {W : Wd} {X : Cx} {e : Expr} {pos : Pos}
theorem se_name {i : Nat} {x : Str} (hN : X.N[i]? = some x) (hv : Vis X.env.scope x) (hd : (x == ("__debug__" : Str)) = false := by decide +kernel) (hcd : (x == ("__classdict__" : Str)) = false := by decide +kernel) : SE W X (.Name x pos) (fun ρ cs => getV ρ i cs) :=
  PE.imp (pe_var (i := i) hN hv hd hcd) fun σ H Q h => by
    obtain ⟨φ, Z, ρ, cs, S, L, t, cs', e, k⟩ := h
    have e : getV ρ i cs = .ok t cs' := e
    unfold getV at e
    split at e
    · rename_i q
      cases e
      obtain ⟨v, e1, r⟩ := L.2 _ _ q
      exact ⟨v, e1, k _ _ _ _ (Ext.refl _ _ _) S r⟩
    · cases e
theorem se_const {v : V} {t : T} (h : PE X e (tC v)) (r : ∀ φ Z, Rep W X.K φ Z t v) : SE W X e (fun _ cs => .ok t cs) :=
  PE.imp h fun σ H Q h => by
    obtain ⟨φ, Z, ρ, cs, S, L, t, cs', e, k⟩ := h
    cases e
    exact k _ _ _ _ (Ext.refl _ _ _) S (r _ _)
theorem se_int {i : Int} {j : Nat} : SE W X (.Constant (.int i) j pos) (fun _ cs => .ok (.d (.int i)) cs) := se_const pe_int fun _ _ => Rep.int i
theorem se_bool {i : Bool} {j : Nat} : SE W X (.Constant (.bool i) j pos) (fun _ cs => .ok (.d (.bool i)) cs) := se_const pe_bl fun _ _ => Rep.bool i
theorem se_str {i : Str} {j : Nat} : SE W X (.Constant (.str i) j pos) (fun _ cs => .ok (.d (.str i)) cs) := se_const pe_str fun _ _ => Rep.str i
theorem se_none {j : Nat} : SE W X (.Constant .none j pos) (fun _ cs => .ok (.d .none) cs) := se_const pe_non fun _ _ => Rep.none
theorem se_glob {x : Str} {v : V} {u : Value} {t : T} (hg : Gl X x) (hm : X.mg x = some u) (r : RelV v u) (rt : ∀ φ Z, Rep W X.K φ Z t v) (hd : (x == ("__debug__" : Str)) = false := by decide +kernel) : SE W X (.Name x pos) (fun _ cs => .ok t cs) :=
  se_const (pe_glob hg hm r hd) rt
end

/-! ### two-place operators -/
def OpOk (W : Wd) (K : PySem.W.Frag) (r : R2) (op : T → T → Cs → R T) : Prop := ∀ φ Z cs H t u v w (Q : VK) z cs', Sim W K φ Z cs H → Rep W K φ Z t v → Rep W K φ Z u w → op t u cs = .ok z cs' →
  (∀ φ' Z' H' x, Ext φ Z H φ' Z' H' → Sim W K φ' Z' cs' H' → Rep W K φ' Z' z x → Q x H') → r v w H Q
def UnOk (W : Wd) (K : PySem.W.Frag) (r : V → Hp → VK → Prop) (op : T → Cs → R T) : Prop := ∀ φ Z cs H t v (Q : VK) z cs', Sim W K φ Z cs H → Rep W K φ Z t v → op t cs = .ok z cs' →
  (∀ φ' Z' H' x, Ext φ Z H φ' Z' H' → Sim W K φ' Z' cs' H' → Rep W K φ' Z' z x → Q x H') → r v H Q
def bin (op : T → T → Cs → R T) (f g : EF) : EF := fun ρ cs => (f ρ cs).bind fun t c1 => (g ρ c1).bind fun u c2 => op t u c2
def un (op : T → Cs → R T) (f : EF) : EF := fun ρ cs => (f ρ cs).bind fun t c1 => op t c1
section
variable {W : Wd} {X : Cx} {a b c : Expr} {pos : Pos} {f g h : EF}
theorem tE_bin {K : PySem.W.Frag} {r : R2} {op : T → T → Cs → R T} (hk : OpOk W K r op) {σ : St} {H : Hp} {Q : VK} (h : tE W K (bin op f g) σ H Q) : tOp r (tE W K f) (tE W K g) σ H Q := by
  obtain ⟨φ, Z, ρ, cs, S, L, t, cs', e, k⟩ := h
  obtain ⟨t1, c1, e1, e⟩ := R.bind_inv e
  obtain ⟨t2, c2, e2, e⟩ := R.bind_inv e
  refine ⟨φ, Z, ρ, cs, S, L, t1, c1, e1, fun φ1 Z1 H1 v x1 S1 r1 => ⟨φ1, Z1, ρ, c1, S1, L.ext x1, t2, c2, e2, fun φ2 Z2 H2 w x2 S2 r2 => ?_⟩⟩
  exact hk _ _ _ _ _ _ _ _ _ _ _ S2 (r1.ext x2) r2 e fun φ3 Z3 H3 y x3 S3 r3 => k _ _ _ _ ((x1.trans x2).trans x3) S3 r3
theorem se_bin {o : Operator} {r : R2} {op : T → T → Cs → R T} (ho : OpR X (binaryOp o) r) (hk : OpOk W X.K r op) (ha : SE W X a f) (hb : SE W X b g) : SE W X (.BinOp a o b pos) (bin op f g) :=
  PE.imp (pe_op ho ha hb) fun _ _ _ h => tE_bin hk h
theorem se_cmp {o : CmpOp} {r : R2} {op : T → T → Cs → R T} (ho : OpR X (compareOp o) r) (hk : OpOk W X.K r op) (ha : SE W X a f) (hb : SE W X b g) (hm : behindInMarks o b = false) : SE W X (.Compare a [o] [b] pos) (bin op f g) :=
  PE.imp (pe_cmpR ho ha hb hm) fun _ _ _ h => tE_bin hk h
theorem se_un {o : UnaryOp} {r : V → Hp → VK → Prop} {op : T → Cs → R T} (ho : UnR X (unaryOp o) r) (hk : UnOk W X.K r op) (ha : SE W X a f) : SE W X (.UnaryOp o a pos) (un op f) :=
  PE.imp (pe_un ho ha) fun σ H Q h => by
    obtain ⟨φ, Z, ρ, cs, S, L, t, cs', e, k⟩ := h
    obtain ⟨t1, c1, e1, e⟩ := R.bind_inv e
    exact ⟨φ, Z, ρ, cs, S, L, t1, c1, e1, fun φ1 Z1 H1 v x1 S1 r1 => hk _ _ _ _ _ _ _ _ _ S1 r1 e fun φ3 Z3 H3 y x3 S3 r3 => k _ _ _ _ (x1.trans x3) S3 r3⟩
/-- a test: a comparison -/
def tst (f : EF) : BF := fun ρ cs => (f ρ cs).bind fun t c => match t with
  | .d (.bool b) => .ok b c
  | _ => .stuck
theorem tst_inv {f : EF} {ρ : Rho} {cs cs' : Cs} {b : Bool} (h : tst f ρ cs = .ok b cs') : f ρ cs = .ok (.d (.bool b)) cs' := by
  obtain ⟨t, c, e, h⟩ := R.bind_inv h
  split at h
  · cases h; exact e
  · cases h
theorem sb_cmp {o : CmpOp} {r : R2} {op : T → T → Cs → R T} (ho : OpR X (compareOp o) r) (hk : OpOk W X.K r op) (ha : SE W X a f) (hb : SE W X b g) (hm : behindInMarks o b = false) : SB W X (.Compare a [o] [b] pos) (tst (bin op f g)) :=
  PT.imp (pt_cmpR ho ha hb hm) fun σ H Q h => by
    obtain ⟨φ, Z, ρ, cs, S, L, t, cs', e, k⟩ := h
    refine tE_bin hk ⟨φ, Z, ρ, cs, S, L, _, cs', tst_inv e, fun φ' Z' H' v x' S' r' => ?_⟩
    cases r'.dBool
    exact ⟨t, rfl, k _ _ _ x' S'⟩
/-- a < b < c -/
def chn (op op' : T → T → Cs → R T) (f g h : EF) : EF := fun ρ cs => (f ρ cs).bind fun t c1 => (g ρ c1).bind fun u c2 => (op t u c2).bind fun z c3 => match z with
  | .d (.bool true) => (h ρ c3).bind fun w c4 => op' u w c4
  | .d (.bool false) => .ok (.d (.bool false)) c3
  | _ => .stuck
theorem tE_chn {K : PySem.W.Frag} {r r' : R2} {op op' : T → T → Cs → R T} (hk : OpOk W K r op) (hk' : OpOk W K r' op') {σ : St} {H : Hp} {Q : VK} (q : tE W K (chn op op' f g h) σ H Q) : tChain r r' (tE W K f) (tE W K g) (tE W K h) σ H Q := by
  obtain ⟨φ, Z, ρ, cs, S, L, t, cs', e, k⟩ := q
  obtain ⟨t1, c1, e1, e⟩ := R.bind_inv e
  obtain ⟨t2, c2, e2, e⟩ := R.bind_inv e
  obtain ⟨t3, c3, e3, e⟩ := R.bind_inv e
  refine ⟨φ, Z, ρ, cs, S, L, t1, c1, e1, fun φ1 Z1 H1 v x1 S1 r1 => ⟨φ1, Z1, ρ, c1, S1, L.ext x1, t2, c2, e2, fun φ2 Z2 H2 w x2 S2 r2 => ?_⟩⟩
  refine hk _ _ _ _ _ _ _ _ _ _ _ S2 (r1.ext x2) r2 e3 fun φ3 Z3 H3 y x3 S3 r3 => ?_
  split at e
  · cases r3.dBool
    refine ⟨true, rfl, ?_⟩
    rw [if_pos rfl]
    obtain ⟨t4, c4, e4, e⟩ := R.bind_inv e
    refine ⟨φ3, Z3, ρ, c3, S3, L.ext ((x1.trans x2).trans x3), t4, c4, e4, fun φ4 Z4 H4 v4 x4 S4 r4 => ?_⟩
    exact hk' _ _ _ _ _ _ _ _ _ _ _ S4 (r2.ext (x3.trans x4)) r4 e fun φ5 Z5 H5 y x5 S5 r5 => k _ _ _ _ ((((x1.trans x2).trans x3).trans x4).trans x5) S5 r5
  · cases r3.dBool
    cases e
    refine ⟨false, rfl, ?_⟩
    rw [if_neg Bool.false_ne_true]
    exact k _ _ _ _ ((x1.trans x2).trans x3) S3 (Rep.bool false)
  · cases e
theorem se_chain {o o' : CmpOp} {r r' : R2} {op op' : T → T → Cs → R T} (ho : OpR X (compareOp o) r) (ho' : OpR X (compareOp o') r') (hk : OpOk W X.K r op) (hk' : OpOk W X.K r' op') (ha : SE W X a f) (hb : SE W X b g) (hc : SE W X c h)
    (hm : lastMarks [o, o'] [b, c] = false := by with_unfolding_all rfl) : SE W X (.Compare a [o, o'] [b, c] pos) (chn op op' f g h) :=
  PE.imp (pe_chain ho ho' ha hb hc hm) fun _ _ _ q => tE_chn hk hk' q
theorem sb_chain {o o' : CmpOp} {r r' : R2} {op op' : T → T → Cs → R T} (ho : OpR X (compareOp o) r) (ho' : OpR X (compareOp o') r') (hk : OpOk W X.K r op) (hk' : OpOk W X.K r' op') (ha : SE W X a f) (hb : SE W X b g) (hc : SE W X c h)
    (hm : lastMarks [o, o'] [b, c] = false := by with_unfolding_all rfl) : SB W X (.Compare a [o, o'] [b, c] pos) (tst (chn op op' f g h)) :=
  PT.imp (pt_chain ho ho' ha hb hc hm) fun σ H Q q => by
    obtain ⟨φ, Z, ρ, cs, S, L, t, cs', e, k⟩ := q
    refine tE_chn hk hk' ⟨φ, Z, ρ, cs, S, L, _, cs', tst_inv e, fun φ' Z' H' v x' S' r' => ?_⟩
    cases r'.dBool
    exact ⟨t, rfl, k _ _ _ x' S'⟩

/-! ### tests, and, or, not, if -/
def truthT (cs : Cs) (t : T) : Option Bool := match t with
  | .d .none => some false
  | .d (.bool b) => some b
  | .d (.int i) => some (i != 0)
  | .d (.str x) => if x.length ≤ sizeLine then some ((x.length : Int) != 0) else none
  | .d (.tuple ds) => some (!ds.isEmpty)
  | .d (.list ds) => some (!ds.isEmpty)
  | .scr ns => some (!ns.isEmpty)
  | .ref n => (match cs[n]? with
    | some (.lst xs) => some (!xs.isEmpty)
    | some (.dk kvs) => some (!kvs.isEmpty)
    | _ => none)
  | _ => none
theorem Paired.empty {α β : Type} {F : α → β → Prop} {l : List α} {m : List β} (h : Paired F l m) : l.isEmpty = m.isEmpty := by cases h <;> rfl
theorem Sim.truth {K : PySem.W.Frag} {φ : List Addr} {Z H : Hp} {cs : Cs} (S : Sim W K φ Z cs H) {t : T} {v : V} {k : Bool} (r : Rep W K φ Z t v) (e : truthT cs t = some k) : TruV K v H k := by
  unfold truthT at e
  split at e
  · cases e; cases r.dNone; rfl
  · cases e; cases r.dBool; rfl
  · cases e; cases r.dInt; rfl
  · split at e
    · cases e; cases r.dStr; exact ⟨by assumption, rfl⟩
    · cases e
  · cases e
    obtain ⟨a, vs, rfl, _, h, q⟩ := S.asT r rfl
    refine .inr (.inl ⟨vs, h, ?_⟩)
    rw [← Paired.empty (Reps.of_all (W := W) (φ := φ) q)]; simp
  · cases e
    obtain ⟨a, vs, rfl, h, q⟩ := S.asL r rfl
    refine .inl ⟨vs, h, ?_⟩
    rw [← Paired.empty q]; simp
  · cases e
    obtain ⟨a, vs, rfl, h, q⟩ := S.asL r rfl
    refine .inl ⟨vs, h, ?_⟩
    rw [← Paired.empty q]; simp
  · split at e
    · rename_i xs q0
      cases e
      obtain ⟨a, vs, rfl, h, q⟩ := S.asL (xs := xs) r (by simp [Y.asL, q0])
      exact .inl ⟨vs, h, by rw [Paired.empty q]⟩
    · rename_i q
      cases e
      cases r with
      | ref h =>
        obtain ⟨_, vs, h1, h2⟩ := S.cell _ _ _ q h
        exact .inr (.inr ⟨vs, h1, by rw [Paired.empty h2]⟩)
    · cases e
  · cases e
def val (f : EF) : BF := fun ρ cs => (f ρ cs).bind fun t c => match truthT c t with
  | some b => .ok b c
  | none => .stuck
theorem val_inv {f : EF} {ρ : Rho} {cs cs' : Cs} {b : Bool} (h : val f ρ cs = .ok b cs') : ∃ t, f ρ cs = .ok t cs' ∧ truthT cs' t = some b := by
  obtain ⟨t, c, e, h⟩ := R.bind_inv h
  split at h
  · cases h; exact ⟨t, e, by assumption⟩
  · cases h
theorem sb_val (ha : SE W X a f) (he : ∀ whole, isTrue a X.env whole = (do let v ← whole; standAt a.pos; holding [v] (truthy v)) := by intro _; rfl) : SB W X a (val f) :=
  PT.imp (pt_truth ha he) fun σ H Q q => by
    obtain ⟨φ, Z, ρ, cs, S, L, b, cs', e, k⟩ := q
    obtain ⟨t, e1, e2⟩ := val_inv e
    exact ⟨φ, Z, ρ, cs, S, L, t, cs', e1, fun φ' Z' H' v x' S' r' => ⟨b, S'.truth r' e2, k _ _ _ x' S'⟩⟩
def andB (f g : BF) : BF := fun ρ cs => (f ρ cs).bind fun b c => if b = true then g ρ c else .ok false c
def orB (f g : BF) : BF := fun ρ cs => (f ρ cs).bind fun b c => if b = true then .ok true c else g ρ c
def notB (f : BF) : BF := fun ρ cs => (f ρ cs).bind fun b c => .ok (!b) c
variable {rest : List Expr} {p q' : BF}
/-- a test whatever its whole is -/
def SW (W : Wd) (X : Cx) (e : Expr) (f : BF) : Prop := PW X e (tB W X.K f)
theorem SW.sb {e : Expr} {f : BF} (h : SW W X e f) : SB W X e f := PW.pt h
theorem PW.imp {X : Cx} {e : Expr} {t t' : TT} (h : PW X e t) (k : ∀ σ H Q, t' σ H Q → t σ H Q) : PW X e t' := ⟨fun wh pins s σ H Q I q => h.run wh pins s σ H Q I (k σ H Q q)⟩
theorem sw_and1 (ha : SB W X a p) : SW W X (.BoolOp .And [a] pos) p := pw_and1 ha
theorem sw_or1 (ha : SB W X a p) : SW W X (.BoolOp .Or [a] pos) p := pw_or1 ha
theorem sw_and (ha : SB W X a p) (hb : SW W X (.BoolOp .And (b :: rest) pos) q') : SW W X (.BoolOp .And (a :: b :: rest) pos) (andB p q') :=
  PW.imp (pw_and ha hb) fun σ H Q z => by
    obtain ⟨φ, Z, ρ, cs, S, L, b, cs', e, k⟩ := z
    obtain ⟨b1, c1, e1, e⟩ := R.bind_inv e
    refine ⟨φ, Z, ρ, cs, S, L, b1, c1, e1, fun φ1 Z1 H1 x1 S1 => ?_⟩
    by_cases hb : b1 = true
    · rw [if_pos hb] at e; rw [if_pos hb]
      exact ⟨φ1, Z1, ρ, c1, S1, L.ext x1, b, cs', e, fun φ2 Z2 H2 x2 S2 => k _ _ _ (x1.trans x2) S2⟩
    · rw [if_neg hb] at e; rw [if_neg hb]
      cases e
      exact k _ _ _ x1 S1
theorem sw_or (ha : SB W X a p) (hb : SW W X (.BoolOp .Or (b :: rest) pos) q') : SW W X (.BoolOp .Or (a :: b :: rest) pos) (orB p q') :=
  PW.imp (pw_or ha hb) fun σ H Q z => by
    obtain ⟨φ, Z, ρ, cs, S, L, b, cs', e, k⟩ := z
    obtain ⟨b1, c1, e1, e⟩ := R.bind_inv e
    refine ⟨φ, Z, ρ, cs, S, L, b1, c1, e1, fun φ1 Z1 H1 x1 S1 => ?_⟩
    by_cases hb : b1 = true
    · rw [if_pos hb] at e; rw [if_pos hb]
      cases e
      exact k _ _ _ x1 S1
    · rw [if_neg hb] at e; rw [if_neg hb]
      exact ⟨φ1, Z1, ρ, c1, S1, L.ext x1, b, cs', e, fun φ2 Z2 H2 x2 S2 => k _ _ _ (x1.trans x2) S2⟩
theorem sb_not (ha : SB W X a p) : SB W X (.UnaryOp .Not a pos) (notB p) :=
  PT.imp (pt_not ha) fun σ H Q z => by
    obtain ⟨φ, Z, ρ, cs, S, L, b, cs', e, k⟩ := z
    obtain ⟨b1, c1, e1, e⟩ := R.bind_inv e
    cases e
    exact ⟨φ, Z, ρ, cs, S, L, b1, cs', e1, fun φ1 Z1 H1 x1 S1 => k _ _ _ x1 S1⟩
/-- .. as values -/
def andE (f g : EF) : EF := fun ρ cs => (f ρ cs).bind fun t c => match truthT c t with
  | some true => g ρ c
  | some false => .ok t c
  | none => .stuck
def orE (f g : EF) : EF := fun ρ cs => (f ρ cs).bind fun t c => match truthT c t with
  | some true => .ok t c
  | some false => g ρ c
  | none => .stuck
def notE (f : EF) : EF := fun ρ cs => (f ρ cs).bind fun t c => match truthT c t with
  | some b => .ok (.d (.bool (!b))) c
  | none => .stuck
def ifE (t : BF) (f g : EF) : EF := fun ρ cs => (t ρ cs).bind fun b c => if b = true then f ρ c else g ρ c
theorem se_one {o : BoolOp} (h : SE W X a f) : SE W X (.BoolOp o [a] pos) f := pe_one h
theorem se_and (ha : SE W X a f) (hb : SE W X (.BoolOp .And (b :: rest) pos) g) : SE W X (.BoolOp .And (a :: b :: rest) pos) (andE f g) :=
  PE.imp (pe_andT ha hb) fun σ H Q z => by
    obtain ⟨φ, Z, ρ, cs, S, L, b, cs', e, k⟩ := z
    obtain ⟨t1, c1, e1, e⟩ := R.bind_inv e
    refine ⟨φ, Z, ρ, cs, S, L, t1, c1, e1, fun φ1 Z1 H1 v x1 S1 r1 => ?_⟩
    split at e
    · rename_i q
      refine ⟨true, S1.truth r1 q, ?_⟩
      rw [if_pos rfl]
      exact ⟨φ1, Z1, ρ, c1, S1, L.ext x1, b, cs', e, fun φ2 Z2 H2 v x2 S2 r2 => k _ _ _ _ (x1.trans x2) S2 r2⟩
    · rename_i q
      cases e
      refine ⟨false, S1.truth r1 q, ?_⟩
      rw [if_neg Bool.false_ne_true]
      exact k _ _ _ _ x1 S1 r1
    · cases e
theorem se_or (ha : SE W X a f) (hb : SE W X (.BoolOp .Or (b :: rest) pos) g) : SE W X (.BoolOp .Or (a :: b :: rest) pos) (orE f g) :=
  PE.imp (pe_orT ha hb) fun σ H Q z => by
    obtain ⟨φ, Z, ρ, cs, S, L, b, cs', e, k⟩ := z
    obtain ⟨t1, c1, e1, e⟩ := R.bind_inv e
    refine ⟨φ, Z, ρ, cs, S, L, t1, c1, e1, fun φ1 Z1 H1 v x1 S1 r1 => ?_⟩
    split at e
    · rename_i q
      cases e
      refine ⟨true, S1.truth r1 q, ?_⟩
      rw [if_pos rfl]
      exact k _ _ _ _ x1 S1 r1
    · rename_i q
      refine ⟨false, S1.truth r1 q, ?_⟩
      rw [if_neg Bool.false_ne_true]
      exact ⟨φ1, Z1, ρ, c1, S1, L.ext x1, b, cs', e, fun φ2 Z2 H2 v x2 S2 r2 => k _ _ _ _ (x1.trans x2) S2 r2⟩
    · cases e
theorem se_not (ha : SE W X a f) : SE W X (.UnaryOp .Not a pos) (notE f) :=
  PE.imp (pe_notT ha) fun σ H Q z => by
    obtain ⟨φ, Z, ρ, cs, S, L, b, cs', e, k⟩ := z
    obtain ⟨t1, c1, e1, e⟩ := R.bind_inv e
    refine ⟨φ, Z, ρ, cs, S, L, t1, c1, e1, fun φ1 Z1 H1 v x1 S1 r1 => ?_⟩
    split at e
    · rename_i q
      cases e
      exact ⟨_, S1.truth r1 q, k _ _ _ _ x1 S1 (Rep.bool _)⟩
    · cases e
theorem se_if (hc : SB W X c p) (ha : SE W X a f) (hb : SE W X b g) : SE W X (.IfExp c a b pos) (ifE p f g) :=
  PE.imp (pe_ifExp hc ha hb) fun σ H Q z => by
    obtain ⟨φ, Z, ρ, cs, S, L, t, cs', e, k⟩ := z
    obtain ⟨b1, c1, e1, e⟩ := R.bind_inv e
    refine ⟨φ, Z, ρ, cs, S, L, b1, c1, e1, fun φ1 Z1 H1 x1 S1 => ?_⟩
    by_cases hb : b1 = true
    · rw [if_pos hb] at e; rw [if_pos hb]
      exact ⟨φ1, Z1, ρ, c1, S1, L.ext x1, t, cs', e, fun φ2 Z2 H2 v x2 S2 r2 => k _ _ _ _ (x1.trans x2) S2 r2⟩
    · rw [if_neg hb] at e; rw [if_neg hb]
      exact ⟨φ1, Z1, ρ, c1, S1, L.ext x1, t, cs', e, fun φ2 Z2 H2 v x2 S2 r2 => k _ _ _ _ (x1.trans x2) S2 r2⟩
end
end Y
end
section
set_option Elab.async false
set_option linter.all false
set_option maxRecDepth 100000
set_option maxHeartbeats 1000000
namespace Y
open PySem PySem.Spec L2
/-! ### operators by values -/
section
variable {W : Wd} {K : PySem.W.Frag} {X : Cx}
/-- a value that nothing new is made for -/
theorem fin0 {φ : List Addr} {Z H : Hp} {cs : Cs} {Q : VK} {z : T} {x : V} (S : Sim W K φ Z cs H) (k : ∀ φ' Z' H' x, Ext φ Z H φ' Z' H' → Sim W K φ' Z' cs H' → Rep W K φ' Z' z x → Q x H') (r : Rep W K φ Z z x) : Q x H :=
  k _ _ _ _ (Ext.refl _ _ _) S r
/-- a new tuple of data -/
theorem finT {φ : List Addr} {Z H : Hp} {cs : Cs} {Q : VK} {ds : List PyData} {vs : List V} (S : Sim W K φ Z cs H) (h : DzAll K Z vs ds) (k : ∀ φ' Z' H' x, Ext φ Z H φ' Z' H' → Sim W K φ' Z' cs H' → Rep W K φ' Z' (.d (.tuple ds)) x → Q x H') :
    ∀ p, H p = none → Q (.ref p) (upd H p (.tup vs)) := fun p hp => by
  obtain ⟨S1, x1⟩ := S.frozen hp (.tup vs)
  exact k _ _ _ _ x1 S1 (.d (.tup (SqT.of upd_same) (DzAll.zmono x1.zsub _ _ h)))
/-- a new list of data, frozen -/
theorem finL {φ : List Addr} {Z H : Hp} {cs : Cs} {Q : VK} {ds : List PyData} {vs : List V} (S : Sim W K φ Z cs H) (h : DzAll K Z vs ds) (k : ∀ φ' Z' H' x, Ext φ Z H φ' Z' H' → Sim W K φ' Z' cs H' → Rep W K φ' Z' (.d (.list ds)) x → Q x H') :
    ∀ p, H p = none → Q (.ref p) (upd H p (.lst vs)) := fun p hp => by
  obtain ⟨S1, x1⟩ := S.frozen hp (.lst vs)
  exact k _ _ _ _ x1 S1 (.d (.lst upd_same (DzAll.zmono x1.zsub _ _ h)))
/-- a new list as a cell -/
theorem finC {φ : List Addr} {Z H : Hp} {cs : Cs} {Q : VK} {ts : List T} {vs : List V} (S : Sim W K φ Z cs H) (h : Reps W K φ Z ts vs) (k : ∀ φ' Z' H' x, Ext φ Z H φ' Z' H' → Sim W K φ' Z' (cs ++ [.lst ts]) H' → Rep W K φ' Z' (.ref cs.length) x → Q x H') :
    ∀ p, H p = none → Q (.ref p) (upd H p (.lst vs)) := fun p hp => by
  obtain ⟨S1, x1⟩ := S.newCell hp (o := .lst vs) (c := .lst ts) fun hz => ⟨hz, vs, upd_same, Reps.mono (List.prefix_append _ _) (fun _ _ h => h) h⟩
  refine k _ _ _ _ x1 S1 (.ref ?_)
  rw [← S.len, List.getElem?_append_right (Nat.le_refl _)]
  simp

def mulOk (a b : Int) : Bool := decide ((-(2 ^ 64) < a ∧ a < 2 ^ 64) ∨ (-(2 ^ 64) < b ∧ b < 2 ^ 64)) || decide ((Builtin.Int.intBits a : Int) + (Builtin.Int.intBits b : Int) ≤ 134217728)
theorem mulOk_ok {a b : Int} (h : mulOk a b = true) : IntMulOk a b := by
  unfold mulOk at h
  rcases Bool.or_eq_true_iff.mp h with h | h
  · exact CMul.ok (show _ ∨ _ from of_decide_eq_true h)
  · exact CMulX.ok (show _ ≤ _ from of_decide_eq_true h)
theorem op_mulY : OpR X (binaryOp .Mult) (rI (fun a b => mulOk a b = true) fun i j => .int (i * j)) := opI fun _ _ _ _ _ _ _ hc q => PyProof.Rows.mul_int q (mulOk_ok hc)


abbrev BT := T → T → Cs → R T
def addT : BT := fun t u cs => match t, u with
  | .d (.int a), .d (.int b) => .ok (.d (.int (a + b))) cs
  | .d (.int a), .d (.bool b) => .ok (.d (.int (a + PyProof.Rows.b2i b))) cs
  | .d (.str a), .d (.str b) => if a.length + b.length ≤ sizeLine then .ok (.d (.str (a ++ b))) cs else .stuck
  | .d (.tuple a), .d (.tuple b) => if a.length + b.length ≤ sizeLine then .ok (.d (.tuple (a ++ b))) cs else .stuck
  | t, u => (match asM cs t, asM cs u with
    | some xs, some ys => (match allD (xs ++ ys) with
      | some ds => if ds.length ≤ sizeLine then .ok (.d (.list ds)) cs else .stuck
      | none => .stuck)
    | _, _ => .stuck)
/-- list + list as a cell -/
def addC : BT := fun t u cs => match asM cs t, asM cs u with
    | some xs, some ys => if (xs ++ ys).length ≤ sizeLine then .ok (.ref cs.length) (cs ++ [.lst (xs ++ ys)]) else .stuck
    | _, _ => addT t u cs
def ini (g : Int → Int → Int) : BT := fun t u cs => match t, u with
  | .d (.int a), .d (.int b) => .ok (.d (.int (g a b))) cs
  | _, _ => .stuck
def iniC (C : Int → Int → Bool) (g : Int → Int → Int) : BT := fun t u cs => match t, u with
  | .d (.int a), .d (.int b) => if C a b = true then .ok (.d (.int (g a b))) cs else .stuck
  | _, _ => .stuck
def inb (g : Int → Int → Bool) : BT := fun t u cs => match t, u with
  | .d (.int a), .d (.int b) => .ok (.d (.bool (g a b))) cs
  | _, _ => .stuck
theorem ok_inb {g : Int → Int → Bool} : OpOk W K (rI0 fun i j => .bl (g i j)) (inb g) := by
  intro φ Z cs H t u v w Q z cs' S r1 r2 e k
  unfold inb at e
  split at e
  · cases e; cases r1.dInt; cases r2.dInt
    exact ⟨_, _, rfl, rfl, fin0 S k (Rep.bool _)⟩
  · cases e
theorem ok_ini {g : Int → Int → Int} : OpOk W K (rI0 fun i j => .int (g i j)) (ini g) := by
  intro φ Z cs H t u v w Q z cs' S r1 r2 e k
  unfold ini at e
  split at e
  · cases e; cases r1.dInt; cases r2.dInt
    exact ⟨_, _, rfl, rfl, fin0 S k (Rep.int _)⟩
  · cases e
theorem ok_iniC {C : Int → Int → Bool} {g : Int → Int → Int} : OpOk W K (rI (fun i j => C i j = true) fun i j => .int (g i j)) (iniC C g) := by
  intro φ Z cs H t u v w Q z cs' S r1 r2 e k
  unfold iniC at e
  split at e
  · split at e
    · cases e; cases r1.dInt; cases r2.dInt
      exact ⟨_, _, rfl, rfl, by assumption, fin0 S k (Rep.int _)⟩
    · cases e
  · cases e
theorem OpR.mono {f : Value → Value → Sem Value} {r r' : R2} (h : OpR X f r) (k : ∀ x y H Q, r' x y H Q → r x y H Q) : OpR X f r' := fun pins s σ H x y v u Q I rx ry q => h pins s σ H x y v u Q I rx ry (k _ _ _ _ q)
def subT : BT := fun t u cs => match t, u with
  | .d (.int a), .d (.int b) => .ok (.d (.int (a - b))) cs
  | .d (.int a), .d (.bool b) => .ok (.d (.int (a - PyProof.Rows.b2i b))) cs
  | .d (.bool a), .d (.bool b) => .ok (.d (.int (PyProof.Rows.b2i a - PyProof.Rows.b2i b))) cs
  | _, _ => .stuck
def mulT : BT := iniC mulOk (· * ·)
def divOk (_ b : Int) : Bool := decide (0 < b ∧ b.natAbs.log2 < 9000)
def fdivT : BT := iniC divOk (· / ·)
def modT : BT := iniC (fun _ b => decide (0 < b)) (· % ·)
def powT : BT := iniC (fun i j => decide (0 ≤ j ∧ j ≤ 1000000 ∧ i.natAbs < 2 ^ 64)) fun i j => i ^ j.toNat
theorem op_fdivY : OpR X (binaryOp .FloorDiv) (rI (fun i j => divOk i j = true) fun i j => .int (i / j)) :=
  OpR.mono op_fdivW fun x y H Q ⟨i, j, h1, h2, h3, h4⟩ => ⟨i, j, h1, h2, (show _ ∧ _ from of_decide_eq_true h3), h4⟩
theorem op_modY : OpR X (binaryOp .Mod) (rI (fun _ j => decide (0 < j) = true) fun i j => .int (i % j)) :=
  OpR.mono op_mod fun x y H Q ⟨i, j, h1, h2, h3, h4⟩ => ⟨i, j, h1, h2, of_decide_eq_true h3, h4⟩
theorem op_powY : OpR X (binaryOp .Pow) (rI (fun i j => decide (0 ≤ j ∧ j ≤ 1000000 ∧ i.natAbs < 2 ^ 64) = true) fun i j => .int (i ^ j.toNat)) :=
  OpR.mono op_pow fun x y H Q ⟨i, j, h1, h2, h3, h4⟩ => ⟨i, j, h1, h2, (show _ ∧ _ from of_decide_eq_true h3), h4⟩
def rAddY (K : PySem.W.Frag) : R2 := fun x y H Q => (rI0 (fun i j => .int (i + j)) x y H Q) ∨ (∃ i k, x = .int i ∧ y = .bl k ∧ Q (.int (i + PyProof.Rows.b2i k)) H) ∨
  (∃ i j, x = .str i ∧ y = .str j ∧ i.length + j.length ≤ sizeLine ∧ Q (.str (i ++ j)) H) ∨ rCatA K x y H Q ∨ rCat x y H Q
theorem op_addY : OpR X (binaryOp .Add) (rAddY X.K) := op_add.or (op_add_ib.or (op_add_str.or (op_catA.or op_cat)))
theorem DzAll.app : ∀ {vs ws : List V} {ds es : List PyData} {Z : Hp}, DzAll K Z vs ds → DzAll K Z ws es → DzAll K Z (vs ++ ws) (ds ++ es)
  | _, _, _, _, _, .nil, h => h
  | _, _, _, _, _, .cons h t, h' => .cons h (DzAll.app t h')
theorem DzAll.len : ∀ {vs : List V} {ds : List PyData} {Z : Hp}, DzAll K Z vs ds → vs.length = ds.length
  | _, _, _, .nil => rfl
  | _, _, _, .cons _ t => by simp [DzAll.len t]
theorem ok_add : OpOk W K (rAddY K) addT := by
  intro φ Z cs H t u v w Q z cs' S r1 r2 e k
  unfold addT at e
  split at e
  · cases e; cases r1.dInt; cases r2.dInt
    exact .inl ⟨_, _, rfl, rfl, fin0 S k (Rep.int _)⟩
  · cases e; cases r1.dInt; cases r2.dBool
    exact .inr (.inl ⟨_, _, rfl, rfl, fin0 S k (Rep.int _)⟩)
  · split at e
    · cases e; cases r1.dStr; cases r2.dStr
      exact .inr (.inr (.inl ⟨_, _, rfl, rfl, by assumption, fin0 S k (Rep.str _)⟩))
    · cases e
  · split at e
    · rename_i a b hz
      cases e
      obtain ⟨p, vs, rfl, h1, h2, h3⟩ := S.asT r1 rfl
      obtain ⟨p', vs', rfl, h1', h2', h3'⟩ := S.asT r2 rfl
      have l1 := h3.len
      have l2 := h3'.len
      refine .inr (.inr (.inr (.inl ⟨p, p', vs, vs', rfl, rfl, h2, h2', by omega, fun e => ?_, fun _ e => ?_, fun _ _ => finT S (h3.app h3') k⟩)))
      · subst e
        cases h3
        exact fin0 S k r2
      · subst e
        cases h3'
        rw [List.append_nil] at k
        exact fin0 S k r1
    · cases e
  · split at e
    · rename_i xs ys q1 q2
      split at e
      · rename_i ds q3
        split at e
        · rename_i hz
          cases e
          obtain ⟨p, vs, rfl, h1, h2⟩ := S.asM r1 q1
          obtain ⟨p', vs', rfl, h1', h2'⟩ := S.asM r2 q2
          have q4 := allD_eq q3
          have h3 := Paired.app h2 h2'
          have l1 := Paired.len h3
          rw [q4] at h3 l1
          simp at l1
          exact .inr (.inr (.inr (.inr ⟨p, p', vs, vs', rfl, rfl, h1, h1', by omega, finL S (Reps.all (W := W) (φ := φ) h3) k⟩)))
        · cases e
      · cases e
    · cases e
theorem ok_addC : OpOk W K (rAddY K) addC := by
  intro φ Z cs H t u v w Q z cs' S r1 r2 e k
  unfold addC at e
  split at e
  · rename_i xs ys q1 q2
    split at e
    · rename_i hz
      cases e
      obtain ⟨p, vs, rfl, h1, h2⟩ := S.asM r1 q1
      obtain ⟨p', vs', rfl, h1', h2'⟩ := S.asM r2 q2
      have h3 := Paired.app h2 h2'
      have l1 := Paired.len h3
      simp at l1 hz
      exact .inr (.inr (.inr (.inr ⟨p, p', vs, vs', rfl, rfl, h1, h1', by omega, finC S h3 k⟩)))
    · cases e
  · exact ok_add φ Z cs H t u v w Q z cs' S r1 r2 e k
/-- -a -/
def negT : T → Cs → R T := fun t cs => match t with
  | .d (.int a) => .ok (.d (.int (-a))) cs
  | _ => .stuck
theorem ok_neg : UnOk W K (rU fun i => .int (-i)) negT := by
  intro φ Z cs H t v Q z cs' S r e k
  unfold negT at e
  split at e
  · cases e; cases r.dInt
    exact ⟨_, rfl, fin0 S k (Rep.int _)⟩
  · cases e
/-! ### ==, !=, is None -/
def eqD (cs : Cs) (t u : T) : Option Bool := match t, u with
  | .d (.str a), .d (.str b) => some (decide (a = b))
  | .d (.int a), .d (.int b) => some (decide (a = b))
  | t, u => (match toD cs t, toD cs u with
    | some x, some y => if SeqAt.shaped x = true ∧ SeqAt.shaped y = true then some (PyData.eqv x y) else none
    | _, _ => none)
/-- dicts of cells, one of them empty -/
def eqK (cs : Cs) (t u : T) : Option Bool := match t, u with
  | .ref n, .ref m => (match cs[n]?, cs[m]? with
    | some (.dk []), some (.dk []) => some true
    | _, _ => none)
  | _, _ => none
def eqT : BT := fun t u cs => match eqD cs t u with
  | some b => .ok (.d (.bool b)) cs
  | none => .stuck
def neT : BT := fun t u cs => match eqD cs t u with
  | some b => .ok (.d (.bool (!b))) cs
  | none => .stuck
def rEqY (K : PySem.W.Frag) : R2 := fun x y H Q => rEq x y H Q ∨ rEqD K x y H Q
def rNeY (K : PySem.W.Frag) : R2 := fun x y H Q => rNe x y H Q ∨ rNeD K x y H Q
theorem op_eqY (hu : X.A.units + 64 < cLine) : OpR X (compareOp .Eq) (rEqY X.K) := op_eq.or (op_eqD hu)
theorem op_neY (hu : X.A.units + 64 < cLine) : OpR X (compareOp .NotEq) (rNeY X.K) := op_ne.or (op_neD hu)
theorem dec_str' (a b : Str) : decide (V.str a = V.str b) = decide (a = b) := by
  by_cases h : a = b
  · subst h; simp
  · have : ¬ V.str a = V.str b := fun q => h (V.str.inj q)
    rw [decide_eq_false h, decide_eq_false this]
theorem dec_int' (a b : Int) : decide (V.int a = V.int b) = decide (a = b) := by
  by_cases h : a = b
  · subst h; simp
  · have : ¬ V.int a = V.int b := fun q => h (V.int.inj q)
    rw [decide_eq_false h, decide_eq_false this]
theorem ok_eq : OpOk W K (rEqY K) eqT := by
  intro φ Z cs H t u v w Q z cs' S r1 r2 e k
  unfold eqT at e
  split at e
  · rename_i b q
    cases e
    unfold eqD at q
    split at q
    · cases q; cases r1.dStr; cases r2.dStr
      refine .inl ⟨rfl, ?_⟩
      rw [dec_str']
      exact fin0 S k (Rep.bool _)
    · cases q; cases r1.dInt; cases r2.dInt
      refine .inl ⟨rfl, ?_⟩
      rw [dec_int']
      exact fin0 S k (Rep.bool _)
    · split at q
      · rename_i x y e1 e2
        split at q
        · rename_i hs
          cases q
          exact .inr ⟨x, y, S.toD r1 e1, S.toD r2 e2, hs.1, hs.2, fin0 S k (Rep.bool _)⟩
        · cases q
      · cases q
  · cases e
theorem ok_ne : OpOk W K (rNeY K) neT := by
  intro φ Z cs H t u v w Q z cs' S r1 r2 e k
  unfold neT at e
  split at e
  · rename_i b q
    cases e
    unfold eqD at q
    split at q
    · cases q; cases r1.dStr; cases r2.dStr
      refine .inl ⟨rfl, ?_⟩
      rw [dec_str']
      exact fin0 S k (Rep.bool _)
    · cases q; cases r1.dInt; cases r2.dInt
      refine .inl ⟨rfl, ?_⟩
      rw [dec_int']
      exact fin0 S k (Rep.bool _)
    · split at q
      · rename_i x y e1 e2
        split at q
        · rename_i hs
          cases q
          exact .inr ⟨x, y, S.toD r1 e1, S.toD r2 e2, hs.1, hs.2, fin0 S k (Rep.bool _)⟩
        · cases q
      · cases q
  · cases e
def isNone : T → Bool
  | .d .none => true
  | _ => false
theorem Rep.isNone {φ : List Addr} {Z : Hp} {t : T} {v : V} (r : Rep W K φ Z t v) : decide (v = .non) = isNone t := by
  cases r with
  | d h =>
    cases h <;> simp [Y.isNone]
  | _ => simp [Y.isNone]
def isT : BT := fun t u cs => match u with
  | .d .none => .ok (.d (.bool (isNone t))) cs
  | _ => .stuck
def isntT : BT := fun t u cs => match u with
  | .d .none => .ok (.d (.bool (!isNone t))) cs
  | _ => .stuck
theorem ok_is : OpOk W K (fun x y H Q => y = .non ∧ Q (.bl (decide (x = .non))) H) isT := by
  intro φ Z cs H t u v w Q z cs' S r1 r2 e k
  unfold isT at e
  split at e
  · cases e; cases r2.dNone
    refine ⟨rfl, ?_⟩
    rw [r1.isNone]
    exact fin0 S k (Rep.bool _)
  · cases e
theorem ok_isnt : OpOk W K (fun x y H Q => y = .non ∧ Q (.bl (!decide (x = .non))) H) isntT := by
  intro φ Z cs H t u v w Q z cs' S r1 r2 e k
  unfold isntT at e
  split at e
  · cases e; cases r2.dNone
    refine ⟨rfl, ?_⟩
    rw [r1.isNone]
    exact fin0 S k (Rep.bool _)
  · cases e
end
end Y
end
section
set_option Elab.async false
set_option linter.all false
set_option maxRecDepth 100000
set_option maxHeartbeats 1000000
namespace Y
open PySem PySem.Spec L2
/-! ### argument lists, displays -/
section
variable {W : Wd} {X : Cx} {e : Expr} {es : List Expr} {pos : Pos} {f : EF} {g : AF}
def nilA : AF := fun _ cs => .ok [] cs
def consA (f : EF) (g : AF) : AF := fun ρ cs => (f ρ cs).bind fun t c1 => (g ρ c1).bind fun ts c2 => .ok (t :: ts) c2
def starA (f : EF) (g : AF) : AF := fun ρ cs => (f ρ cs).bind fun t c1 => match asQ c1 t with
  | some xs => (g ρ c1).bind fun ts c2 => .ok (xs ++ ts) c2
  | none => .stuck
theorem sa_nil : SA W X [] nilA := PA.imp pa_nil fun σ H Q h => by
  obtain ⟨φ, Z, ρ, cs, S, L, ts, cs', e, k⟩ := h
  cases e
  exact k _ _ _ _ (Ext.refl _ _ _) S .nil
theorem sa_cons (ha : SE W X e f) (hr : SA W X es g) (hs : starEach (e :: es) X.env = (false, eval e X.env) :: starEach es X.env := by rfl) : SA W X (e :: es) (consA f g) := PA.imp (pa_cons ha hr hs) fun σ H Q h => by
  obtain ⟨φ, Z, ρ, cs, S, L, ts, cs', e, k⟩ := h
  obtain ⟨t1, c1, e1, e⟩ := R.bind_inv e
  obtain ⟨t2, c2, e2, e⟩ := R.bind_inv e
  cases e
  exact ⟨φ, Z, ρ, cs, S, L, t1, c1, e1, fun φ1 Z1 H1 v x1 S1 r1 => ⟨φ1, Z1, ρ, c1, S1, L.ext x1, t2, _, e2, fun φ2 Z2 H2 w x2 S2 r2 => k _ _ _ _ (x1.trans x2) S2 (.cons (r1.ext x2) r2)⟩⟩
theorem sa_star {p : Pos} (ha : SE W X e f) (hr : SA W X es g) (hs : starEach (.Starred e p :: es) X.env = (true, eval e X.env) :: starEach es X.env := by rfl) : SA W X (.Starred e p :: es) (starA f g) := PA.imp (StX.pa_star ha hr hs) fun σ H Q h => by
  obtain ⟨φ, Z, ρ, cs, S, L, ts, cs', e, k⟩ := h
  obtain ⟨t1, c1, e1, e⟩ := R.bind_inv e
  split at e
  · rename_i xs q
    obtain ⟨t2, c2, e2, e⟩ := R.bind_inv e
    cases e
    refine ⟨φ, Z, ρ, cs, S, L, t1, c1, e1, fun φ1 Z1 H1 v x1 S1 r1 => ?_⟩
    obtain ⟨a, vs, rfl, h1, h2⟩ := S1.asQ r1 q
    exact ⟨a, vs, rfl, h1.symm, φ1, Z1, ρ, c1, S1, L.ext x1, t2, _, e2, fun φ2 Z2 H2 w x2 S2 r2 => k _ _ _ _ (x1.trans x2) S2 (Paired.app (Reps.ext x2 h2) r2)⟩
  · cases e
def tupE (g : AF) : EF := fun ρ cs => (g ρ cs).bind fun ts c => match allD ts with
  | some ds => if ds.length ≤ sizeLine then .ok (.d (.tuple ds)) c else .stuck
  | none => .stuck
/-- a list that nothing changes -/
def lstE (g : AF) : EF := fun ρ cs => (g ρ cs).bind fun ts c => match allD ts with
  | some ds => if ds.length ≤ sizeLine then .ok (.d (.list ds)) c else .stuck
  | none => .stuck
/-- a list that is a cell -/
def lstC (g : AF) : EF := fun ρ cs => (g ρ cs).bind fun ts c => if ts.length ≤ sizeLine then .ok (.ref c.length) (c ++ [.lst ts]) else .stuck
theorem se_tup {x1} (h : SA W X es g) : SE W X (.Tuple es x1 pos) (tupE g) := PE.imp (pe_tup h) fun σ H Q h => by
  obtain ⟨φ, Z, ρ, cs, S, L, ts, cs', e, k⟩ := h
  obtain ⟨t1, c1, e1, e⟩ := R.bind_inv e
  split at e
  · rename_i ds q
    split at e
    · rename_i hz
      cases e
      refine ⟨φ, Z, ρ, cs, S, L, t1, _, e1, fun φ1 Z1 H1 vs x1 S1 r1 => ?_⟩
      rw [allD_eq q] at r1
      have r2 := Reps.all r1
      refine ⟨by rw [r2.len]; exact hz, finT S1 r2 fun φ' Z' H' x x2 => k _ _ _ _ (x1.trans x2)⟩
    · cases e
  · cases e
theorem se_lst (h : SA W X es g) : SE W X (.List es pos) (lstE g) := PE.imp (pe_lst h) fun σ H Q h => by
  obtain ⟨φ, Z, ρ, cs, S, L, ts, cs', e, k⟩ := h
  obtain ⟨t1, c1, e1, e⟩ := R.bind_inv e
  split at e
  · rename_i ds q
    split at e
    · rename_i hz
      cases e
      refine ⟨φ, Z, ρ, cs, S, L, t1, _, e1, fun φ1 Z1 H1 vs x1 S1 r1 => ?_⟩
      rw [allD_eq q] at r1
      have r2 := Reps.all r1
      refine ⟨by rw [r2.len]; exact hz, finL S1 r2 fun φ' Z' H' x x2 => k _ _ _ _ (x1.trans x2)⟩
    · cases e
  · cases e
theorem se_lstC (h : SA W X es g) : SE W X (.List es pos) (lstC g) := PE.imp (pe_lst h) fun σ H Q h => by
  obtain ⟨φ, Z, ρ, cs, S, L, ts, cs', e, k⟩ := h
  obtain ⟨t1, c1, e1, e⟩ := R.bind_inv e
  split at e
  · rename_i hz
    cases e
    refine ⟨φ, Z, ρ, cs, S, L, t1, _, e1, fun φ1 Z1 H1 vs x1 S1 r1 => ?_⟩
    refine ⟨by rw [← Paired.len r1]; exact hz, finC S1 r1 fun φ' Z' H' x x2 => k _ _ _ _ (x1.trans x2)⟩
  · cases e
/-- {} as a cell -/
def dicC : EF := fun _ cs => .ok (.ref cs.length) (cs ++ [.dk []])
theorem finDk {K : PySem.W.Frag} {φ : List Addr} {Z H : Hp} {cs : Cs} {Q : VK} {kvs : List (Key × T)} {vs : List (Key × V)} (S : Sim W K φ Z cs H) (h : RepKV W K φ Z kvs vs) (k : ∀ φ' Z' H' x, Ext φ Z H φ' Z' H' → Sim W K φ' Z' (cs ++ [.dk kvs]) H' → Rep W K φ' Z' (.ref cs.length) x → Q x H') :
    ∀ p, H p = none → Q (.ref p) (upd H p (.dK vs)) := fun p hp => by
  obtain ⟨S1, x1⟩ := S.newCell hp (o := .dK vs) (c := .dk kvs) fun hz => ⟨hz, vs, upd_same, RepKV.mono (List.prefix_append _ _) (fun _ _ h => h) h⟩
  refine k _ _ _ _ x1 S1 (.ref ?_)
  rw [← S.len, List.getElem?_append_right (Nat.le_refl _)]
  simp
theorem se_dic : SE W X (.Dict [] [] pos) dicC := PE.imp pe_dnewK fun σ H Q h => by
  obtain ⟨φ, Z, ρ, cs, S, L, ts, cs', e, k⟩ := h
  cases e
  exact finDk S .nil k
end

/-! ### items -/
def keyT : T → Option Key
  | .d (.int i) => some (.inl i)
  | .d (.str x) => some (.inr x)
  | _ => none
def getK {κ β : Type} [DecidableEq κ] (kvs : List (κ × β)) (k : κ) : Option β := (kvs.find? fun kv => decide (kv.1 = k)).map (·.2)
theorem RepKV.get {W : Wd} {K : PySem.W.Frag} {φ : List Addr} {Z : Hp} {κ : Type} [DecidableEq κ] (k : κ) : ∀ {kvs : List (κ × T)} {vs : List (κ × V)}, RepKV W K φ Z kvs vs →
    match getK kvs k with
    | some t => ∃ v, getK vs k = some v ∧ Rep W K φ Z t v
    | none => getK vs k = none
  | _, _, .nil => rfl
  | (k1, t1) :: kvs, (k2, v2) :: vs, .cons h t => by
    obtain ⟨e, r⟩ := h
    have e : k1 = k2 := e
    subst e
    unfold getK
    rw [List.find?_cons, List.find?_cons]
    by_cases q : k1 = k
    · simp only [decide_eq_true q]
      exact ⟨v2, rfl, r⟩
    · simp only [decide_eq_false q]
      exact RepKV.get k t
theorem keyT_rep {W : Wd} {K : PySem.W.Frag} {φ : List Addr} {Z : Hp} {t : T} {v : V} {k : Key} (r : Rep W K φ Z t v) (e : keyT t = some k) : v = kV k := by
  unfold keyT at e
  split at e
  · cases e; exact r.dInt
  · cases e; exact r.dStr
  · cases e
/-- what the written dicts hold -/
structure WOk (W : Wd) (K : PySem.W.Frag) (w : World) : Prop where
  kd : ∀ i, W.kdv i ≠ [] → ∃ es n, K.lookup (W.kad i) = some ⟨.type "dict", none, .dict es n, #[]⟩ ∧ PySem.W.KeysLit w.params es.toList ∧ (W.kad i == sysModules) = false ∧ ∀ z : Str,
    (match getK (W.kdv i) z with
    | some t => ∃ u v, PySem.W.nsIn K (W.kad i) z = some (some u) ∧ RelV v u ∧ ∀ φ Z, Rep W K φ Z t v
    | none => PySem.W.nsIn K (W.kad i) z = some none)
  fld : ∀ c f, W.okf c f = true → Cls K (W.cad c) ∧ NoAttr K (W.cad c) f
section
variable {W : Wd} {X : Cx}
theorem ix_dcell (hu : X.A.units + 1 < cLine) : IxR X (fun x y H Q => ∃ a v, x = .ref a ∧ DGet H a y (some v) ∧ Q v H) := by
  intro value slice pins s σ H x y v u Q I rx ry h hs
  obtain ⟨a, r, rfl, g, q⟩ := h
  obtain rfl : v = Value.ref a := rx
  exact PyProof.Rows.tail_any (dict_typeIs I g) PySem.F.slot_dict_getitem.lookup (d_getItem hu I g ry fun w' s' I' rw' => ⟨r, H, I', rw', q⟩) hs
def rIxY (K : PySem.W.Frag) (w : World) : R2 := fun x y H Q => rIx K x y H Q ∨ rIxD K w x y H Q ∨ (∃ a v, x = .ref a ∧ DGet H a y (some v) ∧ Q v H)
theorem ix_any (hu : X.A.units + 1 < cLine) : IxR X (rIxY X.K X.w) := ix_seq.or (ix_kdict.or (ix_dcell hu))
def itemT (W : Wd) : BT := fun t u cs => match t, u with
  | .d (.str s), .d (.int i) => if s.length ≤ sizeLine then (match atI s.cps.toList i with
    | some c => .ok (.d (.str ⟨#[c]⟩)) cs
    | none => .stuck) else .stuck
  | .kd n, .d (.str z) => (match getK (W.kdv n) z with
    | some x => .ok x cs
    | none => .stuck)
  | t, u => (match asQ cs t, u with
    | some xs, .d (.int i) => (match atI xs i with
      | some x => .ok x cs
      | none => .stuck)
    | _, _ => (match t with
      | .ref n => (match cs[n]?, keyT u with
        | some (.dk kvs), some k => (match getK kvs k with
          | some x => .ok x cs
          | none => .stuck)
        | _, _ => .stuck)
      | _ => .stuck))
theorem Paired.atI {α β : Type} {F : α → β → Prop} {l : List α} {m : List β} {i : Int} {a : α} (h : Paired F l m) (e : atI l i = some a) : ∃ b, L2.atI m i = some b ∧ F a b := by
  unfold L2.atI at e ⊢
  rw [← Paired.len h]
  cases q : ixN l.length i with
  | none => rw [q] at e; cases e
  | some j =>
    rw [q] at e
    exact Paired.get h e
theorem ok_item (G : WOk W X.K X.w) : OpOk W X.K (rIxY X.K X.w) (itemT W) := by
  intro φ Z cs H t u v w Q z cs' S r1 r2 e k
  unfold itemT at e
  split at e
  · split at e
    · split at e
      · cases e; cases r1.dStr; cases r2.dInt
        exact .inl (.inr (.inr ⟨_, _, _, rfl, rfl, by assumption, by assumption, fin0 S k (Rep.str _)⟩))
      · cases e
    · cases e
  · rename_i n z1
    split at e
    · rename_i x q
      cases e; cases r2.dStr
      cases r1
      have hne : W.kdv n ≠ [] := fun e => by rw [e] at q; cases q
      obtain ⟨es, m, h1, h2, h3, h4⟩ := G.kd n hne
      have h5 := h4 z1
      rw [q] at h5
      obtain ⟨u0, v0, h6, h7, h8⟩ := h5
      exact .inr (.inl ⟨_, _, v0, rfl, rfl, ⟨es, m, u0, h1, h2, h6, h7⟩, fin0 S k (h8 _ _)⟩)
    · cases e
  · split at e
    · split at e
      · rename_i q2
        cases e
        cases r2.dInt
        obtain ⟨a, vs, rfl, h1, h2⟩ := S.asQ r1 (by assumption)
        obtain ⟨b, h3, h4⟩ := Paired.atI h2 q2
        rcases h1 with h1 | h1
        · exact .inl (.inl ⟨_, _, _, _, rfl, rfl, h1, h3, fin0 S k h4⟩)
        · exact .inl (.inr (.inl ⟨_, _, _, _, rfl, rfl, h1, h3, fin0 S k h4⟩))
      · cases e
    · split at e
      · split at e
        · rename_i n _ _ _ kvs ky q1 q2
          split at e
          · rename_i x q3
            cases e
            cases r1 with
            | ref h =>
              obtain ⟨_, vs, h1, h2⟩ := S.cell _ _ _ q1 h
              have h3 := RepKV.get ky h2
              rw [q3] at h3
              obtain ⟨v, h4, h5⟩ := h3
              rw [keyT_rep r2 q2]
              have h6 : valV vs ky = some v := h4
              refine .inr (.inr ⟨_, v, rfl, ?_, fin0 S k h5⟩)
              rw [← h6]
              exact DGet.k h1
          · cases e
        · cases e
      · cases e
theorem se_item {a b : Expr} {f g : EF} {pos : Pos} (G : WOk W X.K X.w) (hu : X.A.units + 1 < cLine) (ha : SE W X a f) (hb : SE W X b g) (hs : PlainIx b := by exact fun _ _ => rfl) : SE W X (.Subscript a b pos) (bin (itemT W) f g) :=
  PE.imp (pe_ix (ix_any hu) ha hb hs) fun _ _ _ h => tE_bin (ok_item G) h
end

/-! ### slices -/
section
variable {W : Wd} {X : Cx}
abbrev OF := Rho → Cs → R (Option Int)
def tO (W : Wd) (K : PySem.W.Frag) (f : OF) : TO := fun σ H Q => ∃ φ Z ρ cs, Sim W K φ Z cs H ∧ Slots W K φ Z ρ σ ∧ ∃ o cs', f ρ cs = .ok o cs' ∧ ∀ φ' Z' H', Ext φ Z H φ' Z' H' → Sim W K φ' Z' cs' H' → Q o H'
def SO (W : Wd) (X : Cx) (e : Option Expr) (f : OF) : Prop := PO X e (tO W X.K f)
theorem PO.imp {X : Cx} {e : Option Expr} {t t' : TO} (h : PO X e t) (k : ∀ σ H Q, t' σ H Q → t σ H Q) : PO X e t' := ⟨fun pins s σ H Q I q => h.run pins s σ H Q I (k σ H Q q)⟩
def noO : OF := fun _ cs => .ok none cs
def someO (f : EF) : OF := fun ρ cs => (f ρ cs).bind fun t c => match t with
  | .d (.int i) => .ok (some i) c
  | _ => .stuck
theorem so_none : SO W X none noO := PO.imp po_none fun σ H Q h => by
  obtain ⟨φ, Z, ρ, cs, S, L, o, cs', e, k⟩ := h
  cases e
  exact k _ _ _ (Ext.refl _ _ _) S
theorem so_some {e : Expr} {f : EF} (h : SE W X e f) : SO W X (some e) (someO f) := PO.imp (po_some h) fun σ H Q h => by
  obtain ⟨φ, Z, ρ, cs, S, L, o, cs', e, k⟩ := h
  obtain ⟨t, c, e1, e⟩ := R.bind_inv e
  split at e
  · cases e
    refine ⟨φ, Z, ρ, cs, S, L, _, _, e1, fun φ1 Z1 H1 v x1 S1 r1 => ⟨_, r1.dInt, k _ _ _ x1 S1⟩⟩
  · cases e
def cutL {α : Type} (xs : List α) (lo hi : Option Int) : List α := (xs.drop (HT.sIx xs.length 0 lo)).take (HT.sIx xs.length xs.length hi - HT.sIx xs.length 0 lo)
/-- a slice: a list's is a list that nothing changes -/
def slcT (cs : Cs) (t : T) (lo hi : Option Int) : R T := match t with
  | .d (.str s) => if s.length ≤ sizeLine then .ok (.d (.str (cutS s lo hi))) cs else .stuck
  | .d (.tuple ds) => .ok (.d (.tuple (cutL ds lo hi))) cs
  | t => (match asL cs t with
    | some xs => (match allD (cutL xs lo hi) with
      | some ds => .ok (.d (.list ds)) cs
      | none => .stuck)
    | none => .stuck)
/-- .. as a cell -/
def slcC (cs : Cs) (t : T) (lo hi : Option Int) : R T := match asL cs t with
    | some xs => .ok (.ref cs.length) (cs ++ [.lst (cutL xs lo hi)])
    | none => .stuck
def sliceE (op : Cs → T → Option Int → Option Int → R T) (f : EF) (l h : OF) : EF := fun ρ cs => (f ρ cs).bind fun t c1 => (l ρ c1).bind fun lo c2 => (h ρ c2).bind fun hi c3 => op c3 t lo hi
def rSlY (K : PySem.W.Frag) : V → Option Int → Option Int → Hp → VK → Prop := fun x lo hi H Q => rSlL K x lo hi H Q ∨ rSlA K x lo hi H Q ∨ rSlS x lo hi H Q
theorem sl_any : SlR X (rSlY X.K) := sl_list.or (sl_tupA.or sl_str)
theorem Paired.drop {α β : Type} {F : α → β → Prop} : ∀ {l : List α} {m : List β} (n : Nat), Paired F l m → Paired F (l.drop n) (m.drop n)
  | _, _, 0, h => h
  | _, _, n + 1, .nil => .nil
  | _, _, n + 1, .cons _ t => Paired.drop n t
theorem Paired.take {α β : Type} {F : α → β → Prop} : ∀ {l : List α} {m : List β} (n : Nat), Paired F l m → Paired F (l.take n) (m.take n)
  | _, _, 0, h => .nil
  | _, _, n + 1, .nil => .nil
  | _, _, n + 1, .cons h t => .cons h (Paired.take n t)
theorem Paired.cut {F : T → V → Prop} {l : List T} {m : List V} (lo hi : Option Int) (h : Paired F l m) : Paired F (cutL l lo hi) (cutV m lo hi) := by
  unfold cutL cutV
  rw [← Paired.len h]
  exact Paired.take _ (Paired.drop _ h)
theorem cutL_map {α β : Type} (f : α → β) (xs : List α) (lo hi : Option Int) : cutL (xs.map f) lo hi = (cutL xs lo hi).map f := by
  unfold cutL
  rw [List.length_map, List.map_take, List.map_drop]
def SlOk (W : Wd) (K : PySem.W.Frag) (r : V → Option Int → Option Int → Hp → VK → Prop) (op : Cs → T → Option Int → Option Int → R T) : Prop := ∀ φ Z cs H t v lo hi (Q : VK) z cs', Sim W K φ Z cs H → Rep W K φ Z t v → op cs t lo hi = .ok z cs' →
  (∀ φ' Z' H' x, Ext φ Z H φ' Z' H' → Sim W K φ' Z' cs' H' → Rep W K φ' Z' z x → Q x H') → r v lo hi H Q
theorem ok_slc {K : PySem.W.Frag} : SlOk W K (rSlY K) slcT := by
  intro φ Z cs H t v lo hi Q z cs' S r e k
  unfold slcT at e
  split at e
  · split at e
    · cases e; cases r.dStr
      exact .inr (.inr ⟨_, rfl, by assumption, fin0 S k (Rep.str _)⟩)
    · cases e
  · cases e
    obtain ⟨a, vs, rfl, h1, h2, h3⟩ := S.asT r rfl
    refine .inr (.inl ⟨a, vs, rfl, h2, fun q => ?_, fun q => ?_⟩)
    · rename_i ds
      have e : cutL ds lo hi = ds := by
        unfold cutL
        rw [← h3.len, q.1, q.2, h3.len]
        simp
      rw [e] at k
      exact fin0 S k r
    · refine finT S (ds := cutL _ lo hi) ?_ k
      have h4 := Paired.cut lo hi (Reps.of_all (W := W) (φ := φ) h3)
      rw [cutL_map] at h4
      exact Reps.all h4
  · split at e
    · rename_i xs q
      split at e
      · rename_i ds q2
        cases e
        obtain ⟨a, vs, rfl, h1, h2⟩ := S.asL r q
        have h4 := Paired.cut lo hi h2
        rw [allD_eq q2] at h4
        exact .inl ⟨a, vs, rfl, h1, finL S (Reps.all h4) k⟩
      · cases e
    · cases e
theorem ok_slcC {K : PySem.W.Frag} : SlOk W K (rSlY K) slcC := by
  intro φ Z cs H t v lo hi Q z cs' S r e k
  unfold slcC at e
  split at e
  · rename_i xs q
    cases e
    obtain ⟨a, vs, rfl, h1, h2⟩ := S.asL r q
    exact .inl ⟨a, vs, rfl, h1, finC S (Paired.cut lo hi h2) k⟩
  · cases e
theorem se_slice {op : Cs → T → Option Int → Option Int → R T} {e : Expr} {lo hi : Option Expr} {f : EF} {l h : OF} {p2 pos : Pos} (hk : SlOk W X.K (rSlY X.K) op) (he : SE W X e f) (hl : SO W X lo l) (hh : SO W X hi h) : SE W X (.Subscript e (.Slice lo hi none p2) pos) (sliceE op f l h) :=
  PE.imp (pe_slice sl_any he hl hh) fun σ H Q q => by
    obtain ⟨φ, Z, ρ, cs, S, L, t, cs', e, k⟩ := q
    obtain ⟨t1, c1, e1, e⟩ := R.bind_inv e
    obtain ⟨t2, c2, e2, e⟩ := R.bind_inv e
    obtain ⟨t3, c3, e3, e⟩ := R.bind_inv e
    exact ⟨φ, Z, ρ, cs, S, L, t1, c1, e1, fun φ1 Z1 H1 v x1 S1 r1 => ⟨φ1, Z1, ρ, c1, S1, L.ext x1, t2, c2, e2, fun φ2 Z2 H2 x2 S2 => ⟨φ2, Z2, ρ, c2, S2, L.ext (x1.trans x2), t3, c3, e3, fun φ3 Z3 H3 x3 S3 =>
      hk _ _ _ _ _ _ _ _ _ _ _ S3 (r1.ext (x2.trans x3)) e fun φ4 Z4 H4 y x4 S4 r4 => k _ _ _ _ (((x1.trans x2).trans x3).trans x4) S4 r4⟩⟩⟩
end

/-! ### in, not in -/
def flatD : PyData → Bool
  | .none | .bool _ | .int _ | .str _ => true
  | _ => false
section
variable {W : Wd} {X : Cx}
theorem flat_of {K : PySem.W.Frag} {Z : Hp} {d : PyData} {v : V} (h : Dz K Z v d) : flatV v = flatD d := by cases h <;> rfl
theorem eqV_of {K : PySem.W.Frag} {Z : Hp} {d e : PyData} {v w : V} (h : Dz K Z v d) (h' : Dz K Z w e) (f : flatD d = true) (f' : flatD e = true) : eqV v w = PyData.eqv d e := by
  cases h <;> cases h' <;> first | rfl | (simp [eqV, PyData.eqv]; done) | cases f | cases f'
theorem flatAll_of {K : PySem.W.Frag} {Z : Hp} : ∀ {vs : List V} {ds : List PyData}, DzAll K Z vs ds → vs.all flatV = ds.all flatD
  | _, _, .nil => rfl
  | _, _, .cons h t => by simp [flat_of h, flatAll_of t]
theorem inV_of {K : PySem.W.Frag} {Z : Hp} {d : PyData} {v : V} (h : Dz K Z v d) (f : flatD d = true) : ∀ {vs : List V} {ds : List PyData}, DzAll K Z vs ds → ds.all flatD = true → inV v vs = ds.any fun z => PyData.eqv z d
  | _, _, .nil, _ => rfl
  | _, _, .cons h1 t, q => by
    simp only [List.all_cons, Bool.and_eq_true] at q
    have ih := inV_of h f t q.2
    unfold inV at ih ⊢
    simp only [List.any_cons, ih, eqV_of h1 h q.1 f]
/-- the items that are looked through -/
def itemsD (cs : Cs) (u : T) : Option (Bool × List PyData) := match toD cs u with
  | some (.list ds) => some (false, ds)
  | some (.tuple ds) => some (true, ds)
  | _ => none
def scanD (b : Bool) (ds : List PyData) (x : PyData) : Option Bool := if flatD x = true ∧ ds.all flatD = true then some (ds.any fun z => PyData.eqv z x)
      else if SeqAt.shaped x = true ∧ SeqAt.shaped (if b then .tuple ds else .list ds) = true then some (ds.any fun z => PyData.eqv z x) else none
def strIn (a b : Str) : Bool := !(Builtin.Str.occurrences b a 0 b.length 1).isEmpty
def inB (W : Wd) (cs : Cs) (t u : T) : Option Bool := match t, u with
  | .d (.str a), .d (.str b) => some (strIn a b)
  | .d (.str z), .kd n => if W.kdv n ≠ [] then some (getK (W.kdv n) z).isSome else none
  | t, u => (match itemsD cs u, t with
    | some (b, ds), .d x => scanD b ds x
    | _, _ => (match u with
      | .ref n => (match cs[n]?, keyT t with
        | some (.dk kvs), some k => some (getK kvs k).isSome
        | _, _ => none)
      | _ => none))
def inT (W : Wd) : BT := fun t u cs => match inB W cs t u with
  | some b => .ok (.d (.bool b)) cs
  | none => .stuck
def ninT (W : Wd) : BT := fun t u cs => match inB W cs t u with
  | some b => .ok (.d (.bool (!b))) cs
  | none => .stuck
def rInTD (K : PySem.W.Frag) (g : Bool → Bool) : R2 := fun x y H Q => ∃ d ds, Dp K H x d ∧ Dp K H y (.tuple ds) ∧ SeqAt.shaped d = true ∧ SeqAt.shaped (.tuple ds) = true ∧ Q (.bl (g (ds.any fun z => PyData.eqv z d))) H
theorem op_inTD (hu : X.A.units + 65 < cLine) : OpR X (compareOp .In) (rInTD X.K id) := by
  intro pins s σ H x y v u Q I rx ry h
  obtain ⟨d, ds, hd, he, sd, se, q⟩ := h
  obtain ⟨as, r1⟩ := Dp.reads I d x v hd rx
  obtain ⟨bs, r2⟩ := Dp.reads I (.tuple ds) y u he ry
  exact SeqAt.in_tuple_reads r2 r1 (SeqAt.canLay_of_shaped se) (SeqAt.canLay_of_shaped sd) (PyProof.Rows.room_in_shaped sd hu) ⟨.bl _, H, I, rfl, q⟩
theorem op_ninTD (hu : X.A.units + 65 < cLine) : OpR X (compareOp .NotIn) (rInTD X.K not) := by
  intro pins s σ H x y v u Q I rx ry h
  obtain ⟨d, ds, hd, he, sd, se, q⟩ := h
  obtain ⟨as, r1⟩ := Dp.reads I d x v hd rx
  obtain ⟨bs, r2⟩ := Dp.reads I (.tuple ds) y u he ry
  exact SeqAt.notIn_tuple_reads r2 r1 (SeqAt.canLay_of_shaped se) (SeqAt.canLay_of_shaped sd) (PyProof.Rows.room_in_shaped sd hu) ⟨.bl _, H, I, rfl, q⟩

theorem op_kin (b : Bool) : OpR X (compareOp (if b then .In else .NotIn)) (fun x y H Q => ∃ p z es n r, x = .str z ∧ y = .ref p ∧ X.K.lookup p = some ⟨.type "dict", none, .dict es n, #[]⟩ ∧ PySem.W.KeysLit X.w.params es.toList ∧ (p == sysModules) = false ∧ PySem.W.nsIn X.K p z = some r ∧ Q (.bl (if b then r.isSome else !r.isSome)) H) := by
  intro pins s σ H x y v u Q I rx ry h
  obtain ⟨p, z, es, n, r, rfl, rfl, hl, hk, low, e, q⟩ := h
  obtain ⟨t, rfl⟩ := rx
  obtain rfl : u = Value.ref p := ry
  have hm := PySem.W.mapOf_K (prog := X.prog) (w := X.w) I.kIn hl hk
  have hf := PySem.W.find_K hl e
  cases b with
  | true => exact wpAny_in_of (PySem.strKind_is X.prog X.w z t) low hm ⟨.bl _, H, I.tok _, rfl, by show Q _ H; rw [hf]; exact q⟩
  | false => exact wpAny_notIn_of (PySem.strKind_is X.prog X.w z t) low hm ⟨.bl _, H, I.tok _, rfl, by show Q _ H; rw [hf]; exact q⟩
def rInY (X : Cx) (g : Bool) : R2 := fun x y H Q => (∃ i j, x = .str i ∧ y = .str j ∧ Q (.bl (if g then strIn i j else !strIn i j)) H) ∨ rIn X.K (!g) x y H Q ∨
  (∃ d ds, Dp X.K H x d ∧ Dp X.K H y (.list ds) ∧ SeqAt.shaped d = true ∧ SeqAt.shaped (.list ds) = true ∧ Q (.bl (if g then ds.any fun z => PyData.eqv z d else !ds.any fun z => PyData.eqv z d)) H) ∨
  (∃ d ds, Dp X.K H x d ∧ Dp X.K H y (.tuple ds) ∧ SeqAt.shaped d = true ∧ SeqAt.shaped (.tuple ds) = true ∧ Q (.bl (if g then ds.any fun z => PyData.eqv z d else !ds.any fun z => PyData.eqv z d)) H) ∨
  (∃ p z es n r, x = .str z ∧ y = .ref p ∧ X.K.lookup p = some ⟨.type "dict", none, .dict es n, #[]⟩ ∧ PySem.W.KeysLit X.w.params es.toList ∧ (p == sysModules) = false ∧ PySem.W.nsIn X.K p z = some r ∧ Q (.bl (if g then r.isSome else !r.isSome)) H) ∨
  (∃ a o, y = .ref a ∧ DGet H a x o ∧ Q (.bl (if g then o.isSome else !o.isSome)) H)
theorem op_inY (hu : X.A.units + 65 < cLine) : OpR X (compareOp .In) (rInY X true) := by
  refine OpR.or op_in_str (OpR.or op_in_seq (OpR.or (op_inD hu) (OpR.or (op_inTD hu) (OpR.or (op_kin true) ?_))))
  intro pins s σ H x y v u Q I rx ry h
  obtain ⟨a, o, rfl, g, q⟩ := h
  obtain rfl : u = Value.ref a := ry
  exact d_in (by omega) I g rx fun s' I' => ⟨.bl _, H, I', rfl, q⟩
theorem op_ninY (hu : X.A.units + 65 < cLine) : OpR X (compareOp .NotIn) (rInY X false) := by
  refine OpR.or op_notIn_str (OpR.or op_notIn_seq (OpR.or (op_notInD hu) (OpR.or (op_ninTD hu) (OpR.or (op_kin false) ?_))))
  intro pins s σ H x y v u Q I rx ry h
  obtain ⟨a, o, rfl, g, q⟩ := h
  obtain rfl : u = Value.ref a := ry
  exact d_notIn (by omega) I g rx fun s' I' => ⟨.bl _, H, I', rfl, q⟩
theorem Dp.seqV {K : PySem.W.Frag} {H : Hp} {v : V} {ds : List PyData} {b : Bool} (h : Dp K H v (if b then .tuple ds else .list ds)) : ∃ p xs, v = .ref p ∧ (SqL K H p xs ∨ SqT K H p xs) ∧ DpAll K H xs ds := by
  cases b with
  | true =>
    have h : Dp K H v (.tuple ds) := h
    cases h with
    | tup h1 h2 => exact ⟨_, _, rfl, .inr h1, h2⟩
  | false =>
    have h : Dp K H v (.list ds) := h
    cases h with
    | lst h1 h2 => exact ⟨_, _, rfl, .inl h1, h2⟩
theorem flat_ofP {K : PySem.W.Frag} {Z : Hp} {d : PyData} {v : V} (h : Dp K Z v d) : flatV v = flatD d := by cases h <;> rfl
theorem eqV_ofP {K : PySem.W.Frag} {Z : Hp} {d e : PyData} {v w : V} (h : Dp K Z v d) (h' : Dp K Z w e) (f : flatD d = true) (f' : flatD e = true) : eqV v w = PyData.eqv d e := by
  cases h <;> cases h' <;> first | rfl | (simp [eqV, PyData.eqv]; done) | cases f | cases f'
theorem flatAll_ofP {K : PySem.W.Frag} {Z : Hp} : ∀ {vs : List V} {ds : List PyData}, DpAll K Z vs ds → vs.all flatV = ds.all flatD
  | _, _, .nil => rfl
  | _, _, .cons h t => by simp [flat_ofP h, flatAll_ofP t]
theorem inV_ofP {K : PySem.W.Frag} {Z : Hp} {d : PyData} {v : V} (h : Dp K Z v d) (f : flatD d = true) : ∀ {vs : List V} {ds : List PyData}, DpAll K Z vs ds → ds.all flatD = true → inV v vs = ds.any fun z => PyData.eqv z d
  | _, _, .nil, _ => rfl
  | _, _, .cons h1 t, q => by
    simp only [List.all_cons, Bool.and_eq_true] at q
    have ih := inV_ofP h f t q.2
    unfold inV at ih ⊢
    simp only [List.any_cons, ih, eqV_ofP h1 h q.1 f]
theorem items_dp {W : Wd} {K : PySem.W.Frag} {φ : List Addr} {Z H : Hp} {cs : Cs} {u : T} {w : V} {bb : Bool} {ds : List PyData} (S : Sim W K φ Z cs H) (r2 : Rep W K φ Z u w) (q : itemsD cs u = some (bb, ds)) : Dp K H w (if bb then .tuple ds else .list ds) := by
  unfold itemsD at q
  split at q
  · rename_i q2
    cases q
    exact S.toD r2 q2
  · rename_i q2
    cases q
    exact S.toD r2 q2
  · cases q
theorem ok_scan (g : Bool) {H : Hp} {v w : V} {Q : VK} {b bb : Bool} {ds : List PyData} {x : PyData} (hx : Dp X.K H v x) (hu : Dp X.K H w (if bb then .tuple ds else .list ds)) (e : scanD bb ds x = some b) (k : Q (.bl (if g then b else !b)) H) : rInY X g v w H Q := by
  unfold scanD at e
  by_cases hf : flatD x = true ∧ ds.all flatD = true
  · rw [if_pos hf] at e
    cases e
    obtain ⟨p, xs, rfl, h1, h2⟩ := Dp.seqV hu
    refine .inr (.inl ⟨p, xs, rfl, h1, by rw [flat_ofP hx]; exact hf.1, by rw [flatAll_ofP h2]; exact hf.2, ?_⟩)
    rw [inV_ofP hx hf.1 h2 hf.2]
    cases g <;> exact k
  · rw [if_neg hf] at e
    by_cases hs : SeqAt.shaped x = true ∧ SeqAt.shaped (if bb then .tuple ds else .list ds) = true
    · rw [if_pos hs] at e
      cases e
      cases bb with
      | false => exact .inr (.inr (.inl ⟨x, ds, hx, hu, hs.1, hs.2, k⟩))
      | true => exact .inr (.inr (.inr (.inl ⟨x, ds, hx, hu, hs.1, hs.2, k⟩)))
    · rw [if_neg hs] at e
      cases e
theorem ok_in_core (G : WOk W X.K X.w) (g : Bool) {φ : List Addr} {Z H : Hp} {cs : Cs} {t u : T} {v w : V} {Q : VK} {b : Bool} (S : Sim W X.K φ Z cs H) (r1 : Rep W X.K φ Z t v) (r2 : Rep W X.K φ Z u w) (e : inB W cs t u = some b)
    (k : Q (.bl (if g then b else !b)) H) : rInY X g v w H Q := by
  unfold inB at e
  split at e
  · cases e; cases r1.dStr; cases r2.dStr
    exact .inl ⟨_, _, rfl, rfl, k⟩
  · rename_i z n
    split at e
    · rename_i hne
      cases e; cases r1.dStr
      cases r2
      obtain ⟨es, m, h1, h2, h3, h4⟩ := G.kd n hne
      have h5 := h4 z
      cases q : getK (W.kdv n) z with
      | none =>
        rw [q] at h5 k
        exact .inr (.inr (.inr (.inr (.inl ⟨_, _, es, m, none, rfl, rfl, h1, h2, h3, h5, k⟩))))
      | some x =>
        rw [q] at h5 k
        obtain ⟨u0, v0, h6, h7, h8⟩ := h5
        exact .inr (.inr (.inr (.inr (.inl ⟨_, _, es, m, some u0, rfl, rfl, h1, h2, h3, h6, k⟩))))
    · cases e
  · split at e
    · have hx := S.toD r1 rfl
      have hu := items_dp S r2 (by assumption)
      exact ok_scan g hx hu e k
    · split at e
      · split at e
        · rename_i n _ _ _ kvs ky q1 q2
          cases e
          cases r2 with
          | ref h =>
            obtain ⟨_, vs, h1, h2⟩ := S.cell _ _ _ q1 h
            have h3 := RepKV.get ky h2
            rw [keyT_rep r1 q2]
            refine .inr (.inr (.inr (.inr (.inr ⟨_, valV vs ky, rfl, DGet.k h1, ?_⟩))))
            cases q : getK kvs ky with
            | none =>
              rw [q] at h3 k
              have h4 : valV vs ky = none := h3
              rw [h4]
              exact k
            | some x =>
              rw [q] at h3 k
              obtain ⟨v0, h4, h5⟩ := h3
              have h4 : valV vs ky = some v0 := h4
              rw [h4]
              exact k
        · cases e
      · cases e
theorem ok_in (G : WOk W X.K X.w) : OpOk W X.K (rInY X true) (inT W) := by
  intro φ Z cs H t u v w Q z cs' S r1 r2 e k
  unfold inT at e
  split at e
  · cases e
    exact ok_in_core G true S r1 r2 (by assumption) (fin0 S k (Rep.bool _))
  · cases e
theorem ok_nin (G : WOk W X.K X.w) : OpOk W X.K (rInY X false) (ninT W) := by
  intro φ Z cs H t u v w Q z cs' S r1 r2 e k
  unfold ninT at e
  split at e
  · cases e
    exact ok_in_core G false S r1 r2 (by assumption) (fin0 S k (Rep.bool _))
  · cases e
end
end Y
end
section
set_option Elab.async false
set_option linter.all false
set_option maxRecDepth 100000
set_option maxHeartbeats 1000000
namespace Y
open PySem PySem.Spec L2
/-! ### built-ins by name -/
def ClOk (W : Wd) (K : PySem.W.Frag) (r : List V → Hp → VK → Prop) (op : List T → Cs → R T) : Prop := ∀ φ Z cs H ts vs (Q : VK) z cs', Sim W K φ Z cs H → Reps W K φ Z ts vs → op ts cs = .ok z cs' →
  (∀ φ' Z' H' x, Ext φ Z H φ' Z' H' → Sim W K φ' Z' cs' H' → Rep W K φ' Z' z x → Q x H') → r vs H Q
def app (op : List T → Cs → R T) (g : AF) : EF := fun ρ cs => (g ρ cs).bind op
section
variable {W : Wd} {X : Cx} {x : Str} {p pos : Pos} {e : Expr} {es : List Expr} {g : AF} {id Ty : String} {r : List V → Hp → VK → Prop} {op : List T → Cs → R T}
theorem tE_app {K : PySem.W.Frag} {r : List V → Hp → VK → Prop} (hk : ClOk W K r op) {σ : St} {H : Hp} {Q : VK} (h : tE W K (app op g) σ H Q) : tCB r (tA W K g) σ H Q := by
  obtain ⟨φ, Z, ρ, cs, S, L, t, cs', e, k⟩ := h
  obtain ⟨t1, c1, e1, e⟩ := R.bind_inv e
  exact ⟨φ, Z, ρ, cs, S, L, t1, c1, e1, fun φ1 Z1 H1 vs x1 S1 r1 => hk _ _ _ _ _ _ _ _ _ S1 r1 e fun φ2 Z2 H2 y x2 S2 r2 => k _ _ _ _ (x1.trans x2) S2 r2⟩
theorem se_callB (hk : ClOk W X.K r op) (hc : CallR X (.builtin id) r) (hg : Gl X x) (hm : X.mg x = none) (hv : bootBuiltins x = some (.builtin id)) (ha : SA W X (e :: es) g) (hn : x ≠ "__name__" := by decide +kernel) (hdb : (x == ("__debug__" : Str)) = false := by decide +kernel)
    (he : starEach (e :: es) X.env = (false, eval e X.env) :: starEach es X.env := by rfl) (hpl : (backTo pos (starEach es X.env)).any (·.1) = false := by rfl) : SE W X (.Call (.Name x p) (e :: es) [] pos) (app op g) :=
  PE.imp (pe_callB hc hg hm hv ha hn hdb he hpl) fun _ _ _ h => tE_app hk h
theorem se_callTy (hk : ClOk W X.K r op) (hc : CallR X (.type Ty) r) (hg : Gl X x) (hm : X.mg x = none) (hv : bootBuiltins x = some (.type Ty)) (ha : SA W X (e :: es) g) (hn : x ≠ "__name__" := by decide +kernel) (hdb : (x == ("__debug__" : Str)) = false := by decide +kernel)
    (he : starEach (e :: es) X.env = (false, eval e X.env) :: starEach es X.env := by rfl) (hpl : (backTo pos (starEach es X.env)).any (·.1) = false := by rfl) : SE W X (.Call (.Name x p) (e :: es) [] pos) (app op g) :=
  PE.imp (pe_callTy hc hg hm hv ha hn hdb he hpl) fun _ _ _ h => tE_app hk h
theorem se_callF (hk : ClOk W X.K r op) (hc : CallR X (.builtin id) r) (hg : Gl X x) (hm : X.mg x = some (.builtin id)) (ha : SA W X (e :: es) g) (hdb : (x == ("__debug__" : Str)) = false := by decide +kernel)
    (he : starEach (e :: es) X.env = (false, eval e X.env) :: starEach es X.env := by rfl) (hpl : (backTo pos (starEach es X.env)).any (·.1) = false := by rfl) : SE W X (.Call (.Name x p) (e :: es) [] pos) (app op g) :=
  PE.imp (pe_callBfun hc hg hm ha hdb he hpl) fun _ _ _ h => tE_app hk h
theorem Reps.one {K : PySem.W.Frag} {φ : List Addr} {Z : Hp} {t : T} {vs : List V} (h : Reps W K φ Z [t] vs) : ∃ v, vs = [v] ∧ Rep W K φ Z t v := by
  cases h with | cons a b => cases b; exact ⟨_, rfl, a⟩
theorem Reps.two {K : PySem.W.Frag} {φ : List Addr} {Z : Hp} {t u : T} {vs : List V} (h : Reps W K φ Z [t, u] vs) : ∃ v w, vs = [v, w] ∧ Rep W K φ Z t v ∧ Rep W K φ Z u w := by
  cases h with | cons a b => cases b with | cons b c => cases c; exact ⟨_, _, rfl, a, b⟩
abbrev CT := List T → Cs → R T
def lenT : CT := fun ts cs => match ts with
  | [.d (.str s)] => if s.length ≤ sizeLine then .ok (.d (.int s.length)) cs else .stuck
  | [t] => (match asQ cs t with
    | some xs => .ok (.d (.int xs.length)) cs
    | none => .stuck)
  | _ => .stuck
theorem ok_len {K : PySem.W.Frag} : ClOk W K (fun xs H Q => ∃ x n, xs = [x] ∧ LenV K x H n ∧ Q (.int n) H) lenT := by
  intro φ Z cs H ts vs Q z cs' S r e k
  unfold lenT at e
  split at e
  · split at e
    · cases e
      obtain ⟨v, rfl, r1⟩ := Reps.one r
      cases r1.dStr
      exact ⟨_, _, rfl, ⟨by assumption, rfl⟩, fin0 S k (Rep.int _)⟩
    · cases e
  · split at e
    · cases e
      obtain ⟨v, rfl, r1⟩ := Reps.one r
      obtain ⟨a, vs, rfl, h1, h2⟩ := S.asQ r1 (by assumption)
      refine ⟨_, vs.length, rfl, ?_, ?_⟩
      · rcases h1 with h1 | h1
        · exact .inl ⟨vs, h1, rfl⟩
        · exact .inr ⟨vs, h1, rfl⟩
      · rw [← Paired.len h2]
        exact fin0 S k (Rep.int _)
    · cases e
  · cases e
/-- the type of a value -/
def tyT (cs : Cs) : T → Option String
  | .d .none => some "NoneType"
  | .d (.bool _) => some "bool"
  | .d (.int _) => some "int"
  | .d (.str _) => some "str"
  | .d (.tuple _) => some "tuple"
  | .d (.list _) => some "list"
  | .ref n => (match cs[n]? with
    | some (.lst _) => some "list"
    | some (.dk _) => some "dict"
    | _ => none)
  | _ => none
theorem Sim.ty {K : PySem.W.Frag} {φ : List Addr} {Z H : Hp} {cs : Cs} (S : Sim W K φ Z cs H) {t : T} {v : V} {n : String} (r : Rep W K φ Z t v) (e : tyT cs t = some n) : TyX K H v (.type n) := by
  unfold tyT at e
  split at e
  · cases e; cases r.dNone; exact .base .non
  · cases e; cases r.dBool; exact .base (.bl _)
  · cases e; cases r.dInt; exact .base (.int _)
  · cases e; cases r.dStr; exact .base (.str _)
  · cases e
    obtain ⟨a, vs, rfl, _, h, _⟩ := S.asT r rfl
    rcases h with h | ⟨o, its, m, h1, h2, _⟩
    · rcases h with h | ⟨o, h⟩
      · exact .base (.tup h)
      · exact .fTuple h
    · exact .kTuple h1 h2
  · cases e
    obtain ⟨a, vs, rfl, h, _⟩ := S.asM r rfl
    exact .base (.lst h)
  · split at e
    · rename_i q
      cases e
      cases r with
      | ref h =>
        obtain ⟨_, vs, h1, _⟩ := S.cell _ _ _ q h
        exact .base (.lst h1)
    · rename_i q
      cases e
      cases r with
      | ref h =>
        obtain ⟨_, vs, h1, _⟩ := S.cell _ _ _ q h
        exact .base (.dK h1)
    · cases e
  · cases e

/-- isinstance(x, T) of one built-in class -/
def isiT (c : String) : CT := fun ts cs => match ts with
  | [t] => (match tyT cs t with
    | some n => (match kitB n c with
      | some b => .ok (.d (.bool b)) cs
      | none => .stuck)
    | none => .stuck)
  | _ => .stuck
theorem se_isi {c : String} {p' : Pos} {cn : Str} {f : EF} (hg : Gl X "isinstance") (hm : X.mg "isinstance" = none) (ha : SE W X e f) (hg2 : Gl X cn) (hm2 : X.mg cn = none) (hv2 : bootBuiltins cn = some (.type c)) (hn2 : cn ≠ "__name__" := by decide +kernel)
    (hdb2 : (cn == ("__debug__" : Str)) = false := by decide +kernel) (hv : bootBuiltins "isinstance" = some (.builtin "isinstance") := by decide +kernel)
    (h1 : starEach [e, .Name cn p'] X.env = (false, eval e X.env) :: starEach [.Name cn p'] X.env := by rfl) (h2 : starEach [.Name cn p'] X.env = (false, eval (.Name cn p') X.env) :: starEach [] X.env := by rfl) (hpl : (backTo pos (starEach [.Name cn p'] X.env)).any (·.1) = false := by rfl) :
    SE W X (.Call (.Name "isinstance" p) [e, .Name cn p'] [] pos) (un (fun t cs => isiT c [t] cs) f) :=
  PE.imp (pe_callB call_isi hg hm hv (pa_cons ha (pa_cons (pe_bltn (v := .ty c) hg2 hm2 hv2 rfl hn2 hdb2) pa_nil h2) h1) (by decide +kernel) (by decide +kernel) h1 hpl) fun σ H Q h => by
    obtain ⟨φ, Z, ρ, cs, S, L, t, cs', e, k⟩ := h
    obtain ⟨t1, c1, e1, e⟩ := R.bind_inv e
    refine ⟨φ, Z, ρ, cs, S, L, t1, c1, e1, fun φ1 Z1 H1 v x1 S1 r1 => ?_⟩
    have e : isiT c [t1] c1 = .ok t cs' := e
    unfold isiT at e
    dsimp only at e
    split at e
    · rename_i n hn
      split at e
      · rename_i b hb
        cases e
        exact ⟨v, .ty c, _, _, b, rfl, .ty c, S1.ty r1 hn, kit_ty hb, k _ _ _ _ x1 S1 (Rep.bool b)⟩
      · cases e
    · cases e
/-- all(list), any(list) of bools -/
def boolsOf : List T → Option (List Bool)
  | [] => some []
  | .d (.bool b) :: r => (match boolsOf r with
    | some bs => some (b :: bs)
    | none => none)
  | _ :: _ => none
theorem bools_rep {K : PySem.W.Frag} {φ : List Addr} {Z : Hp} : ∀ {ts : List T} {vs : List V} {bs : List Bool}, Reps W K φ Z ts vs → boolsOf ts = some bs → vs = bs.map V.bl
  | _, _, _, .nil, e => by cases e; rfl
  | t :: ts, v :: vs, bs, .cons h r, e => by
    unfold boolsOf at e
    split at e
    · rename_i q
      cases q
    · rename_i b r' q
      cases q
      cases e2 : boolsOf ts with
      | none => rw [e2] at e; cases e
      | some bs' =>
        rw [e2] at e
        cases e
        cases h.dBool
        rw [bools_rep r e2]
        rfl
    · cases e
def intsOf : List T → Option (List Int)
  | [] => some []
  | .d (.int b) :: r => (match intsOf r with
    | some bs => some (b :: bs)
    | none => none)
  | _ :: _ => none
theorem ints_rep {K : PySem.W.Frag} {φ : List Addr} {Z : Hp} : ∀ {ts : List T} {vs : List V} {bs : List Int}, Reps W K φ Z ts vs → intsOf ts = some bs → vs = bs.map V.int
  | _, _, _, .nil, e => by cases e; rfl
  | t :: ts, v :: vs, bs, .cons h r, e => by
    unfold intsOf at e
    split at e
    · rename_i q
      cases q
    · rename_i b r' q
      cases q
      cases e2 : intsOf ts with
      | none => rw [e2] at e; cases e
      | some bs' =>
        rw [e2] at e
        cases e
        cases h.dInt
        rw [ints_rep r e2]
        rfl
    · cases e
def listB (g : List Bool → T) : CT := fun ts cs => match ts with
  | [t] => (match asL cs t with
    | some xs => (match boolsOf xs with
      | some bs => .ok (g bs) cs
      | none => .stuck)
    | none => .stuck)
  | _ => .stuck
def listI (g : List Int → T) : CT := fun ts cs => match ts with
  | [t] => (match asL cs t with
    | some xs => (match intsOf xs with
      | some bs => .ok (g bs) cs
      | none => .stuck)
    | none => .stuck)
  | _ => .stuck
theorem ok_listB {K : PySem.W.Frag} {g : List Bool → T} {gv : List Bool → V} (hg : ∀ φ Z bs, Rep W K φ Z (g bs) (gv bs)) : ClOk W K (fun vs H Q => ∃ (a : Addr) (bs : List Bool), vs = [V.ref a] ∧ SqL K H a (bs.map V.bl) ∧ Q (gv bs) H) (listB g) := by
  intro φ Z cs H ts vs Q z cs' S r e k
  unfold listB at e
  split at e
  · split at e
    · split at e
      · cases e
        obtain ⟨v, rfl, r1⟩ := Reps.one r
        obtain ⟨a, ws, rfl, h1, h2⟩ := S.asL r1 (by assumption)
        rw [bools_rep h2 (by assumption)] at h1
        exact ⟨a, _, rfl, h1, fin0 S k (hg _ _ _)⟩
      · cases e
    · cases e
  · cases e
theorem ok_listI {K : PySem.W.Frag} {g : List Int → T} {gv : List Int → V} (hg : ∀ φ Z bs, Rep W K φ Z (g bs) (gv bs)) : ClOk W K (fun vs H Q => ∃ (a : Addr) (bs : List Int), vs = [V.ref a] ∧ SqL K H a (bs.map V.int) ∧ Q (gv bs) H) (listI g) := by
  intro φ Z cs H ts vs Q z cs' S r e k
  unfold listI at e
  split at e
  · split at e
    · split at e
      · cases e
        obtain ⟨v, rfl, r1⟩ := Reps.one r
        obtain ⟨a, ws, rfl, h1, h2⟩ := S.asL r1 (by assumption)
        rw [ints_rep h2 (by assumption)] at h1
        exact ⟨a, _, rfl, h1, fin0 S k (hg _ _ _)⟩
      · cases e
    · cases e
  · cases e
def allT : CT := listB fun bs => .d (.bool (bs.all fun b => b))
def anyT : CT := listB fun bs => .d (.bool (bs.any fun b => b))
def sumT : CT := listI fun ns => .d (.int ns.sum)
theorem ok_all {K : PySem.W.Frag} : ClOk W K (rAll K) allT := ok_listB (gv := fun bs => .bl (bs.all _root_.id)) fun _ _ _ => Rep.bool _
theorem ok_any {K : PySem.W.Frag} : ClOk W K (rAny K) anyT := ok_listB (gv := fun bs => .bl (bs.any _root_.id)) fun _ _ _ => Rep.bool _
theorem ok_sum {K : PySem.W.Frag} : ClOk W K (rSum K) sumT := ok_listI (gv := fun bs => .int bs.sum) fun _ _ _ => Rep.int _
/-- tuple(x), list(x) of a list or a tuple -/
def tupleT : CT := fun ts cs => match ts with
  | [.d (.tuple ds)] => .ok (.d (.tuple ds)) cs
  | [t] => (match asL cs t with
    | some xs => (match allD xs with
      | some ds => .ok (.d (.tuple ds)) cs
      | none => .stuck)
    | none => .stuck)
  | _ => .stuck
theorem ok_tuple {K : PySem.W.Frag} : ClOk W K (fun xs H Q => ∃ p ys, xs = [.ref p] ∧ ((SqL K H p ys ∧ ∀ l, H l = none → Q (.ref l) (upd H l (.tup ys))) ∨ (SqT K H p ys ∧ Q (.ref p) H))) tupleT := by
  intro φ Z cs H ts vs Q z cs' S r e k
  unfold tupleT at e
  split at e
  · cases e
    obtain ⟨v, rfl, r1⟩ := Reps.one r
    obtain ⟨a, ws, rfl, _, h, _⟩ := S.asT r1 rfl
    exact ⟨a, ws, rfl, .inr ⟨h, fin0 S k r1⟩⟩
  · split at e
    · split at e
      · cases e
        obtain ⟨v, rfl, r1⟩ := Reps.one r
        obtain ⟨a, ws, rfl, h1, h2⟩ := S.asL r1 (by assumption)
        have q := allD_eq (by assumption)
        rw [q] at h2
        exact ⟨a, ws, rfl, .inl ⟨h1, finT S (Reps.all h2) k⟩⟩
      · cases e
    · cases e
  · cases e
def listT : CT := fun ts cs => match ts with
  | [t] => (match asQ cs t with
    | some xs => (match allD xs with
      | some ds => .ok (.d (.list ds)) cs
      | none => .stuck)
    | none => .stuck)
  | _ => .stuck
def listC : CT := fun ts cs => match ts with
  | [t] => (match asQ cs t with
    | some xs => .ok (.ref cs.length) (cs ++ [.lst xs])
    | none => .stuck)
  | _ => .stuck
theorem ok_list {K : PySem.W.Frag} : ClOk W K (fun xs H Q => ∃ p ys, xs = [.ref p] ∧ (SqL K H p ys ∨ SqT K H p ys) ∧ ∀ l, H l = none → Q (.ref l) (upd H l (.lst ys))) listT := by
  intro φ Z cs H ts vs Q z cs' S r e k
  unfold listT at e
  split at e
  · split at e
    · split at e
      · cases e
        obtain ⟨v, rfl, r1⟩ := Reps.one r
        obtain ⟨a, ws, rfl, h1, h2⟩ := S.asQ r1 (by assumption)
        have q := allD_eq (by assumption)
        rw [q] at h2
        exact ⟨a, ws, rfl, h1, finL S (Reps.all h2) k⟩
      · cases e
    · cases e
  · cases e
theorem ok_listC {K : PySem.W.Frag} : ClOk W K (fun xs H Q => ∃ p ys, xs = [.ref p] ∧ (SqL K H p ys ∨ SqT K H p ys) ∧ ∀ l, H l = none → Q (.ref l) (upd H l (.lst ys))) listC := by
  intro φ Z cs H ts vs Q z cs' S r e k
  unfold listC at e
  split at e
  · split at e
    · cases e
      obtain ⟨v, rfl, r1⟩ := Reps.one r
      obtain ⟨a, ws, rfl, h1, h2⟩ := S.asQ r1 (by assumption)
      exact ⟨a, ws, rfl, h1, finC S h2 k⟩
    · cases e
  · cases e
/-- ints in, a value out -/
def int1 (g : Int → T) : CT := fun ts cs => match ts with
  | [.d (.int a)] => .ok (g a) cs
  | _ => .stuck
def int2 (g : Int → Int → T) : CT := fun ts cs => match ts with
  | [.d (.int a), .d (.int b)] => .ok (g a b) cs
  | _ => .stuck
theorem ok_int1 {K : PySem.W.Frag} {g : Int → T} {gv : Int → V} (hg : ∀ φ Z a, Rep W K φ Z (g a) (gv a)) : ClOk W K (fun xs H Q => ∃ i, xs = [.int i] ∧ Q (gv i) H) (int1 g) := by
  intro φ Z cs H ts vs Q z cs' S r e k
  unfold int1 at e
  split at e
  · cases e
    obtain ⟨v, rfl, r1⟩ := Reps.one r
    cases r1.dInt
    exact ⟨_, rfl, fin0 S k (hg _ _ _)⟩
  · cases e
theorem ok_int2 {K : PySem.W.Frag} {g : Int → Int → T} {gv : Int → Int → V} (hg : ∀ φ Z a b, Rep W K φ Z (g a b) (gv a b)) : ClOk W K (fun xs H Q => ∃ i j, xs = [.int i, .int j] ∧ Q (gv i j) H) (int2 g) := by
  intro φ Z cs H ts vs Q z cs' S r e k
  unfold int2 at e
  split at e
  · cases e
    obtain ⟨v, w, rfl, r1, r2⟩ := Reps.two r
    cases r1.dInt
    cases r2.dInt
    exact ⟨_, _, rfl, fin0 S k (hg _ _ _ _)⟩
  · cases e
def absT : CT := int1 fun i => .d (.int (if i < 0 then -i else i))
def max2T : CT := int2 fun i j => .d (.int (if j > i then j else i))
def min2T : CT := int2 fun i j => .d (.int (if j < i then j else i))
def gcdT : CT := int2 fun a b => .d (.int ((Nat.gcd a.natAbs b.natAbs : Nat) : Int))
theorem ok_abs {K : PySem.W.Frag} : ClOk W K (fun xs H Q => ∃ i, xs = [.int i] ∧ Q (.int (if i < 0 then -i else i)) H) absT := ok_int1 (gv := fun i => .int (if i < 0 then -i else i)) fun _ _ _ => Rep.int _
theorem ok_max2 {K : PySem.W.Frag} : ClOk W K (fun xs H Q => ∃ i j, xs = [.int i, .int j] ∧ Q (.int (if j > i then j else i)) H) max2T := ok_int2 (gv := fun i j => .int (if j > i then j else i)) fun _ _ _ _ => Rep.int _
theorem ok_min2 {K : PySem.W.Frag} : ClOk W K (fun xs H Q => ∃ i j, xs = [.int i, .int j] ∧ Q (.int (if j < i then j else i)) H) min2T := ok_int2 (gv := fun i j => .int (if j < i then j else i)) fun _ _ _ _ => Rep.int _
theorem ok_gcd {K : PySem.W.Frag} : ClOk W K rGcd gcdT := ok_int2 (gv := fun a b => .int ((Nat.gcd a.natAbs b.natAbs : Nat) : Int)) fun _ _ _ _ => Rep.int _
/-- int(x) of an int or a bool, of a text of figures -/
def intT : CT := fun ts cs => match ts with
  | [.d (.int a)] => .ok (.d (.int a)) cs
  | [.d (.bool b)] => .ok (.d (.int (if b then 1 else 0))) cs
  | [.d (.str s)] => (match PySem.intText? s with
    | some n => if s.length ≤ 640 then .ok (.d (.int n)) cs else .stuck
    | none => .stuck)
  | _ => .stuck
theorem call_intY : CallR X (.type "int") (fun xs H Q => ((∃ i, xs = [.int i] ∧ Q (.int i) H) ∨ ∃ k, xs = [.bl k] ∧ Q (.int (if k then 1 else 0)) H) ∨ (∃ a n, xs = [.str a] ∧ PySem.intText? a = some n ∧ a.length ≤ 640 ∧ Q (.int n) H)) := CallR.or call_int1 call_int_str
theorem ok_int {K : PySem.W.Frag} : ClOk W K (fun xs H Q => ((∃ i, xs = [.int i] ∧ Q (.int i) H) ∨ ∃ k, xs = [.bl k] ∧ Q (.int (if k then 1 else 0)) H) ∨ (∃ a n, xs = [.str a] ∧ PySem.intText? a = some n ∧ a.length ≤ 640 ∧ Q (.int n) H)) intT := by
  intro φ Z cs H ts vs Q z cs' S r e k
  unfold intT at e
  split at e
  · cases e
    obtain ⟨v, rfl, r1⟩ := Reps.one r
    cases r1.dInt
    exact .inl (.inl ⟨_, rfl, fin0 S k (Rep.int _)⟩)
  · cases e
    obtain ⟨v, rfl, r1⟩ := Reps.one r
    cases r1.dBool
    exact .inl (.inr ⟨_, rfl, fin0 S k (Rep.int _)⟩)
  · split at e
    · split at e
      · cases e
        obtain ⟨v, rfl, r1⟩ := Reps.one r
        cases r1.dStr
        exact .inr ⟨_, _, rfl, by assumption, by assumption, fin0 S k (Rep.int _)⟩
      · cases e
    · cases e
  · cases e
/-- str(n), str(text) -/
def strT : CT := fun ts cs => match ts with
  | [.d (.int a)] => if a.natAbs.log2 < 1920 then .ok (.d (.str (toString a : String))) cs else .stuck
  | [.d (.str x)] => .ok (.d (.str x)) cs
  | _ => .stuck
theorem call_strY : CallR X (.type "str") (fun xs H Q => (∃ i, xs = [.int i] ∧ i.natAbs.log2 < 1920 ∧ Q (.str (toString i : String)) H) ∨ ∃ a, xs = [.str a] ∧ Q (.str a) H) := CallR.or call_str_int SkE.call_str_str
theorem ok_str {K : PySem.W.Frag} : ClOk W K (fun xs H Q => (∃ i, xs = [.int i] ∧ i.natAbs.log2 < 1920 ∧ Q (.str (toString i : String)) H) ∨ ∃ a, xs = [.str a] ∧ Q (.str a) H) strT := by
  intro φ Z cs H ts vs Q z cs' S r e k
  unfold strT at e
  split at e
  · split at e
    · cases e
      obtain ⟨v, rfl, r1⟩ := Reps.one r
      cases r1.dInt
      exact .inl ⟨_, rfl, by assumption, fin0 S k (Rep.str _)⟩
    · cases e
  · cases e
    obtain ⟨v, rfl, r1⟩ := Reps.one r
    cases r1.dStr
    exact .inr ⟨_, rfl, fin0 S k (Rep.str _)⟩
  · cases e
/-- divmod -/
def divmodT : CT := fun ts cs => match ts with
  | [.d (.int a), .d (.int b)] => if 0 < b ∧ Builtin.divisionGoesByPylong a b = false then .ok (.d (.tuple [.int (a / b), .int (a % b)])) cs else .stuck
  | _ => .stuck
theorem ok_divmod {K : PySem.W.Frag} : ClOk W K (fun xs H Q => ∃ i j, xs = [.int i, .int j] ∧ CDivP i j ∧ ∀ p, H p = none → Q (.ref p) (upd H p (.tup [.int (i / j), .int (i % j)]))) divmodT := by
  intro φ Z cs H ts vs Q z cs' S r e k
  unfold divmodT at e
  split at e
  · split at e
    · cases e
      obtain ⟨v, w, rfl, r1, r2⟩ := Reps.two r
      cases r1.dInt
      cases r2.dInt
      exact ⟨_, _, rfl, by assumption, finT S (.cons (.int _) (.cons (.int _) .nil)) k⟩
    · cases e
  · cases e
end
end Y
end
section
set_option Elab.async false
set_option linter.all false
set_option maxRecDepth 100000
set_option maxHeartbeats 1000000
namespace Y
open PySem PySem.Spec L2
/-! ### targets -/
inductive Pat where
  | nm (i : Nat)
  | tp (ps : List Pat)
mutual
def asgP : Pat → T → Cs → Rho → Option Rho
  | .nm i, t, _, ρ => some (ρ.set i (some t))
  | .tp ps, t, cs, ρ => (match asQ cs t with
    | some xs => asgPs ps xs cs ρ
    | none => none)
def asgPs : List Pat → List T → Cs → Rho → Option Rho
  | [], [], _, ρ => some ρ
  | p :: ps, x :: xs, cs, ρ => (match asgP p x cs ρ with
    | some ρ1 => asgPs ps xs cs ρ1
    | none => none)
  | _, _, _, _ => none
end
/-! the slots of a target -/
mutual
def Pat.slots : Pat → List Nat
  | .nm i => [i]
  | .tp ps => Pat.slotsL ps
def Pat.slotsL : List Pat → List Nat
  | [] => []
  | p :: ps => p.slots ++ Pat.slotsL ps
end
def SameBut (l : List Nat) (σ σ' : St) : Prop := σ'.length = σ.length ∧ ∀ i, i ∉ l → σ'[i]? = σ[i]?
theorem SameBut.refl (l : List Nat) (σ : St) : SameBut l σ σ := ⟨rfl, fun _ _ => rfl⟩
theorem SameBut.trans {l l' : List Nat} {σ σ' σ'' : St} (a : SameBut l σ σ') (b : SameBut l' σ' σ'') : SameBut (l ++ l') σ σ'' :=
  ⟨b.1.trans a.1, fun i h => by rw [List.mem_append, not_or] at h; rw [b.2 i h.2, a.2 i h.1]⟩
theorem SameBut.set (i : Nat) (v : Option V) (σ : St) : SameBut [i] σ (σ.set i v) := ⟨by simp, fun j h => by
  have : i ≠ j := fun e => h (by simp [e])
  rw [List.getElem?_set_ne this]⟩
theorem wipe_get (σ : St) : ∀ (vs : List Nat) (i : Nat), (wipe σ vs)[i]? = if i ∈ vs then (if i < σ.length then some none else none) else σ[i]?
  | [], i => by simp [wipe]
  | v :: vs, i => by
    unfold wipe
    have ih := wipe_get σ vs i
    by_cases h : v = i
    · subst h
      by_cases hl : v < σ.length
      · rw [List.getElem?_set_self (by rw [wipe_length]; exact hl)]
        simp [hl]
      · rw [List.getElem?_eq_none (by rw [List.length_set, wipe_length]; omega)]
        simp [hl]
    · rw [List.getElem?_set_ne h, ih]
      have e : (i ∈ v :: vs) ↔ i ∈ vs := by
        simp only [List.mem_cons]
        exact ⟨fun q => q.elim (fun z => absurd z.symm h) _root_.id, .inr⟩
      simp only [e]
theorem SameBut.wipe {l vs : List Nat} {σ σ' : St} (h : SameBut l σ σ') (hs : ∀ i ∈ l, i ∈ vs) : L2.wipe σ' vs = L2.wipe σ vs := by
  apply List.ext_getElem?
  intro i
  rw [wipe_get, wipe_get, h.1]
  by_cases hi : i ∈ vs
  · rw [if_pos hi, if_pos hi]
  · rw [if_neg hi, if_neg hi, h.2 i fun q => hi (hs i q)]
theorem asgPs_len : ∀ {ps : List Pat} {xs : List T} {cs : Cs} {ρ ρ' : Rho}, asgPs ps xs cs ρ = some ρ' → ps.length = xs.length
  | [], [], _, _, _, _ => rfl
  | p :: ps, x :: xs, cs, ρ, ρ', h => by
    unfold asgPs at h
    cases e : asgP p x cs ρ with
    | none => rw [e] at h; cases h
    | some ρ1 => rw [e] at h; simp [asgPs_len h]
  | [], _ :: _, _, _, _, h => by unfold asgPs at h; cases h
  | _ :: _, [], _, _, _, h => by unfold asgPs at h; cases h
section
variable (W : Wd) (K : PySem.W.Frag)
def tG (p : Pat) : TG := fun v σ H Q => ∃ φ Z ρ cs t ρ', Sim W K φ Z cs H ∧ Slots W K φ Z ρ σ ∧ Rep W K φ Z t v ∧ asgP p t cs ρ = some ρ' ∧ ∀ σ', Slots W K φ Z ρ' σ' → SameBut p.slots σ σ' → Q σ' H
def tGs (ps : List Pat) : TGs := fun vs σ H Q => ∃ φ Z ρ cs ts ρ', Sim W K φ Z cs H ∧ Slots W K φ Z ρ σ ∧ Reps W K φ Z ts vs ∧ asgPs ps ts cs ρ = some ρ' ∧ ∀ σ', Slots W K φ Z ρ' σ' → SameBut (Pat.slotsL ps) σ σ' → Q σ' H
end
def SG (W : Wd) (X : Cx) (e : Expr) (p : Pat) : Prop := PG X e (tG W X.K p)
def SGs (W : Wd) (X : Cx) (es : List Expr) (ps : List Pat) : Prop := PGs X es (tGs W X.K ps)
section
variable {W : Wd} {X : Cx} {pos : Pos}
theorem sg_name {i : Nat} {x : Str} (hN : X.N.Nodup) (hi : X.N[i]? = some x) (hx : Loc X.env.scope x) (hf : X.fn x = true ∨ X.env.scope.names.lookup x = some .local := by first | exact .inl rfl | exact .inr rfl) : SG W X (.Name x pos) (.nm i) :=
  ⟨fun pins s σ H v u Q I r h => (pg_name (i := i) hN hi hx hf).run pins s σ H v u Q I r (by
    obtain ⟨φ, Z, ρ, cs, t, ρ', S, L, r, e, k⟩ := h
    unfold asgP at e
    cases e
    exact k _ (L.set r i) (SameBut.set i _ _))⟩
theorem sgs_nil : SGs W X [] [] := ⟨fun pins s σ H vs us Q I r h => pgs_nil.run pins s σ H vs us Q I r (by
    obtain ⟨φ, Z, ρ, cs, ts, ρ', S, L, r, e, k⟩ := h
    cases ts with
    | nil =>
      unfold asgPs at e
      cases e
      cases r
      exact ⟨rfl, k _ L (SameBut.refl _ _)⟩
    | cons _ _ => unfold asgPs at e; cases e)⟩
theorem sgs_cons {e : Expr} {es : List Expr} {p : Pat} {ps : List Pat} (h1 : SG W X e p) (h2 : SGs W X es ps)
    (hs : (assignEach (e :: es) X.env).map (·.2) = assign e X.env :: (assignEach es X.env).map (·.2) := by rfl) : SGs W X (e :: es) (p :: ps) := ⟨fun pins s σ H vs us Q I r h => (pgs_cons h1 h2 hs).run pins s σ H vs us Q I r (by
    obtain ⟨φ, Z, ρ, cs, ts, ρ', S, L, r, e, k⟩ := h
    cases ts with
    | nil => unfold asgPs at e; cases e
    | cons t ts =>
      unfold asgPs at e
      cases e1 : asgP p t cs ρ with
      | none => rw [e1] at e; cases e
      | some ρ1 =>
        rw [e1] at e
        cases r with
        | cons ra rb => exact ⟨_, _, rfl, φ, Z, ρ, cs, t, ρ1, S, L, ra, e1, fun σ' L' s1 => ⟨φ, Z, ρ1, cs, ts, ρ', S, L', rb, e, fun σ2 L2 s2 => k σ2 L2 (s1.trans s2)⟩⟩)⟩
theorem sg_tup {es : List Expr} {k : Nat} {ps : List Pat} (hc : X.calm = true) (h : SGs W X es ps) (hn : (assignEach es X.env).length = ps.length := by rfl) (hst : (assignEach es X.env).findIdx? (·.1) = none := by rfl) : SG W X (.Tuple es k pos) (.tp ps) :=
  ⟨fun pins s σ H v u Q I r hq => by
    obtain ⟨φ, Z, ρ, cs, t, ρ', S, L, rt, e, kk⟩ := hq
    unfold asgP at e
    split at e
    · rename_i xs q
      obtain ⟨a, vs, rfl, h1, h2⟩ := S.asQ rt q
      have hl : vs.length = ps.length := by rw [asgPs_len e, Paired.len h2]
      rcases h1 with h1 | h1
      · exact (pg_unl hc h hn hst).run pins s σ H _ u Q I r ⟨a, vs, rfl, h1, hl, φ, Z, ρ, cs, xs, ρ', S, L, h2, e, kk⟩
      · exact (pg_tup hc h hn hst).run pins s σ H _ u Q I r ⟨a, vs, rfl, h1, hl, φ, Z, ρ, cs, xs, ρ', S, L, h2, e, kk⟩
    · cases e⟩
end
/-! ### statements -/
def setS (i : Nat) (f : EF) : SF := fun ρ cs => match f ρ cs with
  | .ok t c => .nx (ρ.set i (some t)) c
  | .stuck => .stuck
def asgS (p : Pat) (f : EF) : SF := fun ρ cs => match f ρ cs with
  | .ok t c => (match asgP p t c ρ with
    | some ρ1 => .nx ρ1 c
    | none => .stuck)
  | .stuck => .stuck
def parS (i j : Nat) (g : AF) : SF := fun ρ cs => match g ρ cs with
  | .ok [t, u] c => .nx ((ρ.set i (some t)).set j (some u)) c
  | _ => .stuck
def par3S (i j l : Nat) (g : AF) : SF := fun ρ cs => match g ρ cs with
  | .ok [t, u, w] c => .nx (((ρ.set i (some t)).set j (some u)).set l (some w)) c
  | _ => .stuck
def expS (f : EF) : SF := fun ρ cs => match f ρ cs with
  | .ok _ c => .nx ρ c
  | .stuck => .stuck
def retS (f : EF) : SF := fun ρ cs => match f ρ cs with
  | .ok t c => .rt t c
  | .stuck => .stuck
def retN : SF := fun _ cs => .rt (.d .none) cs
def passS : SF := fun ρ cs => .nx ρ cs
def bkS : SF := fun ρ cs => .bk ρ cs
def ctS : SF := fun ρ cs => .ct ρ cs
def neverS : SF := fun _ _ => .stuck
def seqS (a b : SF) : SF := fun ρ cs => match a ρ cs with
  | .nx ρ1 c1 => b ρ1 c1
  | r => r
def ifS (t : BF) (a b : SF) : SF := fun ρ cs => match t ρ cs with
  | .ok k c => if k = true then a ρ c else b ρ c
  | .stuck => .stuck
section
variable {W : Wd} {X : Cx} {pos : Pos} {f : EF} {a b : SF}
theorem ss_set {i : Nat} {x : Str} {e : Expr} {pos' : Pos} (hN : X.N.Nodup) (hi : X.N[i]? = some x) (hx : Loc X.env.scope x) (he : SE W X e f) (hs : swapsWith e (some (.Name x pos')) pos.line X.env = pure false := by rfl) (hf : X.fn x = true ∨ X.env.scope.names.lookup x = some .local := by first | exact .inl rfl | exact .inr rfl) :
    SS W X (.Assign [.Name x pos'] e pos) (setS i f) := PS.imp (ps_set hN hi hx he hs hf) fun D σ H h => by
  obtain ⟨φ, Z, ρ, cs, S, L, h⟩ := h
  unfold setS at h
  split at h
  · rename_i t c e1
    exact ⟨φ, Z, ρ, cs, S, L, t, c, e1, fun φ' Z' H' v x' S' r' => h φ' Z' H' _ x' S' ((L.ext x').set r' i)⟩
  · exact h.elim
theorem ss_asg {tg e : Expr} {p : Pat} (he : SE W X e f) (hg : SG W X tg p) (hs : swapsWithSole [tg] e pos.line X.env = pure false := by rfl) (hw : swappedStores [tg] e X.env = pure none := by rfl)
    (h1 : (assignEach [tg] X.env).map (·.2) = [assign tg X.env] := by rfl) : SS W X (.Assign [tg] e pos) (asgS p f) := PS.imp (ps_asg he hg hs hw h1) fun D σ H h => by
  obtain ⟨φ, Z, ρ, cs, S, L, h⟩ := h
  unfold asgS at h
  split at h
  · rename_i t c e1
    split at h
    · rename_i ρ1 e2
      exact ⟨φ, Z, ρ, cs, S, L, t, c, e1, fun φ' Z' H' v x' S' r' => ⟨φ', Z', ρ, c, t, ρ1, S', L.ext x', r', e2, fun σ' L' _ => h φ' Z' H' σ' x' S' L'⟩⟩
    · exact h.elim
  · exact h.elim
theorem ss_par {i j : Nat} {x y : Str} {a b : Expr} {g : AF} {px py pt : Pos} {kt k2 pt2} (hc : X.calm = true) (hN : X.N.Nodup) (hi : X.N[i]? = some x) (hj : X.N[j]? = some y) (hij : i ≠ j)
    (hx : X.env.scope.names.lookup x = some .local) (hy : X.env.scope.names.lookup y = some .local) (ha : SA W X [a, b] g)
    (hw : swappedStores [.Tuple [.Name x px, .Name y py] kt pt] (.Tuple [a, b] k2 pt2) X.env = pure (some [x, y]) := by rfl)
    (hs : swapsWithSole [.Tuple [.Name x px, .Name y py] kt pt] (.Tuple [a, b] k2 pt2) pos.line X.env = pure false := by rfl) :
    SS W X (.Assign [.Tuple [.Name x px, .Name y py] kt pt] (.Tuple [a, b] k2 pt2) pos) (parS i j g) := PS.imp (ps_par hc hN hi hj hij hx hy ha hw hs) fun D σ H h => by
  obtain ⟨φ, Z, ρ, cs, S, L, h⟩ := h
  unfold parS at h
  split at h
  · rename_i t u c e1
    refine ⟨φ, Z, ρ, cs, S, L, _, c, e1, fun φ' Z' H' vs x' S' r' => ?_⟩
    obtain ⟨v, w, rfl, r1, r2⟩ := Reps.two r'
    exact ⟨v, w, rfl, h φ' Z' H' _ x' S' (((L.ext x').set r1 i).set r2 j)⟩
  · exact h.elim
theorem ss_par3 {i j l : Nat} {x y z : Str} {a b c : Expr} {g : AF} {px py pz pt : Pos} {kt k2 pt2} (hc : X.calm = true) (hN : X.N.Nodup) (hi : X.N[i]? = some x) (hj : X.N[j]? = some y) (hl : X.N[l]? = some z) (hij : i ≠ j) (hil : i ≠ l) (hjl : j ≠ l)
    (hx : X.env.scope.names.lookup x = some .local) (hy : X.env.scope.names.lookup y = some .local) (hz : X.env.scope.names.lookup z = some .local) (ha : SA W X [a, b, c] g)
    (hw : swappedStores [.Tuple [.Name x px, .Name y py, .Name z pz] kt pt] (.Tuple [a, b, c] k2 pt2) X.env = pure (some [x, y, z]) := by rfl)
    (hs : swapsWithSole [.Tuple [.Name x px, .Name y py, .Name z pz] kt pt] (.Tuple [a, b, c] k2 pt2) pos.line X.env = pure false := by rfl) :
    SS W X (.Assign [.Tuple [.Name x px, .Name y py, .Name z pz] kt pt] (.Tuple [a, b, c] k2 pt2) pos) (par3S i j l g) := PS.imp (ps_par3 hc hN hi hj hl hij hil hjl hx hy hz ha hw hs) fun D σ H h => by
  obtain ⟨φ, Z, ρ, cs, S, L, h⟩ := h
  unfold par3S at h
  split at h
  · rename_i t u w c e1
    refine ⟨φ, Z, ρ, cs, S, L, _, c, e1, fun φ' Z' H' vs x' S' r' => ?_⟩
    cases r' with
    | cons r1 r' =>
      obtain ⟨v2, v3, rfl, r2, r3⟩ := Reps.two r'
      exact ⟨_, _, _, rfl, h φ' Z' H' _ x' S' ((((L.ext x').set r1 i).set r2 j).set r3 l)⟩
  · exact h.elim
theorem ss_expr {e : Expr} (he : SE W X e f) (hs : swapsWith e none pos.line X.env = pure false := by rfl) : SS W X (.Expr e pos) (expS f) := PS.imp (ps_expr he hs) fun D σ H h => by
  obtain ⟨φ, Z, ρ, cs, S, L, h⟩ := h
  unfold expS at h
  split at h
  · rename_i t c e1
    exact ⟨φ, Z, ρ, cs, S, L, t, c, e1, fun φ' Z' H' v x' S' r' => h φ' Z' H' _ x' S' (L.ext x')⟩
  · exact h.elim
theorem ss_doc {x : Str} {j : Nat} {pos' : Pos} : SS W X (.Expr (.Constant (.str x) j pos) pos') passS := PS.imp ps_doc fun D σ H h => by
  obtain ⟨φ, Z, ρ, cs, S, L, h⟩ := h
  exact h _ _ _ _ (Ext.refl _ _ _) S L
theorem ss_ret {e : Expr} (he : SE W X e f) : SS W X (.Return (some e) pos) (retS f) := PS.imp (ps_ret he) fun D σ H h => by
  obtain ⟨φ, Z, ρ, cs, S, L, h⟩ := h
  unfold retS at h
  split at h
  · rename_i t c e1
    exact ⟨φ, Z, ρ, cs, S, L, t, c, e1, fun φ' Z' H' v x' S' r' => h φ' Z' H' _ x' S' r'⟩
  · exact h.elim
theorem ss_retN : SS W X (.Return none pos) retN := PS.imp ps_retN fun D σ H h => by
  obtain ⟨φ, Z, ρ, cs, S, L, h⟩ := h
  exact h _ _ _ _ (Ext.refl _ _ _) S Rep.none
theorem ss_pass : SS W X (.Pass pos) passS := PS.imp ps_pass fun D σ H h => by
  obtain ⟨φ, Z, ρ, cs, S, L, h⟩ := h
  exact h _ _ _ _ (Ext.refl _ _ _) S L
theorem ss_break : SS W X (.Break pos) bkS := PS.imp ps_break fun D σ H h => by
  obtain ⟨φ, Z, ρ, cs, S, L, h⟩ := h
  exact h _ _ _ _ (Ext.refl _ _ _) S L
theorem ss_continue : SS W X (.Continue pos) ctS := PS.imp ps_continue fun D σ H h => by
  obtain ⟨φ, Z, ρ, cs, S, L, h⟩ := h
  exact h _ _ _ _ (Ext.refl _ _ _) S L
theorem ss_never {st : Stmt} : SS W X st neverS := PS.imp ps_never fun D σ H h => by
  obtain ⟨φ, Z, ρ, cs, S, L, h⟩ := h
  exact h
theorem endS_ext {K : PySem.W.Frag} {D : Ends} {φ φ1 : List Addr} {Z H Z1 H1 : Hp} (x : Ext φ Z H φ1 Z1 H1) {r : RS} (h : endS W K D φ Z H r) : endS W K D φ1 Z1 H1 r := by
  cases r with
  | nx ρ c => exact fun φ' Z' H' σ' x' S' L' => h _ _ _ _ (x.trans x') S' L'
  | rt t c => exact fun φ' Z' H' σ' x' S' L' => h _ _ _ _ (x.trans x') S' L'
  | bk ρ c => exact fun φ' Z' H' σ' x' S' L' => h _ _ _ _ (x.trans x') S' L'
  | ct ρ c => exact fun φ' Z' H' σ' x' S' L' => h _ _ _ _ (x.trans x') S' L'
  | stuck => exact h
theorem ss_if {c : Expr} {t : BF} {p q : List Stmt} (hc : SB W X c t) (ha : SSs W X p a) (hb : SSs W X q b) : SS W X (.If c p q pos) (ifS t a b) := PS.imp (ps_if hc ha hb) fun D σ H h => by
  obtain ⟨φ, Z, ρ, cs, S, L, h⟩ := h
  unfold ifS at h
  split at h
  · rename_i k c e1
    refine ⟨φ, Z, ρ, cs, S, L, k, c, e1, fun φ' Z' H' x' S' => ?_⟩
    by_cases hk : k = true
    · rw [if_pos hk] at h; rw [if_pos hk]
      exact ⟨φ', Z', ρ, c, S', L.ext x', endS_ext x' h⟩
    · rw [if_neg hk] at h; rw [if_neg hk]
      exact ⟨φ', Z', ρ, c, S', L.ext x', endS_ext x' h⟩
  · exact h.elim
theorem sss_nil : SSs W X [] passS := PSs.imp pss_nil fun D σ H h => by
  obtain ⟨φ, Z, ρ, cs, S, L, h⟩ := h
  exact h _ _ _ _ (Ext.refl _ _ _) S L
theorem sss_cons {st : Stmt} {rest : List Stmt} (h1 : SS W X st a) (h2 : SSs W X rest b) : SSs W X (st :: rest) (seqS a b) := PSs.imp (pss_cons h1 h2) fun D σ H h => by
  obtain ⟨φ, Z, ρ, cs, S, L, h⟩ := h
  refine ⟨φ, Z, ρ, cs, S, L, ?_⟩
  unfold seqS at h
  cases e : a ρ cs with
  | nx ρ1 c1 =>
    rw [e] at h
    exact fun φ' Z' H' σ' x' S' L' => ⟨φ', Z', ρ1, c1, S', L', endS_ext x' h⟩
  | rt t c => rw [e] at h; exact h
  | bk ρ1 c1 => rw [e] at h; exact h
  | ct ρ1 c1 => rw [e] at h; exact h
  | stuck => rw [e] at h; exact h
theorem sss_one {st : Stmt} (h1 : SS W X st a) : SSs W X [st] a := PSs.imp (pss_one h1) fun D σ H h => h
theorem sss_never {sts : List Stmt} : SSs W X sts neverS := PSs.imp pss_never fun D σ H h => by
  obtain ⟨φ, Z, ρ, cs, S, L, h⟩ := h
  exact h
end
end Y
end
section
set_option Elab.async false
set_option linter.all false
set_option maxRecDepth 100000
set_option maxHeartbeats 1000000
namespace Y
open PySem PySem.Spec L2
/-! ### while -/
def whileN (t : BF) (b : SF) : Nat → SF
  | 0, _, _ => .stuck
  | n + 1, ρ, cs => match t ρ cs with
    | .stuck => .stuck
    | .ok k c => if k = true then (match b ρ c with
      | .nx ρ2 c2 => whileN t b n ρ2 c2
      | .ct ρ2 c2 => whileN t b n ρ2 c2
      | .bk ρ2 c2 => .nx ρ2 c2
      | r => r) else .nx ρ c
theorem whileN_mono {t : BF} {b : SF} : ∀ {n : Nat} {ρ : Rho} {cs : Cs} {r : RS}, whileN t b n ρ cs = r → r ≠ .stuck → whileN t b (n + 1) ρ cs = r
  | 0, ρ, cs, r, h, hr => absurd h.symm hr
  | n + 1, ρ, cs, r, h, hr => by
    unfold whileN at h ⊢
    cases e : t ρ cs with
    | stuck => rw [e] at h; exact h
    | ok k c =>
      rw [e] at h
      dsimp only at h ⊢
      by_cases hk : k = true
      · rw [if_pos hk] at h ⊢
        cases e2 : b ρ c with
        | nx ρ2 c2 => rw [e2] at h; dsimp only at h ⊢; exact whileN_mono h hr
        | ct ρ2 c2 => rw [e2] at h; dsimp only at h ⊢; exact whileN_mono h hr
        | bk ρ2 c2 => rw [e2] at h; exact h
        | rt v c2 => rw [e2] at h; exact h
        | stuck => rw [e2] at h; exact h
      · rw [if_neg hk] at h ⊢
        exact h
theorem whileN_le {t : BF} {b : SF} {n m : Nat} (hm : n ≤ m) {ρ : Rho} {cs : Cs} {r : RS} (h : whileN t b n ρ cs = r) (hr : r ≠ .stuck) : whileN t b m ρ cs = r := by
  induction hm with
  | refl => exact h
  | step _ ih => exact whileN_mono ih hr
open Classical in
noncomputable def whileS (t : BF) (b : SF) : SF := fun ρ cs => if h : ∃ n, whileN t b n ρ cs ≠ .stuck then whileN t b h.choose ρ cs else .stuck
theorem whileS_of {t : BF} {b : SF} {n : Nat} {ρ : Rho} {cs : Cs} {r : RS} (h : whileN t b n ρ cs = r) (hr : r ≠ .stuck) : whileS t b ρ cs = r := by
  have hx : ∃ n, whileN t b n ρ cs ≠ .stuck := ⟨n, by rw [h]; exact hr⟩
  unfold whileS
  rw [dif_pos hx]
  have h1 := hx.choose_spec
  have h2 := whileN_le (Nat.le_max_left hx.choose n) rfl h1
  have h3 := whileN_le (Nat.le_max_right hx.choose n) h hr
  rw [← h2, h3]
theorem whileS_ex {t : BF} {b : SF} {ρ : Rho} {cs : Cs} (h : whileS t b ρ cs ≠ .stuck) : ∃ n, whileN t b n ρ cs = whileS t b ρ cs := by
  unfold whileS at h ⊢
  by_cases hx : ∃ n, whileN t b n ρ cs ≠ .stuck
  · rw [dif_pos hx]; exact ⟨_, rfl⟩
  · rw [dif_neg hx] at h; exact absurd rfl h
/-- a turn -/
theorem whileS_eq (t : BF) (b : SF) (ρ : Rho) (cs : Cs) : whileS t b ρ cs = match t ρ cs with
    | .stuck => .stuck
    | .ok k c => if k = true then (match b ρ c with
      | .nx ρ2 c2 => whileS t b ρ2 c2
      | .ct ρ2 c2 => whileS t b ρ2 c2
      | .bk ρ2 c2 => .nx ρ2 c2
      | r => r) else .nx ρ c := by
  have go : ∀ (ρ2 : Rho) (c2 : Cs) (ρ : Rho) (cs : Cs), (∀ n, whileN t b (n + 1) ρ cs = whileN t b n ρ2 c2) → whileS t b ρ cs = whileS t b ρ2 c2 := fun ρ2 c2 ρ cs hq => by
    by_cases hs : whileS t b ρ2 c2 = .stuck
    · rw [hs]
      by_cases h0 : whileS t b ρ cs = .stuck
      · exact h0
      · obtain ⟨n, hn⟩ := whileS_ex h0
        cases n with
        | zero => exact hn.symm
        | succ n =>
          rw [hq] at hn
          have := whileS_of (r := whileS t b ρ cs) hn h0
          rw [hs] at this
          exact this.symm
    · obtain ⟨n, hn⟩ := whileS_ex hs
      exact whileS_of (n := n + 1) (by rw [hq]; exact hn) hs
  have one : ∀ r : RS, whileN t b 1 ρ cs = r → r ≠ .stuck → whileS t b ρ cs = r := fun r h hr => whileS_of h hr
  have none_ : (∀ n, whileN t b n ρ cs = .stuck) → whileS t b ρ cs = .stuck := fun h => by
    by_cases h0 : whileS t b ρ cs = .stuck
    · exact h0
    · obtain ⟨n, hn⟩ := whileS_ex h0
      rw [h n] at hn
      exact hn.symm
  cases e : t ρ cs with
  | stuck => exact none_ fun n => by cases n with | zero => rfl | succ n => unfold whileN; rw [e]
  | ok k c =>
    dsimp only
    by_cases hk : k = true
    · rw [if_pos hk]
      cases e2 : b ρ c with
      | nx ρ2 c2 => exact go ρ2 c2 ρ cs fun n => by rw [whileN]; rw [e]; dsimp only; rw [if_pos hk, e2]
      | ct ρ2 c2 => exact go ρ2 c2 ρ cs fun n => by rw [whileN]; rw [e]; dsimp only; rw [if_pos hk, e2]
      | bk ρ2 c2 => exact one _ (by rw [whileN]; rw [e]; dsimp only; rw [if_pos hk, e2]) (fun z => by cases z)
      | rt v c2 => exact one _ (by rw [whileN]; rw [e]; dsimp only; rw [if_pos hk, e2]) (fun z => by cases z)
      | stuck => exact none_ fun n => by cases n with | zero => rfl | succ n => rw [whileN]; rw [e]; dsimp only; rw [if_pos hk, e2]
    · rw [if_neg hk]
      exact one _ (by rw [whileN]; rw [e]; dsimp only; rw [if_neg hk]) (fun z => by cases z)
section
variable {W : Wd} {X : Cx} {pos : Pos}
theorem endS_ne {K : PySem.W.Frag} {D : Ends} {φ : List Addr} {Z H : Hp} {r : RS} (h : endS W K D φ Z H r) : r ≠ .stuck := fun e => by rw [e] at h; exact h
theorem ss_while {c : Expr} {body : List Stmt} {t : BF} {b : SF} (hc : SB W X c t) (hb : SSs W X body b) (hp : PassesOwn (model X.prog X.w) X.A X.env X.xe := by exact PassesOwn.never) : SS W X (.While c body [] pos) (whileS t b) := PS.imp (ps_while hp hc hb) fun D σ H h => by
  obtain ⟨φ, Z, ρ, cs, S, L, h⟩ := h
  obtain ⟨n, hn⟩ := whileS_ex (endS_ne h)
  generalize whileS t b ρ cs = r at hn h
  have hr := endS_ne h
  refine ⟨fun m σ1 H1 => ∃ φ1 Z1 ρ1 cs1, Ext φ Z H φ1 Z1 H1 ∧ Sim W X.K φ1 Z1 cs1 H1 ∧ Slots W X.K φ1 Z1 ρ1 σ1 ∧ whileN t b m ρ1 cs1 = r, ⟨n, φ, Z, ρ, cs, Ext.refl _ _ _, S, L, hn⟩, ?_⟩
  rintro m σ1 H1 ⟨φ1, Z1, ρ1, cs1, x1, S1, L1, e⟩
  cases m with
  | zero => exact absurd e.symm hr
  | succ m =>
    rw [whileN] at e
    cases e1 : t ρ1 cs1 with
    | stuck => rw [e1] at e; exact absurd e.symm hr
    | ok k c =>
      rw [e1] at e
      dsimp only at e
      refine ⟨φ1, Z1, ρ1, cs1, S1, L1, k, c, e1, fun φ2 Z2 H2 x2 S2 => ?_⟩
      by_cases hk : k = true
      · rw [if_pos hk] at e; rw [if_pos hk]
        refine ⟨fun σ3 H3 => ∃ φ3 Z3 ρ3 cs3, Ext φ Z H φ3 Z3 H3 ∧ Sim W X.K φ3 Z3 cs3 H3 ∧ Slots W X.K φ3 Z3 ρ3 σ3 ∧ whileN t b m ρ3 cs3 = r, fun σ' H' q => ⟨m, Nat.lt_succ_self m, q⟩, φ2, Z2, ρ1, c, S2, L1.ext x2, ?_⟩
        cases e2 : b ρ1 c with
        | nx ρ2 c2 => rw [e2] at e; exact fun φ' Z' H' σ' x' S' L' => ⟨φ', Z', ρ2, c2, (x1.trans x2).trans x', S', L', e⟩
        | ct ρ2 c2 => rw [e2] at e; exact fun φ' Z' H' σ' x' S' L' => ⟨φ', Z', ρ2, c2, (x1.trans x2).trans x', S', L', e⟩
        | bk ρ2 c2 =>
          rw [e2] at e
          cases e
          exact fun φ' Z' H' σ' x' S' L' => h φ' Z' H' σ' ((x1.trans x2).trans x') S' L'
        | rt v c2 =>
          rw [e2] at e
          cases e
          exact fun φ' Z' H' σ' x' S' L' => h φ' Z' H' σ' ((x1.trans x2).trans x') S' L'
        | stuck => rw [e2] at e; exact absurd e.symm hr
      · rw [if_neg hk] at e; rw [if_neg hk]
        cases e
        exact h φ2 Z2 H2 σ1 (x1.trans x2) S2 (L1.ext x2)

/-! ### what is walked -/
abbrev IF := Rho → Cs → R (List T × (Cs → Prop))
def WalkY (W : Wd) (K : PySem.W.Frag) (φ : List Addr) (Z H : Hp) (J : It) (ts : List T) (keep : Cs → Prop) : Prop := ∀ φ1 Z1 H1 cs1, Ext φ Z H φ1 Z1 H1 → Sim W K φ1 Z1 cs1 H1 → keep cs1 →
  (∀ i, i < ts.length → J.go i H1) ∧ J.stop ts.length H1 ∧ ∀ i x H', i < ts.length → J.yld i H1 x H' → ∃ t Z', ts[i]? = some t ∧ Ext φ1 Z1 H1 φ1 Z' H' ∧ Sim W K φ1 Z' cs1 H' ∧ Rep W K φ1 Z' t x
def tI (W : Wd) (K : PySem.W.Frag) (f : IF) : TI := fun σ H Rr => ∃ φ Z ρ cs, Sim W K φ Z cs H ∧ Slots W K φ Z ρ σ ∧ ∃ ts keep cs', f ρ cs = .ok (ts, keep) cs' ∧
  ∀ φ' Z' H' J, Ext φ Z H φ' Z' H' → Sim W K φ' Z' cs' H' → WalkY W K φ' Z' H' J ts keep → Rr J H'
def SI (W : Wd) (X : Cx) (tg iter : Expr) (f : IF) : Prop := PI X tg iter (tI W X.K f)
def keepOf (cs : Cs) : T → Cs → Prop
  | .ref n, cs1 => cs1[n]? = cs[n]?
  | _, _ => True
def seqI (f : EF) : IF := fun ρ cs => (f ρ cs).bind fun t c => match asQ c t with
  | some xs => .ok (xs, keepOf c t) c
  | none => .stuck
theorem PI.or {tg it : Expr} {t t' : TI} (h : PI X tg it t) (h' : PI X tg it t') : PI X tg it (fun σ H Rr => t σ H Rr ∨ t' σ H Rr) :=
  ⟨fun pins s σ H Rr I q => q.elim (fun q => h.run pins s σ H Rr I q) fun q => h'.run pins s σ H Rr I q⟩
theorem PI.imp {tg it : Expr} {t t' : TI} (h : PI X tg it t) (k : ∀ σ H Rr, t' σ H Rr → t σ H Rr) : PI X tg it t' := ⟨fun pins s σ H Rr I q => h.run pins s σ H Rr I (k _ _ _ q)⟩
/-- a list or a tuple: either -/
def iSeq (K : PySem.W.Frag) (tl : TE) : TI := fun σ H Rr => tl σ H fun x H1 => ∃ a, x = .ref a ∧ (((∃ xs, SqL K H1 a xs) ∧ Rr (Itl K a) H1) ∨ ((∃ xs, SqT K H1 a xs) ∧ Rr (Itt K a) H1))
theorem pi_seq {tg l : Expr} {tl : TE} (hl : PE X l tl) : PI X tg l (iSeq X.K tl) := by
  refine ⟨fun pins s σ H Rr I h => ?_⟩
  refine thn (hl.run pins s σ H _ I h) fun v s1 ⟨x, H1, I1, r1, a, e, q⟩ => ?_
  subst e
  rcases q with ⟨hx, q⟩ | ⟨hx, q⟩
  · cases r1
    obtain ⟨xs, hq⟩ := hx
    obtain ⟨its, rv, p, hz⟩ := I1.list hq
    refine wpAny_pyIter_list p.isList ?_
    refine ⟨s1.heap.objs.size, [s1.heap.objs.size], _, _, H1, rfl, I1.kept (t' := s1.toks) fun b o e => Heap.get?_push_of_some _ e, turn_list a _, ⟨_, Heap.get?_push_size _ rfl, rfl, rfl⟩, fun b hb => ?_, q⟩
    have e : b = s1.heap.objs.size := by simpa using hb
    subst e
    exact I1.fpOk (Nat.le_refl _) (I1.hok.fresh (Nat.le_refl _))
  · cases r1
    obtain ⟨xs, hq⟩ := hx
    obtain ⟨its, rv, p, hz⟩ := I1.tuple hq
    refine wpAny_pyIter_tuple (show s1.heap.IsTuple a its.toArray from p) ?_
    refine ⟨s1.heap.objs.size, [s1.heap.objs.size], _, _, H1, rfl, I1.kept (t' := s1.toks) fun b o e => Heap.get?_push_of_some _ e, turn_tuple a _, ⟨_, Heap.get?_push_size _ rfl, rfl, rfl⟩, fun b hb => ?_, q⟩
    have e : b = s1.heap.objs.size := by simpa using hb
    subst e
    exact I1.fpOk (Nat.le_refl _) (I1.hok.fresh (Nat.le_refl _))
/-- what is read of a list or a tuple stays as long as its cell does -/
theorem asQ_stay {K : PySem.W.Frag} {φ φ1 : List Addr} {Z H Z1 H1 : Hp} {cs cs1 : Cs} {t : T} {v : V} {xs : List T} (r : Rep W K φ Z t v) (e : asQ cs t = some xs) (x : Ext φ Z H φ1 Z1 H1) (S1 : Sim W K φ1 Z1 cs1 H1) (hk : keepOf cs t cs1) :
    Rep W K φ1 Z1 t v ∧ asQ cs1 t = some xs := by
  refine ⟨r.ext x, ?_⟩
  cases t with
  | ref n =>
    have hk : cs1[n]? = cs[n]? := hk
    unfold asQ asT asL at e ⊢
    dsimp only at e ⊢
    rw [hk]
    exact e
  | d y => cases y <;> exact e
  | scr ns => exact e
  | _ => exact e
theorem walk_seqL {K : PySem.W.Frag} {φ : List Addr} {Z H : Hp} {cs : Cs} {t : T} {a : Addr} {xs : List T} (S : Sim W K φ Z cs H) (r : Rep W K φ Z t (.ref a)) (e : asL cs t = some xs) (hT : asT t = none) : WalkY W K φ Z H (Itl K a) xs (keepOf cs t) := by
  intro φ1 Z1 H1 cs1 x1 S1 hk
  have e' : asQ cs t = some xs := by unfold asQ; rw [hT]; exact e
  obtain ⟨r1, e1⟩ := asQ_stay r e' x1 S1 hk
  unfold asQ at e1
  rw [hT] at e1
  obtain ⟨a', vs, ea, h1, h2⟩ := S1.asL r1 e1
  cases ea
  have hl := Paired.len h2
  refine ⟨fun i hi => ⟨vs, vs[i]'(by omega), h1, by simp [show i < vs.length by omega]⟩, ⟨vs, h1, by omega⟩, fun i x H' hi hy => ?_⟩
  obtain ⟨rfl, hy⟩ := hy
  have h3 := hy vs h1
  obtain ⟨y, h4, h5⟩ := Paired.get h2 (List.getElem?_eq_getElem hi)
  rw [h4] at h3
  cases h3
  exact ⟨xs[i], Z1, List.getElem?_eq_getElem hi, Ext.refl _ _ _, S1, h5⟩
theorem walk_seqT {K : PySem.W.Frag} {φ : List Addr} {Z H : Hp} {cs : Cs} {t : T} {a : Addr} {ds : List PyData} {keep : Cs → Prop} (S : Sim W K φ Z cs H) (r : Rep W K φ Z t (.ref a)) (e : asT t = some ds) : WalkY W K φ Z H (Itt K a) (ds.map .d) keep := by
  intro φ1 Z1 H1 cs1 x1 S1 hk
  obtain ⟨a', vs, ea, _, h1, h2⟩ := S1.asT (r.ext x1) e
  cases ea
  have h2 := Reps.of_all (W := W) (φ := φ1) h2
  have hl := Paired.len h2
  refine ⟨fun i hi => ⟨vs, vs[i]'(by omega), h1, by simp [show i < vs.length by omega]⟩, ⟨vs, h1, by omega⟩, fun i x H' hi hy => ?_⟩
  obtain ⟨rfl, hy⟩ := hy
  have h3 := hy vs h1
  obtain ⟨y, h4, h5⟩ := Paired.get h2 (List.getElem?_eq_getElem hi)
  rw [h4] at h3
  cases h3
  exact ⟨_, Z1, List.getElem?_eq_getElem hi, Ext.refl _ _ _, S1, h5⟩
theorem si_seq {tg e : Expr} {f : EF} (he : SE W X e f) : SI W X tg e (seqI f) := PI.imp (pi_seq he) fun σ H Rr h => by
  obtain ⟨φ, Z, ρ, cs, S, L, ts, keep, cs', e, k⟩ := h
  obtain ⟨t, c, e1, e⟩ := R.bind_inv e
  refine ⟨φ, Z, ρ, cs, S, L, t, c, e1, fun φ1 Z1 H1 v x1 S1 r1 => ?_⟩
  split at e
  · rename_i xs q
    cases e
    cases hT : asT t with
    | none =>
      have q' : asL cs' t = some ts := by unfold asQ at q; rw [hT] at q; exact q
      obtain ⟨a, vs, rfl, h1, h2⟩ := S1.asL r1 q'
      exact ⟨a, rfl, .inl ⟨⟨vs, h1⟩, k φ1 Z1 H1 _ x1 S1 (walk_seqL S1 r1 q' hT)⟩⟩
    | some ds =>
      have q' : ts = ds.map .d := by unfold asQ at q; rw [hT] at q; cases q; rfl
      subst q'
      obtain ⟨a, vs, rfl, _, h1, h2⟩ := S1.asT r1 hT
      exact ⟨a, rfl, .inr ⟨⟨vs, h1⟩, k φ1 Z1 H1 _ x1 S1 (walk_seqT S1 r1 hT)⟩⟩
  · cases e
/-- a text, sign by sign -/
def strI (f : EF) : IF := fun ρ cs => (f ρ cs).bind fun t c => match t with
  | .d (.str s) => .ok (s.cps.toList.map fun k => .d (.str ⟨#[k]⟩), fun _ => True) c
  | _ => .stuck
theorem si_str {tg e : Expr} {f : EF} (he : SE W X e f) : SI W X tg e (strI f) := PI.imp (pi_str he) fun σ H Rr h => by
  obtain ⟨φ, Z, ρ, cs, S, L, ts, keep, cs', e, k⟩ := h
  obtain ⟨t, c, e1, e⟩ := R.bind_inv e
  refine ⟨φ, Z, ρ, cs, S, L, t, c, e1, fun φ1 Z1 H1 v x1 S1 r1 => ?_⟩
  split at e
  · rename_i s
    cases e
    cases r1.dStr
    refine ⟨s, rfl, k φ1 Z1 H1 _ x1 S1 fun φ2 Z2 H2 cs2 x2 S2 _ => ⟨fun i hi => by show i < s.cps.size; simpa using hi, by show s.cps.size ≤ _; simp, fun i x H' hi hy => ?_⟩⟩
    obtain ⟨rfl, ch, hc, rfl⟩ := hy
    refine ⟨.d (.str ⟨#[ch]⟩), Z2, ?_, Ext.refl _ _ _, S2, Rep.str _⟩
    rw [List.getElem?_map, Array.getElem?_toList, hc]
    rfl
  · cases e
/-- range(n), range(a, b) -/
def rngL (lo hi : Int) : List T := (List.range (hi - lo).toNat).map fun (i : Nat) => .d (.int (lo + (i : Int)))
def rng1I (g : AF) : IF := fun ρ cs => (g ρ cs).bind fun ts c => match ts with
  | [.d (.int j)] => if -(2 ^ 62) ≤ j ∧ j < 2 ^ 62 then .ok (rngL 0 j, fun _ => True) c else .stuck
  | _ => .stuck
def rng2I (g : AF) : IF := fun ρ cs => (g ρ cs).bind fun ts c => match ts with
  | [.d (.int i), .d (.int j)] => if -(2 ^ 62) ≤ i ∧ i < 2 ^ 62 ∧ -(2 ^ 62) ≤ j ∧ j < 2 ^ 62 then .ok (rngL i j, fun _ => True) c else .stuck
  | _ => .stuck
theorem walk_rngY {K : PySem.W.Frag} {φ : List Addr} {Z H : Hp} {lo hi : Int} {keep : Cs → Prop} : WalkY W K φ Z H (Itr lo (hi - lo).toNat) (rngL lo hi) keep := by
  intro φ1 Z1 H1 cs1 x1 S1 hk
  have hl : (rngL lo hi).length = (hi - lo).toNat := by unfold rngL; simp
  refine ⟨fun i hi => by show i < _; omega, by show _ ≤ _; omega, fun i x H' hi hy => ?_⟩
  obtain ⟨rfl, rfl⟩ := hy
  refine ⟨.d (.int (lo + i)), Z1, ?_, Ext.refl _ _ _, S1, Rep.int _⟩
  unfold rngL
  rw [List.getElem?_map, List.getElem?_range (by omega)]
  rfl
theorem si_rng1 {tg a : Expr} {g : AF} {p : Pos} (hg : Gl X "range") (hm : X.mg "range" = none) (ha : SA W X [a] g) (hs : starEach [a] X.env = [(false, eval a X.env)] := by rfl) : SI W X tg (.Call (.Name "range" p) [a] [] pos) (rng1I g) := PI.imp (pi_range1 hg hm ha hs) fun σ H Rr h => by
  obtain ⟨φ, Z, ρ, cs, S, L, ts, keep, cs', e, k⟩ := h
  obtain ⟨t, c, e1, e⟩ := R.bind_inv e
  refine ⟨φ, Z, ρ, cs, S, L, t, c, e1, fun φ1 Z1 H1 vs x1 S1 r1 => ?_⟩
  split at e
  · split at e
    · rename_i j hj
      cases e
      obtain ⟨v, rfl, r2⟩ := Reps.one r1
      cases r2.dInt
      refine ⟨j, rfl, hj.1, hj.2, ?_⟩
      have := k φ1 Z1 H1 (Itr 0 (j - 0).toNat) x1 S1 walk_rngY
      simpa using this
    · cases e
  · cases e
theorem si_rng2 {tg a b : Expr} {g : AF} {p : Pos} (hg : Gl X "range") (hm : X.mg "range" = none) (ha : SA W X [a, b] g) (hs : starEach [a, b] X.env = [(false, eval a X.env), (false, eval b X.env)] := by rfl) (hs2 : starEach [b] X.env = [(false, eval b X.env)] := by rfl) :
    SI W X tg (.Call (.Name "range" p) [a, b] [] pos) (rng2I g) := PI.imp (pi_range2 hg hm ha hs hs2) fun σ H Rr h => by
  obtain ⟨φ, Z, ρ, cs, S, L, ts, keep, cs', e, k⟩ := h
  obtain ⟨t, c, e1, e⟩ := R.bind_inv e
  refine ⟨φ, Z, ρ, cs, S, L, t, c, e1, fun φ1 Z1 H1 vs x1 S1 r1 => ?_⟩
  split at e
  · split at e
    · rename_i i j hj
      cases e
      obtain ⟨v, w, rfl, r2, r3⟩ := Reps.two r1
      cases r2.dInt
      cases r3.dInt
      exact ⟨i, j, rfl, hj, k φ1 Z1 H1 _ x1 S1 walk_rngY⟩
    · cases e
  · cases e

/-! ### for -/
open Classical in
noncomputable def forL (keep : Cs → Prop) (p : Pat) (b : SF) : List T → SF
  | [], ρ, cs => if keep cs then .nx ρ cs else .stuck
  | t :: ts, ρ, cs => if keep cs then (match asgP p t cs ρ with
    | none => .stuck
    | some ρ1 => (match b ρ1 cs with
      | .nx ρ2 c2 => forL keep p b ts ρ2 c2
      | .ct ρ2 c2 => forL keep p b ts ρ2 c2
      | .bk ρ2 c2 => .nx ρ2 c2
      | r => r)) else .stuck
noncomputable def forS (f : IF) (p : Pat) (b : SF) : SF := fun ρ cs => match f ρ cs with
  | .ok (ts, keep) c => forL keep p b ts ρ c
  | .stuck => .stuck
theorem forL_keep {keep : Cs → Prop} {p : Pat} {b : SF} {ts : List T} {ρ : Rho} {cs : Cs} (h : forL keep p b ts ρ cs ≠ .stuck) : keep cs := by
  cases ts with
  | nil =>
    unfold forL at h
    by_cases hk : keep cs
    · exact hk
    · rw [if_neg hk] at h; exact absurd rfl h
  | cons t ts =>
    unfold forL at h
    by_cases hk : keep cs
    · exact hk
    · rw [if_neg hk] at h; exact absurd rfl h
theorem ss_for {tg iter : Expr} {body : List Stmt} {f : IF} {p : Pat} {b : SF} (hc : X.calm = true) (hi : SI W X tg iter f) (hg : SG W X tg p) (hb : SSs W X body b) (hp : PassesOwn (model X.prog X.w) X.A X.env X.xe := by exact PassesOwn.never)
    (hs : ∀ x, foldedSetIterable iter X.env x = pure x := by intro _; rfl) : SS W X (.For tg iter body [] pos) (forS f p b) := PS.imp (ps_for hp hc hi hg hb hs) fun D σ H h => by
  obtain ⟨φ, Z, ρ, cs, S, L, h⟩ := h
  unfold forS at h
  split at h
  · rename_i ts keep c e1
    refine ⟨φ, Z, ρ, cs, S, L, ts, keep, c, e1, fun φ1 Z1 H1 J x1 S1 wk => ?_⟩
    have h := endS_ext x1 h
    generalize hr0 : forL keep p b ts ρ c = r at h
    have hr := endS_ne h
    refine ⟨fun i m σ2 H2 => m = ts.length - i ∧ i ≤ ts.length ∧ ∃ φ2 Z2 ρ2 cs2, Ext φ1 Z1 H1 φ2 Z2 H2 ∧ Sim W X.K φ2 Z2 cs2 H2 ∧ Slots W X.K φ2 Z2 ρ2 σ2 ∧ forL keep p b (ts.drop i) ρ2 cs2 = r,
      ⟨ts.length, by simp, Nat.zero_le _, φ1, Z1, ρ, c, Ext.refl _ _ _, S1, L.ext x1, by simpa using hr0⟩, ?_⟩
    rintro i m σ2 H2 ⟨rfl, hle, φ2, Z2, ρ2, cs2, x2, S2, L2, e⟩
    have hk : keep cs2 := forL_keep (by rw [e]; exact hr)
    obtain ⟨go, stop, yl⟩ := wk φ2 Z2 H2 cs2 x2 S2 hk
    by_cases hlt : i < ts.length
    · refine .inr ⟨go i hlt, fun σ3 H3 => i + 1 ≤ ts.length ∧ ∃ φ3 Z3 ρ3 cs3, Ext φ1 Z1 H1 φ3 Z3 H3 ∧ Sim W X.K φ3 Z3 cs3 H3 ∧ Slots W X.K φ3 Z3 ρ3 σ3 ∧ forL keep p b (ts.drop (i + 1)) ρ3 cs3 = r,
        fun σ' H' q => ⟨ts.length - (i + 1), by omega, rfl, q.1, q.2⟩, fun x H' hy => ?_⟩
      obtain ⟨t, Z3, ht, x3, S3, r3⟩ := yl i x H' hlt hy
      have hd : ts.drop i = t :: ts.drop (i + 1) := by
        rw [List.drop_eq_getElem_cons hlt]
        rw [List.getElem?_eq_getElem hlt] at ht
        cases ht
        rfl
      rw [hd] at e
      unfold forL at e
      rw [if_pos hk] at e
      cases e3 : asgP p t cs2 ρ2 with
      | none => rw [e3] at e; exact absurd e.symm hr
      | some ρ3 =>
        rw [e3] at e
        dsimp only at e
        refine ⟨φ2, Z3, ρ2, cs2, t, ρ3, S3, L2.ext x3, r3, e3, fun σ4 L4 _ => ⟨φ2, Z3, ρ3, cs2, S3, L4, ?_⟩⟩
        have x23 := x2.trans x3
        cases e4 : b ρ3 cs2 with
        | nx ρ4 c4 => rw [e4] at e; exact fun φ' Z' H' σ' x' S' L' => ⟨hlt, φ', Z', ρ4, c4, x23.trans x', S', L', e⟩
        | ct ρ4 c4 => rw [e4] at e; exact fun φ' Z' H' σ' x' S' L' => ⟨hlt, φ', Z', ρ4, c4, x23.trans x', S', L', e⟩
        | bk ρ4 c4 =>
          rw [e4] at e
          cases e
          exact fun φ' Z' H' σ' x' S' L' => h φ' Z' H' σ' (x23.trans x') S' L'
        | rt v c4 =>
          rw [e4] at e
          cases e
          exact fun φ' Z' H' σ' x' S' L' => h φ' Z' H' σ' (x23.trans x') S' L'
        | stuck => rw [e4] at e; exact absurd e.symm hr
    · have ei : i = ts.length := by omega
      subst ei
      rw [List.drop_length] at e
      unfold forL at e
      rw [if_pos hk] at e
      cases e
      exact .inl ⟨stop, h φ2 Z2 H2 σ2 x2 S2 L2⟩
  · exact h.elim
end
end Y
end
section
set_option Elab.async false
set_option linter.all false
set_option maxRecDepth 100000
set_option maxHeartbeats 1000000
namespace Y
open PySem PySem.Spec L2
/-! ### comprehensions -/
def wipeR (ρ : Rho) : List Nat → Rho
  | [] => ρ
  | v :: vs => (wipeR ρ vs).set v none
/-- all but one address -/
def but (H : Hp) (D : Addr) : Hp := fun a => if a = D then none else H a
theorem but_ne {H : Hp} {a D : Addr} (h : a ≠ D) : but H D a = H a := if_neg h
theorem but_same {H : Hp} {D : Addr} : but H D D = none := if_pos rfl
theorem but_upd {H : Hp} {D : Addr} {o : HO} : but (upd H D o) D = but H D := by
  funext a
  unfold but upd
  by_cases h : a = D <;> simp [h]
theorem but_none {H : Hp} {D : Addr} (h : H D = none) : but H D = H := by
  funext a
  unfold but
  by_cases e : a = D
  · subst e; rw [if_pos rfl, h]
  · rw [if_neg e]
section
variable {W : Wd} {K : PySem.W.Frag} {φ φ' : List Addr} {Z Z' H H' : Hp} {cs : Cs} {D : Addr} {o : HO}
theorem Slots.wipes {ρ : Rho} {σ : St} (h : Slots W K φ Z ρ σ) : ∀ vs : List Nat, Slots W K φ Z (wipeR ρ vs) (L2.wipe σ vs)
  | [] => h
  | v :: vs => by unfold wipeR L2.wipe; exact (h.wipes vs).wipe v
theorem Ext.but (x : Ext φ Z H φ' Z' H') (hD : H D = some o) (hn : D ∉ φ) : Ext φ Z (Y.but H D) φ' Z' (Y.but H' D) where
  pre := x.pre
  zsub := x.zsub
  znew := fun a u h => by
    rcases x.znew a u h with q | q | q
    · exact .inl q
    · refine .inr (.inl ?_)
      unfold Y.but
      split
      · rfl
      · exact q
    · exact .inr (.inr q)
  frame := fun a u h ha => by
    unfold Y.but at h ⊢
    split at h
    · cases h
    · rename_i e
      rw [if_neg e]
      exact x.frame a u h ha
  fresh := fun a h => by
    rcases x.fresh a h with q | q
    · exact .inl q
    · refine .inr ?_
      unfold Y.but
      split
      · rfl
      · exact q
theorem Ext.notin (x : Ext φ Z H φ' Z' H') (hD : H D = some o) (hn : D ∉ φ) : D ∉ φ' := fun h => by
  rcases x.fresh D h with q | q
  · exact hn q
  · rw [hD] at q; cases q
theorem Ext.znone (x : Ext φ Z H φ' Z' H') (hD : H D = some o) (hn : D ∉ φ) (hz : Z D = none) : Z' D = none := by
  cases e : Z' D with
  | none => rfl
  | some u =>
    rcases x.znew D u e with q | q | q
    · rw [hz] at q; cases q
    · rw [hD] at q; cases q
    · exact absurd q hn
/-- an object that is not told of, written -/
theorem Sim.beside (S : Sim W K φ Z cs H) (hn : D ∉ φ) (hz : Z D = none) (ho : ∀ u, H D = some u → ∀ ps, u ≠ .tbl ps) : Sim W K φ Z cs (upd H D o) := by
  refine ⟨fun a u h => ?_, S.len, S.nd, fun a ha => ?_, fun n c a h1 h2 => ?_, fun p hp => ?_⟩
  · have : a ≠ D := fun e => by rw [e, hz] at h; cases h
    rw [upd_ne this]; exact S.sub _ _ h
  · have : a ≠ D := fun e => hn (e ▸ ha)
    rw [upd_ne this]; exact S.there a ha
  · have : a ≠ D := fun e => hn (e ▸ List.mem_of_getElem? h2)
    exact (S.cell n c a h1 h2).stay (List.prefix_refl _) (fun _ _ h => h) (fun h => h) fun u h => by rw [upd_ne this]; exact h
  · exact (S.tb p hp).stay (fun _ _ h => h) (S.tb p hp).1 (upd_ne ((S.tb p hp).ne ho))
/-- an object beside, frozen -/
theorem Sim.freezeB (S : Sim W K φ Z cs H) (hD : H D = some o) (hn : D ∉ φ) (hz : Z D = none) (ho : ∀ ps, o ≠ .tbl ps := by intro ps h; cases h) : Sim W K φ (upd Z D o) cs H := by
  have hz' : ∀ a u, Z a = some u → upd Z D o a = some u := fun a u h => upd_some hz h
  refine ⟨fun a u h => ?_, S.len, S.nd, S.there, fun n c a h1 h2 => ?_, fun p hp => ?_⟩
  · by_cases e : a = D
    · subst e; rw [upd_same] at h; cases h; exact hD
    · rw [upd_ne e] at h; exact S.sub _ _ h
  · have : a ≠ D := fun e => hn (e ▸ List.mem_of_getElem? h2)
    exact (S.cell n c a h1 h2).stay (List.prefix_refl _) hz' (fun h => by rw [upd_ne this]; exact h) fun u h => h
  · have ne := (S.tb p hp).ne (a := D) fun u h => by rw [hD] at h; cases h; exact ho
    exact (S.tb p hp).stay hz' (by rw [upd_ne ne]; exact (S.tb p hp).1) rfl
theorem Ext.freezeB {φ0 : List Addr} {Z0 H0 : Hp} (x : Ext φ0 Z0 H0 φ Z (Y.but H D)) (h0 : H0 D = none) (hz : Z D = none) : Ext φ0 Z0 H0 φ (upd Z D o) H where
  pre := x.pre
  zsub := fun a u h => upd_some hz (x.zsub a u h)
  znew := fun a u h => by
    by_cases e : a = D
    · subst e; exact .inr (.inl h0)
    · rw [upd_ne e] at h; exact x.znew a u h
  frame := fun a u h ha => by
    rcases x.frame a u h ha with this | ⟨ps, ps', e, this⟩
    · unfold Y.but at this
      split at this
      · cases this
      · exact .inl this
    · unfold Y.but at this
      split at this
      · cases this
      · exact .inr ⟨ps, ps', e, this⟩
  fresh := x.fresh
/-- an object beside, taken as a cell -/
theorem Sim.adopt (S : Sim W K φ Z cs H) {c : Cell} (hD : H D = some o) (hn : D ∉ φ) (hc : CellAt W K (φ ++ [D]) Z H D c) : Sim W K (φ ++ [D]) Z (cs ++ [c]) H := by
  refine ⟨S.sub, by simp [S.len], ?_, fun a ha => ?_, fun n c' a h1 h2 => ?_, S.tb⟩
  · rw [List.nodup_append]
    exact ⟨S.nd, by simp, fun a ha b hb e => by simp at hb; subst hb; exact hn (e ▸ ha)⟩
  · rcases List.mem_append.mp ha with h | h
    · exact S.there a h
    · have e : a = D := by simpa using h
      subst e; exact ⟨o, hD⟩
  · by_cases hn : n < cs.length
    · rw [List.getElem?_append_left hn] at h1
      have hn' : n < φ.length := by have := S.len; omega
      rw [List.getElem?_append_left hn'] at h2
      exact (S.cell n c' a h1 h2).stay (List.prefix_append _ _) (fun _ _ h => h) (fun h => h) fun u h => h
    · rw [List.getElem?_append_right (by omega)] at h1
      have e : n - cs.length = 0 := by
        cases q : n - cs.length with
        | zero => rfl
        | succ m => rw [q] at h1; simp at h1
      rw [e] at h1
      simp at h1
      subst h1
      rw [List.getElem?_append_right (by have := S.len; omega)] at h2
      have e2 : n - φ.length = 0 := by have := S.len; omega
      rw [e2] at h2
      simp at h2
      subst h2
      exact hc
theorem Ext.adopt {φ0 : List Addr} {Z0 H0 : Hp} (x : Ext φ0 Z0 H0 φ Z (Y.but H D)) (h0 : H0 D = none) : Ext φ0 Z0 H0 (φ ++ [D]) Z H where
  pre := x.pre.trans (List.prefix_append _ _)
  zsub := x.zsub
  znew := x.znew
  frame := fun a u h ha => by
    rcases x.frame a u h ha with this | ⟨ps, ps', e, this⟩
    · unfold Y.but at this
      split at this
      · cases this
      · exact .inl this
    · unfold Y.but at this
      split at this
      · cases this
      · exact .inr ⟨ps, ps', e, this⟩
  fresh := fun a ha => by
    rcases List.mem_append.mp ha with h | h
    · exact x.fresh a h
    · have e : a = D := by simpa using h
      subst e; exact .inr h0
end
open Classical in
noncomputable def lcL (keep : Cs → Prop) (p : Pat) (tt : BF) (e : EF) (ρ : Rho) : List T → Cs → R (List T)
  | [], cs => if keep cs then .ok [] cs else .stuck
  | t :: ts, cs => if keep cs then (match asgP p t cs ρ with
    | none => .stuck
    | some ρ1 => (tt ρ1 cs).bind fun b c => if b = true then (e ρ1 c).bind fun x c2 => (lcL keep p tt e ρ ts c2).bind fun xs c3 => .ok (x :: xs) c3 else lcL keep p tt e ρ ts c) else .stuck
theorem lcL_keep {keep : Cs → Prop} {p : Pat} {tt : BF} {e : EF} {ρ : Rho} {ts xs : List T} {cs cs' : Cs} (h : lcL keep p tt e ρ ts cs = .ok xs cs') : keep cs := by
  cases ts with
  | nil =>
    unfold lcL at h
    by_cases hk : keep cs
    · exact hk
    · rw [if_neg hk] at h; cases h
  | cons t ts =>
    unfold lcL at h
    by_cases hk : keep cs
    · exact hk
    · rw [if_neg hk] at h; cases h
theorem lcL_len {keep : Cs → Prop} {p : Pat} {tt : BF} {e : EF} {ρ : Rho} : ∀ {ts xs : List T} {cs cs' : Cs}, lcL keep p tt e ρ ts cs = .ok xs cs' → xs.length ≤ ts.length
  | [], xs, cs, cs', h => by
    unfold lcL at h
    split at h
    · cases h; exact Nat.le_refl _
    · cases h
  | t :: ts, xs, cs, cs', h => by
    unfold lcL at h
    split at h
    · split at h
      · cases h
      · obtain ⟨b, c, _, h⟩ := R.bind_inv h
        split at h
        · obtain ⟨x, c2, _, h⟩ := R.bind_inv h
          obtain ⟨ys, c3, e3, h⟩ := R.bind_inv h
          cases h
          have := lcL_len e3
          simp; omega
        · have := lcL_len h
          simp; omega
    · cases h
/-- what is given, in order -/
noncomputable def lcA (f : IF) (vs : List Nat) (p : Pat) (tt : BF) (e : EF) : AF := fun ρ cs => (f ρ cs).bind fun s c => if s.1.length ≤ sizeLine then lcL s.2 p tt e (wipeR ρ vs) s.1 c else .stuck
noncomputable def lcE (f : IF) (vs : List Nat) (p : Pat) (tt : BF) (e : EF) : EF := fun ρ cs => (lcA f vs p tt e ρ cs).bind fun ts c => match allD ts with
  | some ds => .ok (.d (.list ds)) c
  | none => .stuck
noncomputable def lcC (f : IF) (vs : List Nat) (p : Pat) (tt : BF) (e : EF) : EF := fun ρ cs => (lcA f vs p tt e ρ cs).bind fun ts c => .ok (.ref c.length) (c ++ [.lst ts])
def yesB : BF := fun _ cs => .ok true cs
def STs (W : Wd) (X : Cx) (es : List Expr) (f : BF) : Prop := PTs X es (tB W X.K f)
section
variable {W : Wd} {X : Cx} {pos : Pos}
theorem PTs.imp {X : Cx} {es : List Expr} {t t' : TT} (h : PTs X es t) (k : ∀ σ H Q, t' σ H Q → t σ H Q) : PTs X es t' := ⟨fun pins s σ H Q I q => h.run pins s σ H Q I (k σ H Q q)⟩
theorem sts_nil : STs W X [] yesB := PTs.imp pts_nil fun σ H Q h => by
  obtain ⟨φ, Z, ρ, cs, S, L, b, cs', e, k⟩ := h
  cases e
  exact k _ _ _ (Ext.refl _ _ _) S
theorem sts_one {c : Expr} {f : BF} (h : SB W X c f) : STs W X [c] f := pts_one h
theorem wipe_wipe (σ : St) (vs : List Nat) : L2.wipe (L2.wipe σ vs) vs = L2.wipe σ vs := by
  apply List.ext_getElem?
  intro i
  rw [wipe_get, wipe_get, wipe_length]
  by_cases hi : i ∈ vs
  · rw [if_pos hi, if_pos hi]
  · rw [if_neg hi, if_neg hi]
theorem lc_coreY {K : PySem.W.Frag} {f : IF} {vs : List Nat} {p : Pat} {tt : BF} {e : EF} (hv : ∀ i ∈ p.slots, i ∈ vs) {σ : St} {H : Hp} {Q : VK}
    (h : ∃ φ Z ρ cs, Sim W K φ Z cs H ∧ Slots W K φ Z ρ σ ∧ ∃ ts cs', lcA f vs p tt e ρ cs = .ok ts cs' ∧ ∀ φ' Z' H' D acc, Ext φ Z H φ' Z' (but H' D) → H D = none → Sim W K φ' Z' cs' H' → D ∉ φ' → Z' D = none → H' D = some (.lst acc) → Reps W K φ' Z' ts acc → Q (.ref D) H') :
    tLc (tI W K f) (tG W K p) (tB W K tt) (tE W K e) vs σ H Q := by
  obtain ⟨φ, Z, ρ, cs, S, L, out, cs', e0, k⟩ := h
  obtain ⟨⟨ts, keep⟩, c, e1, e0⟩ := R.bind_inv e0
  dsimp only at e0
  by_cases hz : ts.length ≤ sizeLine
  case neg => rw [if_neg hz] at e0; cases e0
  rw [if_pos hz] at e0
  refine ⟨φ, Z, ρ, cs, S, L, ts, keep, c, e1, fun φ1 Z1 H1 J x1 S1 wk D hD => ?_⟩
  have hD0 : H D = none := by
    cases q : H D with
    | none => rfl
    | some u =>
      by_cases hm : D ∈ φ
      · obtain ⟨o, z⟩ := S1.there D (x1.pre.subset hm)
        rw [hD] at z; cases z
      · exact absurd hD (x1.dom q hm)
  have z1 : Z1 D = none := by
    cases q : Z1 D with
    | none => rfl
    | some u => rw [S1.sub _ _ q] at hD; cases hD
  have n1 : D ∉ φ1 := fun hm => by
    obtain ⟨o, z⟩ := S1.there D hm
    rw [hD] at z; cases z
  refine ⟨fun i m H2 => m = ts.length - i ∧ i ≤ ts.length ∧ ∃ φ2 Z2 cs2 acc done xs, Ext φ1 Z1 H1 φ2 Z2 (but H2 D) ∧ Sim W K φ2 Z2 cs2 H2 ∧ D ∉ φ2 ∧ Z2 D = none ∧ H2 D = some (.lst acc) ∧ Reps W K φ2 Z2 done acc ∧ done.length ≤ i ∧ lcL keep p tt e (wipeR ρ vs) (ts.drop i) cs2 = .ok xs cs' ∧ out = done ++ xs,
    ⟨ts.length, by simp, Nat.zero_le _, φ1, Z1, c, [], [], out, ?_, S1.beside n1 z1 (fun u h => by rw [hD] at h; cases h), n1, z1, upd_same, .nil, Nat.zero_le _, by simpa using e0, by simp⟩, ?_⟩
  · rw [but_upd, but_none hD]; exact Ext.refl _ _ _
  rintro i m H2 ⟨rfl, hle, φ2, Z2, cs2, acc, done, xs, x2, S2, n2, z2, h2, r2, hdl, e2, eo⟩
  have hk : keep cs2 := lcL_keep e2
  have x12 : Ext φ1 Z1 H1 φ2 Z2 H2 := by
    refine ⟨x2.pre, x2.zsub, x2.znew, fun a u h ha => ?_, x2.fresh⟩
    rcases x2.frame a u h ha with this | ⟨ps, ps', e, this⟩
    · unfold but at this
      split at this
      · cases this
      · exact .inl this
    · unfold but at this
      split at this
      · cases this
      · exact .inr ⟨ps, ps', e, this⟩
  obtain ⟨go, stop, yl⟩ := wk φ2 Z2 H2 cs2 x12 S2 hk
  by_cases hlt : i < ts.length
  · refine .inr ⟨go i hlt, fun H3 => i + 1 ≤ ts.length ∧ ∃ φ2 Z2 cs2 acc done xs, Ext φ1 Z1 H1 φ2 Z2 (but H3 D) ∧ Sim W K φ2 Z2 cs2 H3 ∧ D ∉ φ2 ∧ Z2 D = none ∧ H3 D = some (.lst acc) ∧ Reps W K φ2 Z2 done acc ∧ done.length ≤ i + 1 ∧ lcL keep p tt e (wipeR ρ vs) (ts.drop (i + 1)) cs2 = .ok xs cs' ∧ out = done ++ xs,
      fun H' q => ⟨ts.length - (i + 1), by omega, rfl, q.1, q.2⟩, fun x H' hy => ?_⟩
    obtain ⟨t, Z3, ht, x3, S3, r3⟩ := yl i x H' hlt hy
    have hd : ts.drop i = t :: ts.drop (i + 1) := by
      rw [List.drop_eq_getElem_cons hlt]
      rw [List.getElem?_eq_getElem hlt] at ht
      cases ht
      rfl
    rw [hd] at e2
    unfold lcL at e2
    rw [if_pos hk] at e2
    cases e3 : asgP p t cs2 (wipeR ρ vs) with
    | none => rw [e3] at e2; cases e2
    | some ρ3 =>
      rw [e3] at e2
      dsimp only at e2
      obtain ⟨b, c4, e4, e2⟩ := R.bind_inv e2
      have x23 := x3.but h2 n2
      have L3 : Slots W K φ2 Z3 (wipeR ρ vs) (L2.wipe σ vs) := (((L.ext x1).ext x2).ext x3).wipes vs
      have n3 := x3.notin h2 n2
      have z3 := x3.znone h2 n2 z2
      have h3 := x3.fr h2 n2 (fun _ h => by cases h)
      refine ⟨φ2, Z3, wipeR ρ vs, cs2, t, ρ3, S3, L3, r3, e3, fun σ4 L4 sb => ⟨(sb.wipe hv).trans (wipe_wipe σ vs), φ2, Z3, ρ3, cs2, S3, L4, b, c4, e4, fun φ5 Z5 H5 x5 S5 => ?_⟩⟩
      have x25 := x23.trans (x5.but h3 n3)
      have n5 := x5.notin h3 n3
      have z5 := x5.znone h3 n3 z3
      have h5 := x5.fr h3 n3 (fun _ h => by cases h)
      by_cases hb : b = true
      · rw [if_pos hb] at e2
        subst hb
        show tE W K e σ4 H5 _
        obtain ⟨y, c6, e6, e2⟩ := R.bind_inv e2
        obtain ⟨ys, c7, e7, e2⟩ := R.bind_inv e2
        cases e2
        refine ⟨φ5, Z5, ρ3, c4, S5, L4.ext x5, y, c6, e6, fun φ6 Z6 H6 w x6 S6 r6 => ?_⟩
        have n6 := x6.notin h5 n5
        have z6 := x6.znone h5 n5 z5
        have h6 := x6.fr h5 n5 (fun _ h => by cases h)
        have r6' := Reps.ext x6 (Reps.ext x5 (Reps.ext x3 r2))
        refine ⟨acc, h6, ?_, hlt, φ6, Z6, c6, acc ++ [w], done ++ [y], ys, ?_, S6.beside n6 z6 (fun u h => by rw [h6] at h; cases h; exact fun _ q => by cases q), n6, z6, upd_same, Paired.app r6' (.cons r6 .nil), by simp; omega, e7, by simp [eo]⟩
        · rw [← Paired.len r2]; omega
        · rw [but_upd]
          exact (x2.trans x25).trans (x6.but h5 n5)
      · rw [if_neg hb] at e2
        have hb : b = false := by simpa using hb
        subst hb
        exact ⟨hlt, φ5, Z5, c4, acc, done, xs, x2.trans x25, S5, n5, z5, h5, Reps.ext x5 (Reps.ext x3 r2), by omega, e2, eo⟩
  · have ei : i = ts.length := by omega
    subst ei
    rw [List.drop_length] at e2
    unfold lcL at e2
    rw [if_pos hk] at e2
    cases e2
    rw [List.append_nil] at eo
    subst eo
    exact .inl ⟨stop, k φ2 Z2 H2 D acc (x1.trans x2) hD0 S2 n2 z2 h2 r2⟩
abbrev BlkAll (X : Cx) (scope : Scope) (F : Cx → Prop) : Prop := ∀ (s : Shared) (H : Hp) (C : Addr) (cl : List (Str × Addr)) (fp : List Addr), F (X.blk s H scope (compEnvC scope cl C X.env) fp)
theorem lcE_core {K : PySem.W.Frag} {f : IF} {vs : List Nat} {p : Pat} {tt : BF} {e : EF} (hv : ∀ i ∈ p.slots, i ∈ vs) {σ : St} {H : Hp} {Q : VK} (h : tE W K (lcE f vs p tt e) σ H Q) : tLc (tI W K f) (tG W K p) (tB W K tt) (tE W K e) vs σ H Q := by
  obtain ⟨φ, Z, ρ, cs, S, L, t, cs', e0, k⟩ := h
  obtain ⟨ts, c, e1, e2⟩ := R.bind_inv e0
  refine lc_coreY hv ⟨φ, Z, ρ, cs, S, L, ts, c, e1, fun φ' Z' H' D acc x' hD S' n' z' h' r' => ?_⟩
  split at e2
  · rename_i ds q
    cases e2
    rw [allD_eq q] at r'
    have r2 := Reps.all r'
    exact k φ' (upd Z' D (.lst acc)) H' _ (x'.freezeB hD z') (S'.freezeB h' n' z') (.d (.lst upd_same (DzAll.zmono (fun a u h => upd_some z' h) _ _ r2)))
  · cases e2
theorem lcC_core {K : PySem.W.Frag} {f : IF} {vs : List Nat} {p : Pat} {tt : BF} {e : EF} (hv : ∀ i ∈ p.slots, i ∈ vs) {σ : St} {H : Hp} {Q : VK} (h : tE W K (lcC f vs p tt e) σ H Q) : tLc (tI W K f) (tG W K p) (tB W K tt) (tE W K e) vs σ H Q := by
  obtain ⟨φ, Z, ρ, cs, S, L, t, cs', e0, k⟩ := h
  obtain ⟨ts, c, e1, e2⟩ := R.bind_inv e0
  refine lc_coreY hv ⟨φ, Z, ρ, cs, S, L, ts, c, e1, fun φ' Z' H' D acc x' hD S' n' z' h' r' => ?_⟩
  cases e2
  refine k (φ' ++ [D]) Z' H' _ (x'.adopt hD) (S'.adopt h' n' ⟨z', acc, h', Reps.mono (List.prefix_append _ _) (fun _ _ h => h) r'⟩) (.ref ?_)
  rw [← S'.len, List.getElem?_append_right (Nat.le_refl _)]
  simp
section
variable {elt tg iter : Expr} {ifs : List Expr} {scope : Scope} {own : List (Str × Nat)} {f : IF} {p : Pat} {tt : BF} {e : EF}
theorem se_lc (hc : X.calm = true) (hN : X.N.Nodup) (ok : BlkOk X.N X.env.scope scope own) (hv : ∀ i ∈ p.slots, i ∈ own.map (·.2)) (hi : SI W X tg iter f) (hg : BlkAll X scope fun B => SG W B tg p) (ht : BlkAll X scope fun B => STs W B ifs tt) (he : BlkAll X scope fun B => SE W B elt e)
    (hs : ∀ x, foldedSetIterable iter X.env x = pure x := by intro _; rfl) : SE W X (.ListComp elt [⟨tg, iter, ifs, 0⟩] scope pos) (lcE f (own.map (·.2)) p tt e) := PE.imp (pe_lc (g := tG W X.K p) (tt := tB W X.K tt) (te := tE W X.K e) hc hN hi ok (fun s H C cl fp => hg s H C cl fp) (fun s H C cl fp => ht s H C cl fp) (fun s H C cl fp => he s H C cl fp) hs) fun σ H Q h => lcE_core hv h
theorem se_lcC (hc : X.calm = true) (hN : X.N.Nodup) (ok : BlkOk X.N X.env.scope scope own) (hv : ∀ i ∈ p.slots, i ∈ own.map (·.2)) (hi : SI W X tg iter f) (hg : BlkAll X scope fun B => SG W B tg p) (ht : BlkAll X scope fun B => STs W B ifs tt) (he : BlkAll X scope fun B => SE W B elt e)
    (hs : ∀ x, foldedSetIterable iter X.env x = pure x := by intro _; rfl) : SE W X (.ListComp elt [⟨tg, iter, ifs, 0⟩] scope pos) (lcC f (own.map (·.2)) p tt e) := PE.imp (pe_lc (g := tG W X.K p) (tt := tB W X.K tt) (te := tE W X.K e) hc hN hi ok (fun s H C cl fp => hg s H C cl fp) (fun s H C cl fp => ht s H C cl fp) (fun s H C cl fp => he s H C cl fp) hs) fun σ H Q h => lcC_core hv h

theorem tAsg_set {K : PySem.W.Frag} {te : TE} {g : EF} {i : Nat} (ht : ∀ σ H Q, tE W K g σ H Q → te σ H Q) {D : Ends} {σ : St} {H : Hp} (h : tS W K (setS i g) D σ H) : tAsg te (gName i) D σ H := by
  obtain ⟨φ, Z, ρ, cs, S, L, h⟩ := h
  unfold setS at h
  cases e : g ρ cs with
  | stuck => rw [e] at h; exact h.elim
  | ok t c =>
    rw [e] at h
    exact ht _ _ _ ⟨φ, Z, ρ, cs, S, L, t, c, e, fun φ' Z' H' v x' S' r' => h φ' Z' H' _ x' S' ((L.ext x').set r' i)⟩
theorem ss_setLc {i : Nat} {y : Str} {py spos : Pos} (hc : X.calm = true) (hN : X.N.Nodup) (hy : X.N[i]? = some y) (hyl : X.env.scope.names.lookup y = some .local) (hsw : swapsWith (.ListComp elt [⟨tg, iter, ifs, 0⟩] scope pos) (some (.Name y py)) spos.line X.env = pure true)
    (ok : BlkOk X.N X.env.scope scope own) (hv : ∀ i ∈ p.slots, i ∈ own.map (·.2)) (hi : SI W X tg iter f) (hg : BlkAll X scope fun B => SG W B tg p) (ht : BlkAll X scope fun B => STs W B ifs tt) (he : BlkAll X scope fun B => SE W B elt e)
    (hs : ∀ x, foldedSetIterable iter X.env x = pure x := by intro _; rfl) : SS W X (.Assign [.Name y py] (.ListComp elt [⟨tg, iter, ifs, 0⟩] scope pos) spos) (setS i (lcE f (own.map (·.2)) p tt e)) :=
  PS.imp (ps_setLc (g := tG W X.K p) (tt := tB W X.K tt) (te := tE W X.K e) hc hN hy hyl hsw hi ok (fun s H C cl fp => hg s H C cl fp) (fun s H C cl fp => ht s H C cl fp) (fun s H C cl fp => he s H C cl fp) hs) fun D σ H h => tAsg_set (fun σ H Q h => lcE_core hv h) h
theorem ss_setLcC {i : Nat} {y : Str} {py spos : Pos} (hc : X.calm = true) (hN : X.N.Nodup) (hy : X.N[i]? = some y) (hyl : X.env.scope.names.lookup y = some .local) (hsw : swapsWith (.ListComp elt [⟨tg, iter, ifs, 0⟩] scope pos) (some (.Name y py)) spos.line X.env = pure true)
    (ok : BlkOk X.N X.env.scope scope own) (hv : ∀ i ∈ p.slots, i ∈ own.map (·.2)) (hi : SI W X tg iter f) (hg : BlkAll X scope fun B => SG W B tg p) (ht : BlkAll X scope fun B => STs W B ifs tt) (he : BlkAll X scope fun B => SE W B elt e)
    (hs : ∀ x, foldedSetIterable iter X.env x = pure x := by intro _; rfl) : SS W X (.Assign [.Name y py] (.ListComp elt [⟨tg, iter, ifs, 0⟩] scope pos) spos) (setS i (lcC f (own.map (·.2)) p tt e)) :=
  PS.imp (ps_setLc (g := tG W X.K p) (tt := tB W X.K tt) (te := tE W X.K e) hc hN hy hyl hsw hi ok (fun s H C cl fp => hg s H C cl fp) (fun s H C cl fp => ht s H C cl fp) (fun s H C cl fp => he s H C cl fp) hs) fun D σ H h => tAsg_set (fun σ H Q h => lcC_core hv h) h
end
end
end Y
end
section
set_option Elab.async false
set_option linter.all false
set_option maxRecDepth 100000
set_option maxHeartbeats 1000000
namespace YT
open PySem PySem.Spec PyProof.Rows L2
theorem typeCall_enumerate_1' (a : Value) : PySem.checkTypeCall "enumerate" ⟨[a], []⟩ = pure () := F.typeCall_enumerate_1 a
set_option maxHeartbeats 1000000 in
theorem meets_enumerate_newT {v : Value} {o : Obj} {H : Heap → Prop} (B : Begins v o H) :
    Meets (Builtin.«enumerate.__new__» ⟨[.type "enumerate", v], []⟩) (fun _ R s => H s.heap ∧
      R (.ok (.ret (.ref (s.heap.push o).objs.size))) { s with heap := (s.heap.push o).push { cls := .type "enumerate", data := .fields #[.none, .bool false, .ref s.heap.objs.size, rawInt 0, .none, .none] } }) :=
  .of_wp fun prog w A R s h => by
    obtain ⟨hp, g, d, tk, os⟩ := s; obtain ⟨h1, h⟩ := h
    have hsub := sub_enumerate
    have q1 : ∀ {A' : Around} {E : Value → Shared → Prop} {Q : Value → Shared → Prop}, Q (.ref hp.objs.size) ⟨hp.push o, g, d, tk, os⟩ → wpAny (model prog w) A' (pyIter v) Q E ⟨hp, g, d, tk, os⟩ :=
      fun q => B.iter prog w _ _ ⟨hp, g, d, tk, os⟩ _ h1 q
    wp_walk using q1
    refine wpAny_stack_any fun st => wpAny_pure ?_
    split
    · rename_i c _ _ _ _ _
      cases (c == Value.type "enumerate")
      · wp_walk using q1
        exact ⟨_, rfl, h⟩
      · wp_walk using q1
        exact ⟨_, rfl, h⟩
    · wp_walk using q1
      exact ⟨_, rfl, h⟩
section
variable {prog : Program} {w : World} {A : Around} {E : Value → Shared → Prop} {s : Shared}
theorem enum_beginsT {v : Value} {o : Obj} {H : Heap → Prop} {Q : Value → Shared → Prop} (B : Begins v o H) (h1 : H s.heap)
    (h : ∀ h', IsEnum h' (s.heap.objs.size + 1) s.heap.objs.size 0 .none → h'.get? s.heap.objs.size = some o → h'.objs.size = s.heap.objs.size + 2 →
      (∀ b o, s.heap.get? b = some o → h'.get? b = some o) → Q (.ref (s.heap.objs.size + 1)) { s with heap := h' }) :
    wpAny (model prog w) A (call (.type "enumerate") [v]) Q E s := by
  refine callType_new F.called_enumerate (by decide) (F.typeCall_enumerate_1 _) (F.newCall_enumerate_1 _) (fun obj => F.args_object_init_2 obj _) F.entry_enumerate_new
    (meets_enumerate_newT B) ⟨h1, ?_⟩
  have hz : (s.heap.push o).objs.size = s.heap.objs.size + 1 := Heap.size_push ..
  show _ ∧ _
  rw [hz]
  have he : IsEnum ((s.heap.push o).push { cls := .type "enumerate", data := .fields #[.none, .bool false, .ref s.heap.objs.size, rawInt 0, .none, .none] }) (s.heap.objs.size + 1) s.heap.objs.size 0 .none := by
    have := Heap.get?_push_size (s.heap.push o) (o := { cls := .type "enumerate", data := .fields #[.none, .bool false, .ref s.heap.objs.size, rawInt 0, .none, .none] }) rfl
    rw [hz] at this; exact this
  refine ⟨⟨_, he, rfl⟩, h _ he (Heap.get?_push_of_some _ (Heap.get?_push_size _ B.free)) (by rw [Heap.size_push, hz]) fun b o x => Heap.get?_push_of_some _ (Heap.get?_push_of_some _ x)⟩
end
/-- enumerate of a tuple -/
def IteT (K : PySem.W.Frag) (a : Addr) : It :=
  ⟨fun i H => ∃ (xs : List V) (x : V), SqT K H a xs ∧ xs[i]? = some x, fun i H v H' => ∃ T x, v = .ref T ∧ H T = none ∧ H' = upd H T (.tup [.int (i : Nat), x]) ∧ ∀ xs, SqT K H a xs → xs[i]? = some x, fun i H => ∃ xs : List V, SqT K H a xs ∧ xs.length ≤ i⟩
theorem enum_ne_tup {h : Heap} {e it a : Addr} {k : Int} {old : Value} {items : Array Value} (he : IsEnum h e it k old) (ht : h.IsTuple a items) : e ≠ a := fun q => by
  subst q
  obtain ⟨o, h1, h2, _⟩ := ht
  rw [show h.get? e = some _ from he] at h1
  cases h1
  simp at h2
theorem iter_ne_tup {h : Heap} {it a : Addr} {i : Nat} {items : Array Value} (hi : h.IsTupleIter it a i) (ht : h.IsTuple a items) : a ≠ it := fun q => by
  subst q
  obtain ⟨o, h1, h2, _⟩ := ht
  obtain ⟨o', h3, h4, _⟩ := hi
  rw [h1] at h3
  cases h3
  rw [h2] at h4
  simp at h4
theorem turn_enumT {P : Program} {w : World} {K : PySem.W.Frag} {elts : List Expr} {kk : Nat} {tpos : Pos} (a e it : Addr) :
    Turn P w K (.Tuple elts kk tpos) (IteT K a) [e, it] e (fun i h => (∃ old, IsEnum h e it ((i : Nat) : Int) old) ∧ h.IsTupleIter it a i ∧ e ≠ it) where
  mem := by simp
  obj := fun i h st b hb => by
    obtain ⟨⟨old, he⟩, ⟨o, ho, hc, hd⟩, _⟩ := st
    have e' : b = e ∨ b = it := by simpa using hb
    rcases e' with z | z
    · rw [z]; exact ⟨_, he, fun v q => nomatch q⟩
    · rw [z]; exact ⟨o, ho, fun v q => by rw [hd] at q; cases q⟩
  keep := fun i h h' st k => let ⟨⟨old, he⟩, hi, hne⟩ := st; ⟨⟨old, k e (by simp) _ he⟩, hi.at fun o q => k it (by simp) o q, hne⟩
  item := by
    intro X hP hw hK hc i pins s σ H E I hf st hg
    subst hP hw hK
    obtain ⟨⟨old, he⟩, hit, hne⟩ := st
    obtain ⟨xs, x, hq, hx⟩ := hg
    obtain ⟨its, rv, p, hz⟩ := I.tuple hq
    have p : s.heap.IsTuple a its.toArray := p
    obtain ⟨u, hu, ru⟩ := rv.get hx
    have hel : e < s.heap.objs.size := Heap.lt_size he
    have hil : it < s.heap.objs.size := by obtain ⟨_, q, _⟩ := hit; exact Heap.lt_size q
    have hu' : its.toArray[i]? = some u := by simpa using hu
    have hlt : i < its.toArray.size := (Array.getElem?_eq_some_iff.mp hu').1
    have D := Draws.tuple (prog := X.prog) (w := X.w) (A := X.A.in1) (I.ok.hd hc) it a (iter_ne_tup hit p) its.toArray
    have hef : e ∉ [it, a] := by
      have := enum_ne_tup he p
      simp; exact ⟨hne, this⟩
    refine wpAny_pyNext_enum_itemD D he ⟨hit, p⟩ hlt hne hef fun u' h' tk hPx ho hst' hT hsz hk => ?_
    have eu : u' = u := by rw [hu'] at hPx; cases hPx; rfl
    subst eu
    refine ⟨_, rfl, wpAny_letOwnedTupleGo_enum (s := { s with heap := h', toks := tk + 1 }) ho fun h'' he' sb => ?_⟩
    have hT2 : h''.get? s.heap.objs.size = some { cls := .type "tuple", data := .seq #[.int i tk, u'] } := (sb.2 _ (Nat.ne_of_gt hel)).trans hT
    have new : ObjOk X.prog X.w (upd H s.heap.objs.size (.tup [.int (i : Nat), x])) h'' s.heap.objs.size (.tup [.int (i : Nat), x]) :=
      ⟨by show 2 ≤ sizeLine; decide, [.int i tk, u'], .cons ⟨_, rfl⟩ (.cons ru .nil), ⟨_, hT2, rfl, _, rfl⟩⟩
    have I1 : Inv X pins σ (upd H s.heap.objs.size (.tup [.int (i : Nat), x])) { s with heap := h'', toks := tk + 1 } :=
      I.turnedNew (ch := [e, it]) (fun b ob hb q => (sb.2 b (fun z => hb (by simp [z]))).trans (hk b ob (fun z => hb (by simp [z])) (fun z => hb (by simp [z])) q)) hf (Nat.le_refl _) new
    refine ⟨.ref s.heap.objs.size, _, I1, rfl, ⟨_, x, rfl, I.hok.fresh (Nat.le_refl _), rfl, fun ys hy => by rw [I.tuple_inj hy hq]; exact hx⟩, ⟨⟨u', ?_⟩, hst'.1.at fun o q => (sb.2 it (Ne.symm hne)).trans q, hne⟩, fun b hb => ?_⟩
    · have e1 : ((i + 1 : Nat) : Int) = (i : Int) + 1 := by omega
      rw [e1]; exact he'
    · have hb' : b < s.heap.objs.size := by
        have e' : b = e ∨ b = it := by simpa using hb
        rcases e' with z | z
        · rw [z]; exact hel
        · rw [z]; exact hil
      rw [upd_ne (Nat.ne_of_lt hb')]
      exact (hf b hb).1
  done := by
    intro X hP hw hK hc i pins s σ H E I hf st hg
    subst hP hw hK
    obtain ⟨⟨old, he⟩, hit, hne⟩ := st
    obtain ⟨xs, hq, hx⟩ := hg
    obtain ⟨its, rv, p, hz⟩ := I.tuple hq
    have p : s.heap.IsTuple a its.toArray := p
    obtain ⟨f0, f1, f2, f3, f4, f5⟩ := hf it (by simp)
    have hl := rv.length
    unfold pyNext
    have hT : s.TypeIs (.ref e) "enumerate" := ⟨_, he, rfl⟩
    refine wpAny_bind (wpAny_attempt (wpAny_callSpecial?_slot (name := Str.ofString "__next__") hT F.slot_enumerate_next
      (wpAny_call_entry F.slot_enumerate_next hT F.entry_enumerate_next ?_ (F.args_enumerate_next_1 _))))
    show wpAny _ _ (field (.ref e) 2 >>= _) _ _ _
    refine wpAny_bind (wpAny_field he rfl (x := .ref it) rfl ?_)
    refine wpAny_bind (wpAny_nextOf_tuple_end (I.ok.hd hc) hit p (by simp; omega) fun h' x he' hx' => ?_)
    obtain ⟨o, ho, hc'⟩ := hx'
    refine wpAny_bind (wpAny_isInstance (T := "StopIteration") (b := true) ⟨o, ho, hc'⟩ isSubtype_stop ?_)
    exact wpAny_pure ⟨rfl, I.turned (t' := s.toks) (fun b o hb q => he' b o hb q) f0 f1 f3 f4 f5⟩
  self := fun A i s Q E st h => let ⟨⟨_, he⟩, _⟩ := st; wpAny_pyIter_enum he h
def iEnumA (K : PySem.W.Frag) (ta : TA) : TI := fun σ H R => ta σ H fun vs H1 => ∃ a xs, vs = [.ref a] ∧ ((SqL K H1 a xs ∧ R (Ite K a) H1) ∨ (SqT K H1 a xs ∧ R (IteT K a) H1))
theorem pi_enumA {X : Cx} {e : Expr} {ta : TA} {p pos tpos : Pos} {elts : List Expr} {kk : Nat} (hg : Gl X "enumerate") (hm : X.mg "enumerate" = none) (ha : PA X [e] ta) (hs : starEach [e] X.env = [(false, eval e X.env)] := by rfl) :
    PI X (.Tuple elts kk tpos) (.Call (.Name "enumerate" p) [e] [] pos) (iEnumA X.K ta) := by
  refine ⟨fun pins s σ H R I h => ?_⟩
  refine Call_ (ld_blt I hg hm boot_enumerate (PyProof.Rows.callWith_type1 (thn (ha.run pos pins s σ H _ I h) fun us s1 ⟨vs, H1, I1, r1, q1⟩ => ?_) hs rfl))
  obtain ⟨a, xs, ex, q1⟩ := q1
  subst ex
  cases r1 with
  | cons r rr =>
    cases rr
    cases r
    have fp2 : ∀ b ∈ [s1.heap.objs.size + 1, s1.heap.objs.size], FpOk X pins H1 b := fun b hb => by
      have e' : b = s1.heap.objs.size + 1 ∨ b = s1.heap.objs.size := by simpa using hb
      have hle : s1.heap.objs.size ≤ b := by
        rcases e' with z | z
        · rw [z]; exact Nat.le_add_right _ _
        · rw [z]; exact Nat.le_refl _
      exact I1.fpOk hle (I1.hok.fresh hle)
    rcases q1 with ⟨hq, q⟩ | ⟨hq, q⟩
    · obtain ⟨its, rv, p', hz⟩ := I1.list hq
      refine call_enumerate_list p'.isList fun h' he hit hsz hk => wpAny_pyIter_enum he ?_
      have I2 : Inv X pins σ H1 { s1 with heap := h' } := I1.kept (t' := s1.toks) hk
      exact ⟨s1.heap.objs.size + 1, [s1.heap.objs.size + 1, s1.heap.objs.size], _, _, H1, rfl, I2, turn_enum a (s1.heap.objs.size + 1) s1.heap.objs.size, ⟨⟨.none, he⟩, hit, Nat.succ_ne_self _⟩, fp2, q⟩
    · obtain ⟨its, rv, p', hz⟩ := I1.tuple hq
      have p' : s1.heap.IsTuple a its.toArray := p'
      refine enum_beginsT (begins_tuple a its.toArray) p' fun h' he hit hsz hk => wpAny_pyIter_enum he ?_
      have I2 : Inv X pins σ H1 { s1 with heap := h' } := I1.kept (t' := s1.toks) hk
      exact ⟨s1.heap.objs.size + 1, [s1.heap.objs.size + 1, s1.heap.objs.size], _, _, H1, rfl, I2, turn_enumT a (s1.heap.objs.size + 1) s1.heap.objs.size, ⟨⟨.none, he⟩, ⟨_, hit, rfl, rfl⟩, Nat.succ_ne_self _⟩, fp2, q⟩
end YT
namespace Y
open PySem PySem.Spec L2
def enumL : Nat → List PyData → List T
  | _, [] => []
  | n, d :: ds => .d (.tuple [.int (n : Nat), d]) :: enumL (n + 1) ds
theorem enumL_len : ∀ (n : Nat) (ds : List PyData), (enumL n ds).length = ds.length
  | _, [] => rfl
  | n, d :: ds => by unfold enumL; simp [enumL_len (n + 1) ds]
theorem enumL_get : ∀ (n : Nat) (ds : List PyData) (i : Nat) (d : PyData), ds[i]? = some d → (enumL n ds)[i]? = some (.d (.tuple [.int ((n + i : Nat) : Int), d]))
  | n, x :: ds, 0, d, h => by simp at h; subst h; rfl
  | n, x :: ds, i + 1, d, h => by
    unfold enumL
    rw [List.getElem?_cons_succ, enumL_get (n + 1) ds i d (by simpa using h)]
    rw [show n + 1 + i = n + (i + 1) by omega]
def enumI (g : AF) : IF := fun ρ cs => (g ρ cs).bind fun ts c => match ts with
  | [t] => (match asQ c t with
    | some xs => (match allD xs with
      | some ds => .ok (enumL 0 ds, keepOf c t) c
      | none => .stuck)
    | none => .stuck)
  | _ => .stuck
section
variable {W : Wd} {X : Cx} {pos : Pos}
theorem pairT {K : PySem.W.Frag} {φ : List Addr} {Z H : Hp} {cs : Cs} (S : Sim W K φ Z cs H) {T : Addr} (hT : H T = none) {x y : V} {a b : PyData} (ra : Rep W K φ Z (.d a) x) (rb : Rep W K φ Z (.d b) y) :
    ∃ Z', Ext φ Z H φ Z' (upd H T (.tup [x, y])) ∧ Sim W K φ Z' cs (upd H T (.tup [x, y])) ∧ Rep W K φ Z' (.d (.tuple [a, b])) (.ref T) := by
  obtain ⟨S1, x1⟩ := S.frozen hT (.tup [x, y])
  refine ⟨_, x1, S1, .d (.tup (SqT.of upd_same) ?_)⟩
  cases ra with
  | d ra => cases rb with
    | d rb => exact .cons (Dz.zmono x1.zsub _ _ ra) (.cons (Dz.zmono x1.zsub _ _ rb) .nil)
theorem walk_enumL {K : PySem.W.Frag} {φ : List Addr} {Z H : Hp} {cs : Cs} {t : T} {a : Addr} {ds : List PyData} (S : Sim W K φ Z cs H) (r : Rep W K φ Z t (.ref a)) (e : asL cs t = some (ds.map .d)) (hT : asT t = none) : WalkY W K φ Z H (Ite K a) (enumL 0 ds) (keepOf cs t) := by
  intro φ1 Z1 H1 cs1 x1 S1 hk
  have e' : asQ cs t = some (ds.map .d) := by unfold asQ; rw [hT]; exact e
  obtain ⟨r1, e1⟩ := asQ_stay r e' x1 S1 hk
  unfold asQ at e1
  rw [hT] at e1
  obtain ⟨a', vs, ea, h1, h2⟩ := S1.asL r1 e1
  cases ea
  have hl := Paired.len h2
  rw [List.length_map] at hl
  rw [enumL_len]
  refine ⟨fun i hi => ⟨vs, vs[i]'(by omega), h1, by simp [show i < vs.length by omega]⟩, ⟨vs, h1, by omega⟩, fun i x H' hi hy => ?_⟩
  obtain ⟨T, y, rfl, hT', rfl, hy⟩ := hy
  have h3 := hy vs h1
  obtain ⟨z, h4, h5⟩ := Paired.get h2 (n := i) (a := .d ds[i]) (by simp [hi])
  rw [h4] at h3
  cases h3
  obtain ⟨Z', x2, S2, r2⟩ := pairT S1 hT' (Rep.int (i : Nat)) h5
  refine ⟨_, Z', enumL_get 0 ds i ds[i] (by simp [hi]), x2, S2, ?_⟩
  rw [show ((0 + i : Nat) : Int) = ((i : Nat) : Int) by omega]
  exact r2
theorem walk_enumT {K : PySem.W.Frag} {φ : List Addr} {Z H : Hp} {cs : Cs} {t : T} {a : Addr} {ds : List PyData} {keep : Cs → Prop} (S : Sim W K φ Z cs H) (r : Rep W K φ Z t (.ref a)) (e : asT t = some ds) : WalkY W K φ Z H (YT.IteT K a) (enumL 0 ds) keep := by
  intro φ1 Z1 H1 cs1 x1 S1 hk
  obtain ⟨a', vs, ea, _, h1, h2⟩ := S1.asT (r.ext x1) e
  cases ea
  have h2 := Reps.of_all (W := W) (φ := φ1) h2
  have hl := Paired.len h2
  rw [List.length_map] at hl
  rw [enumL_len]
  refine ⟨fun i hi => ⟨vs, vs[i]'(by omega), h1, by simp [show i < vs.length by omega]⟩, ⟨vs, h1, by omega⟩, fun i x H' hi hy => ?_⟩
  obtain ⟨T, y, rfl, hT', rfl, hy⟩ := hy
  have h3 := hy vs h1
  obtain ⟨z, h4, h5⟩ := Paired.get h2 (n := i) (a := .d ds[i]) (by simp [hi])
  rw [h4] at h3
  cases h3
  obtain ⟨Z', x2, S2, r2⟩ := pairT S1 hT' (Rep.int (i : Nat)) h5
  refine ⟨_, Z', enumL_get 0 ds i ds[i] (by simp [hi]), x2, S2, ?_⟩
  rw [show ((0 + i : Nat) : Int) = ((i : Nat) : Int) by omega]
  exact r2
theorem si_enum {a : Expr} {g : AF} {p tpos : Pos} {elts : List Expr} {kk : Nat} (hg : Gl X "enumerate") (hm : X.mg "enumerate" = none) (ha : SA W X [a] g) (hs : starEach [a] X.env = [(false, eval a X.env)] := by rfl) : SI W X (.Tuple elts kk tpos) (.Call (.Name "enumerate" p) [a] [] pos) (enumI g) := PI.imp (YT.pi_enumA hg hm ha hs) fun σ H Rr h => by
  obtain ⟨φ, Z, ρ, cs, S, L, ts, keep, cs', e, k⟩ := h
  obtain ⟨us, c, e1, e⟩ := R.bind_inv e
  refine ⟨φ, Z, ρ, cs, S, L, us, c, e1, fun φ1 Z1 H1 vs x1 S1 r1 => ?_⟩
  split at e
  · rename_i t
    split at e
    · rename_i xs q
      split at e
      · rename_i ds q2
        obtain ⟨v, rfl, r2⟩ := Reps.one r1
        have q3 := allD_eq q2
        subst q3
        cases e
        cases hT : asT t with
        | none =>
          have q' : asL cs' t = some (ds.map .d) := by unfold asQ at q; rw [hT] at q; exact q
          obtain ⟨b, ws, rfl, h1, h2⟩ := S1.asL r2 q'
          exact ⟨b, ws, rfl, .inl ⟨h1, k φ1 Z1 H1 _ x1 S1 (walk_enumL S1 r2 q' hT)⟩⟩
        | some es =>
          have q' : es = ds := by
            unfold asQ at q; rw [hT] at q
            have : some (es.map T.d) = some (ds.map T.d) := q
            have := congrArg allD (Option.some.inj this)
            rw [allD_map, allD_map] at this
            exact Option.some.inj this
          subst q'
          obtain ⟨b, ws, rfl, _, h1, h2⟩ := S1.asT r2 hT
          exact ⟨b, ws, rfl, .inr ⟨h1, k φ1 Z1 H1 _ x1 S1 (walk_enumT S1 r2 hT)⟩⟩
      · cases e
    · cases e
  · cases e
end
end Y
end
section
set_option Elab.async false
set_option linter.all false
set_option maxRecDepth 100000
set_option maxHeartbeats 1000000
/-! Promises where it is known that no printing is under way. -/
namespace YG
open PySem PySem.Spec PyProof.Rows L2
/-- room, and no object is being printed -/
structure RoomG (k : Nat) (A : Around) : Prop where
  r : Room k A
  gd : A.guards = some []
theorem RoomG.mono {j k : Nat} {A : Around} (r : RoomG k A) (h : j ≤ k) : RoomG j A := ⟨r.r.mono h, r.gd⟩
theorem RoomG.deeper {k : Nat} {A : Around} (r : RoomG (k + 1) A) (env : Env) : RoomG k (A.deeper env) := ⟨r.r.deeper env, r.gd⟩
theorem make_guards {A : Around} {C : Addr} {us : List Value} {kw : List (Str × Value)} : (A.under (.builtin "type.__call__" ⟨.ref C :: us, kw⟩)).guards = A.guards := by
  have h : (Code.builtin "type.__call__" ⟨.ref C :: us, kw⟩).guards = [] := by
    unfold Code.guards
    rw [show (Code.builtin "type.__call__" ⟨.ref C :: us, kw⟩).isGuard = false from by show guardIds.contains "type.__call__" = false; decide +kernel]
    rfl
  show pushGuards (Code.builtin "type.__call__" ⟨.ref C :: us, kw⟩).guards A.guards = A.guards
  rw [h]
  rfl
theorem RoomG.make {k : Nat} {A : Around} (r : RoomG (k + 1) A) (C : Addr) (us : List Value) (kw : List (Str × Value)) : RoomG k (A.under (.builtin "type.__call__" ⟨.ref C :: us, kw⟩)) := ⟨r.r.make C us kw, by rw [make_guards]; exact r.gd⟩
/-- a def's promise, asked only there -/
structure FnG (P : Program) (w : World) (K : PySem.W.Frag) (mg : Str → Option Value) (base : Heap) (k : Nat) (f : Addr) (fd : FuncData) (ps : List Str) (sp : Sp) : Prop where
  len : ∀ vs H Q E, sp vs H Q E → vs.length = ps.length
  run : ∀ (A : Around) (outer : List Env) (s : Shared) (H : Hp) (args : Args) (us : List Value) (vs : List V) (Q : VK) (E : XK), RoomG k A → Env0 P w K mg base A outer s H → BindsTo s fd args (ps.zip us) → Vals vs us → sp vs H Q E →
    codeAny (model P w) A (.call (.ref f) args) (CR CX0 outer P w H s Q E) s
section
variable {X : Cx} {k : Nat} {f C : Addr} {fd : FuncData} {ps : List Str} {sp : Sp} {dvs : List V} {ds : List Value} {x m : Str} {p pos apos : Pos} {e o : Expr} {es : List Expr} {ta : TE} {t : TA} {pins : List (Addr × Obj)} {σ : L2.St} {H : Hp} {s : Shared} {Q : VK} {us ws : List Value} {vs zs : List V}
theorem code_fn {args : Args} (F : FnG X.prog X.w X.K X.mg X.base k f fd ps sp) (hr : RoomG k X.A) (I : Inv X pins σ H s) (hb : BindsTo s fd args (ps.zip us)) (r : Vals vs us) (h : sp vs H Q E0) :
    codeAny (model X.prog X.w) X.A (.call (.ref f) args) (fun r s' => match r with | .ok (.ret v) => EP X pins σ Q v s' | .ok _ => False | .error e => X.xe e s') s :=
  codeAny_mono (F.run X.A X.stack s H args us vs Q E0 hr I.env0 hb r h) fun r s' hq => by
    cases r with
    | error e => exact hq.elim
    | ok fl => cases fl with
      | ret u => exact I.after hq
      | next => exact False.elim hq
      | brk => exact False.elim hq
      | cont => exact False.elim hq
theorem run_fn (F : FnG X.prog X.w X.K X.mg X.base k f fd ps sp) (hr : RoomG k X.A) (hb : L2.Binds X.K fd ps ds) (hd : Vals dvs ds) (I : Inv X pins σ H s) (r : Vals vs us) (h : sp (vs ++ dvs) H Q E0) : wpAny (model X.prog X.w) X.A (call (.ref f) us) (EP X pins σ Q) X.xe s := by
  have r2 : Vals (vs ++ dvs) (us ++ ds) := r.append hd
  have hl : (us ++ ds).length = ps.length := by rw [← r2.length]; exact F.len _ _ _ _ h
  exact wpAny_call (code_fn F hr I (hb s us I.kIn hl) r2 h)
theorem run_fnk {ks : List Str} {g : List Value → List Value → List Value} {gV : List V → List V → List V} (F : FnG X.prog X.w X.K X.mg X.base k f fd ps sp) (hr : RoomG k X.A) (hb : KBinds X.K fd ps ks g gV) (I : Inv X pins σ H s) (r : Vals vs us) (rz : Vals zs ws) (h : sp (gV vs zs) H Q E0) :
    wpAny (model X.prog X.w) X.A (call (.ref f) us (ks.zip ws)) (EP X pins σ Q) X.xe s := by
  have r2 := hb.rel r rz
  have hl : (g us ws).length = ps.length := by rw [← r2.length]; exact F.len _ _ _ _ h
  exact wpAny_call (code_fn F hr I (hb.to s us ws I.kIn hl) r2 h)
theorem pe_call (F : FnG X.prog X.w X.K X.mg X.base k f fd ps sp) (hr : RoomG k X.A) (hg : Gl X x) (hm : X.mg x = some (.ref f)) (hk : PySem.W.keepIn X.K (.ref f) = true) (hb : L2.Binds X.K fd ps ds) (hd : Vals dvs ds)
    (ha : PA X (e :: es) t) (hdb : (x == ("__debug__" : Str)) = false := by decide +kernel) (he : starEach (e :: es) X.env = (false, eval e X.env) :: starEach es X.env := by rfl) (hpl : (backTo pos (starEach es X.env)).any (·.1) = false := by rfl) :
    PE X (.Call (.Name x p) (e :: es) [] pos) (tCall sp dvs E0 t) := by
  refine ⟨fun pins s σ H Q I h => ?_⟩
  refine wpAny_Call_Name_kw (ld_glob I hg hm ?_ hdb)
  refine PySem.W.callWith_K (h₀ := X.base) I.ok.mod.kin hk (thn (ha.run pos pins s σ H _ I h) fun us s1 ⟨vs, H1, I1, r, q⟩ => ⟨I1.kIn, ?_⟩) he hpl
  exact run_fn F hr hb hd I1 r q
theorem pe_call0 (F : FnG X.prog X.w X.K X.mg X.base k f fd ps sp) (hr : RoomG k X.A) (hg : Gl X x) (hm : X.mg x = some (.ref f)) (hk : PySem.W.keepIn X.K (.ref f) = true) (hb : L2.Binds X.K fd ps ds) (hd : Vals dvs ds)
    (hdb : (x == ("__debug__" : Str)) = false := by decide +kernel) : PE X (.Call (.Name x p) [] [] pos) (tCall sp dvs E0 tNil) := by
  refine ⟨fun pins s σ H Q I h => ?_⟩
  refine wpAny_Call_Name_kw (ld_glob I hg hm ?_ hdb)
  exact PySem.W.callWith_K0 I.kIn hk (run_fn (us := []) F hr hb hd I .nil h)
/-- f(k = v, ..), no positional values -/
theorem pe_callK0 {ks : List Str} {kws : List Keyword} {tk : TA} {g : List Value → List Value → List Value} {gV : List V → List V → List V} (F : FnG X.prog X.w X.K X.mg X.base k f fd ps sp) (hr : RoomG k X.A) (hg : Gl X x) (hm : X.mg x = some (.ref f)) (hk : PySem.W.keepIn X.K (.ref f) = true) (hb : KBinds X.K fd ps ks g gV)
    (hkw : PK X kws tk) (hall : (backToKw pos (keywordEach kws X.env)).all (·.1.isSome) = true := by rfl) (hks : (backToKw pos (keywordEach kws X.env)).filterMap (·.1) = ks := by rfl)
    (hdb : (x == ("__debug__" : Str)) = false := by decide +kernel) (hpl : ((backTo pos (starEach [] X.env)).any (·.1) || (backToKw pos (keywordEach kws X.env)).any (·.1.isNone)) = false := by rfl) :
    PE X (.Call (.Name x p) [] kws pos) (tCallK sp gV E0 tNil tk) := by
  refine ⟨fun pins s σ H Q I h => ?_⟩
  refine wpAny_Call_Name_kw (ld_glob I hg hm ?_ hdb)
  refine PySem.W.callWith_KW0 (h₀ := X.base) I.ok.mod.kin hk hall ?_ hpl
  refine thn (hkw.run pos pins s σ H _ I h) fun ws s2 ⟨zs, H2, I2, rz, q2⟩ => ⟨I2.kIn, ?_⟩
  rw [hks]
  exact run_fnk (us := []) F hr hb I2 .nil rz q2
theorem pe_callK {ks : List Str} {kws : List Keyword} {tk : TA} {g : List Value → List Value → List Value} {gV : List V → List V → List V} (F : FnG X.prog X.w X.K X.mg X.base k f fd ps sp) (hr : RoomG k X.A) (hg : Gl X x) (hm : X.mg x = some (.ref f)) (hk : PySem.W.keepIn X.K (.ref f) = true) (hb : KBinds X.K fd ps ks g gV)
    (ha : PA X (e :: es) t) (hkw : PK X kws tk) (hall : (backToKw pos (keywordEach kws X.env)).all (·.1.isSome) = true := by rfl) (hks : (backToKw pos (keywordEach kws X.env)).filterMap (·.1) = ks := by rfl)
    (hdb : (x == ("__debug__" : Str)) = false := by decide +kernel) (he : starEach (e :: es) X.env = (false, eval e X.env) :: starEach es X.env := by rfl)
    (hpl : ((backTo pos (starEach (e :: es) X.env)).any (·.1) || (backToKw pos (keywordEach kws X.env)).any (·.1.isNone)) = false := by rfl) : PE X (.Call (.Name x p) (e :: es) kws pos) (tCallK sp gV E0 t tk) := by
  refine ⟨fun pins s σ H Q I h => ?_⟩
  refine wpAny_Call_Name_kw (ld_glob I hg hm ?_ hdb)
  refine PySem.W.callWith_KW (h₀ := X.base) I.ok.mod.kin hk hall (thn (ha.run pos pins s σ H _ I h) fun us s1 ⟨vs, H1, I1, r, q⟩ => ?_) hpl he
  refine thn (hkw.run pos pins s1 σ H1 _ I1 q) fun ws s2 ⟨zs, H2, I2, rz, q2⟩ => ⟨I2.kIn, ?_⟩
  rw [hks]
  exact run_fnk F hr hb I2 r rz q2
theorem pe_meth {pl : Sem Bool} (he : PE X o ta) (c : Cls X.K C) (hm : Meth X.K C m f) (F : FnG X.prog X.w X.K X.mg X.base k f fd ps sp) (hr : RoomG k X.A) (hb : L2.Binds X.K fd ps ds) (hd : Vals dvs ds) (ha : PA X (e :: es) t)
    (hst : starEach (e :: es) X.env = (false, eval e X.env) :: starEach es X.env := by rfl) (hpl : (backTo pos (starEach es X.env)).any (·.1) = false := by rfl)
    (ht : eval (.Call (.Attribute o m apos) (e :: es) [] pos) X.env = (do
      let ov ← eval o X.env
      standAt apos.atName
      let (f, first) ← holding [ov] (getMethod ov m pl)
      callWith pos f first (backTo pos (starEach (e :: es) X.env)) (backToKw pos (keywordEach [] X.env))) := by rfl) :
    PE X (.Call (.Attribute o m apos) (e :: es) [] pos) (tMeth C m sp dvs E0 ta t) := by
  refine ⟨fun pins s σ H Q I h => ?_⟩
  refine PySem.W.methodCall_KW (pl := pl) (thn (he.run pins s σ H _ I h) fun u s1 ⟨x, H1, I1, rx, a, dx, fs, ex, ea, l, q⟩ => ?_) ht
  subst ex
  obtain rfl : u = Value.ref a := rx
  refine getmeth_ok I1 ea c hm l ?_
  refine PySem.W.callWith_K (first := [.ref a]) (h₀ := X.base) I.ok.mod.kin hm.kp (thn (ha.run pos pins s1 σ H1 _ I1 q) fun us s2 ⟨vs, H2, I2, r, q2⟩ => ⟨I2.kIn, ?_⟩) hst hpl
  exact run_fn (us := .ref a :: us) (vs := .ref a :: vs) F hr hb hd I2 (.cons rfl r) q2
theorem pe_meth0 {pl : Sem Bool} (he : PE X o ta) (c : Cls X.K C) (hm : Meth X.K C m f) (F : FnG X.prog X.w X.K X.mg X.base k f fd ps sp) (hr : RoomG k X.A) (hb : L2.Binds X.K fd ps ds) (hd : Vals dvs ds)
    (ht : eval (.Call (.Attribute o m apos) [] [] pos) X.env = (do
      let ov ← eval o X.env
      standAt apos.atName
      let (f, first) ← holding [ov] (getMethod ov m pl)
      callWith pos f first (backTo pos (starEach [] X.env)) (backToKw pos (keywordEach [] X.env))) := by rfl) :
    PE X (.Call (.Attribute o m apos) [] [] pos) (tMeth C m sp dvs E0 ta tNil) := by
  refine ⟨fun pins s σ H Q I h => ?_⟩
  refine PySem.W.methodCall_KW (pl := pl) (thn (he.run pins s σ H _ I h) fun u s1 ⟨x, H1, I1, rx, a, dx, fs, ex, ea, l, q⟩ => ?_) ht
  subst ex
  obtain rfl : u = Value.ref a := rx
  refine getmeth_ok I1 ea c hm l ?_
  exact PySem.W.callWith_K0 (first := [.ref a]) I1.kIn hm.kp (run_fn (us := [.ref a]) (vs := [.ref a]) F hr hb hd I1 (.cons rfl .nil) q)
theorem run_make (M : Mk X.K C f) (F : FnG X.prog X.w X.K X.mg X.base k f fd ps sp) (hr : RoomG (k + 1) X.A) (hb : L2.Binds X.K fd ps ds) (hd : Vals dvs ds) (I : Inv X pins σ H s) (r : Vals vs us)
    (h : ∀ x dx, H x = none → H dx = none → dx ≠ x → sp (.ref x :: (vs ++ dvs)) (upd (upd H dx (.own x)) x (.ins C dx [])) (fun v H2 => v = .non ∧ Q (.ref x) H2) E0) :
    wpAny (model X.prog X.w) X.A (call (.ref C) us) (EP X pins σ Q) X.xe s := by
  have hq := h (s.heap.objs.size + 1) s.heap.objs.size (I.hok.fresh (Nat.le_succ _)) (I.hok.fresh (Nat.le_refl _)) (Nat.ne_of_lt (Nat.lt_succ_self _))
  have I2 := Inv.made (C := C) I
  have r2 : Vals (V.ref (s.heap.objs.size + 1) :: (vs ++ dvs)) (Value.ref (s.heap.objs.size + 1) :: (us ++ ds)) := .cons rfl (r.append hd)
  have hl : (Value.ref (s.heap.objs.size + 1) :: us ++ ds).length = ps.length := by
    have e := r2.length
    rw [F.len _ _ _ _ hq] at e
    exact e.symm
  refine wpAny_call (make_map (f := f) I.kIn M.makes M.init (beq_iff_eq.mp M.fn) (codeAny_mono (F.run _ X.stack _ _ ⟨Value.ref (s.heap.objs.size + 1) :: us, []⟩ (Value.ref (s.heap.objs.size + 1) :: (us ++ ds)) _ _ E0 (hr.make C us [])
    (I2.env0.make C us []) (hb _ (Value.ref (s.heap.objs.size + 1) :: us) I2.kIn hl) r2 hq) fun r s' hq' => ?_))
  cases r with
  | error e => exact hq'.elim
  | ok fl =>
    cases fl with
    | ret u =>
      obtain ⟨v, H', I3, rv, ev, q3⟩ := I2.after hq'
      subst ev
      exact ⟨rv, ⟨V.ref (s.heap.objs.size + 1), H', I3, rfl, q3⟩⟩
    | next => exact False.elim hq'
    | brk => exact False.elim hq'
    | cont => exact False.elim hq'
theorem pe_make (M : Mk X.K C f) (F : FnG X.prog X.w X.K X.mg X.base k f fd ps sp) (hr : RoomG (k + 1) X.A) (hg : Gl X x) (hm : X.mg x = some (.ref C)) (hb : L2.Binds X.K fd ps ds) (hd : Vals dvs ds)
    (ha : PA X (e :: es) t) (hdb : (x == ("__debug__" : Str)) = false := by decide +kernel) (he : starEach (e :: es) X.env = (false, eval e X.env) :: starEach es X.env := by rfl) (hpl : (backTo pos (starEach es X.env)).any (·.1) = false := by rfl) :
    PE X (.Call (.Name x p) (e :: es) [] pos) (tMake C sp dvs E0 t) := by
  refine ⟨fun pins s σ H Q I h => ?_⟩
  refine wpAny_Call_Name_kw (ld_glob I hg hm ?_ hdb)
  refine PySem.W.callWith_K (h₀ := X.base) I.ok.mod.kin M.kp (thn (ha.run pos pins s σ H _ I h) fun us s1 ⟨vs, H1, I1, r, q⟩ => ⟨I1.kIn, ?_⟩) he hpl
  exact run_make M F hr hb hd I1 r q
theorem pe_make0 (M : Mk X.K C f) (F : FnG X.prog X.w X.K X.mg X.base k f fd ps sp) (hr : RoomG (k + 1) X.A) (hg : Gl X x) (hm : X.mg x = some (.ref C)) (hb : L2.Binds X.K fd ps ds) (hd : Vals dvs ds)
    (hdb : (x == ("__debug__" : Str)) = false := by decide +kernel) : PE X (.Call (.Name x p) [] [] pos) (tMake C sp dvs E0 tNil) := by
  refine ⟨fun pins s σ H Q I h => ?_⟩
  refine wpAny_Call_Name_kw (ld_glob I hg hm ?_ hdb)
  exact PySem.W.callWith_K0 I.kIn M.kp (run_make (us := []) M F hr hb hd I .nil h)
end
/-- a def by its body -/
theorem fn_of {P : Program} {w : World} {K : PySem.W.Frag} {mg : Str → Option Value} {base : Heap} {k : Nat} {f : Addr} {name qual : Str} {params : Arguments} {body : List Stmt} {scope : Scope} {dvs : List V} {kws : List (Str × V)} {fd : FuncData}
    {N ps : List Str} {sp : Sp} (Fd : FunD K name qual params body scope dvs kws f fd) (S : FnScope N ps scope) (len : ∀ vs H Q E, sp vs H Q E → vs.length = ps.length)
    (hbody : ∀ (cdv : Value) (A : Around) (outer : List Env) (s : Shared) (H : Hp) (vs : List V) (Q : VK) (E : XK), RoomG k (A.deeper (envOfC qual scope s.heap.objs.size f cdv)) → sp vs H Q E →
      ∃ t, PSs (cxOf CX0 P w K mg base N qual scope f cdv A outer s H E) body t ∧ t { nx := fun _ H' => Q .non H', rt := Q } (L2.start N vs) H) :
    FnG P w K mg base (k + 1) f fd ps sp := by
  obtain ⟨oc, od, dV, kV, doc, pm, an, cdv, ct, osl, rfl, lk, hcd, _, _⟩ := Fd.ex
  refine ⟨len, fun A outer s H args us vs Q E hr e0 hb r hsp => ?_⟩
  have hl := len _ _ _ _ hsp
  have KX : K.In s.heap := e0.mod.kin.keeps fun b o e => (e0.bs b o e).1
  have lim : s.heap.NoLimit := e0.mod.nolimit.keeps fun b o e => (e0.bs b o e).1
  have hkind : ∀ y ∈ ps.zip us, scope.names.lookup y.1 = some .local ∨ (scope.names.lookup y.1 = some .cell ∧ ((cellsFrom (s.heap.objs.size + 1) scope.names []).lookup y.1).isSome = true) := fun ⟨n, v⟩ hy => by
    rcases S.par n (List.of_mem_zip hy).1 with q | q
    · exact .inl q
    · exact .inr ⟨q, PySem.W.cellsFrom_some _ _ _ (.inl q)⟩
  refine codeAny_call_function hr.r.depth (KX _ _ lk) rfl S.co S.gen rfl (PySem.W.codeRec_of KX hcd) (hb _ _ _ _ ?_)
  refine wpAny_newFunctionEnv_cells S.kind hkind fun env he s1 x => ?_
  subst he
  refine ⟨lim.keeps x.toInCall.keep, codeAny_func ?_⟩
  obtain ⟨t, ht, hq⟩ := hbody cdv A outer s H vs Q E (hr.deeper _) hsp
  have I : Inv (cxOf CX0 P w K mg base N qual scope f cdv A outer s H E) [] (L2.start N vs) H s1 := inv_start S hr.r.hd e0 hl r x
  refine wpAny_mono (ht.run [] s1 (L2.start N vs) H _ I hq) (fun fl s' hs => ?_) fun e s' hs => hs
  have fin : ∀ {σ' : L2.St} {H' : Hp} {v : V} {u : Value}, Inv (cxOf CX0 P w K mg base N qual scope f cdv A outer s H E) [] σ' H' s' → RelV v u → Q v H' → CE outer P w H s Q u s' :=
    fun {σ' H' v u} J rv q => ⟨v, H', J.os, J.bare, J.base, J.hok, rv, q⟩
  cases fl with
  | ret u =>
    obtain ⟨v, σ', H', J, rv, q⟩ := hs
    exact fin J rv q
  | next =>
    obtain ⟨σ', H', J, q⟩ := hs
    exact fin (v := V.non) (u := Value.none) J rfl q
  | brk =>
    obtain ⟨_, _, _, q⟩ := hs
    exact False.elim q
  | cont =>
    obtain ⟨_, _, _, q⟩ := hs
    exact False.elim q
/-- an FnOk that holds at one place gives the law's end: the promise is asked at the law's caller alone -/
theorem law_call {P : Program} {w : World} {K : PySem.W.Frag} {mg mb : Str → Option Value} {k : Nat} {fa a : Addr} {fd : FuncData} {x : Str} {sp : Sp} {s₁ : Shared} {vs : List Value} {ns : List Int}
    (KX : K.In s₁.heap) (hns : s₁.heap.Ns mainGlobals mg) (hb : s₁.heap.Ns builtinsNs mb) (hbb : ∀ x : Str, x ≠ "__name__" → mb x = bootBuiltins x) (hlim : s₁.heap.NoLimit) (hg : s₁.gens = #[])
    (ha : s₁.heap.get? a = some { cls := .type "list", data := .seq vs.toArray }) (hi : IntsAre vs ns) (hl : ns.length ≤ sizeLine) (hr : RoomG k callerA)
    (F : ∀ base : Heap, K.In base → base.Ns mainGlobals mg → FnG P w K mg base k fa fd [x] sp) (hbind : ∀ (s : Shared) (u : Value), BindsTo s fd ⟨[u], []⟩ [(x, u)])
    (hsp : ∀ H : Hp, Only H → SqL K H a (ns.map V.int) → sp [.ref a] H (fun v _ => v = .bl true) fun _ _ _ => False) :
    codeAny (model P w) callerA (.call (.ref fa) ⟨[.ref a], []⟩) (fun r s' => r = .ok (.ret (.bool true)) ∧ PySem.OldK s₁.heap s'.heap ∧ s'.os = s₁.os ∧ AllBare s'.gens) s₁ := by
  have rv := vals_ints hi
  have lenV := hi.length
  have core : ∀ H : Hp, Only H → SqL K H a (ns.map V.int) → HOk P w H s₁.heap → (∀ b, H b ≠ none → b = a) → (H a ≠ none → K.lookup a = none) →
      codeAny (model P w) callerA (.call (.ref fa) ⟨[.ref a], []⟩) (fun r s' => r = .ok (.ret (.bool true)) ∧ PySem.OldK s₁.heap s'.heap ∧ s'.os = s₁.os ∧ AllBare s'.gens) s₁ := by
    intro H hO hS hok hA hK
    have base_of : ∀ {b : Addr} {o : Obj}, s₁.heap.get? b = some o → H b = none → (hidT s₁.heap H).get? b = some o := fun e n => hidT_get e n
    have noA : ∀ {b : Addr} {o : Obj} {es : Array DictEntry} {ep : Nat}, s₁.heap.get? b = some o → o.data = .dict es ep → H b = none := fun {b o es ep} e d => by
      cases q : H b with
      | none => rfl
      | some u =>
        have e' : b = a := hA b (by rw [q]; simp)
        subst e'
        rw [ha] at e; cases e
        have d' : Data.seq vs.toArray _ = Data.dict es ep := d
        cases d'
    have nsK : ∀ {b : Addr} {m : Str → Option Value}, s₁.heap.Ns b m → (hidT s₁.heap H).Ns b m := fun {b m} ⟨o, es, ep, e, d, r⟩ => ⟨o, es, ep, base_of e (noA e d), d, r⟩
    have hKb : K.In (hidT s₁.heap H) := fun b o e => base_of (KX b o e) (by
      cases q : H b with
      | none => rfl
      | some u =>
        have e' : b = a := hA b (by rw [q]; simp)
        subst e'
        rw [hK (by rw [q]; simp)] at e; cases e)
    have hM : Mod K mg (hidT s₁.heap H) := ⟨hKb, nsK hns, ⟨mb, nsK hb, hbb⟩, let ⟨mc, h1, h2⟩ := hlim; ⟨mc, nsK h1, h2⟩⟩
    have e0 : Env0 P w K mg (hidT s₁.heap H) callerA [] s₁ H := ⟨rfl, hM, fun b o e => of_hidT e, Nat.le_of_eq (hidT_size _ _), trivial, fun b hb => absurd (show b ∈ ([] : List Addr) from hb) (by simp), hok, .of_eq hg⟩
    refine codeAny_mono ((F _ hKb (nsK hns)).run callerA [] s₁ H ⟨[.ref a], []⟩ [.ref a] [.ref a] _ _ hr e0 (hbind s₁ (.ref a)) (.cons rfl .nil) (hsp H hO hS)) fun r s' h => ?_
    cases r with
    | error e => exact (show False from h).elim
    | ok fl =>
      cases fl with
      | next => exact False.elim h
      | brk => exact False.elim h
      | cont => exact False.elim h
      | ret u =>
        obtain ⟨v, H', os, bare, un, hok', r', q⟩ := h
        have q' : v = .bl true := q
        subst q'
        obtain rfl : u = Value.bool true := r'
        refine ⟨rfl, PySem.OldK.of_keep fun b o e => ?_, os, bare⟩
        cases q : H b with
        | none => exact un.keep b o e q (by intro z; exact absurd (show b ∈ ([] : List Addr) from z) (by simp)) (by simp)
        | some u =>
          rcases hO b with z | ⟨ob, xs, z⟩
          · rw [q] at z; cases z
          · have z2 := un.frzs b ob _ z
            obtain ⟨e1, _⟩ := hok b _ z
            obtain ⟨e2, _⟩ := hok' b _ z2
            rw [e] at e1; cases e1
            exact e2
  cases hk : K.lookup a with
  | some o =>
    have e := KX a o hk
    rw [ha] at e
    cases e
    refine core (fun _ => none) (fun _ => .inl rfl) (.inr ⟨_, vs.toArray, _, hk, rfl, rfl, rfl, by rw [List.size_toArray, lenV]; exact hl, by simpa using rv⟩) (fun b u z => by have z' : (none : Option HO) = some u := z; cases z') (fun b z => absurd rfl z) fun z => absurd rfl z
  | none =>
    refine core (fun b => if b = a then some (.frz { cls := .type "list", data := .seq vs.toArray } (.lst (ns.map V.int))) else none) (fun b => ?_) (.inl (.inr ⟨{ cls := .type "list", data := .seq vs.toArray }, if_pos rfl⟩)) (fun b u z => ?_) (fun b z => ?_) fun _ => hk
    · by_cases hb : b = a
      · exact .inr ⟨_, _, if_pos hb⟩
      · exact .inl (if_neg hb)
    · by_cases hb : b = a
      · have z' := (if_pos hb).symm.trans z
        cases z'
        subst hb
        exact ⟨ha, by rw [List.length_map]; exact hl, vs, _, rv, ha⟩
      · have z' := (if_neg hb).symm.trans z
        cases z'
    · by_cases hb : b = a
      · exact hb
      · exact absurd (if_neg hb) z
theorem walk_of {l : PySem.W.OpenLaw} {n k : Nat} {q : Program} {loose : List Str} {XP : (Str → Option Value) → Heap → Prop} {YP : World → Heap → Prop} {d : DefRec} {x : Str}
    (hn : l.most = some n) (hn2 : n ≤ sizeLine) (hdf : d.params.defaults = []) (hr : RoomG k callerA)
    (F : ∀ (w : World) (mg : Str → Option Value) (fa : Addr) (h : Heap), YP w h → h.Ns mainGlobals mg → mg d.name = some (.ref fa) →
      ∃ (K : PySem.W.Frag) (fd : FuncData) (sp : Sp), K.In h ∧ (∀ (s : Shared) (u : Value), BindsTo s fd ⟨[u], []⟩ [(x, u)]) ∧
        (∀ (H : Hp) (a : Addr) (ns : List Int), ns.length ≤ n → Only H → SqL K H a (ns.map V.int) → sp [.ref a] H (fun v _ => v = .bl true) fun _ _ _ => False) ∧
        ∀ base : Heap, K.In base → base.Ns mainGlobals mg → FnG l.prog w K mg base k fa fd [x] sp) :
    PySem.W.WalkO q loose XP YP l.row.toRowW d [] (fun f vs => PySem.call f vs) := by
  refine Att.attach_call hn hdf fun w s₀ s₁ mg mb fa o pm cd doc a vs ns G Y ho hd hcd hmg hobj hints hlen hg => ?_
  obtain ⟨K, fd, sp, KX, hb, hsp, hF⟩ := F w mg fa _ Y G.T.g hmg
  exact law_call KX G.T.g G.T.b G.T.builtins G.T.nolimit hg hobj hints (Nat.le_trans hlen hn2) hr hF hb (fun H hO hS => hsp H a ns hlen hO hS)
end YG
end
section
set_option Elab.async false
set_option linter.all false
set_option maxRecDepth 100000
set_option maxHeartbeats 1000000
namespace Y
open PySem PySem.Spec L2 PyProof.Rows
/-! ### functions -/
abbrev FF := List T → Cs → R T
def isData : T → Bool
  | .d _ => true
  | .scr _ => true
  | .kd _ => true
  | .fn _ => true
  | _ => false
def ltT (n : Nat) : T → Bool
  | .ref m => decide (m < n)
  | .met m _ => decide (m < n)
  | .clo _ vs => vs.isEmpty
  | _ => true
def ltC (n : Nat) : Cell → Bool
  | .lst xs => xs.all (ltT n)
  | .dk kvs => kvs.all fun p => ltT n p.2
  | .dt kvs => kvs.all fun p => ltT n p.2
  | .ins _ fs => fs.all fun p => ltT n p.2
  | .dead => true
open Classical in
/-- what a call leaves: cells of its own that nobody can reach are gone -/
noncomputable def leaveT (cs : Cs) : R T → R T
  | .ok t c => if isData t = true ∧ (c.take cs.length = cs ∨ (c.take cs.length).all (ltC cs.length) = true) then .ok t (c.take cs.length) else .ok t c
  | .stuck => .stuck
def endF : RS → R T
  | .rt t cs => .ok t cs
  | .nx _ cs => .ok (.d .none) cs
  | _ => .stuck
def startR (N : Nat) (ts : List T) : Rho := ts.map some ++ List.replicate (N - ts.length) none
noncomputable def fnF (N n : Nat) (body : SF) : FF := fun ts cs => if ts.length = n then leaveT cs (endF (body (startR N ts) cs)) else .stuck
section
variable {W : Wd} {K : PySem.W.Frag} {φ φ' : List Addr} {Z Z' H H' : Hp} {cs c : Cs}
theorem Rep.lt {t : T} {v : V} (r : Rep W K φ Z t v) : ltT φ.length t = true := by
  cases r with
  | ref h => exact decide_eq_true (List.getElem?_eq_some_iff.mp h).1
  | met h _ => exact decide_eq_true (List.getElem?_eq_some_iff.mp h).1
  | _ => rfl
theorem Reps.lt : ∀ {ts : List T} {vs : List V}, Reps W K φ Z ts vs → ts.all (ltT φ.length) = true
  | _, _, .nil => rfl
  | _, _, .cons h t => by rw [List.all_cons, Rep.lt h, Reps.lt t]; rfl
theorem RepKV.lt {κ : Type} : ∀ {ts : List (κ × T)} {vs : List (κ × V)}, RepKV W K φ Z ts vs → (ts.all fun p => ltT φ.length p.2) = true
  | _, _, .nil => rfl
  | _, _, .cons h t => by rw [List.all_cons, Rep.lt h.2, RepKV.lt t]; rfl
theorem CellAt.lt {a : Addr} {x : Cell} (h : CellAt W K φ Z H a x) : ltC φ.length x = true := by
  cases x with
  | lst xs => obtain ⟨_, vs, _, r⟩ := h; exact Reps.lt r
  | dk xs => obtain ⟨_, vs, _, r⟩ := h; exact RepKV.lt r
  | dt xs => obtain ⟨_, vs, _, r⟩ := h; exact RepKV.lt r
  | ins c xs => obtain ⟨_, dx, vs, _, r⟩ := h; exact RepKV.lt r
  | dead => rfl
theorem Sim.lt (S : Sim W K φ Z cs H) : cs.all (ltC cs.length) = true := by
  rw [List.all_eq_true]
  intro x hx
  obtain ⟨n, hn, rfl⟩ := List.mem_iff_getElem.mp hx
  have hl := S.len
  have h := S.cell n cs[n] (φ[n]'(by omega)) (by simp) (by simp)
  have := CellAt.lt h
  rw [hl] at this
  exact this
theorem Rep.cut {t : T} {v : V} {n : Nat} (r : Rep W K φ Z t v) (h : ltT n t = true) : Rep W K (φ.take n) Z t v := by
  cases r with
  | d q => exact .d q
  | scr q => exact .scr q
  | ref e =>
    have hn := of_decide_eq_true h
    exact .ref (by rw [List.getElem?_take_of_lt hn]; exact e)
  | kd i => exact .kd i
  | fn i => exact .fn i
  | met e e2 =>
    have hn := of_decide_eq_true h
    exact .met (by rw [List.getElem?_take_of_lt hn]; exact e) e2
  | clo e e2 => exact .clo e e2
theorem Reps.cut {n : Nat} : ∀ {ts : List T} {vs : List V}, Reps W K φ Z ts vs → ts.all (ltT n) = true → Reps W K (φ.take n) Z ts vs
  | _, _, .nil, _ => .nil
  | _, _, .cons h t, e => by
    rw [List.all_cons, Bool.and_eq_true] at e
    exact .cons (h.cut e.1) (Reps.cut t e.2)
theorem RepKV.cut {κ : Type} {n : Nat} : ∀ {ts : List (κ × T)} {vs : List (κ × V)}, RepKV W K φ Z ts vs → (ts.all fun p => ltT n p.2) = true → RepKV W K (φ.take n) Z ts vs
  | _, _, .nil, _ => .nil
  | _, _, .cons h t, e => by
    rw [List.all_cons, Bool.and_eq_true] at e
    exact .cons ⟨h.1, h.2.cut e.1⟩ (RepKV.cut t e.2)
theorem CellAt.cut {a : Addr} {x : Cell} {n : Nat} (h : CellAt W K φ Z H a x) (e : ltC n x = true) : CellAt W K (φ.take n) Z H a x := by
  cases x with
  | lst xs => obtain ⟨z, vs, e1, r⟩ := h; exact ⟨z, vs, e1, Reps.cut r e⟩
  | dk xs => obtain ⟨z, vs, e1, r⟩ := h; exact ⟨z, vs, e1, RepKV.cut r e⟩
  | dt xs => obtain ⟨z, vs, e1, r⟩ := h; exact ⟨z, vs, e1, RepKV.cut r e⟩
  | ins c xs => obtain ⟨z, dx, vs, e1, r⟩ := h; exact ⟨z, dx, vs, e1, RepKV.cut r e⟩
  | dead => trivial
theorem Sim.cut (S : Sim W K φ Z c H) {n : Nat} (h : (c.take n).all (ltC n) = true) : Sim W K (φ.take n) Z (c.take n) H := by
  refine ⟨S.sub, by simp [S.len], S.nd.sublist (List.take_sublist _ _), fun a ha => S.there a (List.mem_of_mem_take ha), fun m x a h1 h2 => ?_, S.tb⟩
  have hm : m < n := by
    have := (List.getElem?_eq_some_iff.mp h1).1
    simp at this; omega
  have hx := List.all_eq_true.mp h x (List.mem_of_getElem? h1)
  rw [List.getElem?_take_of_lt hm] at h1 h2
  exact (S.cell m x a h1 h2).cut hx
theorem Ext.cut (x : Ext φ Z H φ' Z' H') {n : Nat} (h : φ.length = n) : φ'.take n = φ ∧ Ext φ Z H φ Z' H' := by
  refine ⟨?_, ⟨List.prefix_refl _, x.zsub, x.znew, x.frame, fun a h => .inl h⟩⟩
  obtain ⟨t, rfl⟩ := x.pre
  subst h
  simp
theorem leave_keep {t : T} {c1 : Cs} {φ' : List Addr} {Z' H' : Hp} {v : V} {r : R T} (S : Sim W K φ Z cs H) (x : Ext φ Z H φ' Z' H') (S' : Sim W K φ' Z' c1 H') (r' : Rep W K φ' Z' t v) (e : r = .ok t c1) :
    ∃ t' c' φ2, leaveT cs r = .ok t' c' ∧ Ext φ Z H φ2 Z' H' ∧ Sim W K φ2 Z' c' H' ∧ Rep W K φ2 Z' t' v := by
  subst e
  unfold leaveT
  dsimp only
  by_cases h : isData t = true ∧ (c1.take cs.length = cs ∨ (c1.take cs.length).all (ltC cs.length) = true)
  · rw [if_pos h]
    obtain ⟨hd, h⟩ := h
    have hall : (c1.take cs.length).all (ltC cs.length) = true := by
      rcases h with h | h
      · rw [h]; exact S.lt
      · exact h
    obtain ⟨e1, x1⟩ := x.cut S.len
    have S2 := S'.cut hall
    rw [e1] at S2
    refine ⟨t, _, φ, rfl, x1, S2, ?_⟩
    rw [← e1]
    refine r'.cut ?_
    cases t with
    | ref n => cases hd
    | met n m => cases hd
    | clo i vs => cases hd
    | _ => rfl
  · rw [if_neg h]
    exact ⟨t, c1, φ', rfl, x, S', r'⟩
end
/-! promises -/
def spY (W : Wd) (K : PySem.W.Frag) (n : Nat) (F : FF) : Sp := fun vs H Q _ => ∃ φ Z ts cs, Sim W K φ Z cs H ∧ Reps W K φ Z ts vs ∧ ts.length = n ∧ ∃ t cs', F ts cs = .ok t cs' ∧
  ∀ φ' Z' H' v, Ext φ Z H φ' Z' H' → Sim W K φ' Z' cs' H' → Rep W K φ' Z' t v → Q v H'
section
variable {P : Program} {w : World} {W : Wd} {K : PySem.W.Frag} {mg : Str → Option Value} {base : Heap} {x qual : Str} {params : Arguments} {body : List Stmt} {scope : Scope} {dvs : List V} {kws : List (Str × V)} {f : Addr} {fd : FuncData} {N ps : List Str} {k : Nat} {F : FF}
theorem spY_len {n : Nat} {vs : List V} {H : Hp} {Q : VK} {E : XK} (h : spY W K n F vs H Q E) : vs.length = n := by
  obtain ⟨φ, Z, ts, cs, S, r, hl, _⟩ := h
  rw [← Paired.len r, hl]
theorem Slots.start {φ : List Addr} {Z : Hp} {ts : List T} {vs : List V} (r : Reps W K φ Z ts vs) : Slots W K φ Z (startR N.length ts) (L2.start N vs) := by
  have hl := Paired.len r
  refine ⟨by unfold startR L2.start; simp [hl], fun i t e => ?_⟩
  unfold startR at e
  by_cases hi : i < ts.length
  · rw [List.getElem?_append_left (by simpa using hi)] at e
    rw [List.getElem?_map, List.getElem?_eq_getElem hi] at e
    have e : ts[i] = t := by simpa using e
    obtain ⟨v, h1, h2⟩ := Paired.get r (List.getElem?_eq_getElem hi)
    refine ⟨v, ?_, e ▸ h2⟩
    unfold L2.start
    rw [List.getElem?_append_left (by simp; omega), List.getElem?_map, h1]
    rfl
  · rw [List.getElem?_append_right (by simp; omega)] at e
    rw [List.getElem?_replicate] at e
    split at e
    · cases e
    · cases e
theorem fnOk0 : YG.FnG P w K mg base 0 f fd ps (spY W K ps.length fun _ _ => .stuck) :=
  ⟨fun vs H Q E h => spY_len h, fun A outer s H args us vs Q E hr he hb hv h => by
    obtain ⟨φ, Z, ts, cs, S, r, hl, t, cs', e, _⟩ := h
    cases e⟩
/-- a def by its body -/
theorem fn_ok (Fd : FunD K x qual params body scope dvs kws f fd) (S : FnScope N ps scope) {bf : SF}
    (hb : ∀ (cdv : Value) (A : Around) (outer : List Env) (s : Shared) (H : Hp) (E : XK), YG.RoomG k (A.deeper (envOfC qual scope s.heap.objs.size f cdv)) → SSs W (cxOf CX0 P w K mg base N qual scope f cdv A outer s H E).nox body bf) :
    YG.FnG P w K mg base (k + 1) f fd ps (spY W K ps.length (fnF N.length ps.length bf)) := by
  refine YG.fn_of Fd S (fun vs H Q E h => spY_len h) (fun cdv A outer s H vs Q E hr h => ⟨_, PSs.nox (hb cdv A outer s H E hr), ?_⟩)
  obtain ⟨φ, Z, ts, cs, Sm, r, hl, t, cs', e, kk⟩ := h
  unfold fnF at e
  rw [if_pos hl] at e
  refine ⟨φ, Z, startR N.length ts, cs, Sm, Slots.start r, ?_⟩
  generalize hrs : bf (startR N.length ts) cs = rs at e
  cases rs with
  | nx ρ c =>
    intro φ' Z' H' σ' x' S' L'
    obtain ⟨t', c', φ2, e2, x2, S2, r2⟩ := leave_keep (r := endF (.nx ρ c)) Sm x' S' (Rep.none) rfl
    rw [e] at e2
    cases e2
    exact kk _ _ _ _ x2 S2 r2
  | rt t c =>
    intro φ' Z' H' v x' S' r'
    obtain ⟨t', c', φ2, e2, x2, S2, r2⟩ := leave_keep (r := endF (.rt t c)) Sm x' S' r' rfl
    rw [e] at e2
    cases e2
    exact kk _ _ _ _ x2 S2 r2
  | bk ρ c => cases e
  | ct ρ c => cases e
  | stuck => cases e
end
/-! calls -/
def callE (F : FF) (ds : List T) (g : AF) : EF := fun ρ cs => (g ρ cs).bind fun ts c => F (ts ++ ds) c
section
variable {W : Wd} {X : Cx} {pos p apos : Pos} {k : Nat} {f C : Addr} {fd : FuncData} {ps : List Str} {F : FF} {dvs : List V} {dts : List T} {ds : List Value} {x m : Str} {e o : Expr} {es : List Expr} {g : AF} {fo : EF}
theorem tCall_of {n : Nat} (rd : ∀ φ Z, Reps W X.K φ Z dts dvs) (hn : ∀ {vs H Q E}, spY W X.K n F vs H Q E → True) {σ : L2.St} {H : Hp} {Q : VK} (hl : ∀ ts : List T, ∀ c t c', F ts c = .ok t c' → ts.length = n) (h : tE W X.K (callE F dts g) σ H Q) : tCall (spY W X.K n F) dvs E0 (tA W X.K g) σ H Q := by
  obtain ⟨φ, Z, ρ, cs, S, L, t, cs', e0, kk⟩ := h
  obtain ⟨ts, c, e1, e2⟩ := R.bind_inv e0
  exact ⟨φ, Z, ρ, cs, S, L, ts, c, e1, fun φ1 Z1 H1 vs x1 S1 r1 => ⟨φ1, Z1, ts ++ dts, c, S1, Paired.app r1 (rd φ1 Z1), hl _ _ _ _ e2, t, cs', e2, fun φ' Z' H' v x' => kk φ' Z' H' v (x1.trans x')⟩⟩
/-- F takes n arguments -/
def Ar (n : Nat) (F : FF) : Prop := ∀ ts c t c', F ts c = .ok t c' → ts.length = n
theorem ar_fnF {N n : Nat} {bf : SF} : Ar n (fnF N n bf) := fun ts c t c' e => by
  unfold fnF at e
  split at e
  · assumption
  · cases e
theorem ar_stuck {n : Nat} : Ar n fun _ _ => .stuck := fun ts c t c' e => by cases e
theorem se_call (hF : YG.FnG X.prog X.w X.K X.mg X.base k f fd ps (spY W X.K ps.length F)) (hl : Ar ps.length F) (hr : YG.RoomG k X.A) (hg : Gl X x) (hm : X.mg x = some (.ref f)) (hk : PySem.W.keepIn X.K (.ref f) = true) (hb : Binds X.K fd ps ds) (hd : Vals dvs ds) (rd : ∀ φ Z, Reps W X.K φ Z dts dvs)
    (ha : SA W X (e :: es) g) (hdb : (x == ("__debug__" : Str)) = false := by decide +kernel) (he : starEach (e :: es) X.env = (false, eval e X.env) :: starEach es X.env := by rfl) (hpl : (backTo pos (starEach es X.env)).any (·.1) = false := by rfl) :
    SE W X (.Call (.Name x p) (e :: es) [] pos) (callE F dts g) := PE.imp (YG.pe_call hF hr hg hm hk hb hd ha hdb he hpl) fun σ H Q h => tCall_of rd (fun _ => trivial) hl h
theorem se_call0 (hF : YG.FnG X.prog X.w X.K X.mg X.base k f fd ps (spY W X.K ps.length F)) (hl : Ar ps.length F) (hr : YG.RoomG k X.A) (hg : Gl X x) (hm : X.mg x = some (.ref f)) (hk : PySem.W.keepIn X.K (.ref f) = true) (hb : Binds X.K fd ps ds) (hd : Vals dvs ds) (rd : ∀ φ Z, Reps W X.K φ Z dts dvs)
    (hdb : (x == ("__debug__" : Str)) = false := by decide +kernel) : SE W X (.Call (.Name x p) [] [] pos) (callE F dts nilA) := PE.imp (YG.pe_call0 hF hr hg hm hk hb hd hdb) fun σ H Q h => by
  have := tCall_of (g := nilA) rd (fun _ => trivial) hl h
  obtain ⟨φ, Z, ρ, cs, S, L, ts, c, e1, kk⟩ := this
  cases e1
  exact kk φ Z H [] (Ext.refl _ _ _) S .nil
/-! methods of instances of one class -/
def methE (ci : Nat) (m : Str) (F : FF) (ds : List T) (fo : EF) (g : AF) : EF := fun ρ cs => (fo ρ cs).bind fun t c => match t with
  | .ref n => (match c[n]? with
    | some (.ins cl fs) => if cl = ci ∧ fs.lookup m = none then (g ρ c).bind fun ts c2 => F (t :: (ts ++ ds)) c2 else .stuck
    | _ => .stuck)
  | _ => .stuck
theorem RepKV.lookup {K : PySem.W.Frag} {φ : List Addr} {Z : Hp} (m : Str) : ∀ {fs : List (Str × T)} {vs : List (Str × V)}, RepKV W K φ Z fs vs → (∀ t, fs.lookup m = some t → ∃ v, vs.lookup m = some v ∧ Rep W K φ Z t v) ∧ (fs.lookup m = none → vs.lookup m = none)
  | _, _, .nil => ⟨fun t e => by simp at e, fun _ => by rfl⟩
  | _, _, .cons (a := (a, t)) (b := (b, v)) h r => by
    obtain ⟨h1, h2⟩ := h
    dsimp only at h1 h2
    subst h1
    rw [List.lookup_cons, List.lookup_cons]
    cases hb : m == a with
    | true => exact ⟨fun u e => by cases e; exact ⟨v, rfl, h2⟩, fun e => by cases e⟩
    | false => exact RepKV.lookup m r
theorem tMeth_of {n ci : Nat} (rd : ∀ φ Z, Reps W X.K φ Z dts dvs) (hl : Ar n F) {σ : L2.St} {H : Hp} {Q : VK} (h : tE W X.K (methE ci m F dts fo g) σ H Q) : tMeth (W.cad ci) m (spY W X.K n F) dvs E0 (tE W X.K fo) (tA W X.K g) σ H Q := by
  obtain ⟨φ, Z, ρ, cs, S, L, t, cs', e0, kk⟩ := h
  obtain ⟨u, c, e1, e2⟩ := R.bind_inv e0
  refine ⟨φ, Z, ρ, cs, S, L, u, c, e1, fun φ1 Z1 H1 v x1 S1 r1 => ?_⟩
  split at e2
  · rename_i i
    split at e2
    · rename_i cl fs hc
      split at e2
      · rename_i hh
        obtain ⟨rfl, hh⟩ := hh
        obtain ⟨ts, c2, e3, e4⟩ := R.bind_inv e2
        cases r1 with
        | ref ea =>
          rename_i a
          obtain ⟨_, dx, vs, e5, r5⟩ := S1.cell i _ a hc ea
          refine ⟨a, dx, vs, rfl, e5, (RepKV.lookup m r5).2 hh, φ1, Z1, ρ, c, S1, L.ext x1, ts, c2, e3, fun φ2 Z2 H2 ws x2 S2 r2 => ?_⟩
          exact ⟨φ2, Z2, _, c2, S2, .cons (Rep.ext x2 (.ref ea)) (Paired.app r2 (rd φ2 Z2)), hl _ _ _ _ e4, t, cs', e4, fun φ' Z' H' v x' => kk φ' Z' H' v ((x1.trans x2).trans x')⟩
      · cases e2
    · cases e2
  · cases e2
theorem se_meth {ci : Nat} {pl : Sem Bool} (ho : SE W X o fo) (c : Cls X.K (W.cad ci)) (hm : Meth X.K (W.cad ci) m f) (hF : YG.FnG X.prog X.w X.K X.mg X.base k f fd ps (spY W X.K ps.length F)) (hl : Ar ps.length F) (hr : YG.RoomG k X.A) (hb : Binds X.K fd ps ds) (hd : Vals dvs ds) (rd : ∀ φ Z, Reps W X.K φ Z dts dvs) (ha : SA W X (e :: es) g)
    (hst : starEach (e :: es) X.env = (false, eval e X.env) :: starEach es X.env := by rfl) (hpl : (backTo pos (starEach es X.env)).any (·.1) = false := by rfl)
    (ht : eval (.Call (.Attribute o m apos) (e :: es) [] pos) X.env = (do
      let ov ← eval o X.env
      standAt apos.atName
      let (f, first) ← holding [ov] (getMethod ov m pl)
      callWith pos f first (backTo pos (starEach (e :: es) X.env)) (backToKw pos (keywordEach [] X.env))) := by rfl) :
    SE W X (.Call (.Attribute o m apos) (e :: es) [] pos) (methE ci m F dts fo g) := PE.imp (YG.pe_meth ho c hm hF hr hb hd ha hst hpl ht) fun σ H Q h => tMeth_of rd hl h
theorem se_meth0 {ci : Nat} {pl : Sem Bool} (ho : SE W X o fo) (c : Cls X.K (W.cad ci)) (hm : Meth X.K (W.cad ci) m f) (hF : YG.FnG X.prog X.w X.K X.mg X.base k f fd ps (spY W X.K ps.length F)) (hl : Ar ps.length F) (hr : YG.RoomG k X.A) (hb : Binds X.K fd ps ds) (hd : Vals dvs ds) (rd : ∀ φ Z, Reps W X.K φ Z dts dvs)
    (ht : eval (.Call (.Attribute o m apos) [] [] pos) X.env = (do
      let ov ← eval o X.env
      standAt apos.atName
      let (f, first) ← holding [ov] (getMethod ov m pl)
      callWith pos f first (backTo pos (starEach [] X.env)) (backToKw pos (keywordEach [] X.env))) := by rfl) :
    SE W X (.Call (.Attribute o m apos) [] [] pos) (methE ci m F dts fo nilA) := PE.imp (YG.pe_meth0 ho c hm hF hr hb hd ht) fun σ H Q h => by
  obtain ⟨φ, Z, ρ, cs, S, L, u, c, e1, kk⟩ := tMeth_of (g := nilA) rd hl h
  refine ⟨φ, Z, ρ, cs, S, L, u, c, e1, fun φ1 Z1 H1 v x1 S1 r1 => ?_⟩
  obtain ⟨a, dx, fs, ea, eb, ec, q⟩ := kk φ1 Z1 H1 v x1 S1 r1
  refine ⟨a, dx, fs, ea, eb, ec, ?_⟩
  obtain ⟨φ, Z, ρ, cs, S, L, ts, c, e1, kk⟩ := q
  cases e1
  exact kk φ Z H1 [] (Ext.refl _ _ _) S .nil
/-! making -/
/-- a new instance at the end; its __init__ gives None -/
def makeE (ci : Nat) (F : FF) (ds : List T) (g : AF) : EF := fun ρ cs => (g ρ cs).bind fun ts c => (F (.ref c.length :: (ts ++ ds)) (c ++ [.ins ci []])).bind fun t c2 => if isNone t = true then .ok (.ref c.length) c2 else .stuck
theorem tMake_of {n ci : Nat} (rd : ∀ φ Z, Reps W X.K φ Z dts dvs) (hl : Ar n F) {σ : L2.St} {H : Hp} {Q : VK} (h : tE W X.K (makeE ci F dts g) σ H Q) : tMake (W.cad ci) (spY W X.K n F) dvs E0 (tA W X.K g) σ H Q := by
  obtain ⟨φ, Z, ρ, cs, S, L, t, cs', e0, kk⟩ := h
  obtain ⟨ts, c, e1, e2⟩ := R.bind_inv e0
  obtain ⟨t2, c2, e3, e4⟩ := R.bind_inv e2
  refine ⟨φ, Z, ρ, cs, S, L, ts, c, e1, fun φ1 Z1 H1 vs x1 S1 r1 x dx hx hdx ne => ?_⟩
  split at e4
  · rename_i hnn
    cases e4
    -- the dict object first, then the instance
    obtain ⟨Sa, xa⟩ := S1.frozen hdx (.own x)
    have hx2 : upd H1 dx (.own x) x = none := by rw [upd_ne (fun q => ne q.symm)]; exact hx
    obtain ⟨Sb, xb⟩ := Sa.newCell hx2 (o := .ins (W.cad ci) dx []) (c := .ins ci []) fun hz => ⟨hz, dx, [], upd_same, .nil⟩
    have ra : Rep W X.K (φ1 ++ [x]) (upd Z1 dx (.own x)) (.ref c.length) (.ref x) := .ref (by rw [← S1.len, List.getElem?_append_right (Nat.le_refl _)]; simp)
    refine ⟨_, _, _, _, Sb, .cons ra (Paired.app (Reps.ext (xa.trans xb) r1) (rd _ _)), hl _ _ _ _ e3, t2, _, e3, fun φ' Z' H' v x' S' r' => ⟨?_, kk φ' Z' H' _ ((x1.trans (xa.trans xb)).trans x') S' (ra.ext x')⟩⟩
    cases t2 with
    | d y => cases y with
      | none => exact r'.dNone
      | _ => cases hnn
    | _ => cases hnn
  · cases e4
theorem se_make {ci : Nat} (M : Mk X.K (W.cad ci) f) (hF : YG.FnG X.prog X.w X.K X.mg X.base k f fd ps (spY W X.K ps.length F)) (hl : Ar ps.length F) (hr : YG.RoomG (k + 1) X.A) (hg : Gl X x) (hm : X.mg x = some (.ref (W.cad ci))) (hb : Binds X.K fd ps ds) (hd : Vals dvs ds) (rd : ∀ φ Z, Reps W X.K φ Z dts dvs) (ha : SA W X (e :: es) g)
    (hdb : (x == ("__debug__" : Str)) = false := by decide +kernel) (he : starEach (e :: es) X.env = (false, eval e X.env) :: starEach es X.env := by rfl) (hpl : (backTo pos (starEach es X.env)).any (·.1) = false := by rfl) :
    SE W X (.Call (.Name x p) (e :: es) [] pos) (makeE ci F dts g) := PE.imp (YG.pe_make M hF hr hg hm hb hd ha hdb he hpl) fun σ H Q h => tMake_of rd hl h
end
end Y
end
section
set_option Elab.async false
set_option linter.all false
set_option maxRecDepth 100000
set_option maxHeartbeats 1000000
namespace Y
open PySem PySem.Spec L2
/-! ### attributes -/
def putT {α : Type} (f : Str) (v : α) : List (Str × α) → List (Str × α)
  | [] => [(f, v)]
  | (g, x) :: r => if g = f then (g, v) :: r else (g, x) :: putT f v r
def setK {κ β : Type} [DecidableEq κ] (kvs : List (κ × β)) (k : κ) (v : β) : List (κ × β) :=
  if (kvs.any fun kv => decide (kv.1 = k)) = true then kvs.map (fun kv => if kv.1 = k then (kv.1, v) else kv) else kvs ++ [(k, v)]
section
variable {W : Wd} {K : PySem.W.Frag} {φ : List Addr} {Z H : Hp} {cs : Cs}
theorem RepKV.put {f : Str} {t : T} {v : V} (r : Rep W K φ Z t v) : ∀ {fs : List (Str × T)} {vs : List (Str × V)}, RepKV W K φ Z fs vs → RepKV W K φ Z (putT f t fs) (putF f v vs)
  | _, _, .nil => .cons ⟨rfl, r⟩ .nil
  | _, _, .cons (a := (a, x)) (b := (b, y)) h q => by
    obtain ⟨h1, h2⟩ := h
    dsimp only at h1 h2
    subst h1
    unfold putT putF
    by_cases e : a = f
    · rw [if_pos e, if_pos e]; exact .cons ⟨rfl, r⟩ q
    · rw [if_neg e, if_neg e]; exact .cons ⟨rfl, h2⟩ (RepKV.put r q)
theorem RepKV.any {κ : Type} [DecidableEq κ] (k : κ) : ∀ {fs : List (κ × T)} {vs : List (κ × V)}, RepKV W K φ Z fs vs → (fs.any fun kv => decide (kv.1 = k)) = (vs.any fun kv => decide (kv.1 = k))
  | _, _, .nil => rfl
  | _, _, .cons h q => by rw [List.any_cons, List.any_cons, h.1, RepKV.any k q]
theorem RepKV.mapK {κ : Type} [DecidableEq κ] {k : κ} {t : T} {v : V} (r : Rep W K φ Z t v) : ∀ {fs : List (κ × T)} {vs : List (κ × V)}, RepKV W K φ Z fs vs → RepKV W K φ Z (fs.map (fun kv => if kv.1 = k then (kv.1, t) else kv)) (vs.map (fun kv => if kv.1 = k then (kv.1, v) else kv))
  | _, _, .nil => .nil
  | _, _, .cons (a := (a, x)) (b := (b, y)) h q => by
    obtain ⟨h1, h2⟩ := h
    dsimp only at h1 h2
    subst h1
    refine .cons ?_ (RepKV.mapK r q)
    dsimp only
    by_cases e : a = k
    · rw [if_pos e, if_pos e]; exact ⟨rfl, r⟩
    · rw [if_neg e, if_neg e]; exact ⟨rfl, h2⟩
theorem RepKV.setK {κ : Type} [DecidableEq κ] {k : κ} {t : T} {v : V} (r : Rep W K φ Z t v) {fs : List (κ × T)} {vs : List (κ × V)} (q : RepKV W K φ Z fs vs) : RepKV W K φ Z (Y.setK fs k t) (putK vs k v) := by
  unfold Y.setK putK
  rw [RepKV.any k q]
  split
  · exact RepKV.mapK r q
  · exact Paired.app q (.cons ⟨rfl, r⟩ .nil)
end
def fldT (W : Wd) (f : Str) (t : T) (c : Cs) : R T := match t with
  | .ref n => (match c[n]? with
    | some (.ins ci fs) => (match fs.lookup f with
      | some u => if W.okf ci f = true then .ok u c else .stuck
      | none => .stuck)
    | _ => .stuck)
  | _ => .stuck
def fldE (W : Wd) (f : Str) (fo : EF) : EF := fun ρ cs => (fo ρ cs).bind fun t c => fldT W f t c
def putfT (W : Wd) (f : Str) (o : T) (v : T) (c : Cs) : R Unit := match o with
  | .ref n => (match c[n]? with
    | some (.ins ci fs) => if W.okf ci f = true ∧ fs.length < 1000 then .ok () (c.set n (.ins ci (putT f v fs))) else .stuck
    | _ => .stuck)
  | _ => .stuck
section
variable {W : Wd} {X : Cx} {pos pos' : Pos} {fo fv : EF} {o e value : Expr} {f : Str}
theorem se_fld (G : WOk W X.K X.w) (ho : SE W X e fo) (hb : attributeBase e f X.env (eval e X.env) = eval e X.env := by rfl) : SE W X (.Attribute e f pos) (fldE W f fo) := PE.imp (pe_fld ho hb) fun σ H Q h => by
  obtain ⟨φ, Z, ρ, cs, S, L, t, cs', e0, kk⟩ := h
  obtain ⟨u, c, e1, e2⟩ := R.bind_inv e0
  refine ⟨φ, Z, ρ, cs, S, L, u, c, e1, fun φ1 Z1 H1 v x1 S1 r1 => ?_⟩
  unfold fldT at e2
  split at e2
  · rename_i n
    split at e2
    · rename_i ci fs hc
      split at e2
      · rename_i u hu
        split at e2
        · rename_i hk
          cases e2
          cases r1 with
          | ref ea =>
            obtain ⟨_, dx, vs, e5, r5⟩ := S1.cell n _ _ hc ea
            obtain ⟨v, e6, r6⟩ := (RepKV.lookup f r5).1 _ hu
            obtain ⟨c1, c2⟩ := G.fld ci f hk
            exact ⟨_, _, dx, vs, v, rfl, e5, c1, c2, e6, kk φ1 Z1 H1 v x1 S1 r6⟩
        · cases e2
      · cases e2
    · cases e2
  · cases e2
theorem putf_ok {K : PySem.W.Frag} {w : World} (G : WOk W K w) {φ : List Addr} {Z H : Hp} {cs c : Cs} {t u : T} {x y : V} (S : Sim W K φ Z cs H) (r1 : Rep W K φ Z t x) (r2 : Rep W K φ Z u y) (e : putfT W f t u cs = .ok () c) :
    ∃ a C dx fs, x = .ref a ∧ H a = some (.ins C dx fs) ∧ Cls K C ∧ NoAttr K C f ∧ fs.length < 1000 ∧ Ext φ Z H φ Z (upd H a (.ins C dx (putF f y fs))) ∧ Sim W K φ Z c (upd H a (.ins C dx (putF f y fs))) := by
  unfold putfT at e
  split at e
  · rename_i n
    split at e
    · rename_i ci fs hc
      split at e
      · rename_i hk
        cases e
        cases r1 with
        | ref ea =>
          obtain ⟨hz, dx, vs, e5, r5⟩ := S.cell n _ _ hc ea
          obtain ⟨c1, c2⟩ := G.fld ci f hk.1
          obtain ⟨S1, x1⟩ := S.setCell hc ea hz (o := .ins (W.cad ci) dx (putF f y vs)) (c := .ins ci (putT f u fs)) ⟨hz, dx, _, upd_same, RepKV.put r2 r5⟩
          exact ⟨_, _, dx, vs, rfl, e5, c1, c2, by rw [← Paired.len r5]; exact hk.2, x1, S1⟩
      · cases e
    · cases e
  · cases e
def fldS (W : Wd) (f : Str) (fo fv : EF) : SF := fun ρ cs => match (fv ρ cs).bind fun v c => (fo ρ c).bind fun o c2 => putfT W f o v c2 with
  | .ok _ c => .nx ρ c
  | .stuck => .stuck
theorem ss_fld (G : WOk W X.K X.w) (ho : SE W X o fo) (hv : SE W X value fv) (hs : swapsWith value (some (.Attribute o f pos')) pos.line X.env = pure false := by rfl) : SS W X (.Assign [.Attribute o f pos'] value pos) (fldS W f fo fv) := PS.imp (ps_fld ho hv hs) fun D σ H h => by
  obtain ⟨φ, Z, ρ, cs, S, L, h⟩ := h
  unfold fldS at h
  split at h
  · rename_i c e0
    obtain ⟨v, c1, e1, e0⟩ := R.bind_inv e0
    obtain ⟨u, c2, e2, e0⟩ := R.bind_inv e0
    refine ⟨φ, Z, ρ, cs, S, L, v, c1, e1, fun φ1 Z1 H1 y x1 S1 r1 => ⟨φ1, Z1, ρ, c1, S1, L.ext x1, u, c2, e2, fun φ2 Z2 H2 x x2 S2 r2 => ?_⟩⟩
    obtain ⟨a, C, dx, fs, h1, h2, h3, h4, h5, h6, h7⟩ := putf_ok G S2 r2 (r1.ext x2) e0
    exact ⟨a, C, dx, fs, h1, h2, h3, h4, h5, h _ _ _ _ ((x1.trans x2).trans h6) h7 (((L.ext x1).ext x2).ext h6)⟩
  · exact h.elim
end
/-! ### targets of any kind -/
abbrev GF := T → Rho → Cs → R Rho
def tGG (W : Wd) (K : PySem.W.Frag) (g : GF) : TG := fun v σ H Q => ∃ φ Z ρ cs t, Sim W K φ Z cs H ∧ Slots W K φ Z ρ σ ∧ Rep W K φ Z t v ∧ ∃ ρ' cs', g t ρ cs = .ok ρ' cs' ∧ ∀ φ' Z' H' σ', Ext φ Z H φ' Z' H' → Sim W K φ' Z' cs' H' → Slots W K φ' Z' ρ' σ' → Q σ' H'
def SGG (W : Wd) (X : Cx) (e : Expr) (g : GF) : Prop := PG X e (tGG W X.K g)
abbrev GFs := List T → Rho → Cs → R Rho
def tGGs (W : Wd) (K : PySem.W.Frag) (g : GFs) : TGs := fun vs σ H Q => ∃ φ Z ρ cs ts, Sim W K φ Z cs H ∧ Slots W K φ Z ρ σ ∧ Reps W K φ Z ts vs ∧ ∃ ρ' cs', g ts ρ cs = .ok ρ' cs' ∧ ∀ φ' Z' H' σ', Ext φ Z H φ' Z' H' → Sim W K φ' Z' cs' H' → Slots W K φ' Z' ρ' σ' → Q σ' H'
def SGGs (W : Wd) (X : Cx) (es : List Expr) (g : GFs) : Prop := PGs X es (tGGs W X.K g)
def patG (p : Pat) : GF := fun t ρ cs => match asgP p t cs ρ with
  | some ρ' => .ok ρ' cs
  | none => .stuck
def fldG (W : Wd) (f : Str) (fo : EF) : GF := fun t ρ cs => (fo ρ cs).bind fun o c => (putfT W f o t c).bind fun _ c2 => .ok ρ c2
def nilG : GFs := fun ts ρ cs => match ts with
  | [] => .ok ρ cs
  | _ => .stuck
def consG (g : GF) (r : GFs) : GFs := fun ts ρ cs => match ts with
  | t :: ts => (g t ρ cs).bind fun ρ1 c1 => r ts ρ1 c1
  | _ => .stuck
def tupG (n : Nat) (r : GFs) : GF := fun t ρ cs => match asQ cs t with
  | some xs => if xs.length = n then r xs ρ cs else .stuck
  | none => .stuck
def setiT (o i v : T) (cs : Cs) : R Unit := match o with
  | .ref n => (match cs[n]? with
    | some (.lst xs) => (match i with
      | .d (.int k) => (match ixN xs.length k with
        | some j => .ok () (cs.set n (.lst (xs.set j v)))
        | none => .stuck)
      | _ => .stuck)
    | some (.dk kvs) => (match keyT i with
      | some k => if kvs.length < sizeLine then .ok () (cs.set n (.dk (setK kvs k v))) else .stuck
      | none => .stuck)
    | _ => .stuck)
  | _ => .stuck
def subG (fo fi : EF) : GF := fun t ρ cs => (fo ρ cs).bind fun o c => (fi ρ c).bind fun i c2 => (setiT o i t c2).bind fun _ c3 => .ok ρ c3
theorem PSet.or {X : Cx} {t t' : TSet} (h : PSet X t) (h' : PSet X t') : PSet X (fun o i v H Q => t o i v H Q ∨ t' o i v H Q) := fun pins s σ H o i v ov iv u Q I ro ri rv q => q.elim (fun q => h pins s σ H o i v ov iv u Q I ro ri rv q) fun q => h' pins s σ H o i v ov iv u Q I ro ri rv q
section
variable {W : Wd} {X : Cx} {pos pos' : Pos} {fo fi fv : EF} {o i e value : Expr} {f : Str} {g : GF} {r : GFs}
theorem sgg_pat {p : Pat} (h : SG W X e p) : SGG W X e (patG p) := ⟨fun pins s σ H v u Q I r q => h.run pins s σ H v u Q I r (by
  obtain ⟨φ, Z, ρ, cs, t, S, L, rt, ρ', cs', e0, kk⟩ := q
  unfold patG at e0
  split at e0
  · rename_i ρ1 e1
    cases e0
    exact ⟨φ, Z, ρ, cs, t, ρ', S, L, rt, e1, fun σ' L' _ => kk φ Z H σ' (Ext.refl _ _ _) S L'⟩
  · cases e0)⟩
theorem sgg_fld (G : WOk W X.K X.w) (ho : SE W X o fo) : SGG W X (.Attribute o f pos) (fldG W f fo) := ⟨fun pins s σ H v u Q I r q => by
  obtain ⟨φ, Z, ρ, cs, t, S, L, rt, ρ', cs', e0, kk⟩ := q
  obtain ⟨x, c, e1, e0⟩ := R.bind_inv e0
  obtain ⟨_, c2, e2, e0⟩ := R.bind_inv e0
  cases e0
  rw [show assign (.Attribute o f pos) X.env u = (do
    let ov ← holding [u] (eval o X.env)
    standAt pos.atName
    holding [u, ov] (setAttr ov f u)
    release [u, ov] []) from rfl]
  refine wpAny_bind (wpAny_holding (thn (ho.run pins s σ H _ I ⟨φ, Z, ρ, cs, S, L, x, c, e1, fun φ1 Z1 H1 y x1 S1 r1 => (?_ : ∃ a C dx fs, y = .ref a ∧ H1 a = some (.ins C dx fs) ∧ Cls X.K C ∧ NoAttr X.K C f ∧ fs.length < 1000 ∧ Q σ (upd H1 a (.ins C dx (putF f v fs))))⟩) fun ov s1 h1 => ?_))
  · obtain ⟨a, C, dx, fs, h1, h2, h3, h4, h5, h6, h7⟩ := putf_ok G S1 r1 (rt.ext x1) e2
    exact ⟨a, C, dx, fs, h1, h2, h3, h4, h5, kk _ _ _ _ (x1.trans h6) h7 ((L.ext x1).ext h6)⟩
  · obtain ⟨y, H1, I1, ry, a, C, dx, fs, rfl, ea, cc, n, l, q⟩ := h1
    obtain rfl : ov = Value.ref a := ry
    refine wpAny_bind (wpAny_standAt (wpAny_bind (wpAny_holding (setattr_ok I1 ea cc n l r fun s3 I3 => ?_))))
    exact wpAny_release ⟨σ, _, I3, q⟩⟩
theorem sggs_nil : SGGs W X [] nilG := ⟨fun pins s σ H vs us Q I r h => pgs_nil.run pins s σ H vs us Q I r (by
  obtain ⟨φ, Z, ρ, cs, ts, S, L, rt, ρ', cs', e0, kk⟩ := h
  unfold nilG at e0
  split at e0
  · cases e0
    cases rt
    exact ⟨rfl, kk φ Z H σ (Ext.refl _ _ _) S L⟩
  · cases e0)⟩
theorem sggs_cons {es : List Expr} (h1 : SGG W X e g) (h2 : SGGs W X es r) (hs : (assignEach (e :: es) X.env).map (·.2) = assign e X.env :: (assignEach es X.env).map (·.2) := by rfl) : SGGs W X (e :: es) (consG g r) := ⟨fun pins s σ H vs us Q I rr h => (pgs_cons h1 h2 hs).run pins s σ H vs us Q I rr (by
  obtain ⟨φ, Z, ρ, cs, ts, S, L, rt, ρ', cs', e0, kk⟩ := h
  unfold consG at e0
  split at e0
  · obtain ⟨ρ1, c1, e1, e0⟩ := R.bind_inv e0
    cases rt with
    | cons ra rb => exact ⟨_, _, rfl, φ, Z, ρ, cs, _, S, L, ra, ρ1, c1, e1, fun φ1 Z1 H1 σ1 x1 S1 L1 => ⟨φ1, Z1, ρ1, c1, _, S1, L1, Reps.ext x1 rb, ρ', cs', e0, fun φ' Z' H' σ' x' => kk φ' Z' H' σ' (x1.trans x')⟩⟩
  · cases e0)⟩
theorem sgg_tup {es : List Expr} {k n : Nat} (hc : X.calm = true) (h : SGGs W X es r) (hn : (assignEach es X.env).length = n := by rfl) (hst : (assignEach es X.env).findIdx? (·.1) = none := by rfl) : SGG W X (.Tuple es k pos) (tupG n r) := ⟨fun pins s σ H v u Q I rr hq => by
  obtain ⟨φ, Z, ρ, cs, t, S, L, rt, ρ', cs', e, kk⟩ := hq
  unfold tupG at e
  split at e
  · rename_i xs q
    split at e
    · rename_i hl
      obtain ⟨a, vs, rfl, h1, h2⟩ := S.asQ rt q
      have hl : vs.length = n := by rw [← hl, Paired.len h2]
      rcases h1 with h1 | h1
      · exact (pg_unl hc h hn hst).run pins s σ H _ u Q I rr ⟨a, vs, rfl, h1, hl, φ, Z, ρ, cs, xs, S, L, h2, ρ', cs', e, kk⟩
      · exact (pg_tup hc h hn hst).run pins s σ H _ u Q I rr ⟨a, vs, rfl, h1, hl, φ, Z, ρ, cs, xs, S, L, h2, ρ', cs', e, kk⟩
    · cases e
  · cases e⟩
theorem sgg_sub (hu : X.A.units + 1 < cLine) (ho : SE W X o fo) (hi : SE W X i fi)
    (ha : ∀ v, assign (.Subscript o i pos) X.env v = (do
      let ov ← holding [v] (eval o X.env)
      let iv ← holding [v, ov] (eval i X.env)
      standAt pos
      holding [v, ov, iv] (setItem ov iv v)
      release [v, ov, iv] []) := by intro _; rfl) : SGG W X (.Subscript o i pos) (subG fo fi) := ⟨fun pins s σ H v u Q I rr hq => (pg_sub ho hi (PSet.or set_list (set_dict hu)) ha).run pins s σ H v u Q I rr (by
  obtain ⟨φ, Z, ρ, cs, t, S, L, rt, ρ', cs', e, kk⟩ := hq
  obtain ⟨x, c, e1, e⟩ := R.bind_inv e
  obtain ⟨y, c2, e2, e⟩ := R.bind_inv e
  obtain ⟨_, c3, e3, e⟩ := R.bind_inv e
  cases e
  refine ⟨φ, Z, ρ, cs, S, L, x, c, e1, fun φ1 Z1 H1 ov x1 S1 r1 => ⟨φ1, Z1, ρ, c, S1, L.ext x1, y, c2, e2, fun φ2 Z2 H2 iv x2 S2 r2 => ?_⟩⟩
  have rt2 := (rt.ext x1).ext x2
  have r1' := r1.ext x2
  unfold setiT at e3
  split at e3
  · rename_i n
    split at e3
    · rename_i xs hc
      split at e3
      · rename_i k
        split at e3
        · rename_i j hj
          cases e3
          cases r2.dInt
          cases r1' with
          | ref ea =>
            obtain ⟨hz, vs, h1, h2⟩ := S2.cell _ _ _ hc ea
            obtain ⟨S3, x3⟩ := S2.setCell hc ea hz (o := .lst (vs.set j v)) (c := .lst (xs.set j t)) ⟨hz, _, upd_same, Paired.setAt j rt2 h2⟩
            exact .inl ⟨_, vs, k, j, rfl, rfl, h1, by rw [← Paired.len h2]; exact hj, kk _ _ _ _ ((x1.trans x2).trans x3) S3 (((L.ext x1).ext x2).ext x3)⟩
        · cases e3
      · cases e3
    · rename_i kvs hc
      split at e3
      · rename_i k hk
        split at e3
        · rename_i hl
          cases e3
          cases r1' with
          | ref ea =>
            obtain ⟨hz, vs, h1, h2⟩ := S2.cell _ _ _ hc ea
            obtain ⟨S3, x3⟩ := S2.setCell hc ea hz (o := .dK (putK vs k v)) (c := .dk (setK kvs k t)) ⟨hz, _, upd_same, RepKV.setK rt2 h2⟩
            rw [keyT_rep r2 hk]
            exact .inr ⟨_, _, rfl, DPut.k h1 (by rw [← Paired.len h2]; exact hl), kk _ _ _ _ ((x1.trans x2).trans x3) S3 (((L.ext x1).ext x2).ext x3)⟩
        · cases e3
      · cases e3
    · cases e3
  · cases e3)⟩
def asgG (g : GF) (f : EF) : SF := fun ρ cs => match (f ρ cs).bind fun t c => g t ρ c with
  | .ok ρ' c => .nx ρ' c
  | .stuck => .stuck
theorem ss_asgG {tg : Expr} {ff : EF} (he : SE W X e ff) (hg : SGG W X tg g) (hs : swapsWithSole [tg] e pos.line X.env = pure false := by rfl) (hw : swappedStores [tg] e X.env = pure none := by rfl)
    (h1 : (assignEach [tg] X.env).map (·.2) = [assign tg X.env] := by rfl) : SS W X (.Assign [tg] e pos) (asgG g ff) := PS.imp (ps_asg he hg hs hw h1) fun D σ H h => by
  obtain ⟨φ, Z, ρ, cs, S, L, h⟩ := h
  unfold asgG at h
  split at h
  · rename_i ρ' c' e0
    obtain ⟨t, c, e1, e2⟩ := R.bind_inv e0
    exact ⟨φ, Z, ρ, cs, S, L, t, c, e1, fun φ' Z' H' v x' S' r' => ⟨φ', Z', ρ, c, t, S', L.ext x', r', ρ', c', e2, fun φ2 Z2 H2 σ2 x2 S2 L2 => h _ _ _ _ (x'.trans x2) S2 L2⟩⟩
  · exact h.elim
end
end Y
end
section
set_option Elab.async false
set_option linter.all false
set_option maxRecDepth 100000
set_option maxHeartbeats 1000000
namespace Y
open PySem PySem.Spec L2
/-! ### functions as values -/
structure HeldY (W : Wd) (P : Program) (w : World) (K : PySem.W.Frag) (mg : Str → Option Value) (base : Heap) (k : Nat) (j : Nat) (F : FF) : Prop where
  ex : ∃ (fd : FuncData) (ps : List Str), YG.FnG P w K mg base k (W.fad j) fd ps (spY W K ps.length F) ∧ Ar ps.length F ∧ PySem.W.keepIn K (.ref (W.fad j)) = true ∧ Binds K fd ps [] ∧ PySem.W.fnIn K (W.fad j) = true
def appV (js : List Nat) (tab : Nat → FF) (t : T) (ts : List T) (c : Cs) : R T := match t with
  | .fn j => if j ∈ js then tab j ts c else .stuck
  | .met n j => if j ∈ js then tab j (.ref n :: ts) c else .stuck
  | _ => .stuck
def callV (js : List Nat) (tab : Nat → FF) (i : Nat) (g : AF) : EF := fun ρ cs => (getV ρ i cs).bind fun t c => (g ρ c).bind fun ts c2 => appV js tab t ts c2
def boundE (ci mi : Nat) (m : Str) (fo : EF) : EF := fun ρ cs => (fo ρ cs).bind fun t c => match t with
  | .ref n => (match c[n]? with
    | some (.ins cl fs) => if cl = ci ∧ fs.lookup m = none then .ok (.met n mi) c else .stuck
    | _ => .stuck)
  | _ => .stuck
section
variable {W : Wd} {X : Cx} {pos p : Pos} {k : Nat} {e : Expr} {es : List Expr} {g : AF} {fo : EF} {m x : Str}
/-- e.m as a value, m a method -/
theorem se_bound {ci mi : Nat} (c : Cls X.K (W.cad ci)) (b : BMeth X.K (W.cad ci) m (W.fad mi)) (ho : SE W X e fo) (hb : attributeBase e m X.env (eval e X.env) = eval e X.env := by rfl) : SE W X (.Attribute e m pos) (boundE ci mi m fo) := ⟨fun pins s σ H Q I h => by
  obtain ⟨φ, Z, ρ, cs, S, L, t, cs', e0, kk⟩ := h
  obtain ⟨u, c1, e1, e2⟩ := R.bind_inv e0
  refine attr_of hb (thn (ho.run pins s σ H (fun y H1 => ∃ a dx fs, y = .ref a ∧ H1 a = some (.ins (W.cad ci) dx fs) ∧ fs.lookup m = none ∧ ∀ q, H1 q = none → Q (.ref q) (upd H1 q (.met (W.fad mi) a))) I ⟨φ, Z, ρ, cs, S, L, u, c1, e1, fun φ1 Z1 H1 v x1 S1 r1 => ?_⟩) fun ov s1 h1 => ?_)
  · split at e2
    · rename_i n
      split at e2
      · rename_i cl fs hc
        split at e2
        · rename_i hh
          obtain ⟨rfl, hh⟩ := hh
          cases e2
          cases r1 with
          | ref ea =>
            obtain ⟨_, dx, vs, e5, r5⟩ := S1.cell _ _ _ hc ea
            refine ⟨_, dx, vs, rfl, e5, (RepKV.lookup m r5).2 hh, fun q hq => ?_⟩
            obtain ⟨S2, x2⟩ := S1.frozen hq (.met (W.fad mi) _)
            exact kk _ _ _ _ (x1.trans x2) S2 (.met ea upd_same)
        · cases e2
      · cases e2
    · cases e2
  · obtain ⟨y, H1, I1, ry, a, dx, fs, rfl, ea, l, q⟩ := h1
    obtain rfl : ov = Value.ref a := ry
    exact getbound_ok I1 ea c b l fun q1 s2 hq1 I2 => ⟨.ref q1, _, I2, rfl, q q1 hq1⟩⟩
/-- f(..), f a local that holds a function or a bound method -/
theorem callV_run {js : List Nat} {tab : Nat → FF} {i : Nat} {pins : List (Addr × Obj)} {s : Shared} {σ : L2.St} {H : Hp} {Q : VK} (hh : ∀ j ∈ js, HeldY W X.prog X.w X.K X.mg X.base k j (tab j)) (hr : YG.RoomG k X.A) (hN : X.N[i]? = some x) (hv : Vis X.env.scope x)
    (hdb : (x == ("__debug__" : Str)) = false) (hcd : (x == ("__classdict__" : Str)) = false) {args : List (Bool × Sem Value)}
    (hplain : (args.any (·.1) || ([] : List (Option Str × Sem Value)).any (·.1.isNone)) = false)
    (hargs : ∀ (f : Value) (s : Shared) (H : Hp) (R : List V → Hp → Prop) (Q2 : Args → Shared → Prop), Inv X pins σ H s → tA W X.K g σ H R → (∀ us s', AP X pins σ R us s' → Q2 ⟨us, []⟩ s') → wpAny (model X.prog X.w) X.A (evalArgs f true args []) Q2 X.xe s)
    (I : Inv X pins σ H s) (h : tE W X.K (callV js tab i g) σ H Q) : wpAny (model X.prog X.w) X.A (do callWith pos (← eval (.Name x p) X.env) [] args []) (EP X pins σ Q) X.xe s := by
  obtain ⟨φ, Z, ρ, cs, S, L, t, cs', e0, kk⟩ := h
  obtain ⟨u, c1, e1, e0⟩ := R.bind_inv e0
  obtain ⟨ts, c2, e2, e3⟩ := R.bind_inv e0
  have hi : ρ[i]? = some (some u) ∧ c1 = cs := by
    unfold getV at e1
    split at e1
    · cases e1; exact ⟨by assumption, rfl⟩
    · cases e1
  obtain ⟨hi, rfl⟩ := hi
  obtain ⟨v, hσ, rv⟩ := L.2 i u hi
  refine wpAny_bind (thn ((pe_var (pos := p) hN hv hdb hcd).run pins s σ H (fun y H1 => y = v ∧ H1 = H) I ⟨v, hσ, rfl, rfl⟩) fun fv s1 ⟨y, H1, I1, ry, ey, eH⟩ => ?_)
  subst ey eH
  unfold appV at e3
  split at e3
  · rename_i j
    split at e3
    · rename_i hj
      obtain ⟨fd, ps, F, ar, hk, hb, hf⟩ := (hh j hj).ex
      cases rv
      cases ry
      refine PySem.W.callWith_of (P := X.K.In) hplain (PySem.W.keeps_K hk) (hargs _ s1 _ (fun vs H2 => spY W X.K ps.length (tab j) vs H2 Q E0) _ I1 ⟨φ, Z, ρ, c1, S, L, ts, c2, e2, fun φ1 Z1 H1 vs x1 S1 r1 => ?_⟩ fun us s2 ⟨vs, H2, I2, r2, q2⟩ => ⟨I2.kIn, ?_⟩)
      · exact ⟨φ1, Z1, ts, c2, S1, r1, ar _ _ _ _ e3, t, cs', e3, fun φ' Z' H' v x' => kk φ' Z' H' v (x1.trans x')⟩
      · exact YG.run_fn (dvs := []) (ds := []) F hr hb .nil I2 r2 (by rw [List.append_nil]; exact q2)
    · cases e3
  · rename_i n j
    split at e3
    · rename_i hj
      obtain ⟨fd, ps, F, ar, hk, hb, hf⟩ := (hh j hj).ex
      cases rv with
      | @met _ _ a qa ea em =>
        cases ry
        have hq := S.sub _ _ em
        refine PySem.W.callWith_of (P := PySem.W.MethP X.K qa (W.fad j) (.ref a)) hplain (PySem.W.keeps_M hf) (hargs _ s1 _ (fun vs H2 => H2 qa = some (.met (W.fad j) a) ∧ spY W X.K ps.length (tab j) (.ref a :: vs) H2 Q E0) _ I1 ⟨φ, Z, ρ, c1, S, L, ts, c2, e2, fun φ1 Z1 H1 vs x1 S1 r1 => ?_⟩ fun us s2 ⟨vs, H2, I2, r2, qm, q2⟩ => ⟨met_P I2 qm, ?_⟩)
        · exact ⟨S1.sub _ _ (x1.zsub _ _ em), φ1, Z1, .ref n :: ts, c2, S1, .cons (.ref (pre_get x1.pre ea)) r1, ar _ _ _ _ e3, t, cs', e3, fun φ' Z' H' v x' => kk φ' Z' H' v (x1.trans x')⟩
        · exact wpAny_call (PySem.W.method_call (met_P I2 qm).1 (YG.code_fn (us := .ref a :: us) (vs := .ref a :: vs) F hr I2 (by have h1 := hb s2 (.ref a :: us) I2.kIn (by rw [List.append_nil, ← (Paired.cons (α := V) (β := Value) (F := RelV) (a := .ref a) (b := .ref a) rfl r2).length]; exact F.len _ _ _ _ q2); rw [List.append_nil] at h1; exact h1) (.cons rfl r2) q2))
    · cases e3
  · cases e3
theorem se_callV {js : List Nat} {tab : Nat → FF} {i : Nat} (hh : ∀ j ∈ js, HeldY W X.prog X.w X.K X.mg X.base k j (tab j)) (hr : YG.RoomG k X.A) (hN : X.N[i]? = some x) (hv : Vis X.env.scope x) (ha : SA W X (e :: es) g)
    (hdb : (x == ("__debug__" : Str)) = false := by decide +kernel) (hcd : (x == ("__classdict__" : Str)) = false := by decide +kernel) (he : starEach (e :: es) X.env = (false, eval e X.env) :: starEach es X.env := by rfl) (hpl : (backTo pos (starEach es X.env)).any (·.1) = false := by rfl) :
    SE W X (.Call (.Name x p) (e :: es) [] pos) (callV js tab i g) := ⟨fun pins s σ H Q I h => by
  rw [arm_eval_Call_Name']
  refine callV_run (args := backTo pos (starEach (e :: es) X.env)) hh hr hN hv hdb hcd ?_ (fun f s H R Q2 I h kq => ?_) I h
  · rw [he]
    show ((false || (backTo pos (starEach es X.env)).any (·.1)) || false) = false
    rw [hpl]; rfl
  · have := ha.run pos pins s σ H R I h
    rw [he] at this ⊢
    exact Calls.evalArgs_plain (thn this fun us s1 q => kq us s1 q)⟩
theorem se_callV0 {js : List Nat} {tab : Nat → FF} {i : Nat} (hh : ∀ j ∈ js, HeldY W X.prog X.w X.K X.mg X.base k j (tab j)) (hr : YG.RoomG k X.A) (hN : X.N[i]? = some x) (hv : Vis X.env.scope x)
    (hdb : (x == ("__debug__" : Str)) = false := by decide +kernel) (hcd : (x == ("__classdict__" : Str)) = false := by decide +kernel) :
    SE W X (.Call (.Name x p) [] [] pos) (callV js tab i nilA) := ⟨fun pins s σ H Q I h => by
  rw [arm_eval_Call_Name']
  refine callV_run (args := backTo pos (starEach [] X.env)) hh hr hN hv hdb hcd rfl (fun f s H R Q2 I h kq => ?_) I h
  refine PySem.evalArgs_none (kq [] s ⟨[], H, I, .nil, ?_⟩)
  obtain ⟨φ, Z, ρ, cs, S, L, ts, c, e1, kk⟩ := h
  cases e1
  exact kk φ Z H [] (Ext.refl _ _ _) S .nil⟩
end
end Y
end
section
set_option Elab.async false
set_option linter.all false
set_option maxRecDepth 100000
set_option maxHeartbeats 1000000
namespace Y
open PySem PySem.Spec L2
/-! ### a cell's list becomes data -/
def frzT (t : T) (cs : Cs) : R T := match t with
  | .ref n => (match cs[n]? with
    | some (.lst xs) => (match allD xs with
      | some ds => .ok (.d (.list ds)) (cs.set n .dead)
      | none => .stuck)
    | _ => .stuck)
  | .d x => .ok (.d x) cs
  | _ => .stuck
def frzE (f : EF) : EF := fun ρ cs => (f ρ cs).bind frzT
theorem Sim.frz {W : Wd} {K : PySem.W.Frag} {φ : List Addr} {Z H : Hp} {cs cs' : Cs} {t t' : T} {v : V} (S : Sim W K φ Z cs H) (r : Rep W K φ Z t v) (e : frzT t cs = .ok t' cs') :
    ∃ Z', Ext φ Z H φ Z' H ∧ Sim W K φ Z' cs' H ∧ Rep W K φ Z' t' v := by
  unfold frzT at e
  split at e
  · rename_i n
    split at e
    · rename_i xs hc
      split at e
      · rename_i ds hd
        cases e
        cases r with
        | @ref _ a ea =>
          obtain ⟨hz, vs, h1, h2⟩ := S.cell _ _ _ hc ea
          have hz' : ∀ b o, Z b = some o → upd Z a (.lst vs) b = some o := fun b o h => upd_some hz h
          have hn : n < cs.length := (List.getElem?_eq_some_iff.mp hc).1
          refine ⟨upd Z a (.lst vs), ⟨List.prefix_refl _, hz', fun b o h => ?_, fun _ _ h _ => .inl h, fun b h => .inl h⟩, ⟨fun b o h => ?_, by simp [S.len], S.nd, S.there, fun m c b h3 h4 => ?_, fun p hp => ?_⟩, ?_⟩
          · by_cases q : b = a
            · subst q; exact .inr (.inr (List.mem_of_getElem? ea))
            · rw [upd_ne q] at h; exact .inl h
          · by_cases q : b = a
            · subst q; rw [upd_same] at h; cases h; exact h1
            · rw [upd_ne q] at h; exact S.sub _ _ h
          · by_cases q : n = m
            · subst q
              rw [List.getElem?_set_self hn] at h3
              cases h3
              trivial
            · rw [List.getElem?_set_ne q] at h3
              have ne : b ≠ a := fun z => by
                subst z
                obtain ⟨i1, j1⟩ := List.getElem?_eq_some_iff.mp h4
                obtain ⟨i2, j2⟩ := List.getElem?_eq_some_iff.mp ea
                exact q (((List.getElem_inj S.nd).mp (j2.trans j1.symm)))
              exact (S.cell m c b h3 h4).stay (List.prefix_refl _) hz' (fun z => by rw [upd_ne ne]; exact z) fun _ h => h
          · have ne := (S.tb p hp).ne (a := a) fun u h => by rw [h1] at h; cases h; exact fun _ q => by cases q
            exact (S.tb p hp).stay hz' (by rw [upd_ne ne]; exact (S.tb p hp).1) rfl
          · rw [allD_eq hd] at h2
            exact .d (.lst upd_same (DzAll.zmono hz' _ _ (Reps.all h2)))
      · cases e
    · cases e
  · cases e
    exact ⟨Z, Ext.refl _ _ _, S, r⟩
  · cases e
section
variable {W : Wd} {X : Cx} {pos : Pos} {e : Expr} {f : EF}
theorem se_frz (h : SE W X e f) : SE W X e (frzE f) := PE.imp h fun σ H Q h => by
  obtain ⟨φ, Z, ρ, cs, S, L, t, cs', e0, kk⟩ := h
  obtain ⟨u, c, e1, e2⟩ := R.bind_inv e0
  refine ⟨φ, Z, ρ, cs, S, L, u, c, e1, fun φ1 Z1 H1 v x1 S1 r1 => ?_⟩
  obtain ⟨Z2, x2, S2, r2⟩ := S1.frz r1 e2
  exact kk _ _ _ _ (x1.trans x2) S2 r2
theorem se_never {e : Expr} : SE W X e fun _ _ => .stuck := ⟨fun pins s σ H Q I h => by
  obtain ⟨φ, Z, ρ, cs, S, L, t, cs', e0, kk⟩ := h
  cases e0⟩
end
/-! ### methods of built-in things -/
abbrev MT := T → List T → Cs → R T
def MOk (W : Wd) (K : PySem.W.Frag) (T : String) (r : V → List V → Hp → VK → Prop) (ty : Cs → Y.T → Bool) (op : MT) : Prop :=
  (∀ φ Z cs H t v, Sim W K φ Z cs H → Rep W K φ Z t v → ty cs t = true → tyV K T v H) ∧
  ∀ φ Z cs H t ts v vs (Q : VK) z cs', Sim W K φ Z cs H → Rep W K φ Z t v → Reps W K φ Z ts vs → op t ts cs = .ok z cs' → (∀ φ' Z' H' x, Ext φ Z H φ' Z' H' → Sim W K φ' Z' cs' H' → Rep W K φ' Z' z x → Q x H') → r v vs H Q
def bmE (ty : Cs → T → Bool) (op : MT) (fo : EF) (g : AF) : EF := fun ρ cs => (fo ρ cs).bind fun t c => if ty c t = true then (g ρ c).bind fun ts c2 => op t ts c2 else .stuck
section
variable {W : Wd} {X : Cx} {o e : Expr} {es : List Expr} {fo : EF} {g : AF} {name : Str} {apos cpos : Pos} {T id : String} {r : V → List V → Hp → VK → Prop} {ty : Cs → Y.T → Bool} {op : MT}
theorem se_bm (pa : PlainAttrs T) (slot : Slot T name id) (hty : typeOf (.builtin id) = pure (.type "method_descriptor")) (hm : MtR X id r) (hk : MOk W X.K T r ty op) (ho : SE W X o fo) (ha : SA W X (e :: es) g)
    (hbase : attributeBase o name X.env (eval o X.env) = eval o X.env := by rfl)
    (hfew : ((backTo cpos (starEach (e :: es) X.env)).all (fun x => !x.1) && (backToKw cpos (keywordEach [] X.env)).all (fun x => x.1.isSome)
      && decide ((e :: es).length + ([] : List Keyword).length + (if ([] : List Keyword).isEmpty then 0 else 1) < 30)) = true := by rfl)
    (hline : (apos.endLine == cpos.line) = true := by rfl) (hs : starEach (e :: es) X.env = (false, eval e X.env) :: starEach es X.env := by rfl) (hplain : (backTo cpos (starEach es X.env)).any (·.1) = false := by rfl) :
    SE W X (.Call (.Attribute o name apos) (e :: es) [] cpos) (bmE ty op fo g) := PE.imp (pe_bm pa slot hty hm ho ha hbase hfew hline hs hplain) fun σ H Q h => by
  obtain ⟨φ, Z, ρ, cs, S, L, t, cs', e0, kk⟩ := h
  obtain ⟨u, c, e1, e2⟩ := R.bind_inv e0
  refine ⟨φ, Z, ρ, cs, S, L, u, c, e1, fun φ1 Z1 H1 v x1 S1 r1 => ?_⟩
  split at e2
  · rename_i hh
    obtain ⟨ts, c2, e3, e4⟩ := R.bind_inv e2
    refine ⟨hk.1 _ _ _ _ _ _ S1 r1 hh, φ1, Z1, ρ, c, S1, L.ext x1, ts, c2, e3, fun φ2 Z2 H2 vs x2 S2 r2 => ?_⟩
    exact hk.2 _ _ _ _ _ _ _ _ _ _ _ S2 (r1.ext x2) r2 e4 fun φ' Z' H' x x' => kk φ' Z' H' x ((x1.trans x2).trans x')
  · cases e2
theorem se_bm0 (pa : PlainAttrs T) (slot : Slot T name id) (hty : typeOf (.builtin id) = pure (.type "method_descriptor")) (hm : MtR X id r) (hk : MOk W X.K T r ty op) (ho : SE W X o fo)
    (hbase : attributeBase o name X.env (eval o X.env) = eval o X.env := by rfl) (hline : (apos.endLine == cpos.line) = true := by rfl) :
    SE W X (.Call (.Attribute o name apos) [] [] cpos) (bmE ty op fo nilA) := PE.imp (pe_bm0 pa slot hty hm ho hbase hline) fun σ H Q h => by
  obtain ⟨φ, Z, ρ, cs, S, L, t, cs', e0, kk⟩ := h
  obtain ⟨u, c, e1, e2⟩ := R.bind_inv e0
  refine ⟨φ, Z, ρ, cs, S, L, u, c, e1, fun φ1 Z1 H1 v x1 S1 r1 => ?_⟩
  split at e2
  · rename_i hh
    obtain ⟨ts, c2, e3, e4⟩ := R.bind_inv e2
    cases e3
    refine ⟨hk.1 _ _ _ _ _ _ S1 r1 hh, ?_⟩
    exact hk.2 _ _ _ _ _ _ _ _ _ _ _ S1 r1 .nil e4 fun φ' Z' H' x x' => kk φ' Z' H' x (x1.trans x')
  · cases e2
end
def isLst (cs : Cs) (t : T) : Bool := match t with
  | .ref n => (match cs[n]? with
    | some (.lst _) => true
    | _ => false)
  | _ => false
def isStr (_ : Cs) (t : T) : Bool := match t with
  | .d (.str _) => true
  | _ => false
theorem isLst_ty {W : Wd} {K : PySem.W.Frag} {φ : List Addr} {Z H : Hp} {cs : Cs} {t : T} {v : V} (S : Sim W K φ Z cs H) (r : Rep W K φ Z t v) (h : isLst cs t = true) : tyV K "list" v H := by
  unfold isLst at h
  split at h
  · rename_i n
    split at h
    · rename_i xs hc
      cases r with
      | ref ea =>
        obtain ⟨hz, vs, h1, h2⟩ := S.cell _ _ _ hc ea
        exact .inl ⟨rfl, vs, SqL.of h1⟩
    · cases h
  · cases h
theorem isStr_ty {W : Wd} {K : PySem.W.Frag} {φ : List Addr} {Z H : Hp} {cs : Cs} {t : T} {v : V} (S : Sim W K φ Z cs H) (r : Rep W K φ Z t v) (h : isStr cs t = true) : tyV K "str" v H := by
  unfold isStr at h
  split at h
  · cases r.dStr; rfl
  · cases h
def appendT : MT := fun t ts cs => match t, ts with
  | .ref n, [u] => (match cs[n]? with
    | some (.lst xs) => if xs.length < sizeLine then .ok (.d .none) (cs.set n (.lst (xs ++ [u]))) else .stuck
    | _ => .stuck)
  | _, _ => .stuck
theorem ok_append {W : Wd} {K : PySem.W.Frag} : MOk W K "list" rAppend isLst appendT := ⟨fun _ _ _ _ _ _ => isLst_ty, fun φ Z cs H t ts v vs Q z cs' S r rs e k => by
  unfold appendT at e
  split at e
  · rename_i n u
    split at e
    · rename_i xs hc
      split at e
      · rename_i hl
        cases e
        cases r with
        | ref ea =>
          obtain ⟨hz, ws, h1, h2⟩ := S.cell _ _ _ hc ea
          obtain ⟨y, rfl, ry⟩ := Reps.one rs
          obtain ⟨S3, x3⟩ := S.setCell hc ea hz (o := .lst (ws ++ [y])) (c := .lst (xs ++ [u])) ⟨hz, _, upd_same, Paired.app h2 (.cons ry .nil)⟩
          exact ⟨_, ws, y, rfl, rfl, h1, by rw [← Paired.len h2]; exact hl, k _ _ _ _ x3 S3 Rep.none⟩
      · cases e
    · cases e
  · cases e⟩
theorem Paired.dropLast {α β : Type} {F : α → β → Prop} : ∀ {l : List α} {m : List β}, Paired F l m → Paired F l.dropLast m.dropLast
  | _, _, .nil => .nil
  | _, _, .cons h .nil => .nil
  | _, _, .cons h (.cons h2 t) => .cons h (Paired.dropLast (.cons h2 t))
def popT : MT := fun t ts cs => match t, ts with
  | .ref n, [] => (match cs[n]? with
    | some (.lst xs) => (match xs[xs.length - 1]? with
      | some x => .ok x (cs.set n (.lst xs.dropLast))
      | none => .stuck)
    | _ => .stuck)
  | _, _ => .stuck
theorem ok_pop {W : Wd} {K : PySem.W.Frag} : MOk W K "list" rPop isLst popT := ⟨fun _ _ _ _ _ _ => isLst_ty, fun φ Z cs H t ts v vs Q z cs' S r rs e k => by
  unfold popT at e
  split at e
  · rename_i n
    split at e
    · rename_i xs hc
      split at e
      · rename_i x hx
        cases e
        cases r with
        | ref ea =>
          obtain ⟨hz, ws, h1, h2⟩ := S.cell _ _ _ hc ea
          cases rs
          obtain ⟨y, hy, ry⟩ := Paired.get h2 hx
          obtain ⟨S3, x3⟩ := S.setCell hc ea hz (o := .lst ws.dropLast) (c := .lst xs.dropLast) ⟨hz, _, upd_same, Paired.dropLast h2⟩
          exact ⟨_, ws, y, rfl, rfl, h1, by rw [← Paired.len h2]; exact hy, k _ _ _ _ x3 S3 (ry.ext x3)⟩
      · cases e
    · cases e
  · cases e⟩
/-! extend by a list or a tuple -/
def rExtA (K : PySem.W.Frag) : V → List V → Hp → VK → Prop := fun x vs H Q => ∃ l b xs zs, x = .ref l ∧ vs = [.ref b] ∧ H l = some (.lst xs) ∧ (H b = some (.lst zs) ∨ SqT K H b zs) ∧ xs.length + zs.length ≤ sizeLine ∧ Q .non (upd H l (.lst (xs ++ zs)))
theorem extend_tupG (l : Addr) (items : Array Value) (n : Nat) (b : Addr) (items2 : Array Value) (n2 : Nat) (dct : Option Addr) (sl : Array (Option Value)) (hs0 : ¬(!items.isEmpty && Builtin.List.listTooLong (items.size + items2.size)) = true) (hs1 : items.size ≤ sizeLine) (hs2 : items.size + items2.size ≤ sizeLine + 1) :
    Meets (Builtin.«list.extend» ⟨[.ref l, .ref b], []⟩) (fun _ R s => s.heap.get? l = some { cls := .type "list", dict := none, data := .seq items n, slots := #[] } ∧ s.heap.get? b = some { cls := .type "tuple", dict := dct, data := .seq items2 n2, slots := sl } ∧ R (.ok (.ret Value.none)) { s with heap := s.heap.update l (Obj.mapSeq fun x => x ++ items2), toks := s.toks }) :=
  .of_wp fun prog w A R s h => by
    obtain ⟨hp, g, d, tk, os⟩ := s; obtain ⟨hl, hb, h⟩ := h; have f1 := AutoSeq1.idx_int; have f2 := AutoSeq1.sub_tuple_tuple; have f3 := AutoSeq1.sub_list_list; have f4 := AutoSeq1.sub_tuple_list; have f5 := AutoSeq1.sub_list_tuple;
    have hz' : (items ++ items2).size ≤ sizeLine + 1 := by rw [Array.size_append]; exact hs2
    wp_walk using (wpAny_updateSeq hl rfl (hz := hs1) (_hz' := hz')), AutoSeq1.wpAny_loadPart' hl, AutoSeq1.wpAny_loadPart' hb; exact ⟨_, rfl, h⟩
theorem mt_extendA {X : Cx} : MtR X "list.extend" (rExtA X.K) := by
  intro pins s σ H x vs v us Q I rx rv h
  obtain ⟨l, b, xs, zs, rfl, rfl, hH, hB, hz, q⟩ := h
  rcases hB with hB | hB
  · exact mt_extend pins s σ H _ _ v us Q I rx rv ⟨l, b, xs, zs, rfl, rfl, hH, hB, hz, q⟩
  cases rx
  obtain ⟨u, rfl, ru⟩ := rv.one
  cases ru
  obtain ⟨z, its, n, r, hl, e⟩ := I.lstM hH
  obtain ⟨its2, r2, ⟨⟨c2, d2, dt2, sl2⟩, e2, hc2, n2, hd2⟩, _⟩ := I.tuple hB
  replace hc2 : c2 = .type "tuple" := hc2
  replace hd2 : dt2 = .seq its2.toArray n2 := hd2
  subst hc2 hd2
  have l1 := r.length
  have l2 := r2.length
  have hsz : its.toArray.size + its2.toArray.size ≤ sizeLine := by rw [List.size_toArray, List.size_toArray]; omega
  have hlong : ¬ (!its.toArray.isEmpty && Builtin.List.listTooLong (its.toArray.size + its2.toArray.size)) = true := by
    rw [notLongL hsz, Bool.and_false]
    exact Bool.false_ne_true
  refine call_meets F.slot_list_extend ⟨_, e, rfl⟩ F.entry_list_extend (F.args_list_extend_2 _ _)
    (extend_tupG l its.toArray n b its2.toArray n2 d2 sl2 hlong (by rw [List.size_toArray]; omega) (by omega)) ⟨e, e2, ?_⟩
  refine ⟨.non, _, I.lset (its' := its ++ its2) hH e (by simp) (r.append r2) ?_, rfl, q⟩
  rw [List.length_append]
  omega
def extendT : MT := fun t ts cs => match t, ts with
  | .ref n, [u] => (match cs[n]? with
    | some (.lst xs) => (match u with
      | .d (.list ds) => if xs.length + ds.length ≤ sizeLine then .ok (.d .none) (cs.set n (.lst (xs ++ ds.map .d))) else .stuck
      | .d (.tuple ds) => if xs.length + ds.length ≤ sizeLine then .ok (.d .none) (cs.set n (.lst (xs ++ ds.map .d))) else .stuck
      | .ref m => (match cs[m]? with
        | some (.lst ys) => if xs.length + ys.length ≤ sizeLine then .ok (.d .none) (cs.set n (.lst (xs ++ ys))) else .stuck
        | _ => .stuck)
      | _ => .stuck)
    | _ => .stuck)
  | _, _ => .stuck
theorem ok_extend {W : Wd} {K : PySem.W.Frag} : MOk W K "list" (rExtA K) isLst extendT := ⟨fun _ _ _ _ _ _ => isLst_ty, fun φ Z cs H t ts v vs Q z cs' S r rs e k => by
  unfold extendT at e
  split at e
  · rename_i n u
    split at e
    · rename_i xs hc
      cases r with
      | @ref _ a ea =>
        obtain ⟨hz, ws, h1, h2⟩ := S.cell _ _ _ hc ea
        obtain ⟨y, rfl, ry⟩ := Reps.one rs
        have lw := Paired.len h2
        have fin : ∀ (ys : List T) (b : Addr) (zs : List V), y = .ref b → Reps W K φ Z ys zs → (H b = some (.lst zs) ∨ SqT K H b zs) → xs.length + ys.length ≤ sizeLine → cs' = cs.set n (.lst (xs ++ ys)) → z = .d .none → rExtA K (.ref a) [y] H Q := by
          rintro ys b zs rfl h3 h4 h5 rfl rfl
          have ly := Paired.len h3
          obtain ⟨S3, x3⟩ := S.setCell hc ea hz (o := .lst (ws ++ zs)) (c := .lst (xs ++ ys)) ⟨hz, _, upd_same, Paired.app h2 h3⟩
          exact ⟨_, b, ws, zs, rfl, rfl, h1, h4, by omega, k _ _ _ _ x3 S3 Rep.none⟩
        split at e
        · rename_i ds
          split at e
          · rename_i hl
            cases e
            cases ry with
            | d ry => cases ry with
              | lst h3 h4 => exact fin (ds.map .d) _ _ rfl (Reps.of_all h4) (.inl (S.sub _ _ h3)) (by simpa using hl) rfl rfl
          · cases e
        · rename_i ds
          split at e
          · rename_i hl
            cases e
            cases ry with
            | d ry => cases ry with
              | tup h3 h4 => exact fin (ds.map .d) _ _ rfl (Reps.of_all h4) (.inr (SqT.zmono S.sub h3)) (by simpa using hl) rfl rfl
          · cases e
        · rename_i m
          split at e
          · rename_i ys hm
            split at e
            · rename_i hl
              cases e
              cases ry with
              | ref eb =>
                obtain ⟨_, zs, h3, h4⟩ := S.cell _ _ _ hm eb
                exact fin ys _ zs rfl h4 (.inl h3) hl rfl rfl
            · cases e
          · cases e
        · cases e
    · cases e
  · cases e⟩
/-! join -/
def strsOf : List T → Option (List Str)
  | [] => some []
  | .d (.str s) :: r => (match strsOf r with
    | some ss => some (s :: ss)
    | none => none)
  | _ => none
theorem strs_rep {W : Wd} {K : PySem.W.Frag} {φ : List Addr} {Z : Hp} : ∀ {ts : List T} {vs : List V} {ss : List Str}, Reps W K φ Z ts vs → strsOf ts = some ss → vs = ss.map V.str
  | [], _, _, r, e => by cases r; cases e; rfl
  | t :: r, _, ss, h, e => by
    cases h with
    | cons h1 h2 =>
      unfold strsOf at e
      split at e
      · rename_i heq
        cases heq
      · rename_i s r' heq
        cases heq
        split at e
        · rename_i ss' hs
          cases e
          cases h1.dStr
          rw [strs_rep h2 hs]
          rfl
        · cases e
      · cases e
def joinT : MT := fun t ts cs => match t, ts with
  | .d (.str a), [u] => (match asQ cs u with
    | some xs => (match strsOf xs with
      | some ss => if (ss.map (·.length)).sum + ss.length * a.length ≤ 16777216 then .ok (.d (.str (Txt.join a ss))) cs else .stuck
      | none => .stuck)
    | none => .stuck)
  | _, _ => .stuck
theorem ok_join {W : Wd} {K : PySem.W.Frag} : MOk W K "str" (fun x xs H Q => ∃ a p, ∃ ys : List Str, x = .str a ∧ xs = [.ref p] ∧ (SqL K H p (ys.map V.str) ∨ SqT K H p (ys.map V.str)) ∧
    (ys.map (·.length)).sum + ys.length * a.length ≤ 16777216 ∧ Q (.str (Txt.join a ys)) H) isStr joinT := ⟨fun _ _ _ _ _ _ => isStr_ty, fun φ Z cs H t ts v vs Q z cs' S r rs e k => by
  unfold joinT at e
  split at e
  · rename_i a u
    split at e
    · rename_i xs hq
      split at e
      · rename_i ss hs
        split at e
        · rename_i hl
          cases e
          cases r.dStr
          obtain ⟨y, rfl, ry⟩ := Reps.one rs
          obtain ⟨p, ws, rfl, h1, h2⟩ := S.asQ ry hq
          have := strs_rep h2 hs
          subst this
          exact ⟨a, p, ss, rfl, rfl, h1, hl, k _ _ _ _ (Ext.refl _ _ _) S (Rep.str _)⟩
        · cases e
      · cases e
    · cases e
  · cases e⟩
/-! int - bool -/
theorem same_reflected_sub : reflectedDiffers (.type "int") (.type "bool") "sub" = pure false := by
  unfold reflectedDiffers
  show (typeLookup (.type "bool") (dunderR "sub") >>= fun rb => typeLookup (.type "int") (dunderR "sub") >>= fun ra => pure (rb.isSome && rb != ra)) = pure false
  rw [typeLookup_type, typeLookup_type, builtinLookup_eq_fast]; kernel_rfl
theorem op_sub_ib {X : Cx} : OpR X (binaryOp .Sub) (fun x y H Q => ∃ i k, x = .int i ∧ y = .bl k ∧ Q (.int (i - PyProof.Rows.b2i k)) H) := by
  intro pins s σ H x y v u Q I rx ry h
  obtain ⟨i, k, rfl, rfl, q⟩ := h
  obtain ⟨t, rfl⟩ := rx
  cases ry
  refine binaryOp_sub_gives (op := .Sub) (T := "int") (U := "bool") (by decide) (typeIs_int s i t) rfl F.fills_int_sub F.fills_bool_sub isSubtype_bool_int same_reflected_sub F.slot_int_sub F.entry_int_sub (F.args_int_sub_2 _ _)
    (AutoIntG7.int___sub___int_bool_0 i t k) trivial ?_
  exact ⟨.int (i - PyProof.Rows.b2i k), H, I.tok _, ⟨_, rfl⟩, q⟩
def rSubY : R2 := fun x y H Q => (rI0 (fun i j => .int (i - j)) x y H Q) ∨ (∃ i k, x = .int i ∧ y = .bl k ∧ Q (.int (i - PyProof.Rows.b2i k)) H)
theorem op_subY {X : Cx} : OpR X (binaryOp .Sub) rSubY := op_sub.or op_sub_ib
def subY : BT := fun t u cs => match t, u with
  | .d (.int a), .d (.int b) => .ok (.d (.int (a - b))) cs
  | .d (.int a), .d (.bool b) => .ok (.d (.int (a - (if b then 1 else 0)))) cs
  | _, _ => .stuck
theorem ok_sub {W : Wd} {K : PySem.W.Frag} : OpOk W K rSubY subY := by
  intro φ Z cs H t u v w Q z cs' S r1 r2 e k
  unfold subY at e
  split at e
  · cases e; cases r1.dInt; cases r2.dInt
    exact .inl ⟨_, _, rfl, rfl, fin0 S k (Rep.int _)⟩
  · cases e; cases r1.dInt; cases r2.dBool
    exact .inr ⟨_, _, rfl, rfl, fin0 S k (Rep.int _)⟩
  · cases e
/-! repr of data -/
theorem call_reprD {X : Cx} (hg : X.A.guards = some []) (hu : X.A.units + 64 < cLine) : CallR X (.builtin "repr") (fun xs H Q => ∃ v d, xs = [v] ∧ (∃ a, v = .ref a) ∧ Dp X.K H v d ∧ d.showable = true ∧ d.hasDict = false ∧ d.depth < 60 ∧ d.shown.length ≤ sizeLine ∧ Q (.str d.shown) H) := by
  intro pins s σ H xs us Q I r q
  obtain ⟨v, d, rfl, ⟨a, rfl⟩, hd, h1, h2, h3, h4, q⟩ := q
  obtain ⟨u, rfl, ru⟩ := vals1 r
  obtain ⟨as, rd⟩ := Dp.reads I d _ u hd ru
  cases ru
  exact repr_of_reads' rd h1 (fun h => by rw [h2] at h; cases h) hg (by omega) (fun b o e => e) (fun h' u tk hk => ⟨.str d.shown, H, I.kept (t' := tk) hk, ⟨_, rfl⟩, q⟩) h4
def reprT : CT := fun ts cs => match ts with
  | [t] => (match toD cs t with
    | some d => if isSeqD d = true ∧ d.showable = true ∧ d.hasDict = false ∧ d.depth < 60 ∧ d.shown.length ≤ sizeLine then .ok (.d (.str d.shown)) cs else .stuck
    | none => .stuck)
  | _ => .stuck
where isSeqD : PyData → Bool
  | .list _ => true
  | .tuple _ => true
  | _ => false
theorem ok_repr {W : Wd} {K : PySem.W.Frag} : ClOk W K (fun xs H Q => ∃ v d, xs = [v] ∧ (∃ a, v = .ref a) ∧ Dp K H v d ∧ d.showable = true ∧ d.hasDict = false ∧ d.depth < 60 ∧ d.shown.length ≤ sizeLine ∧ Q (.str d.shown) H) reprT := by
  intro φ Z cs H ts vs Q z cs' S rs e k
  unfold reprT at e
  split at e
  · rename_i t
    split at e
    · rename_i d hd
      split at e
      · rename_i hh
        obtain ⟨h0, h1, h2, h3, h4⟩ := hh
        cases e
        obtain ⟨v, rfl, rv⟩ := Reps.one rs
        have dp := S.toD rv hd
        refine ⟨v, d, rfl, ?_, dp, h1, h2, h3, h4, k _ _ _ _ (Ext.refl _ _ _) S (Rep.str _)⟩
        cases d with
        | list ds => cases dp with | lst => exact ⟨_, rfl⟩
        | tuple ds => cases dp with | tup => exact ⟨_, rfl⟩
        | _ => cases h0
      · cases e
    · cases e
  · cases e
end Y
end
section
set_option Elab.async false
set_option linter.all false
set_option maxRecDepth 100000
set_option maxHeartbeats 1000000
namespace YV
open PySem PySem.Spec PyProof.Rows L2 HT
section
variable {prog : Program} {w : World} {A : Around} {E : Value → Shared → Prop} {s : Shared}
theorem adjust_rev (n : Nat) : Builtin.Slice.sliceAdjust none none (-1) (n : Int) = ((n : Int) - 1, -1) := by
  unfold Builtin.Slice.sliceAdjust
  simp
theorem places_rev (n : Nat) : Builtin.Slice.slicePlaces ((n : Int) - 1) (-1) (-1) = n := by
  unfold Builtin.Slice.slicePlaces
  simp
  split <;> omega
theorem filterMap_map {α β : Type} {f : α → Option β} {g : α → β} : ∀ {l : List α}, (∀ m ∈ l, f m = some (g m)) → l.filterMap f = l.map g
  | [], _ => rfl
  | a :: l, h => by
    rw [List.filterMap_cons, h a List.mem_cons_self, List.map_cons, filterMap_map fun m hm => h m (List.mem_cons_of_mem _ hm)]
theorem sliceApplied_rev {sl : Addr} {t : Tok} {n : Nat} {Q : Int × Int × Nat → Shared → Prop} (hs : s.heap.IsSliceOf sl .none .none (.int (-1) t)) (h : Q ((n : Int) - 1, -1, n) s) : wpAny (model prog w) A (Builtin.Slice.sliceApplied (.ref sl) (pure (n : Int))) Q E s := by
  obtain ⟨os, hos, hcs, hds⟩ := id hs
  unfold Builtin.Slice.sliceApplied Builtin.Slice.sliceFields
  refine wpAny_bind (wpAny_bind (wpAny_field hos hds (x := .none) rfl (wpAny_bind (wpAny_field hos hds (x := .none) rfl (wpAny_bind (wpAny_field hos hds (x := .int (-1) t) rfl (wpAny_pure ?_)))))))
  refine wpAny_bind (slicePart_ (.int (-1) t) ?_)
  show wpAny _ _ (if ((-1 : Int) == 0) = true then _ else _) _ _ s
  rw [if_neg (by decide)]
  refine wpAny_bind (slicePart_ .none (wpAny_bind (slicePart_ .none (wpAny_bind (wpAny_pure ?_)))))
  show wpAny _ _ (match Builtin.Slice.sliceAdjust none none (-1) (n : Int) with | (lo, hi) => pure (lo, (-1 : Int), Builtin.Slice.slicePlaces lo hi (-1))) _ _ s
  rw [adjust_rev]
  show wpAny _ _ (pure ((n : Int) - 1, (-1 : Int), Builtin.Slice.slicePlaces ((n : Int) - 1) (-1) (-1))) _ _ s
  rw [places_rev]
  exact wpAny_pure h
theorem pick_rev (xs : Array Value) : ((List.range xs.size).filterMap fun (m : Nat) => xs[(((xs.size : Int) - 1) + (m : Int) * -1).toNat]?).toArray = xs.toList.reverse.toArray := by
  congr 1
  apply List.ext_getElem?
  intro i
  have e : ((List.range xs.size).filterMap fun (m : Nat) => xs[(((xs.size : Int) - 1) + (m : Int) * -1).toNat]?) = (List.range xs.size).map fun (m : Nat) => xs.toList.getD (xs.size - 1 - m) .none := by
    refine filterMap_map fun m hm => ?_
    have hm : m < xs.size := List.mem_range.mp hm
    have e1 : (((xs.size : Int) - 1) + (m : Int) * -1).toNat = xs.size - 1 - m := by omega
    rw [e1]
    have h2 : xs.size - 1 - m < xs.size := by omega
    simp [Array.getElem?_eq_getElem h2]
  rw [e]
  by_cases hi : i < xs.size
  · rw [List.getElem?_map, List.getElem?_range hi, List.getElem?_reverse (by simpa using hi)]
    have h2 : xs.size - 1 - i < xs.size := by omega
    simp [h2]
  · rw [List.getElem?_eq_none (by simp; omega), List.getElem?_eq_none (by simp; omega)]
theorem getItem_tuple_rev {t sl : Addr} {items : Array Value} {tk : Tok} {Q : Value → Shared → Prop} (ht : IsTup s.heap t items) (hs : s.heap.IsSliceOf sl .none .none (.int (-1) tk))
    (h : Q (.ref s.heap.objs.size) { s with heap := s.heap.push { cls := .type "tuple", data := .seq items.toList.reverse.toArray } }) (hsz : items.size ≤ sizeLine) : wpAny (model prog w) A (getItem (.ref t) (.ref sl)) Q E s := by
  have htake : sizeOk (.seq items.toList.reverse.toArray) := by
    show items.toList.reverse.toArray.size ≤ sizeLine
    simpa using hsz
  obtain ⟨os, hos, hcs, hds⟩ := id hs
  have hTs : s.TypeIs (.ref sl) "slice" := ⟨os, hos, hcs⟩
  unfold getItem
  try with_reducible refine wpAny_holding ?_
  first | refine wpAny_bind (wpAny_pure ?_) | skip
  refine wpAny_bind (wpAny_sequenceKey ht.typeIs (by decide) ?_)
  refine wpAny_bind (wpAny_callSpecial?_slot (name := Str.ofString "__getitem__") ht.typeIs PyProof.Rows.slot_tuple_getitem
    (wpAny_call_entry PyProof.Rows.slot_tuple_getitem ht.typeIs entry_tuple_getitem ?_ (args_tuple_getitem _ _)))
  show wpAny _ _ (Builtin.Tuple.tupleItemsOf (.ref t) >>= _) _ _ s
  refine wpAny_bind (tupleItemsOf_ ht ?_)
  refine wpAny_bind (wpAny_typeOf hTs ?_)
  rw [if_pos (by decide)]
  refine wpAny_bind (sliceApplied_rev hs ?_)
  have hno : ¬ ((((items.size : Int) - 1) == 0 && (-1 : Int) == 1 && items.size == items.size) = true) := by
    intro q
    rw [Bool.and_eq_true, Bool.and_eq_true] at q
    exact absurd q.1.2 (by decide)
  show wpAny _ _ (if (((items.size : Int) - 1) == 0 && (-1 : Int) == 1 && items.size == items.size) = true then _ else _) _ _ s
  rw [if_neg hno, pick_rev]
  first
    | exact wpAny_bind (m := Builtin.Tuple.tupleExact _) (wpAny_newObj_type (wpAny_pure ⟨_, rfl, wpAny_pure h⟩) htake)
    | exact wpAny_bind (m := Builtin.Tuple.tupleExact _) (wpAny_newObj_type (wpAny_bind (wpAny_pure (wpAny_pure ⟨_, rfl, wpAny_pure h⟩))) htake)
    | exact wpAny_bind (wpAny_bind (m := Builtin.Tuple.tupleExact _) (wpAny_newObj_type (wpAny_pure (wpAny_pure ⟨_, rfl, wpAny_pure h⟩)) htake))
    | exact wpAny_bind (wpAny_bind (m := Builtin.Tuple.tupleExact _) (wpAny_newObj_type (wpAny_pure ⟨_, rfl, wpAny_pure h⟩) htake))
end
/-- e[::-1], e a tuple -/
def tRevT (K : PySem.W.Frag) (te : TE) : TE := fun σ H Q => te σ H fun x H1 => ∃ a xs, x = .ref a ∧ SqT K H1 a xs ∧ ∀ p, H1 p = none → Q (.ref p) (upd H1 p (.tup xs.reverse))
theorem pe_revT {X : Cx} {e : Expr} {te : TE} {k : Nat} {p1 p2 p3 pos : Pos} (he : PE X e te) : PE X (.Subscript e (.Slice none none (some (.UnaryOp .USub (.Constant (.int 1) k p1) p2)) p3) pos) (tRevT X.K te) := by
  refine ⟨fun pins s σ H Q I h => ?_⟩
  refine Subscript_ (thn (he.run pins s σ H _ I h) fun v s1 ⟨x, H1, I1, r1, q1⟩ => ?_)
  obtain ⟨a, xs, ex, hx, q⟩ := q1
  subst ex
  cases r1
  have hst : PO X (some (.UnaryOp .USub (.Constant (.int 1) k p1) p2)) (tPart (tUn (rU fun i => .int (-i)) (tC (.int 1)))) := po_some (pe_un un_neg pe_int)
  refine wpAny_Slice (thn (po_none.run pins s1 σ H1 (fun o H2 => o = none ∧ H2 = H1) I1 ⟨rfl, rfl⟩) fun vl s2 ⟨l, H2, I2, pl, el, e2⟩ => ?_)
  subst el e2
  refine thn (po_none.run pins s2 σ H2 (fun o H3 => o = none ∧ H3 = H2) I2 ⟨rfl, rfl⟩) fun vu s3 ⟨u, H3, I3, pu, eu, e3⟩ => ?_
  subst eu e3
  refine thn (hst.run pins s3 σ H3 (fun o H4 => o = some (-1) ∧ H4 = H3) I3 ⟨1, rfl, -1, rfl, rfl, rfl⟩) fun vs s4 ⟨o, H4, I4, ps, eo, e4⟩ => ?_
  subst eo e4
  have I5 : Inv X pins σ H4 { s4 with heap := s4.heap.push { cls := .type "slice", data := .fields #[vl, vu, vs] } } := I4.kept (t' := s4.toks) fun b ob q => Heap.get?_push_of_some _ q
  obtain ⟨its, r, ht, hz⟩ := I5.tuple hx
  have hlen := r.length
  cases pl
  cases pu
  cases ps with
  | int i t =>
    show wpAny (model X.prog X.w) X.A (subscriptTail e (.Slice none none (some (.UnaryOp .USub (.Constant (.int 1) k p1) p2)) p3) (.ref a) (.ref s4.heap.objs.size)) (EP X pins σ Q) X.xe _
    refine tail_any (ops := [.ref a, .ref s4.heap.objs.size]) ht.typeIs (PyProof.Rows.slot_tuple_getitem.lookup) ?_ (by with_unfolding_all rfl)
    refine getItem_tuple_rev ht (Heap.IsSliceOf.new _ .none .none (.int (-1) t)) ?_ (by rw [List.size_toArray]; omega)
    refine ⟨.ref _, _, I5.laid (t' := s4.toks) (o := .tup xs.reverse) (fun b ob q => Heap.get?_push_of_some _ q) (Nat.le_refl _) ?_, rfl, q _ (I5.hok.fresh (Nat.le_refl _))⟩
    exact ⟨by rw [List.length_reverse]; exact hz, _, r.reverse, ⟨_, Heap.get?_push_size _ rfl, rfl, 0, by simp⟩⟩
end YV
end
section
set_option Elab.async false
set_option linter.all false
set_option maxRecDepth 100000
set_option maxHeartbeats 1000000
namespace YG
open PySem PySem.Spec PyProof.Rows L2
theorem RoomG.u1 {k : Nat} {A : Around} (r : RoomG k A) : A.units + 1 < cLine := by have := r.r.un; omega
theorem RoomG.u64 {k : Nat} {A : Around} (r : RoomG k A) : A.units + 64 < cLine := by have := r.r.un; omega
theorem RoomG.u65 {k : Nat} {A : Around} (r : RoomG k A) : A.units + 65 < cLine := by have := r.r.un; omega
end YG
namespace Y
open PySem PySem.Spec L2
section
variable {W : Wd} {X : Cx} {pos p apos : Pos} {x : Str} {e o : Expr} {es : List Expr}
theorem se_gint {i : Int} (hg : Gl X x) (hm : ∃ t, X.mg x = some (.int i t)) (hd : (x == ("__debug__" : Str)) = false := by decide +kernel) : SE W X (.Name x pos) (fun _ cs => .ok (.d (.int i)) cs) := by
  obtain ⟨t, h⟩ := hm
  exact se_glob (v := .int i) hg h ⟨t, rfl⟩ (fun _ _ => Rep.int i) hd
theorem se_gstr {z : Str} (hg : Gl X x) (hm : ∃ t, X.mg x = some (.str z t)) (hd : (x == ("__debug__" : Str)) = false := by decide +kernel) : SE W X (.Name x pos) (fun _ cs => .ok (.d (.str z)) cs) := by
  obtain ⟨t, h⟩ := hm
  exact se_glob (v := .str z) hg h ⟨t, rfl⟩ (fun _ _ => Rep.str z) hd
theorem se_gref {a : Addr} {t : T} (hg : Gl X x) (hm : X.mg x = some (.ref a)) (rt : ∀ φ Z, Rep W X.K φ Z t (.ref a)) (hd : (x == ("__debug__" : Str)) = false := by decide +kernel) : SE W X (.Name x pos) (fun _ cs => .ok t cs) :=
  se_glob (v := .ref a) hg hm rfl rt hd
/-! int * int, str * int -/
def repS (x : Str) (n : Int) : Str := if n < 1 then Str.empty else if (n == 1 || x.length == 0) = true then x else ⟨(List.replicate n.toNat x.cps).foldl (· ++ ·) #[]⟩
def repOk (x : Str) (n : Int) : Bool := decide (-1000 ≤ n ∧ n ≤ 1000 ∧ x.length ≤ 1000 ∧ (repS x n).length ≤ sizeLine)
theorem op_strrep : OpR X (binaryOp .Mult) (fun x y H Q => ∃ z n, x = .str z ∧ y = .int n ∧ repOk z n = true ∧ Q (.str (repS z n)) H) := by
  intro pins s σ H x y v u Q I rx ry h
  obtain ⟨z, n, rfl, rfl, hc, q⟩ := h
  obtain ⟨t, rfl⟩ := rx
  obtain ⟨tu, rfl⟩ := ry
  obtain ⟨h1, h2, h3, h4⟩ := of_decide_eq_true hc
  have hsl : sizeLine = 16777216 := sizeLine_eq
  refine P.mul_str (by simp; omega) (fun hn _ => ?_) (fun hn _ => ?_) ?_
  · have h5 : (1000 : Int) ≤ (2 ^ 63 - 1) / n := by
      rw [Int.le_ediv_iff_mul_le (by omega)]
      omega
    omega
  · show decide (z.length * n.toNat > sizeLine) = false
    have h6 : z.length * n.toNat ≤ 1000 * 1000 := Nat.mul_le_mul h3 (by omega)
    rw [decide_eq_false_iff_not]
    omega
  · unfold repS at q h4
    split
    · rename_i h; rw [if_pos h] at q
      exact ⟨by decide, ⟨.str Str.empty, H, I.tok _, ⟨_, rfl⟩, q⟩⟩
    · rename_i h; rw [if_neg h] at q h4
      split
      · rename_i h5; rw [if_pos h5] at q
        exact ⟨.str z, H, I, ⟨_, rfl⟩, q⟩
      · rename_i h5; rw [if_neg h5] at q h4
        exact ⟨h4, ⟨.str _, H, I.tok _, ⟨_, rfl⟩, q⟩⟩
def rMulY : R2 := fun x y H Q => (rI (fun a b => mulOk a b = true) (fun i j => .int (i * j)) x y H Q) ∨ (∃ z n, x = .str z ∧ y = .int n ∧ repOk z n = true ∧ Q (.str (repS z n)) H)
theorem op_mulA : OpR X (binaryOp .Mult) rMulY := op_mulY.or op_strrep
def mulA : BT := fun t u cs => match t, u with
  | .d (.int a), .d (.int b) => if mulOk a b = true then .ok (.d (.int (a * b))) cs else .stuck
  | .d (.str a), .d (.int b) => if repOk a b = true then .ok (.d (.str (repS a b))) cs else .stuck
  | _, _ => .stuck
theorem ok_mul {K : PySem.W.Frag} : OpOk W K rMulY mulA := by
  intro φ Z cs H t u v w Q z cs' S r1 r2 e k
  unfold mulA at e
  split at e
  · split at e
    · rename_i h
      cases e; cases r1.dInt; cases r2.dInt
      exact .inl ⟨_, _, rfl, rfl, h, fin0 S k (Rep.int _)⟩
    · cases e
  · split at e
    · rename_i h
      cases e; cases r1.dStr; cases r2.dInt
      exact .inr ⟨_, _, rfl, rfl, h, fin0 S k (Rep.str _)⟩
    · cases e
  · cases e
/-! e[::-1] -/
def revE (f : EF) : EF := fun ρ cs => (f ρ cs).bind fun t c => match t with
  | .d (.tuple ds) => .ok (.d (.tuple ds.reverse)) c
  | t => (match asL c t with
    | some xs => (match allD xs.reverse with
      | some ds => .ok (.d (.list ds)) c
      | none => .stuck)
    | none => .stuck)
theorem PE.or {e : Expr} {t t' : TE} (h : PE X e t) (h' : PE X e t') : PE X e (fun σ H Q => t σ H Q ∨ t' σ H Q) := ⟨fun pins s σ H Q I q => q.elim (fun q => h.run pins s σ H Q I q) fun q => h'.run pins s σ H Q I q⟩
theorem Paired.rev {α β : Type} {F : α → β → Prop} : ∀ {l : List α} {m : List β}, Paired F l m → Paired F l.reverse m.reverse
  | _, _, .nil => .nil
  | _, _, .cons h t => by rw [List.reverse_cons, List.reverse_cons]; exact Paired.app (Paired.rev t) (.cons h .nil)
theorem se_rev {f : EF} {k : Nat} {p1 p2 p3 : Pos} (h : SE W X e f) : SE W X (.Subscript e (.Slice none none (some (.UnaryOp .USub (.Constant (.int 1) k p1) p2)) p3) pos) (revE f) := PE.imp (PE.or (pe_revL h) (YV.pe_revT h)) fun σ H Q h => by
  obtain ⟨φ, Z, ρ, cs, S, L, t, cs', e0, kk⟩ := h
  obtain ⟨u, c, e1, e2⟩ := R.bind_inv e0
  split at e2
  · cases e2
    refine .inr ⟨φ, Z, ρ, cs, S, L, _, _, e1, fun φ1 Z1 H1 v x1 S1 r1 => ?_⟩
    obtain ⟨a, vs, rfl, _, h1, h2⟩ := S1.asT r1 rfl
    refine ⟨a, vs, rfl, h1, fun q hq => ?_⟩
    have h3 := Reps.all (W := W) (φ := φ1) (by rw [List.map_reverse]; exact Paired.rev (Reps.of_all h2))
    exact finT S1 h3 (fun φ' Z' H' x x' => kk φ' Z' H' x (x1.trans x')) q hq
  · rename_i hne
    split at e2
    · rename_i xs hx
      split at e2
      · rename_i ds hd
        cases e2
        refine .inl ⟨φ, Z, ρ, cs, S, L, _, _, e1, fun φ1 Z1 H1 v x1 S1 r1 => ?_⟩
        obtain ⟨a, vs, rfl, h1, h2⟩ := S1.asL r1 hx
        refine ⟨a, vs, rfl, h1, fun q hq => ?_⟩
        have h3 := Paired.rev h2
        rw [allD_eq hd] at h3
        exact finL S1 (Reps.all h3) (fun φ' Z' H' x x' => kk φ' Z' H' x (x1.trans x')) q hq
      · cases e2
    · cases e2
/-! displays of dicts -/
def pairsF : List (EF × EF) → Rho → Cs → R (List (T × T))
  | [], _, cs => .ok [] cs
  | (k, v) :: r, ρ, cs => (k ρ cs).bind fun t c1 => (v ρ c1).bind fun u c2 => (pairsF r ρ c2).bind fun ps c3 => .ok ((t, u) :: ps) c3
def keysOf : List (T × T) → Option (List (Key × T))
  | [] => some []
  | (t, u) :: r => (match keyT t, keysOf r with
    | some k, some ks => some ((k, u) :: ks)
    | _, _ => none)
def mergeT (acc more : List (Key × T)) : List (Key × T) := more.foldl (fun acc kv => setK acc kv.1 kv.2) acc
theorem RepKV.merge {K : PySem.W.Frag} {φ : List Addr} {Z : Hp} : ∀ {more : List (Key × T)} {ms : List (Key × V)} {acc : List (Key × T)} {as : List (Key × V)}, RepKV W K φ Z more ms → RepKV W K φ Z acc as → RepKV W K φ Z (mergeT acc more) (mergeK as ms)
  | _, _, _, _, .nil, h => h
  | _, _, _, _, .cons (a := (k, t)) (b := (k', v)) h r, q => by
    obtain ⟨h1, h2⟩ := h
    dsimp only at h1 h2
    subst h1
    have := RepKV.merge r (RepKV.setK (k := k) h2 q)
    exact this
def tPs (W : Wd) (K : PySem.W.Frag) (l : List (EF × EF)) : List (TE × TE) := l.map fun p => (tE W K p.1, tE W K p.2)
def SPs (W : Wd) (X : Cx) (pos : Pos) (keys : List (Option Expr)) (values : List Expr) (l : List (EF × EF)) : Prop := PPs X pos keys values (tPs W X.K l)
theorem sps_nil : SPs W X pos [] [] [] := pps_nil
theorem sps_cons {k v : Expr} {ks : List (Option Expr)} {vs : List Expr} {fk fv : EF} {l : List (EF × EF)} (hk : SE W X k fk) (hv : SE W X v fv) (hr : SPs W X pos ks vs l) : SPs W X pos (some k :: ks) (v :: vs) ((fk, fv) :: l) := pps_cons hk hv hr
abbrev RepP (W : Wd) (K : PySem.W.Frag) (φ : List Addr) (Z : Hp) : List (T × T) → List (V × V) → Prop := Paired fun p q => Rep W K φ Z p.1 q.1 ∧ Rep W K φ Z p.2 q.2
theorem tPairs_of {K : PySem.W.Frag} : ∀ {l : List (EF × EF)} {σ : St} {H : Hp} {Q : List (V × V) → Hp → Prop}, (∃ φ Z ρ cs, Sim W K φ Z cs H ∧ Slots W K φ Z ρ σ ∧ ∃ ps cs', pairsF l ρ cs = .ok ps cs' ∧ ∀ φ' Z' H' vs, Ext φ Z H φ' Z' H' → Sim W K φ' Z' cs' H' → RepP W K φ' Z' ps vs → Q vs H') → tPairs (tPs W K l) σ H Q
  | [], σ, H, Q, h => by
    obtain ⟨φ, Z, ρ, cs, S, L, ps, cs', e, kk⟩ := h
    cases e
    exact kk _ _ _ _ (Ext.refl _ _ _) S .nil
  | (fk, fv) :: l, σ, H, Q, h => by
    obtain ⟨φ, Z, ρ, cs, S, L, ps, cs', e, kk⟩ := h
    obtain ⟨t, c1, e1, e⟩ := R.bind_inv e
    obtain ⟨u, c2, e2, e⟩ := R.bind_inv e
    obtain ⟨qs, c3, e3, e⟩ := R.bind_inv e
    cases e
    refine ⟨φ, Z, ρ, cs, S, L, t, c1, e1, fun φ1 Z1 H1 x x1 S1 r1 => ⟨φ1, Z1, ρ, c1, S1, L.ext x1, u, c2, e2, fun φ2 Z2 H2 y x2 S2 r2 => ?_⟩⟩
    exact tPairs_of ⟨φ2, Z2, ρ, c2, S2, (L.ext x1).ext x2, qs, _, e3, fun φ3 Z3 H3 vs x3 S3 r3 => kk _ _ _ _ ((x1.trans x2).trans x3) S3 (.cons ⟨(r1.ext x2).ext x3, r2.ext x3⟩ r3)⟩
theorem keysOf_rep {K : PySem.W.Frag} {φ : List Addr} {Z : Hp} : ∀ {ps : List (T × T)} {vs : List (V × V)} {ks : List (Key × T)}, RepP W K φ Z ps vs → keysOf ps = some ks → ∃ kvs : List (Key × V), vs = kvs.map (fun kv => (kV kv.1, kv.2)) ∧ RepKV W K φ Z ks kvs
  | _, _, ks, .nil, e => by cases e; exact ⟨[], rfl, .nil⟩
  | _, _, ks, .cons (a := (t, u)) (b := (a, b)) h r, e => by
    unfold keysOf at e
    split at e
    · rename_i k ks' h1 h2
      cases e
      obtain ⟨kvs, rfl, r2⟩ := keysOf_rep r h2
      refine ⟨(k, b) :: kvs, ?_, .cons ⟨rfl, h.2⟩ r2⟩
      have : a = kV k := keyT_rep h.1 h1
      simp [this]
    · cases e
def dispC (l : List (EF × EF)) : EF := fun ρ cs => (pairsF l ρ cs).bind fun ps c => match keysOf ps with
  | some ks => if ks.length ≤ 15 then .ok (.ref c.length) (c ++ [.dk (mergeT [] ks)]) else .stuck
  | none => .stuck
theorem se_disp {keys : List (Option Expr)} {values : List Expr} {l : List (EF × EF)} (h : SPs W X pos keys values l) (hall : keys.all (·.isSome) = true := by rfl) (hl : keys.length = values.length := by rfl) (h0 : keys ≠ [] := by intro h; cases h) (h15 : keys.length ≤ 15 := by decide) : SE W X (.Dict keys values pos) (dispC l) :=
  PE.imp (pe_disp h hall hl h0 h15) fun σ H Q h => by
    obtain ⟨φ, Z, ρ, cs, S, L, t, cs', e0, kk⟩ := h
    obtain ⟨ps, c, e1, e2⟩ := R.bind_inv e0
    intro q hq
    have zq : Z q = none := by
      cases z : Z q with
      | none => rfl
      | some u => rw [S.sub _ _ z] at hq; cases hq
    have nq : q ∉ φ := fun hm => by
      obtain ⟨u, z⟩ := S.there q hm
      rw [hq] at z; cases z
    refine tPairs_of ⟨φ, Z, ρ, cs, S.beside (o := .dK []) nq zq (fun u h => by rw [hq] at h; cases h), L, ps, c, e1, fun φ1 Z1 H1 vs x1 S1 r1 => ?_⟩
    have hD := x1.fr (upd_same (H := H) (o := .dK [])) nq (fun _ h => by cases h)
    have n1 := x1.notin (upd_same (H := H) (o := .dK [])) nq
    have z1 := x1.znone (upd_same (H := H) (o := .dK [])) nq zq
    split at e2
    · rename_i ks hk
      split at e2
      · rename_i hl2
        cases e2
        obtain ⟨kvs, rfl, r2⟩ := keysOf_rep r1 hk
        refine ⟨hD, kvs, rfl, by rw [← Paired.len r2]; exact hl2, ?_⟩
        have xb := x1.but (upd_same (H := H) (o := .dK [])) nq
        rw [but_upd, but_none hq] at xb
        have S2 := S1.beside (o := .dK (mergeK [] kvs)) n1 z1 (fun u h => by rw [hD] at h; cases h; exact fun _ q => by cases q)
        have rm : RepKV W X.K (φ1 ++ [q]) Z1 (mergeT [] ks) (mergeK [] kvs) := RepKV.mono (List.prefix_append _ _) (fun _ _ h => h) (RepKV.merge r2 .nil)
        refine kk (φ1 ++ [q]) Z1 _ _ (Ext.adopt (D := q) (by rw [but_upd]; exact xb) hq) (S2.adopt upd_same n1 ⟨z1, _, upd_same, rm⟩) (.ref ?_)
        rw [← S1.len, List.getElem?_append_right (Nat.le_refl _)]
        simp
      · cases e2
    · cases e2
/-! d.get(k, x) -/
def getE (fd fk fx : EF) : EF := fun ρ cs => (fd ρ cs).bind fun d c1 => match d with
  | .ref n => (match c1[n]? with
    | some (.dk _) => (fk ρ c1).bind fun k c2 => (fx ρ c2).bind fun x c3 => (match c3[n]? with
      | some (.dk kvs) => (match keyT k with
        | some ky => .ok ((getK kvs ky).getD x) c3
        | none => .stuck)
      | _ => .stuck)
    | _ => .stuck)
  | _ => .stuck
theorem se_get2 {a b : Expr} {fd fk fx : EF} {cpos : Pos} (hu : X.A.units + 1 < cLine) (ho : SE W X o fd) (he : SE W X a fk) (hf : SE W X b fx) (m : M2 X o "get" apos a b cpos := by exact ⟨rfl, rfl, rfl, rfl⟩) : SE W X (.Call (.Attribute o "get" apos) [a, b] [] cpos) (getE fd fk fx) :=
  PE.imp (pe_dget2 hu ho he hf m) fun σ H Q h => by
    obtain ⟨φ, Z, ρ, cs, S, L, t, cs', e0, kk⟩ := h
    obtain ⟨d, c1, e1, e2⟩ := R.bind_inv e0
    refine ⟨φ, Z, ρ, cs, S, L, d, c1, e1, fun φ1 Z1 H1 v x1 S1 r1 => ?_⟩
    split at e2
    · rename_i n
      split at e2
      · rename_i kv0 hc
        obtain ⟨k, c2, e3, e2⟩ := R.bind_inv e2
        obtain ⟨x, c3, e4, e2⟩ := R.bind_inv e2
        cases r1 with
        | @ref _ a ea =>
          obtain ⟨_, vs0, h1, _⟩ := S1.cell _ _ _ hc ea
          refine ⟨a, rfl, .inl ⟨vs0, .inl h1⟩, φ1, Z1, ρ, c1, S1, L.ext x1, k, c2, e3, fun φ2 Z2 H2 y x2 S2 r2 => ⟨φ2, Z2, ρ, c2, S2, (L.ext x1).ext x2, x, c3, e4, fun φ3 Z3 H3 z x3 S3 r3 => ?_⟩⟩
          split at e2
          · rename_i kvs hc3
            split at e2
            · rename_i ky hk
              cases e2
              have ea3 := pre_get (x2.trans x3).pre ea
              obtain ⟨_, vs, h2, h3⟩ := S3.cell _ _ _ hc3 ea3
              rw [keyT_rep r2 hk]
              refine ⟨valV vs ky, DGet.k h2, kk _ _ _ _ ((x1.trans x2).trans x3) S3 ?_⟩
              have hg := RepKV.get ky h3
              have hv : valV vs ky = getK vs ky := rfl
              rw [hv]
              cases q : getK kvs ky with
              | none =>
                rw [q] at hg
                dsimp only at hg
                rw [hg]
                exact r3
              | some u =>
                rw [q] at hg
                dsimp only at hg
                obtain ⟨v, h4, h5⟩ := hg
                rw [h4]
                exact h5
            · cases e2
          · cases e2
      · cases e2
    · cases e2
end
end Y
end
section
set_option Elab.async false
set_option linter.all false
set_option maxRecDepth 100000
set_option maxHeartbeats 1000000
namespace YT
open PySem PySem.Spec PyProof.Rows L2
/-- enumerate of a text -/
def IteS (z : Str) : It :=
  ⟨fun i _ => i < z.cps.size, fun i H v H' => ∃ T ch, v = .ref T ∧ H T = none ∧ z.cps[i]? = some ch ∧ H' = upd H T (.tup [.int (i : Nat), .str ⟨#[ch]⟩]), fun i _ => z.cps.size ≤ i⟩
theorem turn_enumS {P : Program} {w : World} {K : PySem.W.Frag} {elts : List Expr} {kk : Nat} {tpos : Pos} (z : Str) (t : Tok) (e it : Addr) :
    Turn P w K (.Tuple elts kk tpos) (IteS z) [e, it] e (fun i h => (∃ old, IsEnum h e it ((i : Nat) : Int) old) ∧ h.IsStrIter it (strIterType z) z t i ∧ e ≠ it ∧ i ≤ z.cps.size) where
  mem := by simp
  obj := fun i h st b hb => by
    obtain ⟨⟨old, he⟩, ⟨o, ho, hc, hd⟩, _⟩ := st
    have e' : b = e ∨ b = it := by simpa using hb
    rcases e' with z | z
    · rw [z]; exact ⟨_, he, fun v q => nomatch q⟩
    · rw [z]; exact ⟨o, ho, fun v q => by rw [hd] at q; cases q⟩
  keep := fun i h h' st k => by
    obtain ⟨⟨old, he⟩, ⟨o, ho, hc, hd⟩, hne⟩ := st
    exact ⟨⟨old, k e (by simp) _ he⟩, ⟨o, k it (by simp) o ho, hc, hd⟩, hne⟩
  item := by
    intro X hP hw hK hc i pins s σ H E I hf st hg
    subst hP hw hK
    obtain ⟨⟨old, he⟩, hit, hne, hle⟩ := st
    have hlt : i < z.cps.size := hg
    have hel : e < s.heap.objs.size := Heap.lt_size he
    have hil : it < s.heap.objs.size := by obtain ⟨_, q, _⟩ := hit; exact Heap.lt_size q
    have D := Draws.text (prog := X.prog) (w := X.w) (A := X.A.in1) (I.ok.hd hc) it z t
    have hef : e ∉ [it] := by simp; exact hne
    refine wpAny_pyNext_enum_itemD D he hit hlt hne hef fun u' h' tk hPx ho hst' hT hsz hk => ?_
    obtain ⟨ch, tu, hch, rfl⟩ := hPx
    refine ⟨_, rfl, wpAny_letOwnedTupleGo_enum (s := { s with heap := h', toks := tk + 1 }) ho fun h'' he' sb => ?_⟩
    have hT2 : h''.get? s.heap.objs.size = some { cls := .type "tuple", data := .seq #[.int i tk, .str ⟨#[ch]⟩ tu] } := (sb.2 _ (Nat.ne_of_gt hel)).trans hT
    have new : ObjOk X.prog X.w (upd H s.heap.objs.size (.tup [.int (i : Nat), .str ⟨#[ch]⟩])) h'' s.heap.objs.size (.tup [.int (i : Nat), .str ⟨#[ch]⟩]) :=
      ⟨by show 2 ≤ sizeLine; decide, [.int i tk, .str ⟨#[ch]⟩ tu], .cons ⟨_, rfl⟩ (.cons ⟨_, rfl⟩ .nil), ⟨_, hT2, rfl, _, rfl⟩⟩
    have I1 : Inv X pins σ (upd H s.heap.objs.size (.tup [.int (i : Nat), .str ⟨#[ch]⟩])) { s with heap := h'', toks := tk + 1 } :=
      I.turnedNew (ch := [e, it]) (fun b ob hb q => (sb.2 b (fun z => hb (by simp [z]))).trans (hk b ob (fun z => hb (by simp [z])) (fun z => hb (by simp [z])) q)) hf (Nat.le_refl _) new
    refine ⟨.ref s.heap.objs.size, _, I1, rfl, ⟨_, ch, rfl, I.hok.fresh (Nat.le_refl _), hch, rfl⟩, ⟨⟨.str ⟨#[ch]⟩ tu, ?_⟩, ?_, hne, hlt⟩, fun b hb => ?_⟩
    · have e1 : ((i + 1 : Nat) : Int) = (i : Int) + 1 := by omega
      rw [e1]; exact he'
    · obtain ⟨o, ho', r⟩ := hst'
      exact ⟨o, (sb.2 it (Ne.symm hne)).trans ho', r⟩
    · have hb' : b < s.heap.objs.size := by
        have e' : b = e ∨ b = it := by simpa using hb
        rcases e' with z | z
        · rw [z]; exact hel
        · rw [z]; exact hil
      rw [upd_ne (Nat.ne_of_lt hb')]
      exact (hf b hb).1
  done := by
    intro X hP hw hK hc i pins s σ H E I hf st hg
    subst hP hw hK
    obtain ⟨⟨old, he⟩, hit, hne, hle⟩ := st
    have hge : z.cps.size ≤ i := hg
    have hi : i = z.cps.size := Nat.le_antisymm hle hge
    subst hi
    obtain ⟨f0, f1, f2, f3, f4, f5⟩ := hf it (by simp)
    have D := Draws.text (prog := X.prog) (w := X.w) (A := X.A.in1) (I.ok.hd hc) it z t
    exact wpAny_pyNext_enum_endD D he hit fun h' he' => ⟨rfl, I.turned (t' := s.toks) (fun b o hb q => he' b o hb q) f0 f1 f3 f4 f5⟩
  self := fun A i s Q E st h => let ⟨⟨_, he⟩, _⟩ := st; wpAny_pyIter_enum he h
def iEnumS (ta : TA) : TI := fun σ H R => ta σ H fun vs H1 => ∃ z, vs = [.str z] ∧ R (IteS z) H1
theorem pi_enumS {X : Cx} {e : Expr} {ta : TA} {p pos tpos : Pos} {elts : List Expr} {kk : Nat} (hg : Gl X "enumerate") (hm : X.mg "enumerate" = none) (ha : PA X [e] ta) (hs : starEach [e] X.env = [(false, eval e X.env)] := by rfl) :
    PI X (.Tuple elts kk tpos) (.Call (.Name "enumerate" p) [e] [] pos) (iEnumS ta) := by
  refine ⟨fun pins s σ H R I h => ?_⟩
  refine Call_ (ld_blt I hg hm boot_enumerate (PyProof.Rows.callWith_type1 (thn (ha.run pos pins s σ H _ I h) fun us s1 ⟨vs, H1, I1, r1, q1⟩ => ?_) hs rfl))
  obtain ⟨z, ex, q⟩ := q1
  subst ex
  cases r1 with
  | cons r rr =>
    cases rr
    obtain ⟨t, rfl⟩ := r
    have fp2 : ∀ b ∈ [s1.heap.objs.size + 1, s1.heap.objs.size], FpOk X pins H1 b := fun b hb => by
      have e' : b = s1.heap.objs.size + 1 ∨ b = s1.heap.objs.size := by simpa using hb
      have hle : s1.heap.objs.size ≤ b := by
        rcases e' with z | z
        · rw [z]; exact Nat.le_add_right _ _
        · rw [z]; exact Nat.le_refl _
      exact I1.fpOk hle (I1.hok.fresh hle)
    refine call_enumerate_str fun h' he hit hsz hk => wpAny_pyIter_enum he ?_
    have I2 : Inv X pins σ H1 { s1 with heap := h' } := I1.kept (t' := s1.toks) hk
    exact ⟨s1.heap.objs.size + 1, [s1.heap.objs.size + 1, s1.heap.objs.size], _, _, H1, rfl, I2, turn_enumS z t (s1.heap.objs.size + 1) s1.heap.objs.size, ⟨⟨.none, he⟩, hit, Nat.succ_ne_self _, Nat.zero_le _⟩, fp2, q⟩
end YT
namespace Y
open PySem PySem.Spec L2
def enumSI (g : AF) : IF := fun ρ cs => (g ρ cs).bind fun ts c => match ts with
  | [.d (.str z)] => .ok (enumL 0 (z.cps.toList.map fun k => .str ⟨#[k]⟩), fun _ => True) c
  | _ => .stuck
theorem si_enumS {W : Wd} {X : Cx} {pos : Pos} {a : Expr} {g : AF} {p tpos : Pos} {elts : List Expr} {kk : Nat} (hg : Gl X "enumerate") (hm : X.mg "enumerate" = none) (ha : SA W X [a] g) (hs : starEach [a] X.env = [(false, eval a X.env)] := by rfl) : SI W X (.Tuple elts kk tpos) (.Call (.Name "enumerate" p) [a] [] pos) (enumSI g) := PI.imp (YT.pi_enumS hg hm ha hs) fun σ H Rr h => by
  obtain ⟨φ, Z, ρ, cs, S, L, ts, keep, cs', e, k⟩ := h
  obtain ⟨us, c, e1, e⟩ := R.bind_inv e
  refine ⟨φ, Z, ρ, cs, S, L, us, c, e1, fun φ1 Z1 H1 vs x1 S1 r1 => ?_⟩
  split at e
  · rename_i z
    cases e
    obtain ⟨v, rfl, r2⟩ := Reps.one r1
    cases r2.dStr
    refine ⟨z, rfl, k φ1 Z1 H1 _ x1 S1 fun φ2 Z2 H2 cs2 x2 S2 _ => ?_⟩
    rw [enumL_len, List.length_map, Array.length_toList]
    refine ⟨fun i hi => hi, Nat.le_refl _, fun i x H' hi hy => ?_⟩
    obtain ⟨T, ch, rfl, hT', hch, rfl⟩ := hy
    obtain ⟨Z', x3, S3, r3⟩ := pairT (a := .int (i : Nat)) (b := .str ⟨#[ch]⟩) S2 hT' (Rep.int (i : Nat)) (Rep.str ⟨#[ch]⟩)
    refine ⟨_, Z', enumL_get 0 _ i (.str ⟨#[ch]⟩) (by rw [List.getElem?_map, Array.getElem?_toList, hch]; rfl), x3, S3, ?_⟩
    rw [show ((0 + i : Nat) : Int) = ((i : Nat) : Int) by omega]
    exact r3
  · cases e
/-! ### a def as it may be called -/
structure DefOk (W : Wd) (P : Program) (w : World) (K : PySem.W.Frag) (mg : Str → Option Value) (base : Heap) (k j : Nat) (ps : List Str) (dts : List T) (F : FF) : Prop where
  ex : ∃ (fd : FuncData) (dvs : List V) (ds : List Value), YG.FnG P w K mg base k (W.fad j) fd ps (spY W K ps.length F) ∧ Binds K fd ps ds ∧ Vals dvs ds ∧ (∀ φ Z, Reps W K φ Z dts dvs) ∧ PySem.W.keepIn K (.ref (W.fad j)) = true ∧ PySem.W.fnIn K (W.fad j) = true
  ar : Ar ps.length F
theorem DefOk.held {W : Wd} {P : Program} {w : World} {K : PySem.W.Frag} {mg : Str → Option Value} {base : Heap} {k j : Nat} {ps : List Str} {F : FF} (D : DefOk W P w K mg base k j ps [] F) : HeldY W P w K mg base k j F := by
  obtain ⟨fd, dvs, ds, h1, h2, h3, h4, h5, h6⟩ := D.ex
  have h7 := h4 [] (fun _ => none)
  cases h7
  cases h3
  exact ⟨fd, ps, h1, D.ar, h5, h2, h6⟩
def gk {α : Type} (n : Nat) (perm : List Nat) (us ws : List α) : List α := if us.length = 0 ∧ ws.length = n then perm.filterMap fun i => ws[i]? else []
structure DefK (W : Wd) (P : Program) (w : World) (K : PySem.W.Frag) (mg : Str → Option Value) (base : Heap) (k j : Nat) (ps ks : List Str) (perm : List Nat) (F : FF) : Prop where
  ex : ∃ (fd : FuncData), YG.FnG P w K mg base k (W.fad j) fd ps (spY W K ps.length F) ∧ KBinds K fd ps ks (gk ks.length perm) (gk ks.length perm) ∧ PySem.W.keepIn K (.ref (W.fad j)) = true
  ar : Ar ps.length F
theorem PK.imp {X : Cx} {kws : List Keyword} {t t' : TA} (h : PK X kws t) (k : ∀ σ H Q, t' σ H Q → t σ H Q) : PK X kws t' := ⟨fun pos pins s σ H Q I q => h.run pos pins s σ H Q I (k σ H Q q)⟩
def SK (W : Wd) (X : Cx) (kws : List Keyword) (g : AF) : Prop := PK X kws (tA W X.K g)
def callKE (n : Nat) (perm : List Nat) (F : FF) (g : AF) : EF := fun ρ cs => (g ρ cs).bind fun ts c => F (gk n perm [] ts) c
section
variable {W : Wd} {X : Cx} {pos p apos : Pos} {x m : Str} {e o : Expr} {es : List Expr} {k j ci : Nat} {ps ks : List Str} {perm : List Nat} {dts : List T} {F : FF} {g : AF} {fo : EF}
theorem sk_nil : SK W X [] nilA := PK.imp pk_nil fun σ H Q h => by
  obtain ⟨φ, Z, ρ, cs, S, L, ts, c, e1, kk⟩ := h
  cases e1
  exact kk _ _ _ _ (Ext.refl _ _ _) S .nil
theorem sk_cons {nm : Option Str} {kpos : Pos} {kws : List Keyword} {f : EF} (ha : SE W X e f) (hr : SK W X kws g) : SK W X (⟨nm, e, kpos⟩ :: kws) (consA f g) := PK.imp (pk_cons ha hr) fun σ H Q h => by
  obtain ⟨φ, Z, ρ, cs, S, L, ts, c, e1, kk⟩ := h
  obtain ⟨t, c1, e2, e1⟩ := R.bind_inv e1
  obtain ⟨us, c2, e3, e1⟩ := R.bind_inv e1
  cases e1
  exact ⟨φ, Z, ρ, cs, S, L, t, c1, e2, fun φ1 Z1 H1 v x1 S1 r1 => ⟨φ1, Z1, ρ, c1, S1, L.ext x1, us, _, e3, fun φ2 Z2 H2 vs x2 S2 r2 => kk _ _ _ _ (x1.trans x2) S2 (.cons (r1.ext x2) r2)⟩⟩
theorem Paired.pick {α β : Type} {F : α → β → Prop} {l : List α} {m : List β} (h : Paired F l m) : ∀ perm : List Nat, Paired F (perm.filterMap fun i => l[i]?) (perm.filterMap fun i => m[i]?)
  | [] => .nil
  | i :: r => by
    rw [List.filterMap_cons, List.filterMap_cons]
    have hl := Paired.len h
    cases q : l[i]? with
    | none =>
      have : m[i]? = none := by rw [List.getElem?_eq_none_iff] at q ⊢; omega
      rw [this]
      exact Paired.pick h r
    | some a =>
      obtain ⟨b, h1, h2⟩ := Paired.get h q
      rw [h1]
      exact .cons h2 (Paired.pick h r)
theorem gk_rep {α β : Type} {F : α → β → Prop} {l us : List α} {m vs : List β} (h0 : Paired F us vs) (h : Paired F l m) (n : Nat) (perm : List Nat) : Paired F (gk n perm us l) (gk n perm vs m) := by
  unfold gk
  rw [← Paired.len h, ← Paired.len h0]
  split
  · exact Paired.pick h perm
  · exact .nil
theorem se_callD (D : DefOk W X.prog X.w X.K X.mg X.base k j ps dts F) (hr : YG.RoomG k X.A) (hg : Gl X x) (hm : X.mg x = some (.ref (W.fad j))) (ha : SA W X (e :: es) g) (hdb : (x == ("__debug__" : Str)) = false := by decide +kernel)
    (he : starEach (e :: es) X.env = (false, eval e X.env) :: starEach es X.env := by rfl) (hpl : (backTo pos (starEach es X.env)).any (·.1) = false := by rfl) : SE W X (.Call (.Name x p) (e :: es) [] pos) (callE F dts g) := by
  obtain ⟨fd, dvs, ds, h1, h2, h3, h4, h5, h6⟩ := D.ex
  exact se_call h1 D.ar hr hg hm h5 h2 h3 h4 ha hdb he hpl
theorem se_callD0 (D : DefOk W X.prog X.w X.K X.mg X.base k j ps dts F) (hr : YG.RoomG k X.A) (hg : Gl X x) (hm : X.mg x = some (.ref (W.fad j))) (hdb : (x == ("__debug__" : Str)) = false := by decide +kernel) : SE W X (.Call (.Name x p) [] [] pos) (callE F dts nilA) := by
  obtain ⟨fd, dvs, ds, h1, h2, h3, h4, h5, h6⟩ := D.ex
  exact se_call0 h1 D.ar hr hg hm h5 h2 h3 h4 hdb
theorem se_callKD {n : Nat} {kws : List Keyword} (D : DefK W X.prog X.w X.K X.mg X.base k j ps ks perm F) (hr : YG.RoomG k X.A) (hg : Gl X x) (hm : X.mg x = some (.ref (W.fad j))) (hkw : SK W X kws g) (hall : (backToKw pos (keywordEach kws X.env)).all (·.1.isSome) = true := by rfl) (hks : (backToKw pos (keywordEach kws X.env)).filterMap (·.1) = ks := by rfl)
    (hdb : (x == ("__debug__" : Str)) = false := by decide +kernel) (hpl : ((backTo pos (starEach [] X.env)).any (·.1) || (backToKw pos (keywordEach kws X.env)).any (·.1.isNone)) = false := by rfl) (hn : ks.length = n := by rfl) : SE W X (.Call (.Name x p) [] kws pos) (callKE n perm F g) := by
  subst hn
  obtain ⟨fd, h1, h2, h3⟩ := D.ex
  refine PE.imp (YG.pe_callK0 h1 hr hg hm h3 h2 hkw hall hks hdb hpl) fun σ H Q h => ?_
  obtain ⟨φ, Z, ρ, cs, S, L, t, cs', e0, kk⟩ := h
  obtain ⟨ts, c, e1, e2⟩ := R.bind_inv e0
  exact ⟨φ, Z, ρ, cs, S, L, ts, c, e1, fun φ1 Z1 H1 vs x1 S1 r1 => ⟨φ1, Z1, gk ks.length perm [] ts, c, S1, gk_rep .nil r1 _ _, D.ar _ _ _ _ e2, t, cs', e2, fun φ' Z' H' v x' => kk φ' Z' H' v (x1.trans x')⟩⟩
theorem se_methD {pl : Sem Bool} (ho : SE W X o fo) (c : Cls X.K (W.cad ci)) (hm : Meth X.K (W.cad ci) m (W.fad j)) (D : DefOk W X.prog X.w X.K X.mg X.base k j ps dts F) (hr : YG.RoomG k X.A) (ha : SA W X (e :: es) g)
    (hst : starEach (e :: es) X.env = (false, eval e X.env) :: starEach es X.env := by rfl) (hpl : (backTo pos (starEach es X.env)).any (·.1) = false := by rfl)
    (ht : eval (.Call (.Attribute o m apos) (e :: es) [] pos) X.env = (do
      let ov ← eval o X.env
      standAt apos.atName
      let (f, first) ← holding [ov] (getMethod ov m pl)
      callWith pos f first (backTo pos (starEach (e :: es) X.env)) (backToKw pos (keywordEach [] X.env))) := by rfl) : SE W X (.Call (.Attribute o m apos) (e :: es) [] pos) (methE ci m F dts fo g) := by
  obtain ⟨fd, dvs, ds, h1, h2, h3, h4, h5, h6⟩ := D.ex
  exact se_meth (pl := pl) ho c hm h1 D.ar hr h2 h3 h4 ha hst hpl ht
theorem se_methD0 {pl : Sem Bool} (ho : SE W X o fo) (c : Cls X.K (W.cad ci)) (hm : Meth X.K (W.cad ci) m (W.fad j)) (D : DefOk W X.prog X.w X.K X.mg X.base k j ps dts F) (hr : YG.RoomG k X.A)
    (ht : eval (.Call (.Attribute o m apos) [] [] pos) X.env = (do
      let ov ← eval o X.env
      standAt apos.atName
      let (f, first) ← holding [ov] (getMethod ov m pl)
      callWith pos f first (backTo pos (starEach [] X.env)) (backToKw pos (keywordEach [] X.env))) := by rfl) : SE W X (.Call (.Attribute o m apos) [] [] pos) (methE ci m F dts fo nilA) := by
  obtain ⟨fd, dvs, ds, h1, h2, h3, h4, h5, h6⟩ := D.ex
  exact se_meth0 (pl := pl) ho c hm h1 D.ar hr h2 h3 h4 ht
theorem DefOk.mk' {W : Wd} {P : Program} {w : World} {K : PySem.W.Frag} {mg : Str → Option Value} {base : Heap} {k j : Nat} {ps : List Str} {F : FF} {x qual : Str} {params : Arguments} {body : List Stmt} {scope : Scope} (Fd : ∃ fd, FunD K x qual params body scope [] [] (W.fad j) fd) (hb : ∀ fd, FunD K x qual params body scope [] [] (W.fad j) fd → Binds K fd ps [])
    (hF : ∀ fd, FunD K x qual params body scope [] [] (W.fad j) fd → YG.FnG P w K mg base k (W.fad j) fd ps (spY W K ps.length F)) (ar : Ar ps.length F) : DefOk W P w K mg base k j ps [] F := by
  obtain ⟨fd, h⟩ := Fd
  refine ⟨⟨fd, [], [], hF fd h, hb fd h, .nil, fun _ _ => .nil, h.kp, ?_⟩, ar⟩
  obtain ⟨oc, od, dV, kV, doc, pm, an, cdv, ct, osl, rfl, lk, _⟩ := h.ex
  unfold PySem.W.fnIn
  rw [lk]
theorem DefK.mk' {W : Wd} {P : Program} {w : World} {K : PySem.W.Frag} {mg : Str → Option Value} {base : Heap} {k j : Nat} {ps ks : List Str} {perm : List Nat} {F : FF} {x qual : Str} {params : Arguments} {body : List Stmt} {scope : Scope} (Fd : ∃ fd, FunD K x qual params body scope [] [] (W.fad j) fd) (hp : ps ≠ [])
    (hb : ∀ (kV doc pm : Value) (an : Option Addr) (cdv ct : Value) (ws : List Value), ws.length = ks.length → bindArgs (PySem.W.fnOf x qual params body scope .none kV doc pm an cdv ct) ⟨[], ks.zip ws⟩ = pure (ps.zip (perm.filterMap fun i => ws[i]?)))
    (hF : ∀ fd, FunD K x qual params body scope [] [] (W.fad j) fd → YG.FnG P w K mg base k (W.fad j) fd ps (spY W K ps.length F)) (ar : Ar ps.length F) : DefK W P w K mg base k j ps ks perm F := by
  obtain ⟨fd, h⟩ := Fd
  refine ⟨⟨fd, hF fd h, ⟨fun s us ws X hl => ?_, fun r1 r2 => gk_rep r1 r2 _ _⟩, h.kp⟩, ar⟩
  obtain ⟨oc, od, dV, kV, doc, pm, an, cdv, ct, osl, rfl, lk, _, hD, _⟩ := h.ex
  rcases hD with ⟨_, rfl⟩ | ⟨z, _⟩
  · unfold gk at hl ⊢
    by_cases q : us.length = 0 ∧ ws.length = ks.length
    · rw [if_pos q]
      obtain ⟨q1, q2⟩ := q
      have : us = [] := List.length_eq_zero_iff.mp q1
      subst this
      exact BindsTo.of_eq (hb kV doc pm an cdv ct ws q2)
    · rw [if_neg q] at hl
      exact absurd (List.length_eq_zero_iff.mp hl.symm) hp
  · exact absurd rfl z
theorem stuck_bind {g : AF} {ci : Nat} {dts : List T} : makeE ci (fun _ _ => .stuck) dts g = fun ρ cs => (g ρ cs).bind fun _ _ => .stuck := by
  funext ρ cs
  unfold makeE
  rfl
/-- the level below: where there is none, nothing is promised -/
theorem se_makeD (M : Mk X.K (W.cad ci) (W.fad j)) (D : DefOk W X.prog X.w X.K X.mg X.base (k - 1) j ps dts F) (h0 : k = 0 → F = fun _ _ => .stuck) (hr : YG.RoomG k X.A) (hg : Gl X x) (hm : X.mg x = some (.ref (W.cad ci))) (ha : SA W X (e :: es) g)
    (hdb : (x == ("__debug__" : Str)) = false := by decide +kernel) (he : starEach (e :: es) X.env = (false, eval e X.env) :: starEach es X.env := by rfl) (hpl : (backTo pos (starEach es X.env)).any (·.1) = false := by rfl) : SE W X (.Call (.Name x p) (e :: es) [] pos) (makeE ci F dts g) := by
  obtain ⟨fd, dvs, ds, h1, h2, h3, h4, h5, h6⟩ := D.ex
  cases k with
  | zero =>
    rw [h0 rfl]
    refine PE.imp (se_never (W := W)) fun σ H Q h => ?_
    obtain ⟨φ, Z, ρ, cs, S, L, t, cs', e0, kk⟩ := h
    obtain ⟨ts, c, e1, e2⟩ := R.bind_inv e0
    cases e2
  | succ k => exact se_make M h1 D.ar hr hg hm h2 h3 h4 ha hdb he hpl
end
end Y
end
section
set_option Elab.async false
set_option linter.all false
set_option maxRecDepth 100000
set_option maxHeartbeats 1000000
namespace YH
open PySem PySem.Spec PyProof.Rows L2 Y He
/-! ### constants of the module, told by a check -/
mutual
def dzB (K : PySem.W.Frag) : PyData → Value → Bool
  | .none, u => (match u with
    | .none => true
    | _ => false)
  | .bool b, u => (match u with
    | .bool c => b == c
    | _ => false)
  | .int i, u => (match u with
    | .int j _ => decide (i = j)
    | _ => false)
  | .str x, u => (match u with
    | .str y _ => decide (x = y)
    | _ => false)
  | .tuple ds, u => (match u with
    | .ref a => (match K.lookup a with
      | some ⟨.type c, _, .seq its _, _⟩ => decide (c = "tuple") && (decide (its.size ≤ sizeLine) && dzAllB K ds its.toList)
      | _ => false)
    | _ => false)
  | _, _ => false
def dzAllB (K : PySem.W.Frag) : List PyData → List Value → Bool
  | [], [] => true
  | d :: ds, u :: us => dzB K d u && dzAllB K ds us
  | _, _ => false
end
mutual
theorem dzB_ok {K : PySem.W.Frag} : ∀ (d : PyData) (u : Value), dzB K d u = true → ∃ v, RelV v u ∧ ∀ Z, Dz K Z v d
  | .none, u, h => by
    cases u with
    | none => exact ⟨.non, rfl, fun _ => .non⟩
    | _ => simp [dzB] at h
  | .bool b, u, h => by
    cases u with
    | bool c =>
      simp only [dzB, beq_iff_eq] at h
      subst h
      exact ⟨.bl b, rfl, fun _ => .bl b⟩
    | _ => simp [dzB] at h
  | .int i, u, h => by
    cases u with
    | int j t =>
      simp only [dzB, decide_eq_true_eq] at h
      subst h
      exact ⟨.int i, ⟨t, rfl⟩, fun _ => .int i⟩
    | _ => simp [dzB] at h
  | .str i, u, h => by
    cases u with
    | str j t =>
      simp only [dzB, decide_eq_true_eq] at h
      subst h
      exact ⟨.str i, ⟨t, rfl⟩, fun _ => .str i⟩
    | _ => simp [dzB] at h
  | .tuple ds, u, h => by
    cases u with
    | ref a =>
      simp only [dzB] at h
      split at h
      · rename_i c od its n sl hl
        obtain ⟨h1, h2⟩ := ba h
        obtain ⟨h3, h4⟩ := ba h2
        obtain ⟨vs, r, hz⟩ := dzAllB_ok ds its.toList h4
        exact ⟨.ref a, rfl, fun Z => .tup (.inr ⟨_, its, n, hl, congrArg Value.type (of_decide_eq_true h1), rfl, of_decide_eq_true h3, r⟩) (hz Z)⟩
      · cases h
    | _ => simp [dzB] at h
  | .list _, u, h => by simp [dzB] at h
  | .dict _, u, h => by simp [dzB] at h
theorem dzAllB_ok {K : PySem.W.Frag} : ∀ (ds : List PyData) (us : List Value), dzAllB K ds us = true → ∃ vs, Vals vs us ∧ ∀ Z, DzAll K Z vs ds
  | [], [], _ => ⟨[], .nil, fun _ => .nil⟩
  | [], _ :: _, h => by simp [dzAllB] at h
  | _ :: _, [], h => by simp [dzAllB] at h
  | d :: ds, u :: us, h => by
    simp only [dzAllB] at h
    obtain ⟨h1, h2⟩ := ba h
    obtain ⟨v, r1, z1⟩ := dzB_ok d u h1
    obtain ⟨vs, r2, z2⟩ := dzAllB_ok ds us h2
    exact ⟨v :: vs, .cons r1 r2, fun Z => .cons (z1 Z) (z2 Z)⟩
end
/-- the module's name x is this tuple -/
theorem tup_rep {W : Wd} {K : PySem.W.Frag} {a : Addr} {ds : List PyData} (h : dzB K (.tuple ds) (.ref a) = true) (φ : List Addr) (Z : Hp) : Rep W K φ Z (.d (.tuple ds)) (.ref a) := by
  obtain ⟨v, r, hz⟩ := dzB_ok _ _ h
  have h2 := hz Z
  cases v with
  | ref b => cases r; exact .d h2
  | _ => cases h2
/-- a method that can be taken as a value -/
def bmB (K : PySem.W.Frag) (x m : Str) : Bool := decide (PySem.W.specialIn K (.ref (ma K (ga K x) m)) "__get__" = some (some (.builtin "function.__get__"))) && (decide (PySem.W.takesIn K (.ref (ma K (ga K x) m)) = some false) && PySem.W.fnIn K (ma K (ga K x) m))
theorem bmB_ok {K : PySem.W.Frag} {x m : Str} (h : bmB K x m = true) (hm : Meth K (ga K x) m (ma K (ga K x) m)) (hc : PySem.W.copiedNames.contains m = false := by decide +kernel) : BMeth K (ga K x) m (ma K (ga K x) m) := by
  obtain ⟨h1, h2⟩ := ba h
  obtain ⟨h3, h4⟩ := ba h2
  exact ⟨hm, of_decide_eq_true h1, of_decide_eq_true h3, hc, h4⟩
/-! ### dicts of the module -/
def valB (K : PySem.W.Frag) (a : Addr) (kvs : List (Str × PyData)) : Bool := kvs.all fun q => match PySem.W.nsIn K a q.1 with
  | some (some u) => dzB K q.2 u
  | _ => false
theorem key_mem : ∀ {l : List DictEntry} {P : Params} {ks : List Str}, l.map He.keyOf = keysIn P ks → ∀ e ∈ l, ∃ k t, e.key = .str k t ∧ k ∈ ks
  | [], _, _, _, e, he => by cases he
  | x :: l, P, [], h, e, he => by cases h
  | x :: l, P, k :: ks, h, e, he => by
    have h1 : He.keyOf x :: l.map He.keyOf = some (k, PyData.keyHash P k) :: keysIn P ks := h
    injection h1 with h2 h3
    rcases List.mem_cons.mp he with rfl | he
    · unfold He.keyOf at h2
      split at h2
      · rename_i y t q
        obtain ⟨h5, h6⟩ := Prod.mk.inj (Option.some.inj h2)
        exact ⟨y, t, q, by simp [h5]⟩
      · cases h2
    · obtain ⟨k', t, h4, h5⟩ := key_mem h3 e he
      exact ⟨k', t, h4, List.mem_cons_of_mem _ h5⟩
theorem ns_none {K : PySem.W.Frag} {P : Params} {a : Addr} {ks : List Str} {z : Str} (h : dicW K a = some (keysIn P ks)) (hz : z ∉ ks) : PySem.W.nsIn K a z = some none := by
  unfold dicW at h
  split at h
  · rename_i c es n sl hl
    split at h
    · have hk := Option.some.inj h
      have hm := key_mem hk
      unfold PySem.W.nsIn
      rw [hl]
      dsimp only
      have h1 : es.toList.find? (·.key.isStr z) = none := by
        rw [List.find?_eq_none]
        intro e he
        obtain ⟨k, t, h2, h3⟩ := hm e he
        rw [h2]
        have : k ≠ z := fun q => hz (q ▸ h3)
        simp [Value.isStr, this]
      have h4 : es.toList.any (·.refKey) = false := by
        rw [List.any_eq_false]
        intro e he
        obtain ⟨k, t, h2, h3⟩ := hm e he
        simp [DictEntry.refKey, h2]
      rw [h1, h4]
      rfl
    · cases h
  · cases h
/-- a written dict, as the layer asks it -/
theorem kd_ok {W : Wd} {K : PySem.W.Frag} {w : World} {a : Addr} {kvs : List (Str × PyData)} (h : dicW K a = some (keysIn w.params (kvs.map (·.1)))) (hv : valB K a kvs = true) :
    ∃ es n, K.lookup a = some ⟨.type "dict", none, .dict es n, #[]⟩ ∧ PySem.W.KeysLit w.params es.toList ∧ (a == sysModules) = false ∧ ∀ z : Str,
    (match getK (kvs.map fun q => (q.1, T.d q.2)) z with
    | some t => ∃ u v, PySem.W.nsIn K a z = some (some u) ∧ RelV v u ∧ ∀ φ Z, Rep W K φ Z t v
    | none => PySem.W.nsIn K a z = some none) := by
  obtain ⟨es, n, D⟩ := dicW_ok h
  refine ⟨es, n, D.at_, D.lit, D.low, fun z => ?_⟩
  have hg : getK (kvs.map fun q => (q.1, T.d q.2)) z = (kvs.find? fun kv => decide (kv.1 = z)).map fun q => T.d q.2 := by
    unfold getK
    rw [List.find?_map]
    have e : ((fun kv : Str × T => decide (kv.1 = z)) ∘ fun q : Str × PyData => (q.1, T.d q.2)) = fun kv => decide (kv.1 = z) := rfl
    rw [e]
    cases kvs.find? (fun kv => decide (kv.1 = z)) <;> rfl
  rw [hg]
  cases q : kvs.find? fun kv => decide (kv.1 = z) with
  | none =>
    refine ns_none h fun hm => ?_
    obtain ⟨p, hp, rfl⟩ := List.mem_map.mp hm
    have := List.find?_eq_none.mp q p hp
    simp at this
  | some p =>
    have hp := List.mem_of_find?_eq_some q
    have hz := List.find?_some q
    have hz : p.1 = z := of_decide_eq_true hz
    have h2 := List.all_eq_true.mp hv p hp
    dsimp only [Option.map]
    rw [hz] at h2
    cases e : PySem.W.nsIn K a z with
    | none => rw [e] at h2; cases h2
    | some r =>
      rw [e] at h2
      cases r with
      | none => cases h2
      | some u =>
        obtain ⟨v, r1, z1⟩ := dzB_ok _ _ h2
        exact ⟨u, v, rfl, r1, fun φ Z => .d (z1 Z)⟩
theorem tab_at {fa : List Fa} {fn : List DefD} {ts : List Tab} {w : World} {K : PySem.W.Frag} (c : SaysT fa fn ts w K) (i : Nat) {t : Tab} (h : ts[i]? = some t) : dicW K (t.1 K) = some (keysIn w.params t.2) := by
  have e : ts.map (fun t => dicW K (t.1 K)) = ts.map fun t => some (keysIn w.params t.2) := congrArg (fun z : AlT => z.2) c
  have e2 := congrArg (fun l => l[i]?) e
  simp only [List.getElem?_map, h, Option.map_some] at e2
  exact Option.some.inj e2
/-! ### the law's start -/
/-- the heap without its tables -/
def noTb (H : Hp) : Hp := fun b => match H b with
  | some (.tbl _) => none
  | o => o
theorem noTb_sub {H : Hp} {b : Addr} {o : HO} (h : noTb H b = some o) : H b = some o := by
  unfold noTb at h
  split at h
  · cases h
  · exact h
theorem noTb_of {H : Hp} {b : Addr} {o : HO} (h : H b = some o) (hn : ∀ ps, o ≠ .tbl ps) : noTb H b = some o := by
  unfold noTb
  split
  · rename_i ps e
    rw [h] at e
    exact absurd (Option.some.inj e) (hn ps)
  · exact h
theorem start_sp {W : Wd} {K : PySem.W.Frag} {F : FF} {H : Hp} {a : Addr} {ns : List Int} (hS : SqL K H a (ns.map V.int)) (hT : ∀ p ∈ W.tbs, H p.1 = some (.tbl #[])) (hF : ∃ c, F [.scr ns] [] = .ok (.d (.bool true)) c) : spY W K 1 F [.ref a] H (fun v _ => v = .bl true) fun _ _ _ => False := by
  obtain ⟨c, e⟩ := hF
  have hZ : SqL K (noTb H) a (ns.map V.int) := by
    rcases hS with h | h
    · refine .inl ?_
      rcases h with h | ⟨o, h⟩
      · exact .inl (noTb_of h fun _ q => by cases q)
      · exact .inr ⟨o, noTb_of h fun _ q => by cases q⟩
    · exact .inr h
  refine ⟨[], noTb H, [.scr ns], [], ⟨fun _ _ h => noTb_sub h, rfl, List.nodup_nil, (fun a h => by cases h), (fun n c a h => by simp at h), fun p hp => ⟨by unfold noTb; rw [hT p hp], #[], hT p hp, trivial, fun pos cv hc => by
    have z : PySem.codeAmong pos [] = some cv := hc
    simp [PySem.codeAmong] at z⟩⟩, .cons (.scr hZ) .nil, rfl, .d (.bool true), c, e, fun φ' Z' H' v x' S' r' => r'.dBool⟩
end YH
end
section
set_option Elab.async false
set_option linter.all false
set_option maxRecDepth 100000
set_option maxHeartbeats 1000000
namespace YH
open PySem PySem.Spec L2 Y He
/-! ### a copy of a written dict -/
structure KCopy (K : PySem.W.Frag) (w : World) (a : Addr) (kvs : List (Str × PyData)) : Prop where
  keys : dicW K a = some (keysIn w.params (kvs.map (·.1)))
  vals : valB K a kvs = true
  nd : (kvs.map (·.1)).Nodup
theorem key_head {e : DictEntry} {l : List DictEntry} {P : Params} {k : Str} {ks : List Str} (h : (e :: l).map He.keyOf = keysIn P (k :: ks)) : (∃ t, e.key = .str k t) ∧ e.hash = PyData.keyHash P k ∧ l.map He.keyOf = keysIn P ks := by
  have h1 : He.keyOf e :: l.map He.keyOf = some (k, PyData.keyHash P k) :: keysIn P ks := h
  injection h1 with h2 h3
  unfold He.keyOf at h2
  split at h2
  · rename_i y t q
    obtain ⟨h5, h6⟩ := Prod.mk.inj (Option.some.inj h2)
    subst h5
    exact ⟨⟨t, q⟩, h6, h3⟩
  · cases h2
/-- each entry is the first of its key -/
theorem find_key {P : Params} {k : Str} {v : Value} : ∀ {l : List DictEntry} {ks : List Str}, l.map He.keyOf = keysIn P ks → ks.Nodup → ∀ e ∈ l, e.key.isStr k = true → l.find? (·.key.isStr k) = some e
  | [], _, _, _, e, he, _ => by cases he
  | x :: l, [], h, _, _, _, _ => by cases h
  | x :: l, y :: ks, h, hn, e, he, hk => by
    obtain ⟨⟨t, h1⟩, h2, h3⟩ := key_head h
    rw [List.nodup_cons] at hn
    rw [List.find?_cons]
    rcases List.mem_cons.mp he with rfl | he
    · rw [hk]
    · have : x.key.isStr k = false := by
        cases q : x.key.isStr k with
        | false => rfl
        | true =>
          rw [h1] at q
          have q : (y == k) = true := q
          have q := beq_iff_eq.mp q
          subst q
          obtain ⟨k', t', h4, h5⟩ := key_mem h3 e he
          rw [h4] at hk
          have hk : (k' == y) = true := hk
          rw [beq_iff_eq.mp hk] at h5
          exact absurd h5 hn.1
      rw [this]
      exact find_key (v := v) h3 hn.2 e he hk
theorem copy_list {K : PySem.W.Frag} {w : World} {prog : Program} : ∀ {l : List DictEntry} {kvs : List (Str × PyData)}, l.map He.keyOf = keysIn w.params (kvs.map (·.1)) → (∀ p ∈ kvs, ∀ e ∈ l, e.key.isStr p.1 = true → dzB K p.2 e.val = true) →
    ∃ (vv : List (Key × V)) (uu : List (Key × Value)), PySem.Pairs (mixKind prog w) l uu ∧ uu.map (·.1) = (kvs.map (·.1)).map Sum.inr ∧ KV vv uu ∧ Paired (fun (p : Key × V) (q : Str × PyData) => p.1 = .inr q.1 ∧ ∀ Z, Dz K Z p.2 q.2) vv kvs
  | [], [], _, _ => ⟨[], [], .nil, rfl, .nil, .nil⟩
  | _ :: _, [], h, _ => by cases h
  | [], _ :: _, h, _ => by cases h
  | e :: l, (k, d) :: kvs, h, hv => by
    obtain ⟨⟨t, h1⟩, h2, h3⟩ := key_head h
    obtain ⟨vv, uu, a1, a2, a3, a4⟩ := copy_list (K := K) (prog := prog) h3 fun p hp e' he' => hv p (List.mem_cons_of_mem _ hp) e' (List.mem_cons_of_mem _ he')
    have h4 := hv (k, d) List.mem_cons_self e List.mem_cons_self (by rw [h1]; show (k == k) = true; exact beq_self_eq_true k)
    obtain ⟨v, r, z⟩ := dzB_ok _ _ h4
    exact ⟨(.inr k, v) :: vv, (.inr k, e.val) :: uu, .cons (by rw [h1]; exact mixKind_str prog w k t) rfl a1, by simp [a2], .cons ⟨rfl, r⟩ a3, .cons ⟨rfl, z⟩ a4⟩
theorem KCopy.of {K : PySem.W.Frag} {w : World} {prog : Program} {h : Heap} {a : Addr} {kvs : List (Str × PyData)} (X : K.In h) (c : KCopy K w a kvs) :
    ∃ (vv : List (Key × V)) (uu : List (Key × Value)), h.DictOf (mixKind prog w) a uu ∧ KV vv uu ∧ (a == sysModules) = false ∧ uu.length = kvs.length ∧ Paired (fun (p : Key × V) (q : Str × PyData) => p.1 = .inr q.1 ∧ ∀ Z, Dz K Z p.2 q.2) vv kvs := by
  obtain ⟨es, n, D⟩ := dicW_ok c.keys
  have hk : es.toList.map He.keyOf = keysIn w.params (kvs.map (·.1)) := by
    have := c.keys
    unfold dicW at this
    rw [D.at_] at this
    dsimp only at this
    split at this
    · exact Option.some.inj this
    · cases this
  obtain ⟨vv, uu, a1, a2, a3, a4⟩ := copy_list (K := K) (prog := prog) hk fun p hp e he hs => by
    have h1 := List.all_eq_true.mp c.vals p hp
    have h2 := find_key (v := .none) hk c.nd e he hs
    have h3 : PySem.W.nsIn K a p.1 = some (some e.val) := by
      unfold PySem.W.nsIn
      rw [D.at_]
      dsimp only
      rw [h2]
    rw [h3] at h1
    exact h1
  refine ⟨vv, uu, ⟨_, es, n, X _ _ D.at_, ⟨rfl, rfl, rfl⟩, rfl, fun e he => ?_, a1, ?_⟩, a3, D.low, ?_, a4⟩
  · obtain ⟨x, t, e1, e2⟩ := D.lit.all e (Array.mem_toList_iff.mpr he)
    exact ⟨.inr x, by rw [e1]; exact mixKind_str prog w x t, e2⟩
  · rw [a2]
    exact List.Pairwise.map _ (fun a b h q => h (Sum.inr.inj q)) c.nd
  · have := congrArg List.length a2
    simpa using this
theorem call_dictK {X : Cx} : CallR X (.type "dict") (fun xs H Q => ∃ (a : Addr) (kvs : List (Str × PyData)), xs = [.ref a] ∧ KCopy X.K X.w a kvs ∧ kvs.length ≤ sizeLine ∧ ∀ p vv, H p = none → Paired (fun (p : Key × V) (q : Str × PyData) => p.1 = .inr q.1 ∧ ∀ Z, Dz X.K Z p.2 q.2) vv kvs → Q (.ref p) (upd H p (.dK vv))) := by
  intro pins s σ H xs us Q I r q
  obtain ⟨a, kvs, ex, hc, hz, q⟩ := q
  subst ex
  obtain ⟨u, eu, rx⟩ := vals1 r
  subst eu
  cases rx
  obtain ⟨vv, uu, dd, kv, lo, hl, pr⟩ := hc.of (prog := X.prog) I.kIn
  have hlv : vv.length = uu.length := Paired.length kv
  refine kt_call_dict lo dd (by omega) fun h' d' hs => ?_
  have hm : (s.heap.objs.size == sysModules) = false := beq_eq_false_iff_ne.mpr (Nat.ne_of_gt I.big)
  exact ⟨.ref s.heap.objs.size, upd H s.heap.objs.size (.dK vv), I.laid (t' := s.toks) (fun b u e => (hs.2 b (Nat.ne_of_lt (Heap.lt_size e))).trans (Heap.get?_push_of_some _ e)) (Nat.le_refl _)
    (show ObjOk X.prog X.w _ _ _ (.dK vv) from ⟨by omega, hm, uu, kv, d'⟩), rfl, q _ _ (I.hok.fresh (Nat.le_refl _)) pr⟩
/-- the layer's dicts may be copied -/
structure WOk2 (W : Wd) (K : PySem.W.Frag) (w : World) : Prop where
  cp : ∀ i, W.kdv i ≠ [] → ∃ kvs : List (Str × PyData), W.kdv i = kvs.map (fun q => (q.1, T.d q.2)) ∧ KCopy K w (W.kad i) kvs ∧ kvs.length ≤ sizeLine
theorem call_dictY {X : Cx} : CallR X (.type "dict") (fun xs H Q => (∃ (a : Addr) (kvs : List (Str × PyData)), xs = [.ref a] ∧ KCopy X.K X.w a kvs ∧ kvs.length ≤ sizeLine ∧ ∀ p vv, H p = none → Paired (fun (p : Key × V) (q : Str × PyData) => p.1 = .inr q.1 ∧ ∀ Z, Dz X.K Z p.2 q.2) vv kvs → Q (.ref p) (upd H p (.dK vv))) ∨
    (∃ (a : Addr) (kvs : List (Key × V)), xs = [.ref a] ∧ Rd H a (.dK kvs) ∧ ∀ p, H p = none → Q (.ref p) (upd H p (.dK kvs)))) := fun pins s σ H xs us Q I r q => q.elim (fun q => call_dictK pins s σ H xs us Q I r q) fun q => call_dictD pins s σ H xs us Q I r q
def dictT (W : Wd) : CT := fun ts cs => match ts with
  | [.kd i] => if W.kdv i ≠ [] then .ok (.ref cs.length) (cs ++ [.dk ((W.kdv i).map fun q => (.inr q.1, q.2))]) else .stuck
  | [.ref n] => (match cs[n]? with
    | some (.dk kvs) => .ok (.ref cs.length) (cs ++ [.dk kvs])
    | _ => .stuck)
  | _ => .stuck
theorem ok_dict {W : Wd} {K : PySem.W.Frag} {w : World} (G : WOk2 W K w) : ClOk W K (fun xs H Q => (∃ (a : Addr) (kvs : List (Str × PyData)), xs = [.ref a] ∧ KCopy K w a kvs ∧ kvs.length ≤ sizeLine ∧ ∀ p vv, H p = none → Paired (fun (p : Key × V) (q : Str × PyData) => p.1 = .inr q.1 ∧ ∀ Z, Dz K Z p.2 q.2) vv kvs → Q (.ref p) (upd H p (.dK vv))) ∨
    (∃ (a : Addr) (kvs : List (Key × V)), xs = [.ref a] ∧ Rd H a (.dK kvs) ∧ ∀ p, H p = none → Q (.ref p) (upd H p (.dK kvs)))) (dictT W) := by
  intro φ Z cs H ts vs Q z cs' S rs e k
  unfold dictT at e
  split at e
  · rename_i i
    split at e
    · rename_i hne
      cases e
      obtain ⟨v, rfl, rv⟩ := Reps.one rs
      cases rv
      obtain ⟨kvs, e1, c, hl⟩ := G.cp i hne
      refine .inl ⟨_, kvs, rfl, c, hl, fun p vv hp pr => ?_⟩
      refine finDk S ?_ k p hp
      rw [e1]
      clear hl c e1 k
      induction pr with
      | nil => exact .nil
      | cons h _ ih => exact .cons ⟨h.1.symm, .d (h.2 Z)⟩ ih
    · cases e
  · rename_i n
    split at e
    · rename_i kvs hc
      cases e
      obtain ⟨v, rfl, rv⟩ := Reps.one rs
      cases rv with
      | ref ea =>
        obtain ⟨_, vs, h1, h2⟩ := S.cell _ _ _ hc ea
        exact .inr ⟨_, vs, rfl, .inl h1, fun p hp => finDk S h2 k p hp⟩
    · cases e
  · cases e
end YH
end
section
set_option Elab.async false
set_option linter.all false
set_option maxRecDepth 100000
set_option maxHeartbeats 1000000
namespace YH
open PySem PySem.Spec L2 Y He
/-! ### a cheaper look: the objects that the module's names reach, level by level, nothing compared -/
def kids (g : Addr → Option Obj) (a : Addr) : List Addr := match g a with
  | some o => (match o.data with
    | .seq its _ => its.toList.flatMap refV
    | .dict es _ => es.toList.flatMap fun e => refV e.val
    | .func fd => refV fd.code ++ refV fd.defaults
    | .cls cd => [cd.ns]
    | _ => [])
  | none => []
/-- the kids of classes and dicts and tuples below, of functions their code -/
def lvl (g : Addr → Option Obj) : Nat → List Addr → List Addr
  | 0, l => l
  | n + 1, l => l ++ lvl g n (l.flatMap (kids g))
def asP (g : Addr → Option Obj) (n : Nat) : List Addr := mainGlobals :: lvl g n (kids g mainGlobals)
structure SaysP (fa : List Fa) (fn : List DefD) (ts : List Tab) (ex : PySem.W.Frag → Bool) (w : World) (K : PySem.W.Frag) : Prop where
  t : SaysT fa fn ts w K
  more : ex K = true
def obsP (n : Nat) (fa : List Fa) (fn : List DefD) (ts : List Tab) (ex : PySem.W.Frag → Bool) (g : Addr → Option Obj) : AlT × Bool := (obsT fa fn ts (frG g (asP g n)), ex (frG g (asP g n)))
def hookP (n : Nat) (fa : List Fa) (fn : List DefD) (ts : List Tab) (ex : PySem.W.Frag → Bool) : PySem.W.Hook where
  α := AlT × Bool
  obs := fun s => obsP n fa fn ts ex s.heap.get?
  val := fun w => (valT fn ts w, true)
  says := fun w h => ∃ K : PySem.W.Frag, K.In h ∧ SaysP fa fn ts ex w K
  of := fun _ _ e => ⟨_, frG_in, ⟨congrArg (fun z : AlT × Bool => z.1) e, congrArg (fun z : AlT × Bool => z.2) e⟩⟩
  keeps := fun _ _ _ ⟨K, hK, c⟩ k => ⟨K, PySem.W.Frag.In.keeps hK k, c⟩
theorem obsP_eq {n : Nat} {fa : List Fa} {fn : List DefD} {ts : List Tab} {ex : PySem.W.Frag → Bool} {g : Addr → Option Obj} {s : Shared} (h : ∀ a, g a = s.heap.get? a) : obsP n fa fn ts ex g = (hookP n fa fn ts ex).obs s := by
  have e : g = s.heap.get? := funext h
  rw [e]
  rfl
end YH
end
section
set_option Elab.async false
set_option linter.all false
set_option maxRecDepth 100000
set_option maxHeartbeats 1000000
/-! lambdas that capture nothing, as values -/
namespace YG
open PySem PySem.Spec PyProof.Rows L2 Y
structure LamG (P : Program) (w : World) (K : PySem.W.Frag) (mg : Str → Option Value) (base : Heap) (k : Nat) (L : Lam) (ps : List Str) (sp : Sp) : Prop where
  len : ∀ vs H Q E, sp vs H Q E → vs.length = ps.length
  run : ∀ (A : Around) (outer : List Env) (s : Shared) (H : Hp) (f c : Addr) (us : List Value) (vs : List V) (Q : VK) (E : XK), RoomG k A → Env0 P w K mg base A outer s H → H f = some (LmO L c f) → H c = some (LamX.CodeO c L.qual) → Vals vs us → sp vs H Q E →
    codeAny (model P w) A (.call (.ref f) ⟨us, []⟩) (CR CX0 outer P w H s Q E) s
theorem lam_of {P : Program} {w : World} {K : PySem.W.Frag} {mg : Str → Option Value} {base : Heap} {k : Nat} {L : Lam} {N ps : List Str} {sp : Sp} (S : FnScope N ps L.scope)
    (hb : ∀ (pm ctv : Value) (c : Addr) (us : List Value), us.length = ps.length → bindArgs (PySem.W.kla_fn "<lambda>" L.qual L.params L.body L.scope [] pm (.ref c) ctv) ⟨us, []⟩ = pure (ps.zip us)) (len : ∀ vs H Q E, sp vs H Q E → vs.length = ps.length)
    (hbody : ∀ (f : Addr) (cdv : Value) (A : Around) (outer : List Env) (s : Shared) (H : Hp) (vs : List V) (Q : VK) (E : XK), RoomG k (A.deeper (envOfC L.qual L.scope s.heap.objs.size f cdv)) → sp vs H Q E →
      ∃ t, PE (cxOf CX0 P w K mg base N L.qual L.scope f cdv A outer s H E) L.body t ∧ t (L2.start N vs) H Q) :
    LamG P w K mg base (k + 1) L ps sp := by
  refine ⟨len, fun A outer s H f c us vs Q E hr e0 hf hc r hsp => ?_⟩
  have hl := len _ _ _ _ hsp
  obtain ⟨⟨pm, ctv, of1⟩, _, _⟩ := e0.hok f _ hf
  obtain ⟨⟨oc, xs, t0, hoc, hdc, hvc⟩, _, _⟩ := e0.hok c _ hc
  have lim : s.heap.NoLimit := e0.mod.nolimit.keeps fun b o e => (e0.bs b o e).1
  have hkind : ∀ y ∈ ps.zip us, L.scope.names.lookup y.1 = some .local ∨ (L.scope.names.lookup y.1 = some .cell ∧ ((cellsFrom (s.heap.objs.size + 1) L.scope.names []).lookup y.1).isSome = true) := fun ⟨n, v⟩ hy =>
    (S.par n (List.of_mem_zip hy).1).elim (fun q => .inl q) fun q => .inr ⟨q, PySem.W.cellsFrom_some _ _ _ (.inl q)⟩
  refine PySem.W.kla_callFunE hr.r.depth of1 rfl S.co S.gen rfl ⟨c, oc, xs, t0, rfl, hoc, hdc, hvc⟩ ?_
  rw [hb pm ctv c us (by rw [← r.length]; exact hl)]
  refine wpAny_pure (wpAny_newFunctionEnv_cells S.kind hkind fun env he s1 x => ?_)
  subst he
  refine ⟨lim.keeps x.toInCall.keep, PySem.W.kla_codeExpr ?_⟩
  obtain ⟨t, ht, hq⟩ := hbody f (.ref c) A outer s H vs Q E (hr.deeper _) hsp
  have I := inv_start (CX := CX0) (E := E) (f := f) (cd := .ref c) (qual := L.qual) S hr.r.hd e0 hl r x
  refine wpAny_mono (ht.run [] s1 (L2.start N vs) H Q I hq) (fun v s' hs => ?_) fun e s' hs => hs
  obtain ⟨w', H', J, rv, q⟩ := hs
  exact ⟨w', H', J.os, J.bare, J.base, J.hok, rv, q⟩
section
variable {X : Cx} {c P : Addr} {q : Str} {params : Arguments} {body : Expr} {scope : Scope} {pos : Pos}
theorem cloFrom_none {cells : List (Str × Addr)} : ∀ {names : List (Str × NameKind)} {acc : List (Str × Addr)}, (∀ y ∈ names, y.2 ≠ .free) → cloFrom cells names acc = acc
  | [], _, _ => rfl
  | (n, k) :: r, acc, h => by
    have hk : (k == NameKind.free) = false := by
      have := h (n, k) List.mem_cons_self
      cases k <;> first | rfl | exact absurd rfl this
    unfold cloFrom
    rw [hk]
    exact cloFrom_none fun y hy => h y (List.mem_cons_of_mem _ hy)
/-- the making of such a lambda -/
theorem pe_lam (TB : LamX.TabB X.base X.mg c P) (hcode : X.env.code = .ref c) (hq : X.env.qual ++ "<lambda>" = q) (hdef : defaultsOf params X.env = ([], [])) (hnf : ∀ y ∈ scope.names, y.2 ≠ .free) :
    PE X (.Lambda params body scope pos) (fun _ H Q => ∃ ps : Array Value, H P = some (.tbl ps) ∧ TriplesOk ps.toList ∧
      (∀ cv, codeAmong pos ps.toList = some cv → ∃ c2, cv = .ref c2 ∧ H c2 = some (LamX.CodeO c2 q) ∧ ∀ f, H f = none → Q (.ref f) (upd H f (LmO ⟨q, params, body, scope⟩ c2 f))) ∧
      (codeAmong pos ps.toList = none → ∀ c2 f, H c2 = none → H f = none → f ≠ c2 → Q (.ref f) (upd (upd (upd H P (.tbl (ps ++ #[rawInt pos.line, rawInt pos.col, .ref c2]))) c2 (LamX.CodeO c2 q)) f (LmO ⟨q, params, body, scope⟩ c2 f)))) := by
  subst hq
  refine ⟨fun pins s σ H Q I h => ?_⟩
  obtain ⟨ps, hP, ht, hit, miss⟩ := h
  have hcl : closureFor scope X.env = pure [] := by
    rw [closure_ok fun y hy e => absurd e (hnf y hy), cloFrom_none hnf]
  have hPs : s.heap.get? P = some { cls := .none, data := .fields ps } := I.hok P _ hP
  have bP : s.heap.BuiltinsAt X.mg P := TB.bm.keeps I.bk
  refine PySem.W.kla_eval hdef ?_
  cases hc : codeAmong pos ps.toList with
  | some cv =>
    obtain ⟨c2, rfl, hc2, kq⟩ := hit cv hc
    refine PySem.W.kla_makeFunctionHit (mg := X.mg) (c := c) (P := P) (ps := ps) hcl I.ok.glob (I.mod.glob.keeps I.bk) hcode (TB.code.keeps I.bk) hPs ht hc bP fun ctv h1 tk hx hsz => ?_
    have hf : H h1.objs.size = none := I.hok.fresh hsz
    refine ⟨.ref h1.objs.size, _, I.laidN (a := h1.objs.size) (o := LmO ⟨X.env.qual ++ "<lambda>", params, body, scope⟩ c2 h1.objs.size) (fun b u e => Heap.get?_push_of_some _ (hx b u e)) (Heap.get?_none_of_le hsz) hf ?_, rfl, kq _ hf⟩
    exact ⟨⟨_, _, Heap.get?_push_size _ rfl⟩, ⟨_, Heap.get?_push_size _ rfl⟩, fun h2 h3 ⟨pm, ct, e⟩ st => ⟨pm, ct, st _ e⟩⟩
  | none =>
    refine PySem.W.kla_makeFunction (mg := X.mg) (c := c) (P := P) (ps := ps) hcl I.ok.glob (I.mod.glob.keeps I.bk) hcode (TB.code.keeps I.bk) hPs ht hc TB.gP bP fun c2 ctv h1 tk hx hge hlt hrec htb => ?_
    obtain ⟨c3, oc, xs, t0, e3, hoc, hdc, hvc⟩ := hrec
    cases e3
    have nc : H c2 = none := I.hok.fresh hge
    have hsz : s.heap.objs.size ≤ h1.objs.size := Nat.le_trans hge (Nat.le_of_lt hlt)
    have nf : H h1.objs.size = none := I.hok.fresh hsz
    have I1 := LamX.inv_table (t' := tk) (more := #[rawInt pos.line, rawInt pos.col, .ref c2]) (h' := h1) (q := X.env.qual ++ "<lambda>") I hP hx htb hge ⟨oc, xs, t0, hoc, hdc, hvc⟩
    have nfc : h1.objs.size ≠ c2 := Nat.ne_of_gt hlt
    have nfP : h1.objs.size ≠ P := fun e => by rw [e, hP] at nf; cases nf
    have nf1 : upd (upd H P (.tbl (ps ++ #[rawInt pos.line, rawInt pos.col, .ref c2]))) c2 (LamX.CodeO c2 (X.env.qual ++ "<lambda>")) h1.objs.size = none := by rw [upd_ne nfc, upd_ne nfP]; exact nf
    refine ⟨.ref h1.objs.size, _, I1.laidN (a := h1.objs.size) (o := LmO ⟨X.env.qual ++ "<lambda>", params, body, scope⟩ c2 h1.objs.size) (fun b u e => Heap.get?_push_of_some _ e) (Heap.get?_none_of_le (Nat.le_refl _)) nf1 ?_, rfl, miss hc c2 _ nc nf nfc⟩
    exact ⟨⟨_, _, Heap.get?_push_size _ rfl⟩, ⟨_, Heap.get?_push_size _ rfl⟩, fun h2 h3 ⟨pm, ct, e⟩ st => ⟨pm, ct, st _ e⟩⟩
end
end YG
namespace Y
open PySem PySem.Spec L2
section
variable {W : Wd} {K : PySem.W.Frag} {φ : List Addr} {Z H : Hp} {cs : Cs}
/-- the table grown by a code object that is new -/
theorem Sim.table (S : Sim W K φ Z cs H) {P c : Addr} {q : Str} {ps : Array Value} {pos : Pos} (hm : (P, q) ∈ W.tbs) (hu : ∀ p ∈ W.tbs, p.1 = P → p.2 = q) (hP : H P = some (.tbl ps)) (ht : TriplesOk ps.toList) (hc : H c = none) :
    Sim W K φ (upd Z c (LamX.CodeO c q)) cs (upd (upd H P (.tbl (ps ++ #[PySem.rawInt pos.line, PySem.rawInt pos.col, .ref c]))) c (LamX.CodeO c q)) ∧
    Ext φ Z H φ (upd Z c (LamX.CodeO c q)) (upd (upd H P (.tbl (ps ++ #[PySem.rawInt pos.line, PySem.rawInt pos.col, .ref c]))) c (LamX.CodeO c q)) := by
  obtain ⟨S1, x1⟩ := S.frozen hc (LamX.CodeO c q)
  have nPc : P ≠ c := ne_of_none hP hc
  have zP : upd Z c (LamX.CodeO c q) P = none := by rw [upd_ne nPc]; exact (S.tb _ hm).1
  have eH : ∀ b, b ≠ P → upd (upd H P (.tbl (ps ++ #[PySem.rawInt pos.line, PySem.rawInt pos.col, .ref c]))) c (LamX.CodeO c q) b = upd H c (LamX.CodeO c q) b := fun b hb => by
    by_cases e : b = c
    · rw [e, upd_same, upd_same]
    · rw [upd_ne e, upd_ne e, upd_ne hb]
  have eP : upd (upd H P (.tbl (ps ++ #[PySem.rawInt pos.line, PySem.rawInt pos.col, .ref c]))) c (LamX.CodeO c q) P = some (.tbl (ps ++ #[PySem.rawInt pos.line, PySem.rawInt pos.col, .ref c])) := by rw [upd_ne nPc, upd_same]
  refine ⟨⟨fun a o h => ?_, S1.len, S1.nd, fun a ha => ?_, fun n x a h1 h2 => ?_, fun p hp => ?_⟩, ⟨x1.pre, x1.zsub, x1.znew, fun a o h ha => ?_, x1.fresh⟩⟩
  · have : a ≠ P := fun e => by rw [e, zP] at h; cases h
    rw [eH a this]; exact S1.sub _ _ h
  · by_cases e : a = P
    · exact ⟨_, by rw [e]; exact eP⟩
    · rw [eH a e]; exact S1.there a ha
  · by_cases e : a = P
    · have := S1.cell n x a h1 h2
      cases x with
      | dead => trivial
      | _ =>
        obtain ⟨u, e1, e2, _⟩ := this.old (by intro h; cases h)
        rw [e, upd_ne nPc, hP] at e1
        cases e1
        exact absurd rfl (e2 _)
    · exact (S1.cell n x a h1 h2).stay (List.prefix_refl _) (fun _ _ h => h) (fun h => h) fun u h => by rw [eH a e]; exact h
  · obtain ⟨P2, q2⟩ := p
    by_cases e : P2 = P
    · subst e
      have e2 : q2 = q := hu _ hp rfl
      subst e2
      obtain ⟨_, ps2, h1, h2, h3⟩ := S.tb _ hp
      have e3 : ps2 = ps := by
        have h1 : H P2 = some (.tbl ps2) := h1
        rw [hP] at h1
        cases h1
        rfl
      subst e3
      have eL : (ps2 ++ #[PySem.rawInt pos.line, PySem.rawInt pos.col, Value.ref c]).toList = ps2.toList ++ [PySem.rawInt pos.line, PySem.rawInt pos.col, .ref c] := by simp
      refine ⟨zP, _, eP, by rw [eL]; exact PySem.TriplesOk_snoc _ _ _ _ ht, fun pos' cv hcv => ?_⟩
      rw [eL] at hcv
      rcases LamX.among_app _ ht hcv with z | z
      · obtain ⟨c0, e1, e2⟩ := h3 pos' cv z
        exact ⟨c0, e1, x1.zsub _ _ e2⟩
      · exact ⟨c, z, upd_same⟩
    · exact (S1.tb _ hp).stay (fun _ _ h => h) (S1.tb _ hp).1 (eH P2 e)
  · by_cases e : a = P
    · subst e
      rw [hP] at h
      cases h
      exact .inr ⟨_, _, rfl, eP⟩
    · rcases x1.frame a o h ha with q | ⟨p1, p2, e1, q⟩
      · exact .inl ((eH a e).trans q)
      · exact .inr ⟨p1, p2, e1, (eH a e).trans q⟩
end
section
variable {W : Wd} {X : Cx} {pos p : Pos} {k : Nat} {x : Str} {e : Expr} {es : List Expr} {g : AF}
theorem se_lam {i : Nat} {c P : Addr} {params : Arguments} {body : Expr} {scope : Scope} (TB : LamX.TabB X.base X.mg c P) (hcode : X.env.code = .ref c) (hL : W.lam i = ⟨X.env.qual ++ "<lambda>", params, body, scope⟩)
    (hm : (P, X.env.qual ++ "<lambda>") ∈ W.tbs) (hu : ∀ p ∈ W.tbs, p.1 = P → p.2 = X.env.qual ++ "<lambda>") (hdef : defaultsOf params X.env = ([], [])) (hnf : ∀ y ∈ scope.names, y.2 ≠ .free) :
    SE W X (.Lambda params body scope pos) (fun _ cs => .ok (.clo i []) cs) := PE.imp (YG.pe_lam TB hcode rfl hdef hnf) fun σ H Q h => by
  obtain ⟨φ, Z, ρ, cs, S, L, t, cs', e0, kk⟩ := h
  cases e0
  obtain ⟨_, ps, hP, ht, hps⟩ := S.tb _ hm
  refine ⟨ps, hP, ht, fun cv hcv => ?_, fun hn c2 f hc hf hfc => ?_⟩
  · obtain ⟨c2, e1, e2⟩ := hps pos cv hcv
    refine ⟨c2, e1, S.sub _ _ e2, fun f hf => ?_⟩
    obtain ⟨S1, x1⟩ := S.frozen hf (LmO (W.lam i) c2 f)
    rw [hL] at S1 x1
    refine kk _ _ _ _ x1 S1 (.clo (c := c2) (by rw [hL, upd_same]) (by rw [hL]; exact x1.zsub _ _ e2))
  · obtain ⟨S1, x1⟩ := S.table (pos := pos) hm hu hP ht hc
    have hf1 : upd (upd H P (.tbl (ps ++ #[PySem.rawInt pos.line, PySem.rawInt pos.col, .ref c2]))) c2 (LamX.CodeO c2 (X.env.qual ++ "<lambda>")) f = none := by
      rw [upd_ne hfc, upd_ne (fun e => by rw [e, hP] at hf; cases hf)]
      exact hf
    obtain ⟨S2, x2⟩ := S1.frozen hf1 (LmO (W.lam i) c2 f)
    rw [hL] at S2 x2
    exact kk _ _ _ _ (x1.trans x2) S2 (.clo (c := c2) (by rw [hL, upd_same]) (by rw [hL]; exact x2.zsub _ _ upd_same))
/-- a lambda's meaning -/
noncomputable def lamF (N n : Nat) (fb : EF) : FF := fun ts cs => if ts.length = n then leaveT cs (fb (startR N ts) cs) else .stuck
theorem ar_lamF {N n : Nat} {fb : EF} : Ar n (lamF N n fb) := fun ts c t c' e => by
  unfold lamF at e
  split at e
  · assumption
  · cases e
structure LamOk (W : Wd) (P : Program) (w : World) (K : PySem.W.Frag) (mg : Str → Option Value) (base : Heap) (k : Nat) (i : Nat) (F : FF) : Prop where
  ex : ∃ ps : List Str, YG.LamG P w K mg base k (W.lam i) ps (spY W K ps.length F) ∧ Ar ps.length F
theorem lam_ok {P : Program} {w : World} {K : PySem.W.Frag} {mg : Str → Option Value} {base : Heap} {i : Nat} {L : Lam} {N ps : List Str} (hL : W.lam i = L) (S : FnScope N ps L.scope)
    (hb : ∀ (pm ctv : Value) (c : Addr) (us : List Value), us.length = ps.length → bindArgs (PySem.W.kla_fn "<lambda>" L.qual L.params L.body L.scope [] pm (.ref c) ctv) ⟨us, []⟩ = pure (ps.zip us)) {fb : EF}
    (h : ∀ (f : Addr) (cdv : Value) (A : Around) (outer : List Env) (s : Shared) (H : Hp) (E : XK), YG.RoomG k (A.deeper (PyProof.Rows.envOfC L.qual L.scope s.heap.objs.size f cdv)) → SE W (cxOf CX0 P w K mg base N L.qual L.scope f cdv A outer s H E) L.body fb) :
    LamOk W P w K mg base (k + 1) i (lamF N.length ps.length fb) := by
  refine ⟨ps, ?_, ar_lamF⟩
  rw [hL]
  refine YG.lam_of S hb (fun vs H Q E h => spY_len h) fun f cdv A outer s H vs Q E hr hs => ⟨_, h f cdv A outer s H E hr, ?_⟩
  obtain ⟨φ, Z, ts, cs, Sm, r, hl, t, cs', e, kk⟩ := hs
  unfold lamF at e
  rw [if_pos hl] at e
  refine ⟨φ, Z, startR N.length ts, cs, Sm, Slots.start r, ?_⟩
  generalize hrs : fb (startR N.length ts) cs = rs at e
  cases rs with
  | ok t1 c1 =>
    refine ⟨t1, c1, rfl, fun φ' Z' H' v x' S' r' => ?_⟩
    obtain ⟨t', c', φ2, e2, x2, S2, r2⟩ := leave_keep (r := .ok t1 c1) Sm x' S' r' rfl
    rw [e] at e2
    cases e2
    exact kk _ _ _ _ x2 S2 r2
  | stuck => cases e
def callL (is : List Nat) (tab : Nat → FF) (i : Nat) (g : AF) : EF := fun ρ cs => (getV ρ i cs).bind fun u c1 => (g ρ c1).bind fun ts c2 => match u with
  | .clo j [] => if j ∈ is then tab j ts c2 else .stuck
  | _ => .stuck
theorem se_callL {is : List Nat} {tab : Nat → FF} {i : Nat} (hh : ∀ j ∈ is, LamOk W X.prog X.w X.K X.mg X.base k j (tab j)) (hr : YG.RoomG k X.A) (hN : X.N[i]? = some x) (hv : Vis X.env.scope x) (ha : SA W X (e :: es) g)
    (hdb : (x == ("__debug__" : Str)) = false := by decide +kernel) (hcd : (x == ("__classdict__" : Str)) = false := by decide +kernel) (he : starEach (e :: es) X.env = (false, eval e X.env) :: starEach es X.env := by rfl) (hpl : (backTo pos (starEach es X.env)).any (·.1) = false := by rfl) :
    SE W X (.Call (.Name x p) (e :: es) [] pos) (callL is tab i g) := ⟨fun pins s σ H Q I h => by
  rw [arm_eval_Call_Name']
  obtain ⟨φ, Z, ρ, cs, S, L, t, cs', e0, kk⟩ := h
  obtain ⟨u, c1, e1, e0⟩ := R.bind_inv e0
  obtain ⟨ts, c2, e2, e3⟩ := R.bind_inv e0
  have hi : ρ[i]? = some (some u) ∧ c1 = cs := by
    unfold getV at e1
    split at e1
    · cases e1; exact ⟨by assumption, rfl⟩
    · cases e1
  obtain ⟨hi, rfl⟩ := hi
  obtain ⟨v, hσ, rv⟩ := L.2 i u hi
  refine wpAny_bind (thn ((pe_var (pos := p) hN hv hdb hcd).run pins s σ H (fun y H1 => y = v ∧ H1 = H) I ⟨v, hσ, rfl, rfl⟩) fun fv s1 ⟨y, H1, I1, ry, ey, eH⟩ => ?_)
  subst ey eH
  split at e3
  · rename_i j
    split at e3
    · rename_i hj
      obtain ⟨ps, F, ar⟩ := (hh j hj).ex
      cases rv with
      | @clo _ f c zf zc =>
        cases ry
        obtain ⟨⟨pm, ctv, of1⟩, _, _⟩ := I1.hok f _ (S.sub _ _ zf)
        refine PySem.W.callWith_F (e := e) (rest := es) ⟨_, _, _, _, of1⟩ ?_ he hpl
        refine thn (ha.run pos pins s1 σ _ (fun vs H2 => H2 f = some (LmO (W.lam j) c f) ∧ H2 c = some (LamX.CodeO c (W.lam j).qual) ∧ spY W X.K ps.length (tab j) vs H2 Q E0) I1 ⟨φ, Z, ρ, c1, S, L, ts, c2, e2, fun φ1 Z1 H1 vs x1 S1 r1 => ⟨S1.sub _ _ (x1.zsub _ _ zf), S1.sub _ _ (x1.zsub _ _ zc), φ1, Z1, ts, c2, S1, r1, ar _ _ _ _ e3, t, cs', e3, fun φ' Z' H' v x' => kk φ' Z' H' v (x1.trans x')⟩⟩) fun us s2 ⟨vs, H2, I2, r2, h1, h2, h3⟩ => ?_
        obtain ⟨⟨pm2, ctv2, of2⟩, _, _⟩ := I2.hok f _ h1
        refine ⟨⟨_, _, _, _, of2⟩, wpAny_call (codeAny_mono (F.run X.A X.stack s2 H2 f c us vs Q E0 hr I2.env0 h1 h2 r2 h3) fun r s3 hq => ?_)⟩
        cases r with
        | error e => exact hq.elim
        | ok fl => cases fl with
          | ret u => exact I2.after hq
          | next => exact False.elim hq
          | brk => exact False.elim hq
          | cont => exact False.elim hq
    · cases e3
  · cases e3⟩
end
end Y
end
section
set_option Elab.async false
set_option linter.all false
set_option maxRecDepth 100000
set_option maxHeartbeats 1000000
namespace YG
open PySem PySem.Spec PyProof.Rows L2
section
variable {X : Cx}
def rEqDN : R2 := fun x y H Q => ∃ a b ks ls, x = .ref a ∧ y = .ref b ∧ H a = some (.dK ks) ∧ H b = some (.dK ls) ∧ ks.length ≠ ls.length ∧ Q (.bl false) H
theorem op_eqDN (hu : X.A.units < cLine) : OpR X (compareOp .Eq) rEqDN := by
  intro pins s σ H x y v u Q I rx ry h
  obtain ⟨a, b, ks, ls, rfl, rfl, ea, eb, hne, q⟩ := h
  obtain rfl : v = Value.ref a := rx
  obtain rfl : u = Value.ref b := ry
  obtain ⟨_, ya, va, ra, da⟩ := (show ObjOk X.prog X.w H s.heap a (.dK ks) from I.hok a _ ea)
  obtain ⟨_, yb, vb, rb, db⟩ := (show ObjOk X.prog X.w H s.heap b (.dK ls) from I.hok b _ eb)
  have hl : va.length ≠ vb.length := by rw [← ra.length, ← rb.length]; exact hne
  exact PySem.W.keq_eq (knd := mixKind X.prog X.w) (r := true) ya yb da db hu (fun e => absurd e hl) (fin_bl I q (by simp [hl]))
end
end YG
namespace Y
open PySem PySem.Spec L2
section
variable {W : Wd} {K : PySem.W.Frag} {X : Cx} {pos : Pos}
theorem Reps.keys {κ : Type} {φ : List Addr} {Z : Hp} : ∀ {kvs : List (κ × T)} {vs : List (κ × V)}, RepKV W K φ Z kvs vs → vs.map (·.1) = kvs.map (·.1)
  | _, _, .nil => rfl
  | _, _, .cons h t => by rw [List.map_cons, List.map_cons, h.1, Reps.keys t]
/-! min(d), sorted(d) of a dict with one key, a number -/
def minDT : CT := fun ts cs => match ts with
  | [.ref n] => (match cs[n]? with
    | some (.dk [(.inl i, _)]) => .ok (.d (.int i)) cs
    | _ => .stuck)
  | _ => .stuck
theorem ok_minD : ClOk W K rMinK minDT := by
  intro φ Z cs H ts vs Q z cs' S rs e k
  unfold minDT at e
  split at e
  · split at e
    · rename_i n i t hc
      cases e
      obtain ⟨v, rfl, r1⟩ := Reps.one rs
      cases r1 with
      | ref ea =>
        obtain ⟨_, ws, h1, h2⟩ := S.cell _ _ _ hc ea
        have hk := Reps.keys h2
        refine ⟨_, ws, [i], rfl, h1, hk, (by simp), fun m hm _ => ?_⟩
        have : m = i := by simpa using hm
        subst this
        exact fin0 S k (Rep.int _)
    · cases e
  · cases e
def sortDT : CT := fun ts cs => match ts with
  | [.ref n] => (match cs[n]? with
    | some (.dk [(.inl i, _)]) => .ok (.d (.list [.int i])) cs
    | _ => .stuck)
  | _ => .stuck
theorem ok_sortD : ClOk W K (fun xs H Q => ∃ (a : Addr) (kvs : List (Key × V)) (ks : List Int), xs = [.ref a] ∧ Rd H a (.dK kvs) ∧ kvs.map (·.1) = ks.map Sum.inl ∧ ks.length < 64 ∧
    ∀ (ys : List Int) (p : Addr), ys.Perm ks → ys.Pairwise (· ≤ ·) → H p = none → Q (.ref p) (upd H p (.lst (ys.map V.int)))) sortDT := by
  intro φ Z cs H ts vs Q z cs' S rs e k
  unfold sortDT at e
  split at e
  · split at e
    · rename_i n i t hc
      cases e
      obtain ⟨v, rfl, r1⟩ := Reps.one rs
      cases r1 with
      | ref ea =>
        obtain ⟨_, ws, h1, h2⟩ := S.cell _ _ _ hc ea
        have hk := Reps.keys h2
        refine ⟨_, ws, [i], rfl, .inl h1, hk, (by simp), fun ys p hp _ hn => ?_⟩
        have : ys = [i] := List.perm_singleton.mp hp
        subst this
        exact finL S (.cons (.int _) .nil) k p hn
    · cases e
  · cases e
/-! d == {} where it is not so -/
def eqDN : BT := fun t u cs => match t, u with
  | .ref n, .ref m => (match cs[n]?, cs[m]? with
    | some (.dk ks), some (.dk ls) => if ks.length ≠ ls.length then .ok (.d (.bool false)) cs else .stuck
    | _, _ => .stuck)
  | _, _ => .stuck
theorem ok_eqDN : OpOk W K YG.rEqDN eqDN := by
  intro φ Z cs H t u v w Q z cs' S r1 r2 e k
  unfold eqDN at e
  split at e
  · split at e
    · rename_i ks ls h1 h2
      split at e
      · rename_i hne
        cases e
        cases r1 with
        | ref ea =>
          cases r2 with
          | ref eb =>
            obtain ⟨_, vs, g1, g2⟩ := S.cell _ _ _ h1 ea
            obtain ⟨_, ws, g3, g4⟩ := S.cell _ _ _ h2 eb
            exact ⟨_, _, vs, ws, rfl, rfl, g1, g3, (by rw [← Paired.len g2, ← Paired.len g4]; exact hne), fin0 S k (Rep.bool _)⟩
      · cases e
    · cases e
  · cases e
/-! x, y = a, b where a name is a cell of the def -/
section
variable {g : AF}
theorem ss_parC {i j : Nat} {x y : Str} {a b : Expr} {px py pt : Pos} {kt k2 pt2} (hc : X.calm = true) (ha : SA W X [a, b] g) (hp : PGs X [.Name x px, .Name y py] (gCons (gName i) (gCons (gName j) gNil)))
    (hw : swappedStores [.Tuple [.Name x px, .Name y py] kt pt] (.Tuple [a, b] k2 pt2) X.env = pure none := by rfl)
    (hs : swapsWithSole [.Tuple [.Name x px, .Name y py] kt pt] (.Tuple [a, b] k2 pt2) pos.line X.env = pure false := by rfl) (hn : (assignEach [.Name x px, .Name y py] X.env).length = 2 := by rfl) (hst : (assignEach [.Name x px, .Name y py] X.env).findIdx? (·.1) = none := by rfl)
    (h1 : (assignEach [.Tuple [.Name x px, .Name y py] kt pt] X.env).map (·.2) = [assign (.Tuple [.Name x px, .Name y py] kt pt) X.env] := by rfl) :
    SS W X (.Assign [.Tuple [.Name x px, .Name y py] kt pt] (.Tuple [a, b] k2 pt2) pos) (parS i j g) := PS.imp (ps_asg (pe_tup ha) (pg_tup hc hp hn hst) hs hw h1) fun D σ H h => by
  obtain ⟨φ, Z, ρ, cs, S, L, h⟩ := h
  unfold parS at h
  split at h
  · rename_i t u c e1
    refine ⟨φ, Z, ρ, cs, S, L, _, c, e1, fun φ' Z' H' vs x' S' r' => ?_⟩
    obtain ⟨v, w, rfl, r1, r2⟩ := Reps.two r'
    have hz : sizeLine = 16777216 := sizeLine_eq
    refine ⟨by rw [hz]; simp, fun p hp => ?_⟩
    obtain ⟨S2, x2⟩ := S'.frozen hp (.tup [v, w])
    exact ⟨p, [v, w], rfl, .inl (.inl upd_same), rfl, v, [w], rfl, w, [], rfl, rfl, h _ _ _ _ (x'.trans x2) S2 (((L.ext (x'.trans x2)).set (r1.ext x2) i).set (r2.ext x2) j)⟩
  · exact h.elim
end
/-! {x: True for x in d if x in b}, two dicts -/
def dcAcc (ls : List (Key × T)) : List Key → List (Key × T) → List (Key × T)
  | [], acc => acc
  | k :: ks, acc => dcAcc ls ks (if (getK ls k).isSome then setK acc k (.d (.bool true)) else acc)
theorem dcAcc_cons {ls : List (Key × T)} {k : Key} {ks : List Key} {acc : List (Key × T)} : dcAcc ls (k :: ks) acc = dcAcc ls ks (if (getK ls k).isSome then setK acc k (.d (.bool true)) else acc) := rfl
def dcKK (v i j : Nat) : EF := fun ρ cs => (getV ρ i cs).bind fun t c1 => (getV ρ j c1).bind fun u c => match t, u with
  | .ref n, .ref m => (match c[n]?, c[m]? with
    | some (.dk ks), some (.dk ls) => if n ≠ m ∧ ks.length ≤ 1000 ∧ v < ρ.length then .ok (.ref c.length) (c ++ [.dk (dcAcc ls (ks.map (·.1)) [])]) else .stuck
    | _, _ => .stuck)
  | _, _ => .stuck
theorem setK_len {κ β : Type} [DecidableEq κ] (kvs : List (κ × β)) (k : κ) (v : β) : (setK kvs k v).length ≤ kvs.length + 1 := by
  unfold setK
  split
  · simp
  · simp
theorem getV_inv {ρ : Rho} {i : Nat} {cs c : Cs} {t : T} (h : getV ρ i cs = .ok t c) : ρ[i]? = some (some t) ∧ c = cs := by
  unfold getV at h
  split at h
  · cases h; exact ⟨by assumption, rfl⟩
  · cases h
theorem kV_inj {k k' : Key} (h : kV k = kV k') : k = k' := by
  cases k <;> cases k' <;> first | (injection h with h; subst h; rfl) | cases h
section
variable {kx vx tg iter : Expr} {ifs : List Expr} {scope : Scope} {own : List (Str × Nat)} {i j v : Nat}
theorem se_dcKK (hc : X.calm = true) (hN : X.N.Nodup) (ok : BlkOk X.N X.env.scope scope own) (hown : own.map (·.2) = [v]) (hiv : i ≠ v) (hjv : j ≠ v) (hi : PE X iter (tVar i))
    (hg : BlkAll X scope fun B => PG B tg (gName v)) (ht : BlkAll X scope fun B => PTs B ifs (tTest (tOp (rInY X true) (tVar v) (tVar j)))) (hk : BlkAll X scope fun B => PE B kx (tVar v)) (he : BlkAll X scope fun B => PE B vx (tC (.bl true)))
    (hs : ∀ x, foldedSetIterable iter X.env x = pure x := by intro _; rfl) : SE W X (.DictComp kx vx [⟨tg, iter, ifs, 0⟩] scope pos) (dcKK v i j) :=
  PE.imp (pe_lock (pe_dc (g := gName v) (tt := tTest (tOp (rInY X true) (tVar v) (tVar j))) (tk := tVar v) (tv := tC (.bl true)) hc hN (pi_keys hi) ok (fun s H C cl fp => hg s H C cl fp) (fun s H C cl fp => ht s H C cl fp) (fun s H C cl fp => hk s H C cl fp) (fun s H C cl fp => he s H C cl fp) hs)) fun σ H Q h => by
    obtain ⟨φ, Z, ρ, cs, S, L, t, cs', e0, kk⟩ := h
    unfold dcKK at e0
    obtain ⟨t1, c1, e1, ea⟩ := R.bind_inv e0
    obtain ⟨u1, c2, e2, eb0⟩ := R.bind_inv ea
    obtain ⟨p1, rfl⟩ := getV_inv e1
    obtain ⟨p2, rfl⟩ := getV_inv e2
    split at eb0
    case h_2 => cases eb0
    rename_i n m
    split at eb0
    case h_2 => cases eb0
    rename_i ks ls q1 q2
    split at eb0
    case isFalse => cases eb0
    rename_i hcd
    obtain ⟨hnm, hlen, hvr⟩ := hcd
    cases eb0
    obtain ⟨w1, s1, r1⟩ := L.2 _ _ p1
    obtain ⟨w2, s2, r2⟩ := L.2 _ _ p2
    cases r1 with
    | @ref _ d ed =>
    cases r2 with
    | @ref _ b eb =>
    obtain ⟨zd, vd, hd, rd⟩ := S.cell _ _ _ q1 ed
    obtain ⟨zb, vb, hb, rb⟩ := S.cell _ _ _ q2 eb
    have nbd : b ≠ d := fun e => by
      subst e
      obtain ⟨i1, j1⟩ := List.getElem?_eq_some_iff.mp ed
      obtain ⟨i2, j2⟩ := List.getElem?_eq_some_iff.mp eb
      exact hnm ((List.getElem_inj S.nd).mp (j1.trans j2.symm))
    refine ⟨d, _, hd, trivial, fun od => ?_⟩
    rw [hown]
    refine ⟨_, s1, d, od, rfl, .inl ⟨vd, upd_same, fun D hD => ?_⟩⟩
    have nDd : D ≠ d := fun e => by rw [e, upd_same] at hD; cases hD
    have nDb : D ≠ b := fun e => by rw [e, upd_ne nbd, hb] at hD; cases hD
    have hD0 : H D = none := by rw [upd_ne nDd] at hD; exact hD
    have hkeys : vd.map (·.1) = ks.map (·.1) := Reps.keys rd
    have hvl : vd.length = ks.length := (Paired.len rd).symm
    have wj : (wipe σ [v])[j]? = some (some (V.ref b)) := by
      rw [wipe_get, if_neg (by simpa using hjv)]
      exact s2
    -- what holds at each turn
    refine ⟨fun a mm H2 => mm = ks.length - a ∧ a ≤ ks.length ∧ ∃ acc vs, H2 = upd (upd H d (.frz od (.dK vd))) D (.dK vs) ∧ RepKV W X.K φ Z acc vs ∧ acc.length ≤ a ∧ dcAcc ls ((ks.map (·.1)).drop a) acc = dcAcc ls (ks.map (·.1)) [],
      ⟨ks.length, by simp, Nat.zero_le _, [], [], rfl, .nil, Nat.le_refl _, rfl⟩, ?_⟩
    rintro a mm H2 ⟨rfl, ha, acc, vs, rfl, ra, hal, eacc⟩
    have hfd : (upd (upd H d (.frz od (.dK vd))) D (.dK vs)) d = some (.frz od (.dK vd)) := by rw [upd_ne (Ne.symm nDd), upd_same]
    by_cases hlt : a < ks.length
    · have hlt' : a < (ks.map (·.1)).length := by simpa using hlt
      rw [List.drop_eq_getElem_cons hlt'] at eacc
      refine .inr ⟨⟨hfd, by omega⟩, fun H3 => a + 1 ≤ ks.length ∧ ∃ acc vs, H3 = upd (upd H d (.frz od (.dK vd))) D (.dK vs) ∧ RepKV W X.K φ Z acc vs ∧ acc.length ≤ a + 1 ∧ dcAcc ls ((ks.map (·.1)).drop (a + 1)) acc = dcAcc ls (ks.map (·.1)) [],
        fun H' q => ⟨ks.length - (a + 1), by omega, rfl, q.1, q.2⟩, fun x H' hy => ?_⟩
      obtain ⟨rfl, k, vv, hkv, rfl⟩ := hy
      have hkk : (ks.map (·.1))[a] = k := by
        have : (vd.map (·.1))[a]? = some k := by rw [List.getElem?_map, hkv]; rfl
        rw [hkeys, List.getElem?_eq_getElem hlt'] at this
        exact Option.some.inj this
      rw [hkk] at eacc
      have sx : ((wipe σ [v]).set v (some (kV k)))[v]? = some (some (kV k)) := by
        rw [List.getElem?_set_self]
        rw [wipe_length, ← L.1]
        exact hvr
      refine ⟨?_, ?_⟩
      · show wipe ((wipe σ [v]).set v _) [v] = wipe σ [v]
        simp only [wipe, List.set_set]
      refine ⟨_, sx, V.ref b, ?_, ?_⟩
      · rw [List.getElem?_set_ne (Ne.symm hjv)]; exact wj
      have hbH : (upd (upd H d (.frz od (.dK vd))) D (.dK vs)) b = some (.dK vb) := by rw [upd_ne (Ne.symm nDb), upd_ne nbd]; exact hb
      refine .inr (.inr (.inr (.inr (.inr ⟨b, valV vb k, rfl, DGet.k hbH, _, rfl, ?_⟩))))
      have hget := RepKV.get k rb
      have hsm : (valV vb k).isSome = (getK ls k).isSome := by
        have e4 : valV vb k = getK vb k := rfl
        rw [e4]
        cases q : getK ls k with
        | none => rw [q] at hget; dsimp only at hget; rw [hget]; rfl
        | some tt => rw [q] at hget; dsimp only at hget; obtain ⟨v0, h5, _⟩ := hget; rw [h5]; rfl
      rw [if_pos rfl, hsm]
      rw [dcAcc_cons] at eacc
      by_cases hq : (getK ls k).isSome = true
      · rw [if_pos hq] at eacc
        rw [hq]
        show (if true = true then _ else _)
        rw [if_pos rfl]
        refine ⟨_, sx, vs, k, rfl, upd_same, ?_, by omega, setK acc k (.d (.bool true)), putK vs k (.bl true), ?_, RepKV.setK (Rep.bool true) ra, ?_, eacc⟩
        · have := Paired.len ra
          have hz : sizeLine = 16777216 := sizeLine_eq
          omega
        · funext z
          by_cases hz : z = D
          · subst hz; rw [upd_same, upd_same]
          · rw [upd_ne hz, upd_ne hz, upd_ne hz]
        · have := setK_len acc k (T.d (.bool true)); omega
      · rw [if_neg hq] at eacc
        rw [Bool.not_eq_true] at hq
        rw [hq]
        show (if false = true then _ else _)
        rw [if_neg (by decide)]
        exact ⟨by omega, acc, vs, rfl, ra, by omega, eacc⟩
    · have ea : a = ks.length := by omega
      subst ea
      rw [List.drop_eq_nil_of_le (by simp)] at eacc
      refine .inl ⟨⟨hfd, by omega⟩, hfd, ?_⟩
      have eacc : acc = dcAcc ls (ks.map (·.1)) [] := eacc
      have eH : upd (upd (upd H d (.frz od (.dK vd))) D (.dK vs)) d (.dK vd) = upd H D (.dK vs) := by
        funext z
        by_cases hz : z = d
        · subst hz; rw [upd_same, upd_ne (Ne.symm nDd)]; exact hd.symm
        · rw [upd_ne hz]
          by_cases hz2 : z = D
          · subst hz2; rw [upd_same, upd_same]
          · rw [upd_ne hz2, upd_ne hz2, upd_ne hz]
      rw [eH]
      obtain ⟨S1, x1⟩ := S.newCell hD0 (o := .dK vs) (c := .dk acc) fun hz => ⟨hz, vs, upd_same, RepKV.mono (List.prefix_append _ _) (fun _ _ h => h) ra⟩
      rw [← eacc] at kk
      refine kk _ _ _ _ x1 S1 (.ref ?_)
      rw [← S.len, List.getElem?_append_right (Nat.le_refl _)]
      simp
end
end
end Y
end
section
set_option Elab.async false
set_option linter.all false
set_option maxRecDepth 100000
set_option maxHeartbeats 2000000
namespace YG
open PySem PySem.Spec PyProof.Rows L2
/-- the code object of a function object that stays -/
def cdOf (K : PySem.W.Frag) (f : Addr) : Addr := match K.lookup f with
  | some ⟨_, _, .func fd, _⟩ => (match fd.code with
    | .ref c => c
    | _ => 0)
  | _ => 0
/-- a def by its body, its code told -/
theorem fn_ofC {P : Program} {w : World} {K : PySem.W.Frag} {mg : Str → Option Value} {base : Heap} {k : Nat} {f : Addr} {name qual : Str} {params : Arguments} {body : List Stmt} {scope : Scope} {dvs : List V} {kws : List (Str × V)} {fd : FuncData}
    {N ps : List Str} {sp : Sp} (Fd : FunD K name qual params body scope dvs kws f fd) (S : FnScope N ps scope) (len : ∀ vs H Q E, sp vs H Q E → vs.length = ps.length)
    (hbody : ∀ (cdv : Value) (hcd : cdv = .ref (cdOf K f)) (A : Around) (outer : List Env) (s : Shared) (H : Hp) (vs : List V) (Q : VK) (E : XK), RoomG k (A.deeper (envOfC qual scope s.heap.objs.size f cdv)) → sp vs H Q E →
      ∃ t, PSs (cxOf CX0 P w K mg base N qual scope f cdv A outer s H E) body t ∧ t { nx := fun _ H' => Q .non H', rt := Q } (L2.start N vs) H) :
    FnG P w K mg base (k + 1) f fd ps sp := by
  obtain ⟨oc, od, dV, kV, doc, pm, an, cdv, ct, osl, rfl, lk, hcd, _, _⟩ := Fd.ex
  have hcode : cdv = .ref (cdOf K f) := by
    obtain ⟨c, rfl⟩ := He.codeIn_ref hcd
    unfold cdOf
    rw [lk]
  refine ⟨len, fun A outer s H args us vs Q E hr e0 hb r hsp => ?_⟩
  have hl := len _ _ _ _ hsp
  have KX : K.In s.heap := e0.mod.kin.keeps fun b o e => (e0.bs b o e).1
  have lim : s.heap.NoLimit := e0.mod.nolimit.keeps fun b o e => (e0.bs b o e).1
  have hkind : ∀ y ∈ ps.zip us, scope.names.lookup y.1 = some .local ∨ (scope.names.lookup y.1 = some .cell ∧ ((cellsFrom (s.heap.objs.size + 1) scope.names []).lookup y.1).isSome = true) := fun ⟨n, v⟩ hy => by
    rcases S.par n (List.of_mem_zip hy).1 with q | q
    · exact .inl q
    · exact .inr ⟨q, PySem.W.cellsFrom_some _ _ _ (.inl q)⟩
  refine codeAny_call_function hr.r.depth (KX _ _ lk) rfl S.co S.gen rfl (PySem.W.codeRec_of KX hcd) (hb _ _ _ _ ?_)
  refine wpAny_newFunctionEnv_cells S.kind hkind fun env he s1 x => ?_
  subst he
  refine ⟨lim.keeps x.toInCall.keep, codeAny_func ?_⟩
  obtain ⟨t, ht, hq⟩ := hbody cdv hcode A outer s H vs Q E (hr.deeper _) hsp
  have I : Inv (cxOf CX0 P w K mg base N qual scope f cdv A outer s H E) [] (L2.start N vs) H s1 := inv_start S hr.r.hd e0 hl r x
  refine wpAny_mono (ht.run [] s1 (L2.start N vs) H _ I hq) (fun fl s' hs => ?_) fun e s' hs => hs
  have fin : ∀ {σ' : L2.St} {H' : Hp} {v : V} {u : Value}, Inv (cxOf CX0 P w K mg base N qual scope f cdv A outer s H E) [] σ' H' s' → RelV v u → Q v H' → CE outer P w H s Q u s' :=
    fun {σ' H' v u} J rv q => ⟨v, H', J.os, J.bare, J.base, J.hok, rv, q⟩
  cases fl with
  | ret u =>
    obtain ⟨v, σ', H', J, rv, q⟩ := hs
    exact fin J rv q
  | next =>
    obtain ⟨σ', H', J, q⟩ := hs
    exact fin (v := V.non) (u := Value.none) J rfl q
  | brk =>
    obtain ⟨_, _, _, q⟩ := hs
    exact False.elim q
  | cont =>
    obtain ⟨_, _, _, q⟩ := hs
    exact False.elim q
/-- the law's end with tables of code objects: the promise is asked at the law's caller alone -/
theorem law_callT {P : Program} {w : World} {K : PySem.W.Frag} {mg mb : Str → Option Value} {k : Nat} {fa a : Addr} {cs : List (Addr × Addr)} {fd : FuncData} {x : Str} {sp : Sp} {s₁ : Shared} {vs : List Value} {ns : List Int}
    (KX : K.In s₁.heap) (hns : s₁.heap.Ns mainGlobals mg) (hb : s₁.heap.Ns builtinsNs mb) (hbb : ∀ x : Str, x ≠ "__name__" → mb x = bootBuiltins x) (hlim : s₁.heap.NoLimit) (hg : s₁.gens = #[])
    (hT : ∀ p ∈ cs, s₁.heap.get? p.2 = some { cls := .none, data := .fields #[] }) (nT : ∀ p ∈ cs, K.lookup p.2 = none) (C : ∀ p ∈ cs, PySem.W.CodeHd s₁.heap p.1 p.2)
    (hbm : ∃ (bm : Addr) (ob : Obj), mg "__builtins__" = some (.ref bm) ∧ bm ≠ builtinsNs ∧ s₁.heap.get? bm = some ob ∧ ob.cls = .type "module" ∧ ob.dict = some builtinsNs ∧ ob.data = .plain)
    (ha : s₁.heap.get? a = some { cls := .type "list", data := .seq vs.toArray }) (hi : IntsAre vs ns) (hl : ns.length ≤ sizeLine) (hr : RoomG k callerA)
    (F : ∀ base : Heap, K.In base → base.Ns mainGlobals mg → (∀ p ∈ cs, LamX.TabB base mg p.1 p.2) → FnG P w K mg base k fa fd [x] sp) (hbind : ∀ (s : Shared) (u : Value), BindsTo s fd ⟨[u], []⟩ [(x, u)])
    (hsp : ∀ H : Hp, (∀ p ∈ cs, H p.2 = some (.tbl #[])) → SqL K H a (ns.map V.int) → sp [.ref a] H (fun v _ => v = .bl true) fun _ _ _ => False) :
    codeAny (model P w) callerA (.call (.ref fa) ⟨[.ref a], []⟩) (fun r s' => r = .ok (.ret (.bool true)) ∧ PySem.OldK s₁.heap s'.heap ∧ s'.os = s₁.os ∧ AllBare s'.gens) s₁ := by
  have rv := vals_ints hi
  have lenV := hi.length
  let tb := cs.map (·.2)
  have isT : ∀ b : Addr, b ∈ tb → s₁.heap.get? b = some { cls := .none, data := .fields #[] } := fun b hb => by
    obtain ⟨p, hp, rfl⟩ := List.mem_map.mp hb
    exact hT p hp
  have aT : a ∉ tb := fun z => by
    have q := isT a z
    rw [ha] at q
    have z' : Data.seq vs.toArray _ = Data.fields #[] := congrArg Obj.data (Option.some.inj q)
    cases z'
  have memT : ∀ p ∈ cs, p.2 ∈ tb := fun p hp => List.mem_map.mpr ⟨p, hp, rfl⟩
  have core : ∀ H : Hp, (∀ p ∈ cs, H p.2 = some (.tbl #[])) → (∀ b, H b = none ∨ b ∈ tb ∨ ∃ o xs, H b = some (.frz o (.lst xs))) → SqL K H a (ns.map V.int) → HOk P w H s₁.heap → (∀ b, H b ≠ none → b = a ∨ b ∈ tb) → (H a ≠ none → K.lookup a = none) →
      codeAny (model P w) callerA (.call (.ref fa) ⟨[.ref a], []⟩) (fun r s' => r = .ok (.ret (.bool true)) ∧ PySem.OldK s₁.heap s'.heap ∧ s'.os = s₁.os ∧ AllBare s'.gens) s₁ := by
    intro H hH hO hS hok hA hK
    have base_of : ∀ {b : Addr} {o : Obj}, s₁.heap.get? b = some o → H b = none → (hidT s₁.heap H).get? b = some o := fun e n => hidT_get e n
    have noD : ∀ {b : Addr} {o : Obj}, s₁.heap.get? b = some o → (∀ vs n, o.data ≠ .seq vs n) → o.data ≠ .fields #[] → H b = none := fun {b o} e h1 h2 => by
      cases q : H b with
      | none => rfl
      | some u =>
        rcases hA b (by rw [q]; simp) with e' | e'
        · rw [e', ha] at e; cases e
          exact absurd rfl (h1 _ _)
        · rw [isT b e'] at e; cases e
          exact absurd rfl h2
    have noA : ∀ {b : Addr} {o : Obj} {es : Array DictEntry} {ep : Nat}, s₁.heap.get? b = some o → o.data = .dict es ep → H b = none := fun {b o es ep} e d => noD e (fun vs n z => by rw [d] at z; cases z) fun z => by rw [d] at z; cases z
    have nsK : ∀ {b : Addr} {m : Str → Option Value}, s₁.heap.Ns b m → (hidT s₁.heap H).Ns b m := fun {b m} ⟨o, es, ep, e, d, r⟩ => ⟨o, es, ep, base_of e (noA e d), d, r⟩
    have hKb : K.In (hidT s₁.heap H) := fun b o e => base_of (KX b o e) (by
      cases q : H b with
      | none => rfl
      | some u =>
        rcases hA b (by rw [q]; simp) with e' | e'
        · subst e'
          rw [hK (by rw [q]; simp)] at e; cases e
        · obtain ⟨p, hp, rfl⟩ := List.mem_map.mp e'
          rw [nT p hp] at e; cases e)
    have hM : Mod K mg (hidT s₁.heap H) := ⟨hKb, nsK hns, ⟨mb, nsK hb, hbb⟩, let ⟨mc, h1, h2⟩ := hlim; ⟨mc, nsK h1, h2⟩⟩
    have TB : ∀ p ∈ cs, LamX.TabB (hidT s₁.heap H) mg p.1 p.2 := fun p hp => by
      refine ⟨?_, ?_, fun z => ?_⟩
      · obtain ⟨o, us, file, tf, flags, tg, inF, text, tt, e1, r1, r2, r3, rest⟩ := C p hp
        exact ⟨o, us, file, tf, flags, tg, inF, text, tt, base_of e1 (noD e1 (fun vs n z => by rw [r2] at z; cases z) fun z => by rw [r2] at z; cases z; simp at r3), r1, r2, r3, rest⟩
      · obtain ⟨bm, ob, b1, b2, b3, b4, b5, b6⟩ := hbm
        refine ⟨bm, ob, b1, b2, fun q => ?_, fun q => ?_, base_of b3 (noD b3 (fun vs n z => by rw [b6] at z; cases z) fun z => by rw [b6] at z; cases z), b4, b5, b6⟩
        · obtain ⟨o, es, ep, e, hd, _⟩ := hns
          rw [q, e] at b3; cases b3
          rw [hd] at b6; cases b6
        · rw [q, hT p hp] at b3; cases b3
          cases b6
      · obtain ⟨o, es, ep, e, hd, _⟩ := hns
        rw [z, hT p hp] at e; cases e
        cases hd
    have e0 : Env0 P w K mg (hidT s₁.heap H) callerA [] s₁ H := ⟨rfl, hM, fun b o e => of_hidT e, Nat.le_of_eq (hidT_size _ _), trivial, fun b hb => absurd (show b ∈ ([] : List Addr) from hb) (by simp), hok, .of_eq hg⟩
    refine codeAny_mono ((F _ hKb (nsK hns) TB).run callerA [] s₁ H ⟨[.ref a], []⟩ [.ref a] [.ref a] _ _ hr e0 (hbind s₁ (.ref a)) (.cons rfl .nil) (hsp H hH hS)) fun r s' h => ?_
    cases r with
    | error e => exact (show False from h).elim
    | ok fl =>
      cases fl with
      | next => exact False.elim h
      | brk => exact False.elim h
      | cont => exact False.elim h
      | ret u =>
        obtain ⟨v, H', os, bare, un, hok', r', q⟩ := h
        have q' : v = .bl true := q
        subst q'
        obtain rfl : u = Value.bool true := r'
        have key : ∀ b o, b ∉ tb → s₁.heap.get? b = some o → s'.heap.get? b = some o := fun b o nb e => by
          cases q : H b with
          | none => exact un.keep b o e q (by intro z; exact absurd (show b ∈ ([] : List Addr) from z) (by simp)) (by simp)
          | some u =>
            rcases hO b with z | z | ⟨ob, xs, z⟩
            · rw [q] at z; cases z
            · exact absurd z nb
            · have z2 := un.frzs b ob _ z
              obtain ⟨e1, _⟩ := hok b _ z
              obtain ⟨e2, _⟩ := hok' b _ z2
              rw [e] at e1; cases e1
              exact e2
        have grown : ∀ p ∈ cs, ∃ more : Array Value, s'.heap.get? p.2 = some { cls := .none, data := .fields more } := fun p hp => by
          obtain ⟨more, z⟩ := un.tbls p.2 #[] (hH p hp)
          exact ⟨_, hok' p.2 _ z⟩
        refine ⟨rfl, ⟨fun b o e => ?_, fun b o e => ?_⟩, os, bare⟩
        · by_cases hb : b ∈ tb
          · obtain ⟨p, hp, rfl⟩ := List.mem_map.mp hb
            obtain ⟨more, hm⟩ := grown p hp
            rw [hT p hp] at e
            cases e
            exact .inr (.inl ⟨((C p hp).tab (hT p hp)).isCodeTable, rfl, #[], more, rfl, by rw [Array.empty_append]; exact hm⟩)
          · exact .inl (key b o hb e)
        · by_cases hb : b ∈ tb
          · obtain ⟨p, hp, rfl⟩ := List.mem_map.mp hb
            obtain ⟨more, hm⟩ := grown p hp
            exact ⟨_, hm⟩
          · exact ⟨o, key b o hb e⟩
  cases hk : K.lookup a with
  | some o =>
    have e := KX a o hk
    rw [ha] at e
    cases e
    refine core (fun b => if b ∈ tb then some (.tbl #[]) else none) (fun p hp => if_pos (memT p hp)) (fun b => ?_) (.inr ⟨_, vs.toArray, _, hk, rfl, rfl, rfl, by rw [List.size_toArray, lenV]; exact hl, by simpa using rv⟩) (fun b u z => ?_) (fun b z => ?_) fun z => absurd (show (if a ∈ tb then some (HO.tbl #[]) else none) = none from if_neg aT) z
    · by_cases hb : b ∈ tb
      · exact .inr (.inl hb)
      · exact .inl (if_neg hb)
    · by_cases hb : b ∈ tb
      · have z' := (if_pos hb).symm.trans z
        cases z'
        exact isT b hb
      · have z' := (if_neg hb).symm.trans z
        cases z'
    · by_cases hb : b ∈ tb
      · exact .inr hb
      · exact absurd (if_neg hb) z
  | none =>
    refine core (fun b => if b = a then some (.frz { cls := .type "list", data := .seq vs.toArray } (.lst (ns.map V.int))) else if b ∈ tb then some (.tbl #[]) else none) (fun p hp => (if_neg (show ¬ p.2 = a from fun z => aT (by rw [← z]; exact memT p hp))).trans (if_pos (memT p hp))) (fun b => ?_)
      (.inl (.inr ⟨{ cls := .type "list", data := .seq vs.toArray }, if_pos rfl⟩)) (fun b u z => ?_) (fun b z => ?_) fun _ => hk
    · by_cases hb : b = a
      · exact .inr (.inr ⟨_, _, if_pos hb⟩)
      · by_cases hb2 : b ∈ tb
        · exact .inr (.inl hb2)
        · exact .inl ((if_neg hb).trans (if_neg hb2))
    · by_cases hb : b = a
      · have z' := (if_pos hb).symm.trans z
        cases z'
        subst hb
        exact ⟨ha, by rw [List.length_map]; exact hl, vs, _, rv, ha⟩
      · have z1 := (if_neg hb).symm.trans z
        by_cases hb2 : b ∈ tb
        · have z' := (if_pos hb2).symm.trans z1
          cases z'
          exact isT b hb2
        · have z' := (if_neg hb2).symm.trans z1
          cases z'
    · by_cases hb : b = a
      · exact .inl hb
      · by_cases hb2 : b ∈ tb
        · exact .inr hb2
        · exact absurd ((if_neg hb).trans (if_neg hb2)) z
theorem walk_ofT {l : PySem.W.OpenLaw} {n k : Nat} {q : Program} {loose : List Str} {XP : (Str → Option Value) → Heap → Prop} {YP : World → Heap → Prop} {d : DefRec} {x : Str}
    (hn : l.most = some n) (hn2 : n ≤ sizeLine) (hdf : d.params.defaults = []) (hr : RoomG k callerA)
    (F : ∀ (w : World) (mg : Str → Option Value) (fa : Addr) (h : Heap), YP w h → h.Ns mainGlobals mg → mg d.name = some (.ref fa) →
      ∃ (K : PySem.W.Frag) (fd : FuncData) (cs : List (Addr × Addr)) (sp : Sp), K.In h ∧ (∀ p ∈ cs, h.get? p.2 = some { cls := .none, data := .fields #[] }) ∧ (∀ p ∈ cs, K.lookup p.2 = none) ∧ (∀ p ∈ cs, PySem.W.CodeHd h p.1 p.2) ∧
        (∀ (s : Shared) (u : Value), BindsTo s fd ⟨[u], []⟩ [(x, u)]) ∧
        (∀ (H : Hp) (a : Addr) (ns : List Int), ns.length ≤ n → (∀ p ∈ cs, H p.2 = some (.tbl #[])) → SqL K H a (ns.map V.int) → sp [.ref a] H (fun v _ => v = .bl true) fun _ _ _ => False) ∧
        ∀ base : Heap, K.In base → base.Ns mainGlobals mg → (∀ p ∈ cs, LamX.TabB base mg p.1 p.2) → FnG l.prog w K mg base k fa fd [x] sp) :
    PySem.W.WalkO q loose XP YP l.row.toRowW d [] (fun f vs => PySem.call f vs) := by
  refine Att.attach_call hn hdf fun w s₀ s₁ mg mb fa o pm cd doc a vs ns G Y ho hd hcd hmg hobj hints hlen hg => ?_
  obtain ⟨K, fd, cs, sp, KX, hT, nT, C, hb, hsp, hF⟩ := F w mg fa _ Y G.T.g hmg
  exact law_callT KX G.T.g G.T.b G.T.builtins G.T.nolimit hg hT nT C G.T.bmain hobj hints (Nat.le_trans hlen hn2) hr hF hb (fun H hH hS => hsp H a ns hlen hH hS)
end YG
namespace Y
open PySem PySem.Spec L2
open PyProof.Rows (envOfC)
section
variable {P : Program} {w : World} {W : Wd} {K : PySem.W.Frag} {mg : Str → Option Value} {base : Heap} {x qual : Str} {params : Arguments} {body : List Stmt} {scope : Scope} {dvs : List V} {kws : List (Str × V)} {f : Addr} {fd : FuncData} {N ps : List Str} {k : Nat}
theorem fn_okC (Fd : FunD K x qual params body scope dvs kws f fd) (S : FnScope N ps scope) {bf : SF}
    (hb : ∀ (cdv : Value) (hcd : cdv = .ref (YG.cdOf K f)) (A : Around) (outer : List Env) (s : Shared) (H : Hp) (E : XK), YG.RoomG k (A.deeper (envOfC qual scope s.heap.objs.size f cdv)) → SSs W (cxOf CX0 P w K mg base N qual scope f cdv A outer s H E).nox body bf) :
    YG.FnG P w K mg base (k + 1) f fd ps (spY W K ps.length (fnF N.length ps.length bf)) := by
  refine YG.fn_ofC Fd S (fun vs H Q E h => spY_len h) (fun cdv hcd A outer s H vs Q E hr h => ⟨_, PSs.nox (hb cdv hcd A outer s H E hr), ?_⟩)
  obtain ⟨φ, Z, ts, cs, Sm, r, hl, t, cs', e, kk⟩ := h
  unfold fnF at e
  rw [if_pos hl] at e
  refine ⟨φ, Z, startR N.length ts, cs, Sm, Slots.start r, ?_⟩
  generalize hrs : bf (startR N.length ts) cs = rs at e
  cases rs with
  | nx ρ c =>
    intro φ' Z' H' σ' x' S' L'
    obtain ⟨t', c', φ2, e2, x2, S2, r2⟩ := leave_keep (r := endF (.nx ρ c)) Sm x' S' (Rep.none) rfl
    rw [e] at e2
    cases e2
    exact kk _ _ _ _ x2 S2 r2
  | rt t c =>
    intro φ' Z' H' v x' S' r'
    obtain ⟨t', c', φ2, e2, x2, S2, r2⟩ := leave_keep (r := endF (.rt t c)) Sm x' S' r' rfl
    rw [e] at e2
    cases e2
    exact kk _ _ _ _ x2 S2 r2
  | bk ρ c => cases e
  | ct ρ c => cases e
  | stuck => cases e
theorem lamOk0 {i : Nat} {L : Lam} {ps : List Str} (hL : W.lam i = L) (hl : ps.length = ps.length) : LamOk W P w K mg base 0 i (fun _ _ => .stuck) := by
  refine ⟨ps, ⟨fun vs H Q E h => spY_len h, fun A outer s H f c us vs Q E hr e0 hf hc r h => ?_⟩, ar_stuck⟩
  obtain ⟨φ, Z, ts, cs, S, r, hl, t, cs', e, _⟩ := h
  cases e
end
end Y
namespace YH
open PySem PySem.Spec L2 Y He
/-! ### the look of YJ, with tables of code objects that are empty and not in K -/
structure SaysL (fa : List Fa) (fn : List DefD) (ts : List Tab) (tf : List Defn) (ex : PySem.W.Frag → Bool) (w : World) (h : Heap) (K : PySem.W.Frag) : Prop where
  t : SaysT fa fn ts w K
  more : ex K = true
  hd : ∀ p ∈ tf, PySem.W.codeHdIn K (cT K p).1 (cT K p).2 = true
  out : ∀ p ∈ tf, K.lookup (cT K p).2 = none
  empty : ∀ p ∈ tf, h.get? (cT K p).2 = some { cls := .none, data := .fields #[] }
def tabsL (g : Addr → Option Obj) (tf : List Defn) (K : PySem.W.Frag) : Bool := tf.all fun p => PySem.W.codeHdIn K (cT K p).1 (cT K p).2 && ((K.lookup (cT K p).2).isNone && (match g (cT K p).2 with
  | some o => emptyTab o
  | none => false))
theorem tabsL_ok {g : Addr → Option Obj} {tf : List Defn} {K : PySem.W.Frag} (h : tabsL g tf K = true) : ∀ p ∈ tf, PySem.W.codeHdIn K (cT K p).1 (cT K p).2 = true ∧ K.lookup (cT K p).2 = none ∧ g (cT K p).2 = some { cls := .none, data := .fields #[] } := fun p hp => by
  obtain ⟨h1, h2⟩ := ba (List.all_eq_true.mp h p hp)
  obtain ⟨h3, h4⟩ := ba h2
  refine ⟨h1, Option.isNone_iff_eq_none.mp h3, ?_⟩
  cases q : g (cT K p).2 with
  | none => rw [q] at h4; cases h4
  | some o => rw [q] at h4; rw [emptyTab_eq h4]
def obsL (n : Nat) (fa : List Fa) (fn : List DefD) (ts : List Tab) (tf : List Defn) (ex : PySem.W.Frag → Bool) (g : Addr → Option Obj) : AlT × Bool := (obsT fa fn ts (frG g (asP g n)), ex (frG g (asP g n)) && tabsL g tf (frG g (asP g n)))
theorem saysL_of {n : Nat} {fa : List Fa} {fn : List DefD} {ts : List Tab} {tf : List Defn} {ex : PySem.W.Frag → Bool} {w : World} {h : Heap} (e : obsL n fa fn ts tf ex h.get? = (valT fn ts w, true)) : SaysL fa fn ts tf ex w h (frG h.get? (asP h.get? n)) := by
  obtain ⟨h1, h2⟩ := ba (congrArg (fun z : AlT × Bool => z.2) e)
  have key := tabsL_ok h2
  exact ⟨congrArg (fun z : AlT × Bool => z.1) e, h1, fun p hp => (key p hp).1, fun p hp => (key p hp).2.1, fun p hp => (key p hp).2.2⟩
def hookL (n : Nat) (fa : List Fa) (fn : List DefD) (ts : List Tab) (tf : List Defn) (ex : PySem.W.Frag → Bool) : PySem.W.Hook where
  α := AlT × Bool
  obs := fun s => obsL n fa fn ts tf ex s.heap.get?
  val := fun w => (valT fn ts w, true)
  says := fun w h => ∃ K : PySem.W.Frag, K.In h ∧ SaysL fa fn ts tf ex w h K
  of := fun _ _ e => ⟨_, frG_in, saysL_of e⟩
  keeps := fun _ _ _ ⟨K, hK, c⟩ k => ⟨K, PySem.W.Frag.In.keeps hK k, ⟨c.t, c.more, c.hd, c.out, fun p hp => k _ _ (c.empty p hp)⟩⟩
theorem obsL_eq {n : Nat} {fa : List Fa} {fn : List DefD} {ts : List Tab} {tf : List Defn} {ex : PySem.W.Frag → Bool} {g : Addr → Option Obj} {s : Shared} (h : ∀ a, g a = s.heap.get? a) : obsL n fa fn ts tf ex g = (hookL n fa fn ts tf ex).obs s := by
  have e : g = s.heap.get? := funext h
  rw [e]
  rfl
end YH
namespace Y
open PySem PySem.Spec L2
/-- a def with defaults, called with the last ones lacking -/
theorem DefOk.mkD {W : Wd} {P : Program} {w : World} {K : PySem.W.Frag} {mg : Str → Option Value} {base : Heap} {k j jj : Nat} {ps : List Str} {dvs : List V} {dts : List T} {F : FF} {x qual : Str} {params : Arguments} {body : List Stmt} {scope : Scope} (Fd : ∃ fd, FunD K x qual params body scope dvs [] (W.fad j) fd)
    (hb : ∀ fd, FunD K x qual params body scope dvs [] (W.fad j) fd → ∃ ds, Vals (dvs.drop jj) ds ∧ Binds K fd ps ds) (hr : ∀ φ Z, Reps W K φ Z dts (dvs.drop jj))
    (hF : ∀ fd, FunD K x qual params body scope dvs [] (W.fad j) fd → YG.FnG P w K mg base k (W.fad j) fd ps (spY W K ps.length F)) (ar : Ar ps.length F) : DefOk W P w K mg base k j ps dts F := by
  obtain ⟨fd, h⟩ := Fd
  obtain ⟨ds, h1, h2⟩ := hb fd h
  refine ⟨⟨fd, dvs.drop jj, ds, hF fd h, h2, h1, hr, h.kp, ?_⟩, ar⟩
  obtain ⟨oc, od, dV, kV, doc, pm, an, cdv, ct, osl, rfl, lk, _⟩ := h.ex
  unfold PySem.W.fnIn
  rw [lk]
end Y
end
section
set_option Elab.async false
set_option linter.all false
set_option maxRecDepth 100000
set_option maxHeartbeats 0
namespace G
open PySem PySem.Spec L2 Y
open PyProof.Rows (envOfC)
abbrev Lv := Nat → FF
def top (i : Nat) : Stmt := PySem.Challenge.pw_scaletongue_k59_whole_machines_with_jump.main.body.getD i (.Pass ⟨0, 0, 0, 0⟩)
/-! 0: is_whole -/
abbrev st_0 : Stmt := top 2
abbrev N_0 : List Str := ["value"]
abbrev ps_0 : List Str := ["value"]
noncomputable def b_0 (W : Wd) (M M' : Lv) : SF := (retS (andE (un (fun t cs => isiT "int" [t] cs) (fun ρ cs => getV ρ 0 cs)) (notE (un (fun t cs => isiT "bool" [t] cs) (fun ρ cs => getV ρ 0 cs)))))
theorem fs_0 : FnScope N_0 ps_0 (defScope st_0) := ⟨rfl, rfl, rfl, by decide +kernel, rfl, by decide +kernel, by decide +kernel⟩
/-! 1: is_number -/
abbrev st_1 : Stmt := top 3
abbrev N_1 : List Str := ["value", "low", "high"]
abbrev ps_1 : List Str := ["value", "low", "high"]
noncomputable def b_1 (W : Wd) (M M' : Lv) : SF := (retS (andE (callE (M 0) [] (consA (fun ρ cs => getV ρ 0 cs) nilA)) (andE (bin (inb fun i j => decide (i ≤ j)) (fun ρ cs => getV ρ 1 cs) (fun ρ cs => getV ρ 0 cs)) (orE (bin isT (fun ρ cs => getV ρ 2 cs) (fun _ cs => .ok (.d .none) cs)) (bin (inb fun i j => decide (i ≤ j)) (fun ρ cs => getV ρ 0 cs) (fun ρ cs => getV ρ 2 cs))))))
theorem fs_1 : FnScope N_1 ps_1 (defScope st_1) := ⟨rfl, rfl, rfl, by decide +kernel, rfl, by decide +kernel, by decide +kernel⟩
/-! 2: is_between -/
abbrev st_2 : Stmt := top 4
abbrev N_2 : List Str := ["value", "least", "most"]
abbrev ps_2 : List Str := ["value", "least", "most"]
noncomputable def b_2 (W : Wd) (M M' : Lv) : SF := (retS (andE (callE (M 0) [] (consA (fun ρ cs => getV ρ 0 cs) nilA)) (chn (inb fun i j => decide (i ≤ j)) (inb fun i j => decide (i ≤ j)) (fun ρ cs => getV ρ 1 cs) (fun ρ cs => getV ρ 0 cs) (fun ρ cs => getV ρ 2 cs))))
theorem fs_2 : FnScope N_2 ps_2 (defScope st_2) := ⟨rfl, rfl, rfl, by decide +kernel, rfl, by decide +kernel, by decide +kernel⟩
/-! 3: is_string -/
abbrev st_3 : Stmt := top 5
abbrev N_3 : List Str := ["value"]
abbrev ps_3 : List Str := ["value"]
noncomputable def b_3 (W : Wd) (M M' : Lv) : SF := (retS (un (fun t cs => isiT "str" [t] cs) (fun ρ cs => getV ρ 0 cs)))
theorem fs_3 : FnScope N_3 ps_3 (defScope st_3) := ⟨rfl, rfl, rfl, by decide +kernel, rfl, by decide +kernel, by decide +kernel⟩
/-! 4: is_tuple_of -/
abbrev st_4 : Stmt := top 6
abbrev N_4 : List Str := ["value", "many"]
abbrev ps_4 : List Str := ["value", "many"]
noncomputable def b_4 (W : Wd) (M M' : Lv) : SF := (retS (andE (un (fun t cs => isiT "tuple" [t] cs) (fun ρ cs => getV ρ 0 cs)) (bin eqT (app lenT (consA (fun ρ cs => getV ρ 0 cs) nilA)) (fun ρ cs => getV ρ 1 cs))))
theorem fs_4 : FnScope N_4 ps_4 (defScope st_4) := ⟨rfl, rfl, rfl, by decide +kernel, rfl, by decide +kernel, by decide +kernel⟩
/-! 5: is_row -/
abbrev st_5 : Stmt := top 7
abbrev N_5 : List Str := ["value", "least", "most"]
abbrev ps_5 : List Str := ["value", "least", "most"]
noncomputable def b_5 (W : Wd) (M M' : Lv) : SF := (retS (andE (un (fun t cs => isiT "tuple" [t] cs) (fun ρ cs => getV ρ 0 cs)) (chn (inb fun i j => decide (i ≤ j)) (inb fun i j => decide (i ≤ j)) (fun ρ cs => getV ρ 1 cs) (app lenT (consA (fun ρ cs => getV ρ 0 cs) nilA)) (fun ρ cs => getV ρ 2 cs))))
theorem fs_5 : FnScope N_5 ps_5 (defScope st_5) := ⟨rfl, rfl, rfl, by decide +kernel, rfl, by decide +kernel, by decide +kernel⟩
/-! 6: first_wrong -/
abbrev st_6 : Stmt := top 8
abbrev N_6 : List Str := ["value", "is_right", "index", "each"]
abbrev ps_6 : List Str := ["value", "is_right"]
noncomputable def b_6 (W : Wd) (M M' : Lv) : SF := (seqS (forS (enumI (consA (fun ρ cs => getV ρ 0 cs) nilA)) (.tp [(.nm 2), (.nm 3)]) (ifS (notB (val (callL [0] (fun j => M (500 + j)) 1 (consA (fun ρ cs => getV ρ 3 cs) (consA (sliceE slcT (fun ρ cs => getV ρ 0 cs) noO (someO (fun ρ cs => getV ρ 2 cs))) nilA))))) (retS (fun ρ cs => getV ρ 2 cs)) passS)) (retS (fun _ cs => .ok (.d .none) cs)))
theorem fs_6 : FnScope N_6 ps_6 (defScope st_6) := ⟨rfl, rfl, rfl, by decide +kernel, rfl, by decide +kernel, by decide +kernel⟩
/-! 7: lowest -/
abbrev st_7 : Stmt := top 11
abbrev N_7 : List Str := ["over", "under", "common"]
abbrev ps_7 : List Str := ["over", "under"]
noncomputable def b_7 (W : Wd) (M M' : Lv) : SF := (seqS (setS 2 (ifE (tst (bin (inb fun i j => decide (j < i)) (fun ρ cs => getV ρ 1 cs) (fun _ cs => .ok (.d (.int (0))) cs))) (app gcdT (consA (fun ρ cs => getV ρ 0 cs) (consA (fun ρ cs => getV ρ 1 cs) nilA))) (un negT (app gcdT (consA (fun ρ cs => getV ρ 0 cs) (consA (fun ρ cs => getV ρ 1 cs) nilA)))))) (retS (tupE (consA (bin fdivT (fun ρ cs => getV ρ 0 cs) (fun ρ cs => getV ρ 2 cs)) (consA (bin fdivT (fun ρ cs => getV ρ 1 cs) (fun ρ cs => getV ρ 2 cs)) nilA)))))
theorem fs_7 : FnScope N_7 ps_7 (defScope st_7) := ⟨rfl, rfl, rfl, by decide +kernel, rfl, by decide +kernel, by decide +kernel⟩
/-! 8: is_fraction -/
abbrev st_8 : Stmt := top 12
abbrev N_8 : List Str := ["value"]
abbrev ps_8 : List Str := ["value"]
noncomputable def b_8 (W : Wd) (M M' : Lv) : SF := (seqS (ifS (orB (notB (val (callE (M 4) [] (consA (fun ρ cs => getV ρ 0 cs) (consA (fun _ cs => .ok (.d (.int (2))) cs) nilA))))) (orB (notB (val (callE (M 0) [] (consA (bin (itemT W) (fun ρ cs => getV ρ 0 cs) (fun _ cs => .ok (.d (.int (0))) cs)) nilA)))) (notB (val (callE (M 1) [.d .none] (consA (bin (itemT W) (fun ρ cs => getV ρ 0 cs) (fun _ cs => .ok (.d (.int (1))) cs)) (consA (fun _ cs => .ok (.d (.int (1))) cs) nilA))))))) (retS (fun _ cs => .ok (.d (.bool false)) cs)) passS) (retS (bin eqT (app gcdT (consA (bin (itemT W) (fun ρ cs => getV ρ 0 cs) (fun _ cs => .ok (.d (.int (0))) cs)) (consA (bin (itemT W) (fun ρ cs => getV ρ 0 cs) (fun _ cs => .ok (.d (.int (1))) cs)) nilA))) (fun _ cs => .ok (.d (.int (1))) cs))))
theorem fs_8 : FnScope N_8 ps_8 (defScope st_8) := ⟨rfl, rfl, rfl, by decide +kernel, rfl, by decide +kernel, by decide +kernel⟩
/-! 9: plus -/
abbrev st_9 : Stmt := top 13
abbrev N_9 : List Str := ["one", "other"]
abbrev ps_9 : List Str := ["one", "other"]
noncomputable def b_9 (W : Wd) (M M' : Lv) : SF := (retS (callE (M 7) [] (consA (bin addT (bin mulA (bin (itemT W) (fun ρ cs => getV ρ 0 cs) (fun _ cs => .ok (.d (.int (0))) cs)) (bin (itemT W) (fun ρ cs => getV ρ 1 cs) (fun _ cs => .ok (.d (.int (1))) cs))) (bin mulA (bin (itemT W) (fun ρ cs => getV ρ 1 cs) (fun _ cs => .ok (.d (.int (0))) cs)) (bin (itemT W) (fun ρ cs => getV ρ 0 cs) (fun _ cs => .ok (.d (.int (1))) cs)))) (consA (bin mulA (bin (itemT W) (fun ρ cs => getV ρ 0 cs) (fun _ cs => .ok (.d (.int (1))) cs)) (bin (itemT W) (fun ρ cs => getV ρ 1 cs) (fun _ cs => .ok (.d (.int (1))) cs))) nilA))))
theorem fs_9 : FnScope N_9 ps_9 (defScope st_9) := ⟨rfl, rfl, rfl, by decide +kernel, rfl, by decide +kernel, by decide +kernel⟩
/-! 10: less_by -/
abbrev st_10 : Stmt := top 14
abbrev N_10 : List Str := ["one", "other"]
abbrev ps_10 : List Str := ["one", "other"]
noncomputable def b_10 (W : Wd) (M M' : Lv) : SF := (retS (callE (M 7) [] (consA (bin subY (bin mulA (bin (itemT W) (fun ρ cs => getV ρ 0 cs) (fun _ cs => .ok (.d (.int (0))) cs)) (bin (itemT W) (fun ρ cs => getV ρ 1 cs) (fun _ cs => .ok (.d (.int (1))) cs))) (bin mulA (bin (itemT W) (fun ρ cs => getV ρ 1 cs) (fun _ cs => .ok (.d (.int (0))) cs)) (bin (itemT W) (fun ρ cs => getV ρ 0 cs) (fun _ cs => .ok (.d (.int (1))) cs)))) (consA (bin mulA (bin (itemT W) (fun ρ cs => getV ρ 0 cs) (fun _ cs => .ok (.d (.int (1))) cs)) (bin (itemT W) (fun ρ cs => getV ρ 1 cs) (fun _ cs => .ok (.d (.int (1))) cs))) nilA))))
theorem fs_10 : FnScope N_10 ps_10 (defScope st_10) := ⟨rfl, rfl, rfl, by decide +kernel, rfl, by decide +kernel, by decide +kernel⟩
/-! 11: times -/
abbrev st_11 : Stmt := top 15
abbrev N_11 : List Str := ["one", "other"]
abbrev ps_11 : List Str := ["one", "other"]
noncomputable def b_11 (W : Wd) (M M' : Lv) : SF := (retS (callE (M 7) [] (consA (bin mulA (bin (itemT W) (fun ρ cs => getV ρ 0 cs) (fun _ cs => .ok (.d (.int (0))) cs)) (bin (itemT W) (fun ρ cs => getV ρ 1 cs) (fun _ cs => .ok (.d (.int (0))) cs))) (consA (bin mulA (bin (itemT W) (fun ρ cs => getV ρ 0 cs) (fun _ cs => .ok (.d (.int (1))) cs)) (bin (itemT W) (fun ρ cs => getV ρ 1 cs) (fun _ cs => .ok (.d (.int (1))) cs))) nilA))))
theorem fs_11 : FnScope N_11 ps_11 (defScope st_11) := ⟨rfl, rfl, rfl, by decide +kernel, rfl, by decide +kernel, by decide +kernel⟩
/-! 12: is_less -/
abbrev st_12 : Stmt := top 16
abbrev N_12 : List Str := ["one", "other"]
abbrev ps_12 : List Str := ["one", "other"]
noncomputable def b_12 (W : Wd) (M M' : Lv) : SF := (retS (bin (inb fun i j => decide (i < j)) (bin mulA (bin (itemT W) (fun ρ cs => getV ρ 0 cs) (fun _ cs => .ok (.d (.int (0))) cs)) (bin (itemT W) (fun ρ cs => getV ρ 1 cs) (fun _ cs => .ok (.d (.int (1))) cs))) (bin mulA (bin (itemT W) (fun ρ cs => getV ρ 1 cs) (fun _ cs => .ok (.d (.int (0))) cs)) (bin (itemT W) (fun ρ cs => getV ρ 0 cs) (fun _ cs => .ok (.d (.int (1))) cs)))))
theorem fs_12 : FnScope N_12 ps_12 (defScope st_12) := ⟨rfl, rfl, rfl, by decide +kernel, rfl, by decide +kernel, by decide +kernel⟩
/-! 13: is_code_row -/
abbrev st_13 : Stmt := top 29
abbrev N_13 : List Str := ["value"]
abbrev ps_13 : List Str := ["value"]
noncomputable def b_13 (W : Wd) (M M' : Lv) : SF := (seqS (ifS (orB (notB (val (un (fun t cs => isiT "tuple" [t] cs) (fun ρ cs => getV ρ 0 cs)))) (orB (tst (bin eqT (fun ρ cs => getV ρ 0 cs) (tupE nilA))) (orB (notB (val (callE (M 3) [] (consA (bin (itemT W) (fun ρ cs => getV ρ 0 cs) (fun _ cs => .ok (.d (.int (0))) cs)) nilA)))) (tst (bin (ninT W) (bin (itemT W) (fun ρ cs => getV ρ 0 cs) (fun _ cs => .ok (.d (.int (0))) cs)) (fun _ cs => .ok (.kd 0) cs)))))) (retS (fun _ cs => .ok (.d (.bool false)) cs)) passS) (seqS (ifS (notB (val (callE (M 4) [] (consA (fun ρ cs => getV ρ 0 cs) (consA (bin (itemT W) (fun _ cs => .ok (.kd 0) cs) (bin (itemT W) (fun ρ cs => getV ρ 0 cs) (fun _ cs => .ok (.d (.int (0))) cs))) nilA))))) (retS (fun _ cs => .ok (.d (.bool false)) cs)) passS) (seqS (ifS (tst (bin (inT W) (bin (itemT W) (fun ρ cs => getV ρ 0 cs) (fun _ cs => .ok (.d (.int (0))) cs)) (tupE (consA (fun _ cs => .ok (.d (.str "push")) cs) (consA (fun _ cs => .ok (.d (.str "times")) cs) nilA))))) (retS (callE (M 8) [] (consA (sliceE slcT (fun ρ cs => getV ρ 0 cs) (someO (fun _ cs => .ok (.d (.int (1))) cs)) noO) nilA))) passS) (seqS (ifS (tst (bin (inT W) (bin (itemT W) (fun ρ cs => getV ρ 0 cs) (fun _ cs => .ok (.d (.int (0))) cs)) (tupE (consA (fun _ cs => .ok (.d (.str "keep")) cs) (consA (fun _ cs => .ok (.d (.str "load")) cs) nilA))))) (retS (callE (M 2) [] (consA (bin (itemT W) (fun ρ cs => getV ρ 0 cs) (fun _ cs => .ok (.d (.int (1))) cs)) (consA (fun _ cs => .ok (.d (.int (0))) cs) (consA (fun _ cs => .ok (.d (.int (99))) cs) nilA))))) passS) (seqS (ifS (tst (bin eqT (bin (itemT W) (fun ρ cs => getV ρ 0 cs) (fun _ cs => .ok (.d (.int (0))) cs)) (fun _ cs => .ok (.d (.str "data")) cs))) (retS (callE (M 2) [] (consA (bin (itemT W) (fun ρ cs => getV ρ 0 cs) (fun _ cs => .ok (.d (.int (1))) cs)) (consA (fun _ cs => .ok (.d (.int (0))) cs) (consA (fun _ cs => .ok (.d (.int (3))) cs) nilA))))) passS) (retS (orE (bin (ninT W) (bin (itemT W) (fun ρ cs => getV ρ 0 cs) (fun _ cs => .ok (.d (.int (0))) cs)) (fun _ cs => .ok (.d (.tuple [(.str "jump"), (.str "unless")])) cs)) (callE (M 2) [] (consA (bin (itemT W) (fun ρ cs => getV ρ 0 cs) (fun _ cs => .ok (.d (.int (1))) cs)) (consA (fun _ cs => .ok (.d (.int (0))) cs) (consA (fun _ cs => .ok (.d (.int (3000))) cs) nilA)))))))))))
theorem fs_13 : FnScope N_13 ps_13 (defScope st_13) := ⟨rfl, rfl, rfl, by decide +kernel, rfl, by decide +kernel, by decide +kernel⟩
/-! 14: lead_on -/
abbrev st_14 : Stmt := top 30
abbrev N_14 : List Str := ["rows", "at", "row"]
abbrev ps_14 : List Str := ["rows"]
noncomputable def b_14 (W : Wd) (M M' : Lv) : SF := (retS (app allT (consA (lcE (enumI (consA (fun ρ cs => getV ρ 0 cs) nilA)) [1, 2] (.tp [(.nm 1), (.nm 2)]) yesB (orE (bin (ninT W) (bin (itemT W) (fun ρ cs => getV ρ 2 cs) (fun _ cs => .ok (.d (.int (0))) cs)) (fun _ cs => .ok (.d (.tuple [(.str "jump"), (.str "unless")])) cs)) (chn (inb fun i j => decide (i < j)) (inb fun i j => decide (i ≤ j)) (fun ρ cs => getV ρ 1 cs) (bin (itemT W) (fun ρ cs => getV ρ 2 cs) (fun _ cs => .ok (.d (.int (1))) cs)) (app lenT (consA (fun ρ cs => getV ρ 0 cs) nilA))))) nilA)))
theorem fs_14 : FnScope N_14 ps_14 (defScope st_14) := ⟨rfl, rfl, rfl, by decide +kernel, rfl, by decide +kernel, by decide +kernel⟩
/-! 15: next_of -/
abbrev st_15 : Stmt := top 31
abbrev N_15 : List Str := ["rows", "at", "row"]
abbrev ps_15 : List Str := ["rows", "at"]
noncomputable def b_15 (W : Wd) (M M' : Lv) : SF := (seqS (setS 2 (bin (itemT W) (fun ρ cs => getV ρ 0 cs) (fun ρ cs => getV ρ 1 cs))) (seqS (ifS (tst (bin eqT (bin (itemT W) (fun ρ cs => getV ρ 2 cs) (fun _ cs => .ok (.d (.int (0))) cs)) (fun _ cs => .ok (.d (.str "jump")) cs))) (retS (lstE (consA (bin (itemT W) (fun ρ cs => getV ρ 2 cs) (fun _ cs => .ok (.d (.int (1))) cs)) nilA))) passS) (retS (ifE (tst (bin eqT (bin (itemT W) (fun ρ cs => getV ρ 2 cs) (fun _ cs => .ok (.d (.int (0))) cs)) (fun _ cs => .ok (.d (.str "unless")) cs))) (lstE (consA (bin addT (fun ρ cs => getV ρ 1 cs) (fun _ cs => .ok (.d (.int (1))) cs)) (consA (bin (itemT W) (fun ρ cs => getV ρ 2 cs) (fun _ cs => .ok (.d (.int (1))) cs)) nilA))) (lstE (consA (bin addT (fun ρ cs => getV ρ 1 cs) (fun _ cs => .ok (.d (.int (1))) cs)) nilA))))))
theorem fs_15 : FnScope N_15 ps_15 (defScope st_15) := ⟨rfl, rfl, rfl, by decide +kernel, rfl, by decide +kernel, by decide +kernel⟩
/-! 16: Ways.__init__ -/
abbrev st_16 : Stmt := inClass (top 32) 0
abbrev N_16 : List Str := ["self", "rows", "at", "row"]
abbrev ps_16 : List Str := ["self", "rows"]
noncomputable def b_16 (W : Wd) (M M' : Lv) : SF := (seqS (fldS W "rows" (fun ρ cs => getV ρ 0 cs) (fun ρ cs => getV ρ 1 cs)) (seqS (fldS W "highs" (fun ρ cs => getV ρ 0 cs) (bin addC (lstC (consA (dispC (((fun _ cs => .ok (.d (.int (0))) cs), (fun _ cs => .ok (.d (.bool true)) cs)) :: [])) nilA)) (lcC (seqI (fun ρ cs => getV ρ 1 cs)) [3] (.nm 3) yesB dicC))) (seqS (fldS W "kept" (fun ρ cs => getV ρ 0 cs) (bin addC (lstC (consA dicC nilA)) (lcC (seqI (fun ρ cs => getV ρ 1 cs)) [3] (.nm 3) yesB (fun _ cs => .ok (.d .none) cs)))) (seqS (fldS W "is_right" (fun ρ cs => getV ρ 0 cs) (fun _ cs => .ok (.d (.bool true)) cs)) (forS (rng1I (consA (app lenT (consA (fun ρ cs => getV ρ 1 cs) nilA)) nilA)) (.nm 2) (expS (methE 0 "look" (M 17) [] (fun ρ cs => getV ρ 0 cs) (consA (fun ρ cs => getV ρ 2 cs) nilA))))))))
theorem fs_16 : FnScope N_16 ps_16 (defScope st_16) := ⟨rfl, rfl, rfl, by decide +kernel, rfl, by decide +kernel, by decide +kernel⟩
/-! 17: Ways.look -/
abbrev st_17 : Stmt := inClass (top 32) 1
abbrev N_17 : List Str := ["self", "at", "kept", "later", "to", "row", "highs", "high"]
abbrev ps_17 : List Str := ["self", "at"]
noncomputable def b_17 (W : Wd) (M M' : Lv) : SF := (seqS (parS 5 6 (consA (bin (itemT W) (fldE W "rows" (fun ρ cs => getV ρ 0 cs)) (fun ρ cs => getV ρ 1 cs)) (consA (bin (itemT W) (fldE W "highs" (fun ρ cs => getV ρ 0 cs)) (fun ρ cs => getV ρ 1 cs)) nilA))) (seqS (ifS (tst (bin eqDN (fun ρ cs => getV ρ 6 cs) dicC)) retN passS) (seqS (setS 2 (bin (itemT W) (fldE W "kept" (fun ρ cs => getV ρ 0 cs)) (fun ρ cs => getV ρ 1 cs))) (seqS (ifS (orB (tst (bin (inb fun i j => decide (i < j)) (app minDT (consA (fun ρ cs => getV ρ 6 cs) nilA)) (bin (itemT W) (fun _ cs => .ok (.kd 1) cs) (bin (itemT W) (fun ρ cs => getV ρ 5 cs) (fun _ cs => .ok (.d (.int (0))) cs))))) (andB (tst (bin eqT (bin (itemT W) (fun ρ cs => getV ρ 5 cs) (fun _ cs => .ok (.d (.int (0))) cs)) (fun _ cs => .ok (.d (.str "load")) cs))) (tst (bin (ninT W) (bin (itemT W) (fun ρ cs => getV ρ 5 cs) (fun _ cs => .ok (.d (.int (1))) cs)) (fun ρ cs => getV ρ 2 cs))))) (seqS (fldS W "is_right" (fun ρ cs => getV ρ 0 cs) (fun _ cs => .ok (.d (.bool false)) cs)) retN) passS) (seqS (setS 3 (app (YH.dictT W) (consA (fun ρ cs => getV ρ 2 cs) nilA))) (seqS (ifS (tst (bin eqT (bin (itemT W) (fun ρ cs => getV ρ 5 cs) (fun _ cs => .ok (.d (.int (0))) cs)) (fun _ cs => .ok (.d (.str "keep")) cs))) (asgG (subG (fun ρ cs => getV ρ 3 cs) (bin (itemT W) (fun ρ cs => getV ρ 5 cs) (fun _ cs => .ok (.d (.int (1))) cs))) (fun _ cs => .ok (.d (.bool true)) cs)) passS) (forS (seqI (callE (M 15) [] (consA (fldE W "rows" (fun ρ cs => getV ρ 0 cs)) (consA (fun ρ cs => getV ρ 1 cs) nilA)))) (.nm 4) (expS (methE 0 "lead" (M 18) [] (fun ρ cs => getV ρ 0 cs) (consA (fun ρ cs => getV ρ 4 cs) (consA (lcE (seqI (app sortDT (consA (fun ρ cs => getV ρ 6 cs) nilA))) [7] (.nm 7) yesB (bin addT (bin subY (fun ρ cs => getV ρ 7 cs) (bin (itemT W) (fun _ cs => .ok (.kd 1) cs) (bin (itemT W) (fun ρ cs => getV ρ 5 cs) (fun _ cs => .ok (.d (.int (0))) cs)))) (bin (itemT W) (fun _ cs => .ok (.kd 2) cs) (bin (itemT W) (fun ρ cs => getV ρ 5 cs) (fun _ cs => .ok (.d (.int (0))) cs))))) (consA (fun ρ cs => getV ρ 3 cs) nilA))))))))))))
theorem fs_17 : FnScope N_17 ps_17 (defScope st_17) := ⟨rfl, rfl, rfl, by decide +kernel, rfl, by decide +kernel, by decide +kernel⟩
/-! 18: Ways.lead -/
abbrev st_18 : Stmt := inClass (top 32) 2
abbrev N_18 : List Str := ["self", "to", "highs", "kept", "high", "had", "cell"]
abbrev ps_18 : List Str := ["self", "to", "highs", "kept"]
noncomputable def b_18 (W : Wd) (M M' : Lv) : SF := (seqS (forS (seqI (fun ρ cs => getV ρ 2 cs)) (.nm 4) (asgG (subG (bin (itemT W) (fldE W "highs" (fun ρ cs => getV ρ 0 cs)) (fun ρ cs => getV ρ 1 cs)) (fun ρ cs => getV ρ 4 cs)) (fun _ cs => .ok (.d (.bool true)) cs))) (seqS (setS 5 (bin (itemT W) (fldE W "kept" (fun ρ cs => getV ρ 0 cs)) (fun ρ cs => getV ρ 1 cs))) (asgG (subG (fldE W "kept" (fun ρ cs => getV ρ 0 cs)) (fun ρ cs => getV ρ 1 cs)) (ifE (tst (bin isT (fun ρ cs => getV ρ 5 cs) (fun _ cs => .ok (.d .none) cs))) (app (YH.dictT W) (consA (fun ρ cs => getV ρ 3 cs) nilA)) (dcKK 6 5 3)))))
theorem fs_18 : FnScope N_18 ps_18 (defScope st_18) := ⟨rfl, rfl, rfl, by decide +kernel, rfl, by decide +kernel, by decide +kernel⟩
/-! 19: stands_well -/
abbrev st_19 : Stmt := top 33
abbrev N_19 : List Str := ["rows", "told"]
abbrev ps_19 : List Str := ["rows"]
noncomputable def b_19 (W : Wd) (M M' : Lv) : SF := (seqS (setS 1 (makeE 0 (M' 16) [] (consA (fun ρ cs => getV ρ 0 cs) nilA))) (retS (andE (fldE W "is_right" (fun ρ cs => getV ρ 1 cs)) (bin eqT (app sortDT (consA (bin (itemT W) (fldE W "highs" (fun ρ cs => getV ρ 1 cs)) (un negT (fun _ cs => .ok (.d (.int (1))) cs))) nilA)) (lstE (consA (fun _ cs => .ok (.d (.int (1))) cs) nilA))))))
theorem fs_19 : FnScope N_19 ps_19 (defScope st_19) := ⟨rfl, rfl, rfl, by decide +kernel, rfl, by decide +kernel, by decide +kernel⟩
/-! 20: is_code -/
abbrev st_20 : Stmt := top 34
abbrev N_20 : List Str := ["value"]
abbrev ps_20 : List Str := ["value"]
noncomputable def b_20 (W : Wd) (M M' : Lv) : SF := (seqS (ifS (orB (notB (val (callE (M 5) [] (consA (fun ρ cs => getV ρ 0 cs) (consA (fun _ cs => .ok (.d (.int (0))) cs) (consA (fun _ cs => .ok (.d (.int (3000))) cs) nilA)))))) (tst (bin isntT (callE (M 6) [] (consA (fun ρ cs => getV ρ 0 cs) (consA (fun _ cs => .ok (.clo 0 []) cs) nilA))) (fun _ cs => .ok (.d .none) cs)))) (retS (fun _ cs => .ok (.d (.bool false)) cs)) passS) (retS (andE (callE (M 14) [] (consA (fun ρ cs => getV ρ 0 cs) nilA)) (callE (M 19) [] (consA (fun ρ cs => getV ρ 0 cs) nilA)))))
theorem fs_20 : FnScope N_20 ps_20 (defScope st_20) := ⟨rfl, rfl, rfl, by decide +kernel, rfl, by decide +kernel, by decide +kernel⟩
/-! 21: are_numbers -/
abbrev st_21 : Stmt := top 35
abbrev N_21 : List Str := ["rows", "value", "row", "own"]
abbrev ps_21 : List Str := ["rows", "value"]
noncomputable def b_21 (W : Wd) (M M' : Lv) : SF := (seqS (ifS (orB (notB (val (un (fun t cs => isiT "tuple" [t] cs) (fun ρ cs => getV ρ 1 cs)))) (notB (val (app allT (consA (lcE (seqI (fun ρ cs => getV ρ 1 cs)) [3] (.nm 3) yesB (callE (M 8) [] (consA (fun ρ cs => getV ρ 3 cs) nilA))) nilA))))) (retS (fun _ cs => .ok (.d (.bool false)) cs)) passS) (retS (app allT (consA (lcE (seqI (fun ρ cs => getV ρ 0 cs)) [2] (.nm 2) (tst (bin eqT (bin (itemT W) (fun ρ cs => getV ρ 2 cs) (fun _ cs => .ok (.d (.int (0))) cs)) (fun _ cs => .ok (.d (.str "data")) cs))) (bin (inb fun i j => decide (i < j)) (bin (itemT W) (fun ρ cs => getV ρ 2 cs) (fun _ cs => .ok (.d (.int (1))) cs)) (app lenT (consA (fun ρ cs => getV ρ 1 cs) nilA)))) nilA))))
theorem fs_21 : FnScope N_21 ps_21 (defScope st_21) := ⟨rfl, rfl, rfl, by decide +kernel, rfl, by decide +kernel, by decide +kernel⟩
/-! 22: two_made -/
abbrev st_22 : Stmt := top 36
abbrev N_22 : List Str := ["row", "one", "other", "is_so"]
abbrev ps_22 : List Str := ["row", "one", "other"]
noncomputable def b_22 (W : Wd) (M M' : Lv) : SF := (seqS (ifS (tst (bin eqT (bin (itemT W) (fun ρ cs => getV ρ 0 cs) (fun _ cs => .ok (.d (.int (0))) cs)) (fun _ cs => .ok (.d (.str "add")) cs))) (retS (callE (M 9) [] (consA (fun ρ cs => getV ρ 1 cs) (consA (fun ρ cs => getV ρ 2 cs) nilA)))) passS) (seqS (ifS (tst (bin eqT (bin (itemT W) (fun ρ cs => getV ρ 0 cs) (fun _ cs => .ok (.d (.int (0))) cs)) (fun _ cs => .ok (.d (.str "sub")) cs))) (retS (callE (M 10) [] (consA (fun ρ cs => getV ρ 1 cs) (consA (fun ρ cs => getV ρ 2 cs) nilA)))) passS) (seqS (setS 3 (ifE (tst (bin eqT (bin (itemT W) (fun ρ cs => getV ρ 0 cs) (fun _ cs => .ok (.d (.int (0))) cs)) (fun _ cs => .ok (.d (.str "less")) cs))) (callE (M 12) [] (consA (fun ρ cs => getV ρ 1 cs) (consA (fun ρ cs => getV ρ 2 cs) nilA))) (bin eqT (fun ρ cs => getV ρ 1 cs) (fun ρ cs => getV ρ 2 cs)))) (retS (ifE (val (fun ρ cs => getV ρ 3 cs)) (fun _ cs => .ok (.d (.tuple [(.int (1)), (.int (1))])) cs) (fun _ cs => .ok (.d (.tuple [(.int (0)), (.int (1))])) cs))))))
theorem fs_22 : FnScope N_22 ps_22 (defScope st_22) := ⟨rfl, rfl, rfl, by decide +kernel, rfl, by decide +kernel, by decide +kernel⟩
/-! 23: left_by -/
abbrev st_23 : Stmt := top 37
abbrev N_23 : List Str := ["row", "stack", "cells", "numbers"]
abbrev ps_23 : List Str := ["row", "stack", "cells", "numbers"]
noncomputable def b_23 (W : Wd) (M M' : Lv) : SF := (seqS (ifS (tst (bin eqT (bin (itemT W) (fun ρ cs => getV ρ 0 cs) (fun _ cs => .ok (.d (.int (0))) cs)) (fun _ cs => .ok (.d (.str "push")) cs))) (retS (sliceE slcT (fun ρ cs => getV ρ 0 cs) (someO (fun _ cs => .ok (.d (.int (1))) cs)) noO)) passS) (seqS (ifS (tst (bin eqT (bin (itemT W) (fun ρ cs => getV ρ 0 cs) (fun _ cs => .ok (.d (.int (0))) cs)) (fun _ cs => .ok (.d (.str "data")) cs))) (retS (bin (itemT W) (fun ρ cs => getV ρ 3 cs) (bin (itemT W) (fun ρ cs => getV ρ 0 cs) (fun _ cs => .ok (.d (.int (1))) cs)))) passS) (seqS (ifS (tst (bin eqT (bin (itemT W) (fun ρ cs => getV ρ 0 cs) (fun _ cs => .ok (.d (.int (0))) cs)) (fun _ cs => .ok (.d (.str "load")) cs))) (retS (bin (itemT W) (fun ρ cs => getV ρ 2 cs) (bin (itemT W) (fun ρ cs => getV ρ 0 cs) (fun _ cs => .ok (.d (.int (1))) cs)))) passS) (seqS (ifS (tst (bin eqT (bin (itemT W) (fun ρ cs => getV ρ 0 cs) (fun _ cs => .ok (.d (.int (0))) cs)) (fun _ cs => .ok (.d (.str "times")) cs))) (retS (callE (M 11) [] (consA (bin (itemT W) (fun ρ cs => getV ρ 1 cs) (un negT (fun _ cs => .ok (.d (.int (1))) cs))) (consA (sliceE slcT (fun ρ cs => getV ρ 0 cs) (someO (fun _ cs => .ok (.d (.int (1))) cs)) noO) nilA)))) passS) (seqS (ifS (tst (bin eqT (bin (itemT W) (fun _ cs => .ok (.kd 1) cs) (bin (itemT W) (fun ρ cs => getV ρ 0 cs) (fun _ cs => .ok (.d (.int (0))) cs))) (fun _ cs => .ok (.d (.int (2))) cs))) (retS (callE (M 22) [] (consA (fun ρ cs => getV ρ 0 cs) (consA (bin (itemT W) (fun ρ cs => getV ρ 1 cs) (un negT (fun _ cs => .ok (.d (.int (2))) cs))) (consA (bin (itemT W) (fun ρ cs => getV ρ 1 cs) (un negT (fun _ cs => .ok (.d (.int (1))) cs))) nilA))))) passS) (retS (ifE (tst (bin neT (bin (itemT W) (fun ρ cs => getV ρ 0 cs) (fun _ cs => .ok (.d (.int (0))) cs)) (fun _ cs => .ok (.d (.str "jump")) cs))) (bin (itemT W) (fun ρ cs => getV ρ 1 cs) (un negT (fun _ cs => .ok (.d (.int (1))) cs))) (fun _ cs => .ok (.d .none) cs))))))))
theorem fs_23 : FnScope N_23 ps_23 (defScope st_23) := ⟨rfl, rfl, rfl, by decide +kernel, rfl, by decide +kernel, by decide +kernel⟩
/-! 24: run_by -/
abbrev st_24 : Stmt := top 38
abbrev N_24 : List Str := ["rows", "numbers", "stack", "cells", "at", "row", "worth", "turn", "is_led"]
abbrev ps_24 : List Str := ["rows", "numbers"]
noncomputable def b_24 (W : Wd) (M M' : Lv) : SF := (seqS (par3S 2 3 4 (consA (lstC nilA) (consA dicC (consA (fun _ cs => .ok (.d (.int (0))) cs) nilA)))) (seqS (whileS (tst (bin (inb fun i j => decide (i < j)) (fun ρ cs => getV ρ 4 cs) (app lenT (consA (fun ρ cs => getV ρ 0 cs) nilA)))) (seqS (setS 5 (bin (itemT W) (fun ρ cs => getV ρ 0 cs) (fun ρ cs => getV ρ 4 cs))) (seqS (setS 6 (callE (M 23) [] (consA (fun ρ cs => getV ρ 5 cs) (consA (fun ρ cs => getV ρ 2 cs) (consA (fun ρ cs => getV ρ 3 cs) (consA (fun ρ cs => getV ρ 1 cs) nilA)))))) (seqS (forS (rng1I (consA (bin (itemT W) (fun _ cs => .ok (.kd 1) cs) (bin (itemT W) (fun ρ cs => getV ρ 5 cs) (fun _ cs => .ok (.d (.int (0))) cs))) nilA)) (.nm 7) (expS (bmE isLst popT (fun ρ cs => getV ρ 2 cs) nilA))) (seqS (ifS (tst (bin eqT (bin (itemT W) (fun ρ cs => getV ρ 5 cs) (fun _ cs => .ok (.d (.int (0))) cs)) (fun _ cs => .ok (.d (.str "keep")) cs))) (asgG (subG (fun ρ cs => getV ρ 3 cs) (bin (itemT W) (fun ρ cs => getV ρ 5 cs) (fun _ cs => .ok (.d (.int (1))) cs))) (fun ρ cs => getV ρ 6 cs)) passS) (seqS (ifS (tst (bin eqT (bin (itemT W) (fun _ cs => .ok (.kd 2) cs) (bin (itemT W) (fun ρ cs => getV ρ 5 cs) (fun _ cs => .ok (.d (.int (0))) cs))) (fun _ cs => .ok (.d (.int (1))) cs))) (expS (bmE isLst appendT (fun ρ cs => getV ρ 2 cs) (consA (fun ρ cs => getV ρ 6 cs) nilA))) passS) (seqS (setS 8 (orE (bin eqT (bin (itemT W) (fun ρ cs => getV ρ 5 cs) (fun _ cs => .ok (.d (.int (0))) cs)) (fun _ cs => .ok (.d (.str "jump")) cs)) (andE (bin eqT (bin (itemT W) (fun ρ cs => getV ρ 5 cs) (fun _ cs => .ok (.d (.int (0))) cs)) (fun _ cs => .ok (.d (.str "unless")) cs)) (bin eqT (fun ρ cs => getV ρ 6 cs) (fun _ cs => .ok (.d (.tuple [(.int (0)), (.int (1))])) cs))))) (setS 4 (ifE (val (fun ρ cs => getV ρ 8 cs)) (bin (itemT W) (fun ρ cs => getV ρ 5 cs) (fun _ cs => .ok (.d (.int (1))) cs)) (bin addT (fun ρ cs => getV ρ 4 cs) (fun _ cs => .ok (.d (.int (1))) cs))))))))))) (retS (bin (itemT W) (fun ρ cs => getV ρ 2 cs) (un negT (fun _ cs => .ok (.d (.int (1))) cs))))))
theorem fs_24 : FnScope N_24 ps_24 (defScope st_24) := ⟨rfl, rfl, rfl, by decide +kernel, rfl, by decide +kernel, by decide +kernel⟩
/-! 25: check_code -/
abbrev st_25 : Stmt := top 40
abbrev N_25 : List Str := ["rows"]
abbrev ps_25 : List Str := ["rows"]
noncomputable def b_25 (W : Wd) (M M' : Lv) : SF := (ifS (notB (val (callE (M 20) [] (consA (fun ρ cs => getV ρ 0 cs) nilA)))) neverS passS)
theorem fs_25 : FnScope N_25 ps_25 (defScope st_25) := ⟨rfl, rfl, rfl, by decide +kernel, rfl, by decide +kernel, by decide +kernel⟩
/-! 26: run -/
abbrev st_26 : Stmt := top 41
abbrev N_26 : List Str := ["rows", "numbers"]
abbrev ps_26 : List Str := ["rows", "numbers"]
noncomputable def b_26 (W : Wd) (M M' : Lv) : SF := (seqS (expS (callE (M 25) [] (consA (fun ρ cs => getV ρ 0 cs) nilA))) (seqS (ifS (notB (val (callE (M 21) [] (consA (fun ρ cs => getV ρ 0 cs) (consA (fun ρ cs => getV ρ 1 cs) nilA))))) neverS passS) (retS (callE (M 24) [] (consA (fun ρ cs => getV ρ 0 cs) (consA (fun ρ cs => getV ρ 1 cs) nilA))))))
theorem fs_26 : FnScope N_26 ps_26 (defScope st_26) := ⟨rfl, rfl, rfl, by decide +kernel, rfl, by decide +kernel, by decide +kernel⟩
/-! 27: _law_bag -/
abbrev st_27 : Stmt := top 43
abbrev N_27 : List Str := ["script", "lap", "stirred", "cell", "own", "wide"]
abbrev ps_27 : List Str := ["script", "lap"]
noncomputable def b_27 (W : Wd) (M M' : Lv) : SF := (seqS (setS 2 (bin addT (fun _ cs => .ok (.d (.int (52027))) cs) (bin mulA (fun _ cs => .ok (.d (.int (8009))) cs) (fun ρ cs => getV ρ 1 cs)))) (seqS (forS (seqI (sliceE slcT (fun ρ cs => getV ρ 0 cs) noO (someO (fun _ cs => .ok (.d (.int (16))) cs)))) (.nm 3) (setS 2 (bin modT (app intT (consA (bin addT (bin addT (bin mulA (fun ρ cs => getV ρ 2 cs) (fun _ cs => .ok (.d (.int (48271))) cs)) (bin modT (app intT (consA (fun ρ cs => getV ρ 3 cs) nilA)) (fun _ cs => .ok (.d (.int (2147483629))) cs))) (fun _ cs => .ok (.d (.int (23))) cs)) nilA)) (fun _ cs => .ok (.d (.int (2147483647))) cs)))) (seqS (setS 4 (ifE (tst (bin (inb fun i j => decide (i < j)) (fun ρ cs => getV ρ 1 cs) (app lenT (consA (fun ρ cs => getV ρ 0 cs) nilA)))) (app intT (consA (bin (itemT W) (fun ρ cs => getV ρ 0 cs) (fun ρ cs => getV ρ 1 cs)) nilA)) (fun _ cs => .ok (.d (.int (0))) cs))) (seqS (setS 2 (bin modT (app intT (consA (bin addT (bin addT (bin mulA (fun ρ cs => getV ρ 2 cs) (fun _ cs => .ok (.d (.int (31))) cs)) (bin mulA (bin modT (app intT (consA (fun ρ cs => getV ρ 4 cs) nilA)) (fun _ cs => .ok (.d (.int (2147483629))) cs)) (fun _ cs => .ok (.d (.int (17))) cs))) (fun _ cs => .ok (.d (.int (3))) cs)) nilA)) (fun _ cs => .ok (.d (.int (2147483647))) cs))) (seqS (setS 5 (bin mulA (bin mulA (bin mulA (bin mulA (bin mulA (bin powT (fun _ cs => .ok (.d (.int (10))) cs) (fun _ cs => .ok (.d (.int (64))) cs)) (bin powT (fun _ cs => .ok (.d (.int (10))) cs) (fun _ cs => .ok (.d (.int (64))) cs))) (bin powT (fun _ cs => .ok (.d (.int (10))) cs) (fun _ cs => .ok (.d (.int (64))) cs))) (bin powT (fun _ cs => .ok (.d (.int (10))) cs) (fun _ cs => .ok (.d (.int (64))) cs))) (bin powT (fun _ cs => .ok (.d (.int (10))) cs) (fun _ cs => .ok (.d (.int (64))) cs))) (bin powT (fun _ cs => .ok (.d (.int (10))) cs) (fun _ cs => .ok (.d (.int (64))) cs)))) (retS (lstC (consA (ifE (orB (tst (bin (inb fun i j => decide (i < j)) (fun ρ cs => getV ρ 4 cs) (fun _ cs => .ok (.d (.int (0))) cs))) (tst (bin (inb fun i j => decide (j ≤ i)) (fun ρ cs => getV ρ 4 cs) (bin powT (fun _ cs => .ok (.d (.int (10))) cs) (fun _ cs => .ok (.d (.int (15))) cs))))) (bin modT (app intT (consA (app absT (consA (fun ρ cs => getV ρ 4 cs) nilA)) nilA)) (fun ρ cs => getV ρ 5 cs)) (fun _ cs => .ok (.d (.int (0))) cs)) (consA (fun ρ cs => getV ρ 2 cs) (consA (fun _ cs => .ok (.d (.int (0))) cs) nilA))))))))))
theorem fs_27 : FnScope N_27 ps_27 (defScope st_27) := ⟨rfl, rfl, rfl, by decide +kernel, rfl, by decide +kernel, by decide +kernel⟩
/-! 28: _law_take -/
abbrev st_28 : Stmt := top 44
abbrev N_28 : List Str := ["bag", "top", "digit"]
abbrev ps_28 : List Str := ["bag", "top"]
noncomputable def b_28 (W : Wd) (M M' : Lv) : SF := (seqS (ifS (tst (bin (inb fun i j => decide (j < i)) (bin (itemT W) (fun ρ cs => getV ρ 0 cs) (fun _ cs => .ok (.d (.int (0))) cs)) (fun _ cs => .ok (.d (.int (0))) cs))) (seqS (asgG (tupG 2 (consG (subG (fun ρ cs => getV ρ 0 cs) (fun _ cs => .ok (.d (.int (0))) cs)) (consG (patG (.nm 2)) nilG))) (app divmodT (consA (bin (itemT W) (fun ρ cs => getV ρ 0 cs) (fun _ cs => .ok (.d (.int (0))) cs)) (consA (fun ρ cs => getV ρ 1 cs) nilA)))) (retS (fun ρ cs => getV ρ 2 cs))) passS) (seqS (asgG (subG (fun ρ cs => getV ρ 0 cs) (fun _ cs => .ok (.d (.int (2))) cs)) (bin addT (bin (itemT W) (fun ρ cs => getV ρ 0 cs) (fun _ cs => .ok (.d (.int (2))) cs)) (fun _ cs => .ok (.d (.int (1))) cs))) (seqS (asgG (subG (fun ρ cs => getV ρ 0 cs) (fun _ cs => .ok (.d (.int (1))) cs)) (bin modT (app intT (consA (bin addT (bin addT (bin mulA (bin (itemT W) (fun ρ cs => getV ρ 0 cs) (fun _ cs => .ok (.d (.int (1))) cs)) (fun _ cs => .ok (.d (.int (16807))) cs)) (bin mulA (fun _ cs => .ok (.d (.int (4099))) cs) (bin (itemT W) (fun ρ cs => getV ρ 0 cs) (fun _ cs => .ok (.d (.int (2))) cs)))) (fun _ cs => .ok (.d (.int (1))) cs)) nilA)) (fun _ cs => .ok (.d (.int (2147483647))) cs))) (retS (bin modT (app intT (consA (bin fdivT (bin (itemT W) (fun ρ cs => getV ρ 0 cs) (fun _ cs => .ok (.d (.int (1))) cs)) (fun _ cs => .ok (.d (.int (911))) cs)) nilA)) (fun ρ cs => getV ρ 1 cs))))))
theorem fs_28 : FnScope N_28 ps_28 (defScope st_28) := ⟨rfl, rfl, rfl, by decide +kernel, rfl, by decide +kernel, by decide +kernel⟩
/-! 29: _law_pull -/
abbrev st_29 : Stmt := top 45
abbrev N_29 : List Str := ["bag", "some"]
abbrev ps_29 : List Str := ["bag", "some"]
noncomputable def b_29 (W : Wd) (M M' : Lv) : SF := (retS (bin (itemT W) (fun ρ cs => getV ρ 1 cs) (callE (M 28) [] (consA (fun ρ cs => getV ρ 0 cs) (consA (app lenT (consA (fun ρ cs => getV ρ 1 cs) nilA)) nilA)))))
theorem fs_29 : FnScope N_29 ps_29 (defScope st_29) := ⟨rfl, rfl, rfl, by decide +kernel, rfl, by decide +kernel, by decide +kernel⟩
/-! 30: _law_cut -/
abbrev st_30 : Stmt := top 46
abbrev N_30 : List Str := ["top", "low", "one", "two"]
abbrev ps_30 : List Str := ["top", "low"]
noncomputable def b_30 (W : Wd) (M M' : Lv) : SF := (seqS (parS 2 3 (consA (app absT (consA (fun ρ cs => getV ρ 0 cs) nilA)) (consA (app absT (consA (fun ρ cs => getV ρ 1 cs) nilA)) nilA))) (seqS (whileS (tst (bin (inb fun i j => decide (j < i)) (fun ρ cs => getV ρ 3 cs) (fun _ cs => .ok (.d (.int (0))) cs))) (parS 2 3 (consA (fun ρ cs => getV ρ 3 cs) (consA (bin modT (app intT (consA (fun ρ cs => getV ρ 2 cs) nilA)) (fun ρ cs => getV ρ 3 cs)) nilA)))) (seqS (ifS (tst (bin eqT (fun ρ cs => getV ρ 1 cs) (fun _ cs => .ok (.d (.int (0))) cs))) (retS (fun _ cs => .ok (.d .none) cs)) passS) (retS (ifE (tst (bin (inb fun i j => decide (j < i)) (fun ρ cs => getV ρ 1 cs) (fun _ cs => .ok (.d (.int (0))) cs))) (tupE (consA (bin fdivT (fun ρ cs => getV ρ 0 cs) (fun ρ cs => getV ρ 2 cs)) (consA (bin fdivT (fun ρ cs => getV ρ 1 cs) (fun ρ cs => getV ρ 2 cs)) nilA))) (tupE (consA (bin subY (fun _ cs => .ok (.d (.int (0))) cs) (bin fdivT (fun ρ cs => getV ρ 0 cs) (fun ρ cs => getV ρ 2 cs))) (consA (bin subY (fun _ cs => .ok (.d (.int (0))) cs) (bin fdivT (fun ρ cs => getV ρ 1 cs) (fun ρ cs => getV ρ 2 cs))) nilA))))))))
theorem fs_30 : FnScope N_30 ps_30 (defScope st_30) := ⟨rfl, rfl, rfl, by decide +kernel, rfl, by decide +kernel, by decide +kernel⟩
/-! 31: _law_plus -/
abbrev st_31 : Stmt := top 47
abbrev N_31 : List Str := ["one", "two", "times_v"]
abbrev ps_31 : List Str := ["one", "two", "times_v"]
noncomputable def b_31 (W : Wd) (M M' : Lv) : SF := (seqS (ifS (orB (tst (bin isT (fun ρ cs => getV ρ 0 cs) (fun _ cs => .ok (.d .none) cs))) (tst (bin isT (fun ρ cs => getV ρ 1 cs) (fun _ cs => .ok (.d .none) cs)))) (retS (fun _ cs => .ok (.d .none) cs)) passS) (retS (callE (M 30) [] (consA (bin addT (bin mulA (bin (itemT W) (fun ρ cs => getV ρ 0 cs) (fun _ cs => .ok (.d (.int (0))) cs)) (bin (itemT W) (fun ρ cs => getV ρ 1 cs) (fun _ cs => .ok (.d (.int (1))) cs))) (bin mulA (bin mulA (fun ρ cs => getV ρ 2 cs) (bin (itemT W) (fun ρ cs => getV ρ 1 cs) (fun _ cs => .ok (.d (.int (0))) cs))) (bin (itemT W) (fun ρ cs => getV ρ 0 cs) (fun _ cs => .ok (.d (.int (1))) cs)))) (consA (bin mulA (bin (itemT W) (fun ρ cs => getV ρ 0 cs) (fun _ cs => .ok (.d (.int (1))) cs)) (bin (itemT W) (fun ρ cs => getV ρ 1 cs) (fun _ cs => .ok (.d (.int (1))) cs))) nilA)))))
theorem fs_31 : FnScope N_31 ps_31 (defScope st_31) := ⟨rfl, rfl, rfl, by decide +kernel, rfl, by decide +kernel, by decide +kernel⟩
/-! 32: _law_times -/
abbrev st_32 : Stmt := top 48
abbrev N_32 : List Str := ["one", "two"]
abbrev ps_32 : List Str := ["one", "two"]
noncomputable def b_32 (W : Wd) (M M' : Lv) : SF := (retS (ifE (orB (tst (bin isT (fun ρ cs => getV ρ 0 cs) (fun _ cs => .ok (.d .none) cs))) (tst (bin isT (fun ρ cs => getV ρ 1 cs) (fun _ cs => .ok (.d .none) cs)))) (fun _ cs => .ok (.d .none) cs) (callE (M 30) [] (consA (bin mulA (bin (itemT W) (fun ρ cs => getV ρ 0 cs) (fun _ cs => .ok (.d (.int (0))) cs)) (bin (itemT W) (fun ρ cs => getV ρ 1 cs) (fun _ cs => .ok (.d (.int (0))) cs))) (consA (bin mulA (bin (itemT W) (fun ρ cs => getV ρ 0 cs) (fun _ cs => .ok (.d (.int (1))) cs)) (bin (itemT W) (fun ρ cs => getV ρ 1 cs) (fun _ cs => .ok (.d (.int (1))) cs))) nilA)))))
theorem fs_32 : FnScope N_32 ps_32 (defScope st_32) := ⟨rfl, rfl, rfl, by decide +kernel, rfl, by decide +kernel, by decide +kernel⟩
/-! 33: _law_is_less -/
abbrev st_33 : Stmt := top 50
abbrev N_33 : List Str := ["one", "two"]
abbrev ps_33 : List Str := ["one", "two"]
noncomputable def b_33 (W : Wd) (M M' : Lv) : SF := (retS (bin (inb fun i j => decide (i < j)) (bin mulA (bin (itemT W) (fun ρ cs => getV ρ 0 cs) (fun _ cs => .ok (.d (.int (0))) cs)) (bin (itemT W) (fun ρ cs => getV ρ 1 cs) (fun _ cs => .ok (.d (.int (1))) cs))) (bin mulA (bin (itemT W) (fun ρ cs => getV ρ 1 cs) (fun _ cs => .ok (.d (.int (0))) cs)) (bin (itemT W) (fun ρ cs => getV ρ 0 cs) (fun _ cs => .ok (.d (.int (1))) cs)))))
theorem fs_33 : FnScope N_33 ps_33 (defScope st_33) := ⟨rfl, rfl, rfl, by decide +kernel, rfl, by decide +kernel, by decide +kernel⟩
/-! 34: _law_machine -/
abbrev st_34 : Stmt := top 53
abbrev N_34 : List Str := ["rows", "numbers", "stack", "cells", "at", "head", "row", "two", "one", "own", "so"]
abbrev ps_34 : List Str := ["rows", "numbers"]
noncomputable def b_34 (W : Wd) (M M' : Lv) : SF := (seqS (par3S 2 3 4 (consA (lstC nilA) (consA dicC (consA (fun _ cs => .ok (.d (.int (0))) cs) nilA)))) (seqS (whileS (tst (bin (inb fun i j => decide (i < j)) (fun ρ cs => getV ρ 4 cs) (app lenT (consA (fun ρ cs => getV ρ 0 cs) nilA)))) (seqS (parS 6 4 (consA (bin (itemT W) (fun ρ cs => getV ρ 0 cs) (fun ρ cs => getV ρ 4 cs)) (consA (bin addT (fun ρ cs => getV ρ 4 cs) (fun _ cs => .ok (.d (.int (1))) cs)) nilA))) (seqS (setS 5 (bin (itemT W) (fun ρ cs => getV ρ 6 cs) (fun _ cs => .ok (.d (.int (0))) cs))) (ifS (tst (bin eqT (fun ρ cs => getV ρ 5 cs) (fun _ cs => .ok (.d (.str "push")) cs))) (expS (bmE isLst appendT (fun ρ cs => getV ρ 2 cs) (consA (tupE (consA (bin (itemT W) (fun ρ cs => getV ρ 6 cs) (fun _ cs => .ok (.d (.int (1))) cs)) (consA (bin (itemT W) (fun ρ cs => getV ρ 6 cs) (fun _ cs => .ok (.d (.int (2))) cs)) nilA))) nilA))) (ifS (tst (bin eqT (fun ρ cs => getV ρ 5 cs) (fun _ cs => .ok (.d (.str "data")) cs))) (expS (bmE isLst appendT (fun ρ cs => getV ρ 2 cs) (consA (bin (itemT W) (fun ρ cs => getV ρ 1 cs) (bin (itemT W) (fun ρ cs => getV ρ 6 cs) (fun _ cs => .ok (.d (.int (1))) cs))) nilA))) (ifS (tst (bin eqT (fun ρ cs => getV ρ 5 cs) (fun _ cs => .ok (.d (.str "load")) cs))) (expS (bmE isLst appendT (fun ρ cs => getV ρ 2 cs) (consA (bin (itemT W) (fun ρ cs => getV ρ 3 cs) (bin (itemT W) (fun ρ cs => getV ρ 6 cs) (fun _ cs => .ok (.d (.int (1))) cs))) nilA))) (ifS (tst (bin eqT (fun ρ cs => getV ρ 5 cs) (fun _ cs => .ok (.d (.str "keep")) cs))) (asgG (subG (fun ρ cs => getV ρ 3 cs) (bin (itemT W) (fun ρ cs => getV ρ 6 cs) (fun _ cs => .ok (.d (.int (1))) cs))) (bmE isLst popT (fun ρ cs => getV ρ 2 cs) nilA)) (ifS (tst (bin eqT (fun ρ cs => getV ρ 5 cs) (fun _ cs => .ok (.d (.str "jump")) cs))) (setS 4 (bin (itemT W) (fun ρ cs => getV ρ 6 cs) (fun _ cs => .ok (.d (.int (1))) cs))) (ifS (tst (bin eqT (fun ρ cs => getV ρ 5 cs) (fun _ cs => .ok (.d (.str "unless")) cs))) (setS 4 (ifE (tst (bin eqT (bmE isLst popT (fun ρ cs => getV ρ 2 cs) nilA) (tupE (consA (fun _ cs => .ok (.d (.int (0))) cs) (consA (fun _ cs => .ok (.d (.int (1))) cs) nilA))))) (bin (itemT W) (fun ρ cs => getV ρ 6 cs) (fun _ cs => .ok (.d (.int (1))) cs)) (fun ρ cs => getV ρ 4 cs))) (ifS (tst (bin eqT (fun ρ cs => getV ρ 5 cs) (fun _ cs => .ok (.d (.str "times")) cs))) (expS (bmE isLst appendT (fun ρ cs => getV ρ 2 cs) (consA (callE (M 32) [] (consA (bmE isLst popT (fun ρ cs => getV ρ 2 cs) nilA) (consA (tupE (consA (bin (itemT W) (fun ρ cs => getV ρ 6 cs) (fun _ cs => .ok (.d (.int (1))) cs)) (consA (bin (itemT W) (fun ρ cs => getV ρ 6 cs) (fun _ cs => .ok (.d (.int (2))) cs)) nilA))) nilA))) nilA))) (seqS (setS 7 (bmE isLst popT (fun ρ cs => getV ρ 2 cs) nilA)) (seqS (setS 8 (bmE isLst popT (fun ρ cs => getV ρ 2 cs) nilA)) (seqS (setS 9 (callE (M 31) [] (consA (fun ρ cs => getV ρ 8 cs) (consA (fun ρ cs => getV ρ 7 cs) (consA (ifE (tst (bin eqT (fun ρ cs => getV ρ 5 cs) (fun _ cs => .ok (.d (.str "add")) cs))) (fun _ cs => .ok (.d (.int (1))) cs) (un negT (fun _ cs => .ok (.d (.int (1))) cs))) nilA))))) (seqS (setS 10 (ifE (tst (bin eqT (fun ρ cs => getV ρ 5 cs) (fun _ cs => .ok (.d (.str "less")) cs))) (callE (M 33) [] (consA (fun ρ cs => getV ρ 8 cs) (consA (fun ρ cs => getV ρ 7 cs) nilA))) (bin eqT (fun ρ cs => getV ρ 8 cs) (fun ρ cs => getV ρ 7 cs)))) (expS (bmE isLst appendT (fun ρ cs => getV ρ 2 cs) (consA (ifE (tst (bin (inT W) (fun ρ cs => getV ρ 5 cs) (tupE (consA (fun _ cs => .ok (.d (.str "add")) cs) (consA (fun _ cs => .ok (.d (.str "sub")) cs) nilA))))) (fun ρ cs => getV ρ 9 cs) (tupE (consA (app intT (consA (fun ρ cs => getV ρ 10 cs) nilA)) (consA (fun _ cs => .ok (.d (.int (1))) cs) nilA)))) nilA))))))))))))))))) (retS (frzE (fun ρ cs => getV ρ 2 cs)))))
theorem fs_34 : FnScope N_34 ps_34 (defScope st_34) := ⟨rfl, rfl, rfl, by decide +kernel, rfl, by decide +kernel, by decide +kernel⟩
/-! 35: _law_some -/
abbrev st_35 : Stmt := top 54
abbrev N_35 : List Str := ["bag", "deep", "start", "kept", "way", "found", "one", "two", "last", "own"]
abbrev ps_35 : List Str := ["bag", "deep", "start", "kept"]
noncomputable def b_35 (W : Wd) (M M' : Lv) : SF := (seqS (setS 4 (ifE (tst (bin (inb fun i j => decide (j < i)) (fun ρ cs => getV ρ 1 cs) (fun _ cs => .ok (.d (.int (0))) cs))) (callE (M 28) [] (consA (fun ρ cs => getV ρ 0 cs) (consA (fun _ cs => .ok (.d (.int (9))) cs) nilA))) (callE (M 28) [] (consA (fun ρ cs => getV ρ 0 cs) (consA (fun _ cs => .ok (.d (.int (3))) cs) nilA))))) (seqS (ifS (tst (bin (inb fun i j => decide (i < j)) (fun ρ cs => getV ρ 4 cs) (fun _ cs => .ok (.d (.int (2))) cs))) (seqS (setS 9 (callE (M 30) [] (consA (bin subY (callE (M 28) [] (consA (fun ρ cs => getV ρ 0 cs) (consA (fun _ cs => .ok (.d (.int (9))) cs) nilA))) (fun _ cs => .ok (.d (.int (4))) cs)) (consA (bin addT (fun _ cs => .ok (.d (.int (1))) cs) (callE (M 28) [] (consA (fun ρ cs => getV ρ 0 cs) (consA (fun _ cs => .ok (.d (.int (3))) cs) nilA)))) nilA)))) (retS (lstE (consA (callE (M 29) [] (consA (fun ρ cs => getV ρ 0 cs) (consA (lstE (consA (tupE (consA (fun _ cs => .ok (.d (.str "push")) cs) (consA (bin (itemT W) (fun ρ cs => getV ρ 9 cs) (fun _ cs => .ok (.d (.int (0))) cs)) (consA (bin (itemT W) (fun ρ cs => getV ρ 9 cs) (fun _ cs => .ok (.d (.int (1))) cs)) nilA)))) (consA (tupE (consA (fun _ cs => .ok (.d (.str "data")) cs) (consA (callE (M 28) [] (consA (fun ρ cs => getV ρ 0 cs) (consA (fun _ cs => .ok (.d (.int (3))) cs) nilA))) nilA))) nilA))) nilA))) nilA)))) passS) (seqS (ifS (tst (bin eqT (fun ρ cs => getV ρ 4 cs) (fun _ cs => .ok (.d (.int (2))) cs))) (retS (ifE (val (fun ρ cs => getV ρ 3 cs)) (lstE (consA (tupE (consA (fun _ cs => .ok (.d (.str "load")) cs) (consA (fun _ cs => .ok (.d (.int (7))) cs) nilA))) nilA)) (lstE (consA (tupE (consA (fun _ cs => .ok (.d (.str "push")) cs) (consA (callE (M 28) [] (consA (fun ρ cs => getV ρ 0 cs) (consA (fun _ cs => .ok (.d (.int (2))) cs) nilA))) (consA (fun _ cs => .ok (.d (.int (1))) cs) nilA)))) nilA)))) passS) (seqS (ifS (tst (bin eqT (fun ρ cs => getV ρ 4 cs) (fun _ cs => .ok (.d (.int (3))) cs))) (seqS (setS 9 (callE (M 30) [] (consA (bin subY (callE (M 28) [] (consA (fun ρ cs => getV ρ 0 cs) (consA (fun _ cs => .ok (.d (.int (9))) cs) nilA))) (fun _ cs => .ok (.d (.int (4))) cs)) (consA (bin addT (fun _ cs => .ok (.d (.int (1))) cs) (callE (M 28) [] (consA (fun ρ cs => getV ρ 0 cs) (consA (fun _ cs => .ok (.d (.int (3))) cs) nilA)))) nilA)))) (retS (bin addT (callE (M 35) [] (consA (fun ρ cs => getV ρ 0 cs) (consA (bin subY (fun ρ cs => getV ρ 1 cs) (fun _ cs => .ok (.d (.int (1))) cs)) (consA (fun ρ cs => getV ρ 2 cs) (consA (fun ρ cs => getV ρ 3 cs) nilA))))) (lstE (consA (tupE (consA (fun _ cs => .ok (.d (.str "times")) cs) (consA (bin (itemT W) (fun ρ cs => getV ρ 9 cs) (fun _ cs => .ok (.d (.int (0))) cs)) (consA (bin (itemT W) (fun ρ cs => getV ρ 9 cs) (fun _ cs => .ok (.d (.int (1))) cs)) nilA)))) nilA))))) passS) (seqS (ifS (tst (bin eqT (fun ρ cs => getV ρ 4 cs) (fun _ cs => .ok (.d (.int (4))) cs))) (seqS (setS 5 (callE (M 35) [] (consA (fun ρ cs => getV ρ 0 cs) (consA (bin subY (fun ρ cs => getV ρ 1 cs) (fun _ cs => .ok (.d (.int (1))) cs)) (consA (fun ρ cs => getV ρ 2 cs) (consA (fun ρ cs => getV ρ 3 cs) nilA)))))) (retS (bin addT (fun ρ cs => getV ρ 5 cs) (lstE (consA (tupE (consA (fun _ cs => .ok (.d (.str "keep")) cs) (consA (fun _ cs => .ok (.d (.int (3))) cs) nilA))) (consA (tupE (consA (fun _ cs => .ok (.d (.str "load")) cs) (consA (fun _ cs => .ok (.d (.int (3))) cs) nilA))) (consA (tupE (consA (fun _ cs => .ok (.d (.str "load")) cs) (consA (fun _ cs => .ok (.d (.int (3))) cs) nilA))) (consA (tupE (consA (fun _ cs => .ok (.d (.str "add")) cs) nilA)) nilA)))))))) passS) (seqS (ifS (tst (bin (inb fun i j => decide (i < j)) (fun ρ cs => getV ρ 4 cs) (fun _ cs => .ok (.d (.int (7))) cs))) (seqS (setS 5 (callE (M 35) [] (consA (fun ρ cs => getV ρ 0 cs) (consA (bin subY (fun ρ cs => getV ρ 1 cs) (fun _ cs => .ok (.d (.int (1))) cs)) (consA (fun ρ cs => getV ρ 2 cs) (consA (fun ρ cs => getV ρ 3 cs) nilA)))))) (seqS (setS 5 (bin addT (fun ρ cs => getV ρ 5 cs) (callE (M 35) [] (consA (fun ρ cs => getV ρ 0 cs) (consA (bin subY (fun ρ cs => getV ρ 1 cs) (fun _ cs => .ok (.d (.int (1))) cs)) (consA (bin addT (fun ρ cs => getV ρ 2 cs) (app lenT (consA (fun ρ cs => getV ρ 5 cs) nilA))) (consA (fun ρ cs => getV ρ 3 cs) nilA))))))) (retS (bin addT (fun ρ cs => getV ρ 5 cs) (lstE (consA (tupE (consA (callE (M 29) [] (consA (fun ρ cs => getV ρ 0 cs) (consA (lstE (consA (fun _ cs => .ok (.d (.str "add")) cs) (consA (fun _ cs => .ok (.d (.str "sub")) cs) (consA (fun _ cs => .ok (.d (.str "less")) cs) (consA (fun _ cs => .ok (.d (.str "same")) cs) nilA))))) nilA))) nilA)) nilA)))))) passS) (seqS (setS 5 (callE (M 35) [] (consA (fun ρ cs => getV ρ 0 cs) (consA (bin subY (fun ρ cs => getV ρ 1 cs) (fun _ cs => .ok (.d (.int (1))) cs)) (consA (fun ρ cs => getV ρ 2 cs) (consA (fun ρ cs => getV ρ 3 cs) nilA)))))) (seqS (setS 6 (callE (M 35) [] (consA (fun ρ cs => getV ρ 0 cs) (consA (bin subY (fun ρ cs => getV ρ 1 cs) (fun _ cs => .ok (.d (.int (1))) cs)) (consA (bin addT (bin addT (fun ρ cs => getV ρ 2 cs) (app lenT (consA (fun ρ cs => getV ρ 5 cs) nilA))) (fun _ cs => .ok (.d (.int (1))) cs)) (consA (fun ρ cs => getV ρ 3 cs) nilA)))))) (seqS (setS 7 (callE (M 35) [] (consA (fun ρ cs => getV ρ 0 cs) (consA (bin subY (fun ρ cs => getV ρ 1 cs) (fun _ cs => .ok (.d (.int (1))) cs)) (consA (bin addT (bin addT (bin addT (fun ρ cs => getV ρ 2 cs) (app lenT (consA (fun ρ cs => getV ρ 5 cs) nilA))) (app lenT (consA (fun ρ cs => getV ρ 6 cs) nilA))) (fun _ cs => .ok (.d (.int (2))) cs)) (consA (fun ρ cs => getV ρ 3 cs) nilA)))))) (seqS (setS 8 (bin addT (bin addT (bin addT (fun ρ cs => getV ρ 2 cs) (app lenT (consA (fun ρ cs => getV ρ 5 cs) nilA))) (app lenT (consA (fun ρ cs => getV ρ 6 cs) nilA))) (fun _ cs => .ok (.d (.int (2))) cs))) (retS (bin addT (bin addT (bin addT (bin addT (fun ρ cs => getV ρ 5 cs) (lstE (consA (tupE (consA (fun _ cs => .ok (.d (.str "unless")) cs) (consA (fun ρ cs => getV ρ 8 cs) nilA))) nilA))) (fun ρ cs => getV ρ 6 cs)) (lstE (consA (tupE (consA (fun _ cs => .ok (.d (.str "jump")) cs) (consA (bin addT (fun ρ cs => getV ρ 8 cs) (app lenT (consA (fun ρ cs => getV ρ 7 cs) nilA))) nilA))) nilA))) (fun ρ cs => getV ρ 7 cs)))))))))))))
theorem fs_35 : FnScope N_35 ps_35 (defScope st_35) := ⟨rfl, rfl, rfl, by decide +kernel, rfl, by decide +kernel, by decide +kernel⟩
/-! 36: _law_right -/
abbrev st_36 : Stmt := top 55
abbrev N_36 : List Str := ["bag", "front", "rows", "numbers", "due", "k"]
abbrev ps_36 : List Str := ["bag"]
noncomputable def b_36 (W : Wd) (M M' : Lv) : SF := (seqS (setS 1 (ifE (tst (bin eqT (callE (M 28) [] (consA (fun ρ cs => getV ρ 0 cs) (consA (fun _ cs => .ok (.d (.int (2))) cs) nilA))) (fun _ cs => .ok (.d (.int (0))) cs))) (lstE (consA (tupE (consA (fun _ cs => .ok (.d (.str "push")) cs) (consA (fun _ cs => .ok (.d (.int (5))) cs) (consA (fun _ cs => .ok (.d (.int (2))) cs) nilA)))) (consA (tupE (consA (fun _ cs => .ok (.d (.str "keep")) cs) (consA (fun _ cs => .ok (.d (.int (7))) cs) nilA))) nilA))) (lstE nilA))) (seqS (setS 2 (app tupleT (consA (bin addT (fun ρ cs => getV ρ 1 cs) (callE (M 35) [] (consA (fun ρ cs => getV ρ 0 cs) (consA (fun _ cs => .ok (.d (.int (3))) cs) (consA (app lenT (consA (fun ρ cs => getV ρ 1 cs) nilA)) (consA (bin neT (fun ρ cs => getV ρ 1 cs) (lstE nilA)) nilA)))))) nilA))) (seqS (setS 3 (app tupleT (consA (lcE (rng1I (consA (fun _ cs => .ok (.d (.int (3))) cs) nilA)) [5] (.nm 5) yesB (callE (M 30) [] (consA (bin subY (callE (M 28) [] (consA (fun ρ cs => getV ρ 0 cs) (consA (fun _ cs => .ok (.d (.int (9))) cs) nilA))) (fun _ cs => .ok (.d (.int (4))) cs)) (consA (bin addT (fun _ cs => .ok (.d (.int (1))) cs) (callE (M 28) [] (consA (fun ρ cs => getV ρ 0 cs) (consA (fun _ cs => .ok (.d (.int (3))) cs) nilA)))) nilA)))) nilA))) (seqS (setS 4 (callE (M 34) [] (consA (fun ρ cs => getV ρ 2 cs) (consA (fun ρ cs => getV ρ 3 cs) nilA)))) (seqS (ifS (tst (bin neT (app lenT (consA (fun ρ cs => getV ρ 4 cs) nilA)) (fun _ cs => .ok (.d (.int (1))) cs))) (retS (fun _ cs => .ok (.d (.bool false)) cs)) passS) (retS (bin eqT (app reprT (consA (lstE (consA (callE (M 26) [] (consA (fun ρ cs => getV ρ 2 cs) (consA (fun ρ cs => getV ρ 3 cs) nilA))) (consA (callKE 2 [1, 0] (M 26) (consA (fun ρ cs => getV ρ 3 cs) (consA (fun ρ cs => getV ρ 2 cs) nilA))) nilA))) nilA)) (app reprT (consA (lstE (consA (bin (itemT W) (fun ρ cs => getV ρ 4 cs) (fun _ cs => .ok (.d (.int (0))) cs)) (consA (bin (itemT W) (fun ρ cs => getV ρ 4 cs) (fun _ cs => .ok (.d (.int (0))) cs)) nilA))) nilA)))))))))
theorem fs_36 : FnScope N_36 ps_36 (defScope st_36) := ⟨rfl, rfl, rfl, by decide +kernel, rfl, by decide +kernel, by decide +kernel⟩
/-! 37: law -/
abbrev st_37 : Stmt := top 56
abbrev N_37 : List Str := ["script", "lap", "bag", "turn"]
abbrev ps_37 : List Str := ["script"]
noncomputable def b_37 (W : Wd) (M M' : Lv) : SF := (seqS (forS (rng1I (consA (app max2T (consA (fun _ cs => .ok (.d (.int (2))) cs) (consA (app min2T (consA (app lenT (consA (fun ρ cs => getV ρ 0 cs) nilA)) (consA (fun _ cs => .ok (.d (.int (3))) cs) nilA))) nilA))) nilA)) (.nm 1) (seqS (setS 2 (callE (M 27) [] (consA (fun ρ cs => getV ρ 0 cs) (consA (fun ρ cs => getV ρ 1 cs) nilA)))) (ifS (notB (val (app allT (consA (lcE (rng1I (consA (fun _ cs => .ok (.d (.int (8))) cs) nilA)) [3] (.nm 3) yesB (callE (M 36) [] (consA (fun ρ cs => getV ρ 2 cs) nilA))) nilA)))) (retS (fun _ cs => .ok (.d (.bool false)) cs)) passS))) (retS (fun _ cs => .ok (.d (.bool true)) cs)))
theorem fs_37 : FnScope N_37 ps_37 (defScope st_37) := ⟨rfl, rfl, rfl, by decide +kernel, rfl, by decide +kernel, by decide +kernel⟩
def lamx : Expr → Str → Lam
  | .Lambda ps b sc _, q => ⟨q, ps, b, sc⟩
  | _, q => ⟨q, defArgs st_0, .Constant .none 0 ⟨0, 0, 0, 0⟩, defScope st_0⟩
abbrev lam_0 : Lam := lamx (match defBody st_20 with | (.If (.BoolOp _ (_ :: .Compare (.Call _ (_ :: l :: _) _ _) _ _ _ :: _) _) _ _ _) :: _ => l | _ => .Constant .none 0 ⟨0, 0, 0, 0⟩) "is_code.<locals>.<lambda>"
abbrev NL_0 : List Str := ["row", "ahead"]
abbrev psL_0 : List Str := ["row", "ahead"]
noncomputable def bL_0 (W : Wd) (M M' : Lv) : EF := (callE (M 13) [] (consA (fun ρ cs => getV ρ 0 cs) nilA))
theorem fsL_0 : FnScope NL_0 psL_0 lam_0.scope := ⟨rfl, rfl, rfl, by decide +kernel, rfl, by decide +kernel, by decide +kernel⟩
abbrev tabA (K : PySem.W.Frag) (f : Addr) : Addr := He.tabOf K (YG.cdOf K f)
structure Txt (W : Wd) (w : World) (K : PySem.W.Frag) (mg : Str → Option Value) : Prop where
  G : WOk W K w
  K2 : YH.WOk2 W K w
  m_is_whole : mg "is_whole" = some (.ref (W.fad 0))
  m_is_number : mg "is_number" = some (.ref (W.fad 1))
  m_is_between : mg "is_between" = some (.ref (W.fad 2))
  m_is_string : mg "is_string" = some (.ref (W.fad 3))
  m_is_tuple_of : mg "is_tuple_of" = some (.ref (W.fad 4))
  m_is_row : mg "is_row" = some (.ref (W.fad 5))
  m_first_wrong : mg "first_wrong" = some (.ref (W.fad 6))
  m_lowest : mg "lowest" = some (.ref (W.fad 7))
  m_is_fraction : mg "is_fraction" = some (.ref (W.fad 8))
  m_plus : mg "plus" = some (.ref (W.fad 9))
  m_less_by : mg "less_by" = some (.ref (W.fad 10))
  m_times : mg "times" = some (.ref (W.fad 11))
  m_is_less : mg "is_less" = some (.ref (W.fad 12))
  m_is_code_row : mg "is_code_row" = some (.ref (W.fad 13))
  m_lead_on : mg "lead_on" = some (.ref (W.fad 14))
  m_next_of : mg "next_of" = some (.ref (W.fad 15))
  m_stands_well : mg "stands_well" = some (.ref (W.fad 19))
  m_is_code : mg "is_code" = some (.ref (W.fad 20))
  m_are_numbers : mg "are_numbers" = some (.ref (W.fad 21))
  m_two_made : mg "two_made" = some (.ref (W.fad 22))
  m_left_by : mg "left_by" = some (.ref (W.fad 23))
  m_run_by : mg "run_by" = some (.ref (W.fad 24))
  m_check_code : mg "check_code" = some (.ref (W.fad 25))
  m_run : mg "run" = some (.ref (W.fad 26))
  m__law_bag : mg "_law_bag" = some (.ref (W.fad 27))
  m__law_take : mg "_law_take" = some (.ref (W.fad 28))
  m__law_pull : mg "_law_pull" = some (.ref (W.fad 29))
  m__law_cut : mg "_law_cut" = some (.ref (W.fad 30))
  m__law_plus : mg "_law_plus" = some (.ref (W.fad 31))
  m__law_times : mg "_law_times" = some (.ref (W.fad 32))
  m__law_is_less : mg "_law_is_less" = some (.ref (W.fad 33))
  m__law_machine : mg "_law_machine" = some (.ref (W.fad 34))
  m__law_some : mg "_law_some" = some (.ref (W.fad 35))
  m__law_right : mg "_law_right" = some (.ref (W.fad 36))
  m_law : mg "law" = some (.ref (W.fad 37))
  n_abs : mg "abs" = none
  n_all : mg "all" = none
  n_bool : mg "bool" = none
  n_dict : mg "dict" = none
  n_divmod : mg "divmod" = none
  n_enumerate : mg "enumerate" = none
  n_int : mg "int" = none
  n_isinstance : mg "isinstance" = none
  n_len : mg "len" = none
  n_max : mg "max" = none
  n_min : mg "min" = none
  n_range : mg "range" = none
  n_repr : mg "repr" = none
  n_sorted : mg "sorted" = none
  n_str : mg "str" = none
  n_tuple : mg "tuple" = none
  g_gcd : mg "gcd" = some (.builtin "math.gcd")
  g_ZERO : mg "ZERO" = some (.ref (W.fad 1001))
  r_ZERO : ∀ φ Z, Rep W K φ Z (.d (.tuple [(.int (0)), (.int (1))])) (.ref (W.fad 1001))
  g_ONE : mg "ONE" = some (.ref (W.fad 1002))
  r_ONE : ∀ φ Z, Rep W K φ Z (.d (.tuple [(.int (1)), (.int (1))])) (.ref (W.fad 1002))
  g_MOST_ROWS : ∃ t, mg "MOST_ROWS" = some (.int (3000) t)
  g_MOST_CELL : ∃ t, mg "MOST_CELL" = some (.int (99) t)
  g_MOST_DATA : ∃ t, mg "MOST_DATA" = some (.int (3) t)
  g_LENGTHS : mg "LENGTHS" = some (.ref (W.kad 0))
  g_TAKES : mg "TAKES" = some (.ref (W.kad 1))
  g_LEAVES : mg "LEAVES" = some (.ref (W.kad 2))
  g_JUMPS : mg "JUMPS" = some (.ref (W.fad 1009))
  r_JUMPS : ∀ φ Z, Rep W K φ Z (.d (.tuple [(.str "jump"), (.str "unless")])) (.ref (W.fad 1009))
  c_0 : Cls K (W.cad 0)
  k_0 : mg "Ways" = some (.ref (W.cad 0))
  mk_0 : Mk K (W.cad 0) (W.fad 16)
  me_17 : Meth K (W.cad 0) "look" (W.fad 17)
  bm_17 : BMeth K (W.cad 0) "look" (W.fad 17)
  me_18 : Meth K (W.cad 0) "lead" (W.fad 18)
  bm_18 : BMeth K (W.cad 0) "lead" (W.fad 18)
  lam_0 : W.lam 0 = lam_0
  tbs : W.tbs = [(tabA K (W.fad 20), ("is_code.<locals>.<lambda>" : Str))]
structure Lvl (W : Wd) (P : Program) (w : World) (K : PySem.W.Frag) (mg : Str → Option Value) (base : Heap) (k : Nat) (M : Lv) : Prop where
  d_0 : DefOk W P w K mg base k 0 ps_0 [] (M 0)
  d_2 : DefOk W P w K mg base k 2 ps_2 [] (M 2)
  d_3 : DefOk W P w K mg base k 3 ps_3 [] (M 3)
  d_4 : DefOk W P w K mg base k 4 ps_4 [] (M 4)
  d_5 : DefOk W P w K mg base k 5 ps_5 [] (M 5)
  d_6 : DefOk W P w K mg base k 6 ps_6 [] (M 6)
  d_7 : DefOk W P w K mg base k 7 ps_7 [] (M 7)
  d_8 : DefOk W P w K mg base k 8 ps_8 [] (M 8)
  d_9 : DefOk W P w K mg base k 9 ps_9 [] (M 9)
  d_10 : DefOk W P w K mg base k 10 ps_10 [] (M 10)
  d_11 : DefOk W P w K mg base k 11 ps_11 [] (M 11)
  d_12 : DefOk W P w K mg base k 12 ps_12 [] (M 12)
  d_13 : DefOk W P w K mg base k 13 ps_13 [] (M 13)
  d_14 : DefOk W P w K mg base k 14 ps_14 [] (M 14)
  d_15 : DefOk W P w K mg base k 15 ps_15 [] (M 15)
  d_16 : DefOk W P w K mg base k 16 ps_16 [] (M 16)
  d_17 : DefOk W P w K mg base k 17 ps_17 [] (M 17)
  d_18 : DefOk W P w K mg base k 18 ps_18 [] (M 18)
  d_19 : DefOk W P w K mg base k 19 ps_19 [] (M 19)
  d_20 : DefOk W P w K mg base k 20 ps_20 [] (M 20)
  d_21 : DefOk W P w K mg base k 21 ps_21 [] (M 21)
  d_22 : DefOk W P w K mg base k 22 ps_22 [] (M 22)
  d_23 : DefOk W P w K mg base k 23 ps_23 [] (M 23)
  d_24 : DefOk W P w K mg base k 24 ps_24 [] (M 24)
  d_25 : DefOk W P w K mg base k 25 ps_25 [] (M 25)
  d_26 : DefOk W P w K mg base k 26 ps_26 [] (M 26)
  d_27 : DefOk W P w K mg base k 27 ps_27 [] (M 27)
  d_28 : DefOk W P w K mg base k 28 ps_28 [] (M 28)
  d_29 : DefOk W P w K mg base k 29 ps_29 [] (M 29)
  d_30 : DefOk W P w K mg base k 30 ps_30 [] (M 30)
  d_31 : DefOk W P w K mg base k 31 ps_31 [] (M 31)
  d_32 : DefOk W P w K mg base k 32 ps_32 [] (M 32)
  d_33 : DefOk W P w K mg base k 33 ps_33 [] (M 33)
  d_34 : DefOk W P w K mg base k 34 ps_34 [] (M 34)
  d_35 : DefOk W P w K mg base k 35 ps_35 [] (M 35)
  d_36 : DefOk W P w K mg base k 36 ps_36 [] (M 36)
  d_37 : DefOk W P w K mg base k 37 ps_37 [] (M 37)
  d_1_1 : DefOk W P w K mg base k 1 ps_1 [.d .none] (M 1)
  k_26_10 : DefK W P w K mg base k 26 ps_26 ["numbers", "rows"] [1, 0] (M 26)
  tb_0 : LamX.TabB base mg (YG.cdOf K (W.fad 20)) (tabA K (W.fad 20))
  l_0 : LamOk W P w K mg base k 0 (M 500)
section
variable {W : Wd} {P : Program} {w : World} {K : PySem.W.Frag} {mg : Str → Option Value} {base : Heap} {k : Nat} {M M' : Lv}
theorem Lvl.lams (D : Lvl W P w K mg base k M) : ∀ j ∈ ([0] : List Nat), LamOk W P w K mg base k j (M (500 + j)) := fun j hj => by cases List.mem_singleton.mp hj; exact D.l_0

theorem ok_0 (T : Txt W w K mg) (D : Lvl W P w K mg base k M) (D' : Lvl W P w K mg base (k - 1) M') (h0 : ∀ j, k = 0 → M' j = fun _ _ => .stuck) (f : Addr) (cdv : Value) (A : Around) (outer : List Env) (s : Shared) (H : Hp) (E : XK) (hr : YG.RoomG k (A.deeper (envOfC "is_whole" (defScope st_0) s.heap.objs.size f cdv))) :
    SSs W (cxOf CX0 P w K mg base N_0 "is_whole" (defScope st_0) f cdv A outer s H E).nox (defBody st_0) (b_0 W M M') := by
  unfold b_0
  exact (sss_one (ss_ret (se_and (se_isi (by rfl) T.n_isinstance (se_name (i := 0) rfl (by first | exact Or.inl rfl | exact Or.inr (Or.inl rfl) | exact Or.inr (Or.inr rfl))) (by rfl) T.n_int (by decide +kernel)) (se_one (se_not (se_isi (by rfl) T.n_isinstance (se_name (i := 0) rfl (by first | exact Or.inl rfl | exact Or.inr (Or.inl rfl) | exact Or.inr (Or.inr rfl))) (by rfl) T.n_bool (by decide +kernel)))))))

theorem ok_1 (T : Txt W w K mg) (D : Lvl W P w K mg base k M) (D' : Lvl W P w K mg base (k - 1) M') (h0 : ∀ j, k = 0 → M' j = fun _ _ => .stuck) (f : Addr) (cdv : Value) (A : Around) (outer : List Env) (s : Shared) (H : Hp) (E : XK) (hr : YG.RoomG k (A.deeper (envOfC "is_number" (defScope st_1) s.heap.objs.size f cdv))) :
    SSs W (cxOf CX0 P w K mg base N_1 "is_number" (defScope st_1) f cdv A outer s H E).nox (defBody st_1) (b_1 W M M') := by
  unfold b_1
  exact (sss_one (ss_ret (se_and (se_callD D.d_0 hr (by rfl) T.m_is_whole (sa_cons (se_name (i := 0) rfl (by first | exact Or.inl rfl | exact Or.inr (Or.inl rfl) | exact Or.inr (Or.inr rfl))) sa_nil)) (se_and (se_cmp op_le ok_inb (se_name (i := 1) rfl (by first | exact Or.inl rfl | exact Or.inr (Or.inl rfl) | exact Or.inr (Or.inr rfl))) (se_name (i := 0) rfl (by first | exact Or.inl rfl | exact Or.inr (Or.inl rfl) | exact Or.inr (Or.inr rfl))) (nomark _)) (se_one (se_or (se_cmp op_isN ok_is (se_name (i := 2) rfl (by first | exact Or.inl rfl | exact Or.inr (Or.inl rfl) | exact Or.inr (Or.inr rfl))) se_none (nomark _)) (se_one (se_cmp op_le ok_inb (se_name (i := 0) rfl (by first | exact Or.inl rfl | exact Or.inr (Or.inl rfl) | exact Or.inr (Or.inr rfl))) (se_name (i := 2) rfl (by first | exact Or.inl rfl | exact Or.inr (Or.inl rfl) | exact Or.inr (Or.inr rfl))) (nomark _)))))))))

theorem ok_2 (T : Txt W w K mg) (D : Lvl W P w K mg base k M) (D' : Lvl W P w K mg base (k - 1) M') (h0 : ∀ j, k = 0 → M' j = fun _ _ => .stuck) (f : Addr) (cdv : Value) (A : Around) (outer : List Env) (s : Shared) (H : Hp) (E : XK) (hr : YG.RoomG k (A.deeper (envOfC "is_between" (defScope st_2) s.heap.objs.size f cdv))) :
    SSs W (cxOf CX0 P w K mg base N_2 "is_between" (defScope st_2) f cdv A outer s H E).nox (defBody st_2) (b_2 W M M') := by
  unfold b_2
  exact (sss_one (ss_ret (se_and (se_callD D.d_0 hr (by rfl) T.m_is_whole (sa_cons (se_name (i := 0) rfl (by first | exact Or.inl rfl | exact Or.inr (Or.inl rfl) | exact Or.inr (Or.inr rfl))) sa_nil)) (se_one (se_chain op_le op_le ok_inb ok_inb (se_name (i := 1) rfl (by first | exact Or.inl rfl | exact Or.inr (Or.inl rfl) | exact Or.inr (Or.inr rfl))) (se_name (i := 0) rfl (by first | exact Or.inl rfl | exact Or.inr (Or.inl rfl) | exact Or.inr (Or.inr rfl))) (se_name (i := 2) rfl (by first | exact Or.inl rfl | exact Or.inr (Or.inl rfl) | exact Or.inr (Or.inr rfl))))))))

theorem ok_3 (T : Txt W w K mg) (D : Lvl W P w K mg base k M) (D' : Lvl W P w K mg base (k - 1) M') (h0 : ∀ j, k = 0 → M' j = fun _ _ => .stuck) (f : Addr) (cdv : Value) (A : Around) (outer : List Env) (s : Shared) (H : Hp) (E : XK) (hr : YG.RoomG k (A.deeper (envOfC "is_string" (defScope st_3) s.heap.objs.size f cdv))) :
    SSs W (cxOf CX0 P w K mg base N_3 "is_string" (defScope st_3) f cdv A outer s H E).nox (defBody st_3) (b_3 W M M') := by
  unfold b_3
  exact (sss_one (ss_ret (se_isi (by rfl) T.n_isinstance (se_name (i := 0) rfl (by first | exact Or.inl rfl | exact Or.inr (Or.inl rfl) | exact Or.inr (Or.inr rfl))) (by rfl) T.n_str (by decide +kernel))))

theorem ok_4 (T : Txt W w K mg) (D : Lvl W P w K mg base k M) (D' : Lvl W P w K mg base (k - 1) M') (h0 : ∀ j, k = 0 → M' j = fun _ _ => .stuck) (f : Addr) (cdv : Value) (A : Around) (outer : List Env) (s : Shared) (H : Hp) (E : XK) (hr : YG.RoomG k (A.deeper (envOfC "is_tuple_of" (defScope st_4) s.heap.objs.size f cdv))) :
    SSs W (cxOf CX0 P w K mg base N_4 "is_tuple_of" (defScope st_4) f cdv A outer s H E).nox (defBody st_4) (b_4 W M M') := by
  unfold b_4
  exact (sss_one (ss_ret (se_and (se_isi (by rfl) T.n_isinstance (se_name (i := 0) rfl (by first | exact Or.inl rfl | exact Or.inr (Or.inl rfl) | exact Or.inr (Or.inr rfl))) (by rfl) T.n_tuple (by decide +kernel)) (se_one (se_cmp (op_eqY hr.u64) ok_eq (se_callB ok_len call_len (by rfl) T.n_len (by decide +kernel) (sa_cons (se_name (i := 0) rfl (by first | exact Or.inl rfl | exact Or.inr (Or.inl rfl) | exact Or.inr (Or.inr rfl))) sa_nil)) (se_name (i := 1) rfl (by first | exact Or.inl rfl | exact Or.inr (Or.inl rfl) | exact Or.inr (Or.inr rfl))) (nomark _))))))

theorem ok_5 (T : Txt W w K mg) (D : Lvl W P w K mg base k M) (D' : Lvl W P w K mg base (k - 1) M') (h0 : ∀ j, k = 0 → M' j = fun _ _ => .stuck) (f : Addr) (cdv : Value) (A : Around) (outer : List Env) (s : Shared) (H : Hp) (E : XK) (hr : YG.RoomG k (A.deeper (envOfC "is_row" (defScope st_5) s.heap.objs.size f cdv))) :
    SSs W (cxOf CX0 P w K mg base N_5 "is_row" (defScope st_5) f cdv A outer s H E).nox (defBody st_5) (b_5 W M M') := by
  unfold b_5
  exact (sss_one (ss_ret (se_and (se_isi (by rfl) T.n_isinstance (se_name (i := 0) rfl (by first | exact Or.inl rfl | exact Or.inr (Or.inl rfl) | exact Or.inr (Or.inr rfl))) (by rfl) T.n_tuple (by decide +kernel)) (se_one (se_chain op_le op_le ok_inb ok_inb (se_name (i := 1) rfl (by first | exact Or.inl rfl | exact Or.inr (Or.inl rfl) | exact Or.inr (Or.inr rfl))) (se_callB ok_len call_len (by rfl) T.n_len (by decide +kernel) (sa_cons (se_name (i := 0) rfl (by first | exact Or.inl rfl | exact Or.inr (Or.inl rfl) | exact Or.inr (Or.inr rfl))) sa_nil)) (se_name (i := 2) rfl (by first | exact Or.inl rfl | exact Or.inr (Or.inl rfl) | exact Or.inr (Or.inr rfl))))))))

theorem ok_6 (T : Txt W w K mg) (D : Lvl W P w K mg base k M) (D' : Lvl W P w K mg base (k - 1) M') (h0 : ∀ j, k = 0 → M' j = fun _ _ => .stuck) (f : Addr) (cdv : Value) (A : Around) (outer : List Env) (s : Shared) (H : Hp) (E : XK) (hr : YG.RoomG k (A.deeper (envOfC "first_wrong" (defScope st_6) s.heap.objs.size f cdv))) :
    SSs W (cxOf CX0 P w K mg base N_6 "first_wrong" (defScope st_6) f cdv A outer s H E).nox (defBody st_6) (b_6 W M M') := by
  unfold b_6
  exact (sss_cons (ss_for rfl (si_enum (by rfl) T.n_enumerate (sa_cons (se_name (i := 0) rfl (by first | exact Or.inl rfl | exact Or.inr (Or.inl rfl) | exact Or.inr (Or.inr rfl))) sa_nil)) (sg_tup rfl (sgs_cons (sg_name (i := 2) fs_6.nd rfl (by first | exact Or.inl rfl | exact Or.inr rfl)) (sgs_cons (sg_name (i := 3) fs_6.nd rfl (by first | exact Or.inl rfl | exact Or.inr rfl)) sgs_nil))) (sss_one (ss_if (sb_not (sb_val (se_callL (is := [0]) (tab := fun j => M (500 + j)) D.lams hr rfl (by first | exact Or.inl rfl | exact Or.inr (Or.inl rfl) | exact Or.inr (Or.inr rfl)) (sa_cons (se_name (i := 3) rfl (by first | exact Or.inl rfl | exact Or.inr (Or.inl rfl) | exact Or.inr (Or.inr rfl))) (sa_cons (se_slice ok_slc (se_name (i := 0) rfl (by first | exact Or.inl rfl | exact Or.inr (Or.inl rfl) | exact Or.inr (Or.inr rfl))) so_none (so_some (se_name (i := 2) rfl (by first | exact Or.inl rfl | exact Or.inr (Or.inl rfl) | exact Or.inr (Or.inr rfl))))) sa_nil))))) (sss_one (ss_ret (se_name (i := 2) rfl (by first | exact Or.inl rfl | exact Or.inr (Or.inl rfl) | exact Or.inr (Or.inr rfl))))) sss_nil)))
    (sss_one (ss_ret se_none)))

theorem ok_7 (T : Txt W w K mg) (D : Lvl W P w K mg base k M) (D' : Lvl W P w K mg base (k - 1) M') (h0 : ∀ j, k = 0 → M' j = fun _ _ => .stuck) (f : Addr) (cdv : Value) (A : Around) (outer : List Env) (s : Shared) (H : Hp) (E : XK) (hr : YG.RoomG k (A.deeper (envOfC "lowest" (defScope st_7) s.heap.objs.size f cdv))) :
    SSs W (cxOf CX0 P w K mg base N_7 "lowest" (defScope st_7) f cdv A outer s H E).nox (defBody st_7) (b_7 W M M') := by
  unfold b_7
  exact (sss_cons (ss_set (i := 2) fs_7.nd rfl (by first | exact Or.inl rfl | exact Or.inr rfl) (se_if (sb_cmp op_gt ok_inb (se_name (i := 1) rfl (by first | exact Or.inl rfl | exact Or.inr (Or.inl rfl) | exact Or.inr (Or.inr rfl))) se_int (nomark _)) (se_callF ok_gcd cr_gcd (by rfl) T.g_gcd (sa_cons (se_name (i := 0) rfl (by first | exact Or.inl rfl | exact Or.inr (Or.inl rfl) | exact Or.inr (Or.inr rfl))) (sa_cons (se_name (i := 1) rfl (by first | exact Or.inl rfl | exact Or.inr (Or.inl rfl) | exact Or.inr (Or.inr rfl))) sa_nil))) (se_un un_neg ok_neg (se_callF ok_gcd cr_gcd (by rfl) T.g_gcd (sa_cons (se_name (i := 0) rfl (by first | exact Or.inl rfl | exact Or.inr (Or.inl rfl) | exact Or.inr (Or.inr rfl))) (sa_cons (se_name (i := 1) rfl (by first | exact Or.inl rfl | exact Or.inr (Or.inl rfl) | exact Or.inr (Or.inr rfl))) sa_nil))))))
    (sss_one (ss_ret (se_tup (sa_cons (se_bin op_fdivY ok_iniC (se_name (i := 0) rfl (by first | exact Or.inl rfl | exact Or.inr (Or.inl rfl) | exact Or.inr (Or.inr rfl))) (se_name (i := 2) rfl (by first | exact Or.inl rfl | exact Or.inr (Or.inl rfl) | exact Or.inr (Or.inr rfl)))) (sa_cons (se_bin op_fdivY ok_iniC (se_name (i := 1) rfl (by first | exact Or.inl rfl | exact Or.inr (Or.inl rfl) | exact Or.inr (Or.inr rfl))) (se_name (i := 2) rfl (by first | exact Or.inl rfl | exact Or.inr (Or.inl rfl) | exact Or.inr (Or.inr rfl)))) sa_nil))))))

theorem ok_8 (T : Txt W w K mg) (D : Lvl W P w K mg base k M) (D' : Lvl W P w K mg base (k - 1) M') (h0 : ∀ j, k = 0 → M' j = fun _ _ => .stuck) (f : Addr) (cdv : Value) (A : Around) (outer : List Env) (s : Shared) (H : Hp) (E : XK) (hr : YG.RoomG k (A.deeper (envOfC "is_fraction" (defScope st_8) s.heap.objs.size f cdv))) :
    SSs W (cxOf CX0 P w K mg base N_8 "is_fraction" (defScope st_8) f cdv A outer s H E).nox (defBody st_8) (b_8 W M M') := by
  unfold b_8
  exact (sss_cons (ss_if (SW.sb (sw_or (sb_not (sb_val (se_callD D.d_4 hr (by rfl) T.m_is_tuple_of (sa_cons (se_name (i := 0) rfl (by first | exact Or.inl rfl | exact Or.inr (Or.inl rfl) | exact Or.inr (Or.inr rfl))) (sa_cons se_int sa_nil))))) (sw_or (sb_not (sb_val (se_callD D.d_0 hr (by rfl) T.m_is_whole (sa_cons (se_item T.G hr.u1 (se_name (i := 0) rfl (by first | exact Or.inl rfl | exact Or.inr (Or.inl rfl) | exact Or.inr (Or.inr rfl))) se_int) sa_nil)))) (sw_or1 (sb_not (sb_val (se_callD D.d_1_1 hr (by rfl) T.m_is_number (sa_cons (se_item T.G hr.u1 (se_name (i := 0) rfl (by first | exact Or.inl rfl | exact Or.inr (Or.inl rfl) | exact Or.inr (Or.inr rfl))) se_int) (sa_cons se_int sa_nil))))))))) (sss_one (ss_ret se_bool)) sss_nil)
    (sss_one (ss_ret (se_cmp (op_eqY hr.u64) ok_eq (se_callF ok_gcd cr_gcd (by rfl) T.g_gcd (sa_cons (se_item T.G hr.u1 (se_name (i := 0) rfl (by first | exact Or.inl rfl | exact Or.inr (Or.inl rfl) | exact Or.inr (Or.inr rfl))) se_int) (sa_cons (se_item T.G hr.u1 (se_name (i := 0) rfl (by first | exact Or.inl rfl | exact Or.inr (Or.inl rfl) | exact Or.inr (Or.inr rfl))) se_int) sa_nil))) se_int (nomark _)))))

theorem ok_9 (T : Txt W w K mg) (D : Lvl W P w K mg base k M) (D' : Lvl W P w K mg base (k - 1) M') (h0 : ∀ j, k = 0 → M' j = fun _ _ => .stuck) (f : Addr) (cdv : Value) (A : Around) (outer : List Env) (s : Shared) (H : Hp) (E : XK) (hr : YG.RoomG k (A.deeper (envOfC "plus" (defScope st_9) s.heap.objs.size f cdv))) :
    SSs W (cxOf CX0 P w K mg base N_9 "plus" (defScope st_9) f cdv A outer s H E).nox (defBody st_9) (b_9 W M M') := by
  unfold b_9
  exact (sss_one (ss_ret (se_callD D.d_7 hr (by rfl) T.m_lowest (sa_cons (se_bin op_addY ok_add (se_bin op_mulA ok_mul (se_item T.G hr.u1 (se_name (i := 0) rfl (by first | exact Or.inl rfl | exact Or.inr (Or.inl rfl) | exact Or.inr (Or.inr rfl))) se_int) (se_item T.G hr.u1 (se_name (i := 1) rfl (by first | exact Or.inl rfl | exact Or.inr (Or.inl rfl) | exact Or.inr (Or.inr rfl))) se_int)) (se_bin op_mulA ok_mul (se_item T.G hr.u1 (se_name (i := 1) rfl (by first | exact Or.inl rfl | exact Or.inr (Or.inl rfl) | exact Or.inr (Or.inr rfl))) se_int) (se_item T.G hr.u1 (se_name (i := 0) rfl (by first | exact Or.inl rfl | exact Or.inr (Or.inl rfl) | exact Or.inr (Or.inr rfl))) se_int))) (sa_cons (se_bin op_mulA ok_mul (se_item T.G hr.u1 (se_name (i := 0) rfl (by first | exact Or.inl rfl | exact Or.inr (Or.inl rfl) | exact Or.inr (Or.inr rfl))) se_int) (se_item T.G hr.u1 (se_name (i := 1) rfl (by first | exact Or.inl rfl | exact Or.inr (Or.inl rfl) | exact Or.inr (Or.inr rfl))) se_int)) sa_nil)))))

theorem ok_10 (T : Txt W w K mg) (D : Lvl W P w K mg base k M) (D' : Lvl W P w K mg base (k - 1) M') (h0 : ∀ j, k = 0 → M' j = fun _ _ => .stuck) (f : Addr) (cdv : Value) (A : Around) (outer : List Env) (s : Shared) (H : Hp) (E : XK) (hr : YG.RoomG k (A.deeper (envOfC "less_by" (defScope st_10) s.heap.objs.size f cdv))) :
    SSs W (cxOf CX0 P w K mg base N_10 "less_by" (defScope st_10) f cdv A outer s H E).nox (defBody st_10) (b_10 W M M') := by
  unfold b_10
  exact (sss_one (ss_ret (se_callD D.d_7 hr (by rfl) T.m_lowest (sa_cons (se_bin op_subY ok_sub (se_bin op_mulA ok_mul (se_item T.G hr.u1 (se_name (i := 0) rfl (by first | exact Or.inl rfl | exact Or.inr (Or.inl rfl) | exact Or.inr (Or.inr rfl))) se_int) (se_item T.G hr.u1 (se_name (i := 1) rfl (by first | exact Or.inl rfl | exact Or.inr (Or.inl rfl) | exact Or.inr (Or.inr rfl))) se_int)) (se_bin op_mulA ok_mul (se_item T.G hr.u1 (se_name (i := 1) rfl (by first | exact Or.inl rfl | exact Or.inr (Or.inl rfl) | exact Or.inr (Or.inr rfl))) se_int) (se_item T.G hr.u1 (se_name (i := 0) rfl (by first | exact Or.inl rfl | exact Or.inr (Or.inl rfl) | exact Or.inr (Or.inr rfl))) se_int))) (sa_cons (se_bin op_mulA ok_mul (se_item T.G hr.u1 (se_name (i := 0) rfl (by first | exact Or.inl rfl | exact Or.inr (Or.inl rfl) | exact Or.inr (Or.inr rfl))) se_int) (se_item T.G hr.u1 (se_name (i := 1) rfl (by first | exact Or.inl rfl | exact Or.inr (Or.inl rfl) | exact Or.inr (Or.inr rfl))) se_int)) sa_nil)))))

theorem ok_11 (T : Txt W w K mg) (D : Lvl W P w K mg base k M) (D' : Lvl W P w K mg base (k - 1) M') (h0 : ∀ j, k = 0 → M' j = fun _ _ => .stuck) (f : Addr) (cdv : Value) (A : Around) (outer : List Env) (s : Shared) (H : Hp) (E : XK) (hr : YG.RoomG k (A.deeper (envOfC "times" (defScope st_11) s.heap.objs.size f cdv))) :
    SSs W (cxOf CX0 P w K mg base N_11 "times" (defScope st_11) f cdv A outer s H E).nox (defBody st_11) (b_11 W M M') := by
  unfold b_11
  exact (sss_one (ss_ret (se_callD D.d_7 hr (by rfl) T.m_lowest (sa_cons (se_bin op_mulA ok_mul (se_item T.G hr.u1 (se_name (i := 0) rfl (by first | exact Or.inl rfl | exact Or.inr (Or.inl rfl) | exact Or.inr (Or.inr rfl))) se_int) (se_item T.G hr.u1 (se_name (i := 1) rfl (by first | exact Or.inl rfl | exact Or.inr (Or.inl rfl) | exact Or.inr (Or.inr rfl))) se_int)) (sa_cons (se_bin op_mulA ok_mul (se_item T.G hr.u1 (se_name (i := 0) rfl (by first | exact Or.inl rfl | exact Or.inr (Or.inl rfl) | exact Or.inr (Or.inr rfl))) se_int) (se_item T.G hr.u1 (se_name (i := 1) rfl (by first | exact Or.inl rfl | exact Or.inr (Or.inl rfl) | exact Or.inr (Or.inr rfl))) se_int)) sa_nil)))))

theorem ok_12 (T : Txt W w K mg) (D : Lvl W P w K mg base k M) (D' : Lvl W P w K mg base (k - 1) M') (h0 : ∀ j, k = 0 → M' j = fun _ _ => .stuck) (f : Addr) (cdv : Value) (A : Around) (outer : List Env) (s : Shared) (H : Hp) (E : XK) (hr : YG.RoomG k (A.deeper (envOfC "is_less" (defScope st_12) s.heap.objs.size f cdv))) :
    SSs W (cxOf CX0 P w K mg base N_12 "is_less" (defScope st_12) f cdv A outer s H E).nox (defBody st_12) (b_12 W M M') := by
  unfold b_12
  exact (sss_one (ss_ret (se_cmp op_lt ok_inb (se_bin op_mulA ok_mul (se_item T.G hr.u1 (se_name (i := 0) rfl (by first | exact Or.inl rfl | exact Or.inr (Or.inl rfl) | exact Or.inr (Or.inr rfl))) se_int) (se_item T.G hr.u1 (se_name (i := 1) rfl (by first | exact Or.inl rfl | exact Or.inr (Or.inl rfl) | exact Or.inr (Or.inr rfl))) se_int)) (se_bin op_mulA ok_mul (se_item T.G hr.u1 (se_name (i := 1) rfl (by first | exact Or.inl rfl | exact Or.inr (Or.inl rfl) | exact Or.inr (Or.inr rfl))) se_int) (se_item T.G hr.u1 (se_name (i := 0) rfl (by first | exact Or.inl rfl | exact Or.inr (Or.inl rfl) | exact Or.inr (Or.inr rfl))) se_int)) (nomark _))))

theorem ok_13 (T : Txt W w K mg) (D : Lvl W P w K mg base k M) (D' : Lvl W P w K mg base (k - 1) M') (h0 : ∀ j, k = 0 → M' j = fun _ _ => .stuck) (f : Addr) (cdv : Value) (A : Around) (outer : List Env) (s : Shared) (H : Hp) (E : XK) (hr : YG.RoomG k (A.deeper (envOfC "is_code_row" (defScope st_13) s.heap.objs.size f cdv))) :
    SSs W (cxOf CX0 P w K mg base N_13 "is_code_row" (defScope st_13) f cdv A outer s H E).nox (defBody st_13) (b_13 W M M') := by
  unfold b_13
  exact (sss_cons (ss_if (SW.sb (sw_or (sb_not (sb_val (se_isi (by rfl) T.n_isinstance (se_name (i := 0) rfl (by first | exact Or.inl rfl | exact Or.inr (Or.inl rfl) | exact Or.inr (Or.inr rfl))) (by rfl) T.n_tuple (by decide +kernel)))) (sw_or (sb_cmp (op_eqY hr.u64) ok_eq (se_name (i := 0) rfl (by first | exact Or.inl rfl | exact Or.inr (Or.inl rfl) | exact Or.inr (Or.inr rfl))) (se_tup sa_nil) (nomark _)) (sw_or (sb_not (sb_val (se_callD D.d_3 hr (by rfl) T.m_is_string (sa_cons (se_item T.G hr.u1 (se_name (i := 0) rfl (by first | exact Or.inl rfl | exact Or.inr (Or.inl rfl) | exact Or.inr (Or.inr rfl))) se_int) sa_nil)))) (sw_or1 (sb_cmp (op_ninY hr.u65) (ok_nin T.G) (se_item T.G hr.u1 (se_name (i := 0) rfl (by first | exact Or.inl rfl | exact Or.inr (Or.inl rfl) | exact Or.inr (Or.inr rfl))) se_int) (se_gref (by rfl) T.g_LENGTHS fun _ _ => .kd 0) (by with_unfolding_all rfl))))))) (sss_one (ss_ret se_bool)) sss_nil)
    (sss_cons (ss_if (sb_not (sb_val (se_callD D.d_4 hr (by rfl) T.m_is_tuple_of (sa_cons (se_name (i := 0) rfl (by first | exact Or.inl rfl | exact Or.inr (Or.inl rfl) | exact Or.inr (Or.inr rfl))) (sa_cons (se_item T.G hr.u1 (se_gref (by rfl) T.g_LENGTHS fun _ _ => .kd 0) (se_item T.G hr.u1 (se_name (i := 0) rfl (by first | exact Or.inl rfl | exact Or.inr (Or.inl rfl) | exact Or.inr (Or.inr rfl))) se_int)) sa_nil))))) (sss_one (ss_ret se_bool)) sss_nil)
    (sss_cons (ss_if (sb_cmp (op_inY hr.u65) (ok_in T.G) (se_item T.G hr.u1 (se_name (i := 0) rfl (by first | exact Or.inl rfl | exact Or.inr (Or.inl rfl) | exact Or.inr (Or.inr rfl))) se_int) (se_tup (sa_cons se_str (sa_cons se_str sa_nil))) (by with_unfolding_all rfl)) (sss_one (ss_ret (se_callD D.d_8 hr (by rfl) T.m_is_fraction (sa_cons (se_slice ok_slc (se_name (i := 0) rfl (by first | exact Or.inl rfl | exact Or.inr (Or.inl rfl) | exact Or.inr (Or.inr rfl))) (so_some se_int) so_none) sa_nil)))) sss_nil)
    (sss_cons (ss_if (sb_cmp (op_inY hr.u65) (ok_in T.G) (se_item T.G hr.u1 (se_name (i := 0) rfl (by first | exact Or.inl rfl | exact Or.inr (Or.inl rfl) | exact Or.inr (Or.inr rfl))) se_int) (se_tup (sa_cons se_str (sa_cons se_str sa_nil))) (by with_unfolding_all rfl)) (sss_one (ss_ret (se_callD D.d_2 hr (by rfl) T.m_is_between (sa_cons (se_item T.G hr.u1 (se_name (i := 0) rfl (by first | exact Or.inl rfl | exact Or.inr (Or.inl rfl) | exact Or.inr (Or.inr rfl))) se_int) (sa_cons se_int (sa_cons (se_gint (by rfl) T.g_MOST_CELL) sa_nil)))))) sss_nil)
    (sss_cons (ss_if (sb_cmp (op_eqY hr.u64) ok_eq (se_item T.G hr.u1 (se_name (i := 0) rfl (by first | exact Or.inl rfl | exact Or.inr (Or.inl rfl) | exact Or.inr (Or.inr rfl))) se_int) se_str (nomark _)) (sss_one (ss_ret (se_callD D.d_2 hr (by rfl) T.m_is_between (sa_cons (se_item T.G hr.u1 (se_name (i := 0) rfl (by first | exact Or.inl rfl | exact Or.inr (Or.inl rfl) | exact Or.inr (Or.inr rfl))) se_int) (sa_cons se_int (sa_cons (se_gint (by rfl) T.g_MOST_DATA) sa_nil)))))) sss_nil)
    (sss_one (ss_ret (se_or (se_cmp (op_ninY hr.u65) (ok_nin T.G) (se_item T.G hr.u1 (se_name (i := 0) rfl (by first | exact Or.inl rfl | exact Or.inr (Or.inl rfl) | exact Or.inr (Or.inr rfl))) se_int) (se_gref (by rfl) T.g_JUMPS fun φ Z => T.r_JUMPS φ Z) (by with_unfolding_all rfl)) (se_one (se_callD D.d_2 hr (by rfl) T.m_is_between (sa_cons (se_item T.G hr.u1 (se_name (i := 0) rfl (by first | exact Or.inl rfl | exact Or.inr (Or.inl rfl) | exact Or.inr (Or.inr rfl))) se_int) (sa_cons se_int (sa_cons (se_gint (by rfl) T.g_MOST_ROWS) sa_nil)))))))))))))

theorem ok_14 (T : Txt W w K mg) (D : Lvl W P w K mg base k M) (D' : Lvl W P w K mg base (k - 1) M') (h0 : ∀ j, k = 0 → M' j = fun _ _ => .stuck) (f : Addr) (cdv : Value) (A : Around) (outer : List Env) (s : Shared) (H : Hp) (E : XK) (hr : YG.RoomG k (A.deeper (envOfC "lead_on" (defScope st_14) s.heap.objs.size f cdv))) :
    SSs W (cxOf CX0 P w K mg base N_14 "lead_on" (defScope st_14) f cdv A outer s H E).nox (defBody st_14) (b_14 W M M') := by
  unfold b_14
  exact (sss_one (ss_ret (se_callB ok_all (cr_all rfl) (by rfl) T.n_all (by decide +kernel) (sa_cons (se_lc rfl fs_14.nd (own := [("at", 1), ("row", 2)]) (blkOk_by (N := N_14) (sc := defScope st_14) (by decide +kernel)) (by decide) (si_enum (by rfl) T.n_enumerate (sa_cons (se_name (i := 0) rfl (by first | exact Or.inl rfl | exact Or.inr (Or.inl rfl) | exact Or.inr (Or.inr rfl))) sa_nil)) (fun _ _ _ _ _ => (sg_tup rfl (sgs_cons (sg_name (i := 1) fs_14.nd rfl (by first | exact Or.inl rfl | exact Or.inr rfl)) (sgs_cons (sg_name (i := 2) fs_14.nd rfl (by first | exact Or.inl rfl | exact Or.inr rfl)) sgs_nil)))) (fun _ _ _ _ _ => sts_nil) (fun _ _ _ _ _ => (se_or (se_cmp (op_ninY hr.u65) (ok_nin T.G) (se_item T.G hr.u1 (se_name (i := 2) rfl (by first | exact Or.inl rfl | exact Or.inr (Or.inl rfl) | exact Or.inr (Or.inr rfl))) se_int) (se_gref (by rfl) T.g_JUMPS fun φ Z => T.r_JUMPS φ Z) (by with_unfolding_all rfl)) (se_one (se_chain op_lt op_le ok_inb ok_inb (se_name (i := 1) rfl (by first | exact Or.inl rfl | exact Or.inr (Or.inl rfl) | exact Or.inr (Or.inr rfl))) (se_item T.G hr.u1 (se_name (i := 2) rfl (by first | exact Or.inl rfl | exact Or.inr (Or.inl rfl) | exact Or.inr (Or.inr rfl))) se_int) (se_callB ok_len call_len (by rfl) T.n_len (by decide +kernel) (sa_cons (se_name (i := 0) rfl (by first | exact Or.inl rfl | exact Or.inr (Or.inl rfl) | exact Or.inr (Or.inr rfl))) sa_nil))))))) sa_nil))))

theorem ok_15 (T : Txt W w K mg) (D : Lvl W P w K mg base k M) (D' : Lvl W P w K mg base (k - 1) M') (h0 : ∀ j, k = 0 → M' j = fun _ _ => .stuck) (f : Addr) (cdv : Value) (A : Around) (outer : List Env) (s : Shared) (H : Hp) (E : XK) (hr : YG.RoomG k (A.deeper (envOfC "next_of" (defScope st_15) s.heap.objs.size f cdv))) :
    SSs W (cxOf CX0 P w K mg base N_15 "next_of" (defScope st_15) f cdv A outer s H E).nox (defBody st_15) (b_15 W M M') := by
  unfold b_15
  exact (sss_cons (ss_set (i := 2) fs_15.nd rfl (by first | exact Or.inl rfl | exact Or.inr rfl) (se_item T.G hr.u1 (se_name (i := 0) rfl (by first | exact Or.inl rfl | exact Or.inr (Or.inl rfl) | exact Or.inr (Or.inr rfl))) (se_name (i := 1) rfl (by first | exact Or.inl rfl | exact Or.inr (Or.inl rfl) | exact Or.inr (Or.inr rfl)))))
    (sss_cons (ss_if (sb_cmp (op_eqY hr.u64) ok_eq (se_item T.G hr.u1 (se_name (i := 2) rfl (by first | exact Or.inl rfl | exact Or.inr (Or.inl rfl) | exact Or.inr (Or.inr rfl))) se_int) se_str (nomark _)) (sss_one (ss_ret (se_lst (sa_cons (se_item T.G hr.u1 (se_name (i := 2) rfl (by first | exact Or.inl rfl | exact Or.inr (Or.inl rfl) | exact Or.inr (Or.inr rfl))) se_int) sa_nil)))) sss_nil)
    (sss_one (ss_ret (se_if (sb_cmp (op_eqY hr.u64) ok_eq (se_item T.G hr.u1 (se_name (i := 2) rfl (by first | exact Or.inl rfl | exact Or.inr (Or.inl rfl) | exact Or.inr (Or.inr rfl))) se_int) se_str (nomark _)) (se_lst (sa_cons (se_bin op_addY ok_add (se_name (i := 1) rfl (by first | exact Or.inl rfl | exact Or.inr (Or.inl rfl) | exact Or.inr (Or.inr rfl))) se_int) (sa_cons (se_item T.G hr.u1 (se_name (i := 2) rfl (by first | exact Or.inl rfl | exact Or.inr (Or.inl rfl) | exact Or.inr (Or.inr rfl))) se_int) sa_nil))) (se_lst (sa_cons (se_bin op_addY ok_add (se_name (i := 1) rfl (by first | exact Or.inl rfl | exact Or.inr (Or.inl rfl) | exact Or.inr (Or.inr rfl))) se_int) sa_nil)))))))

theorem ok_16 (T : Txt W w K mg) (D : Lvl W P w K mg base k M) (D' : Lvl W P w K mg base (k - 1) M') (h0 : ∀ j, k = 0 → M' j = fun _ _ => .stuck) (f : Addr) (cdv : Value) (A : Around) (outer : List Env) (s : Shared) (H : Hp) (E : XK) (hr : YG.RoomG k (A.deeper (envOfC "Ways.__init__" (defScope st_16) s.heap.objs.size f cdv))) :
    SSs W (cxOf CX0 P w K mg base N_16 "Ways.__init__" (defScope st_16) f cdv A outer s H E).nox (defBody st_16) (b_16 W M M') := by
  unfold b_16
  exact (sss_cons (ss_fld T.G (se_name (i := 0) rfl (by first | exact Or.inl rfl | exact Or.inr (Or.inl rfl) | exact Or.inr (Or.inr rfl))) (se_name (i := 1) rfl (by first | exact Or.inl rfl | exact Or.inr (Or.inl rfl) | exact Or.inr (Or.inr rfl))))
    (sss_cons (ss_fld T.G (se_name (i := 0) rfl (by first | exact Or.inl rfl | exact Or.inr (Or.inl rfl) | exact Or.inr (Or.inr rfl))) (se_bin op_addY ok_addC (se_lstC (sa_cons (se_disp (sps_cons se_int se_bool sps_nil)) sa_nil)) (se_lcC rfl fs_16.nd (own := [("row", 3)]) (blkOk_by (N := N_16) (sc := defScope st_16) (by decide +kernel)) (by decide) (si_seq (se_name (i := 1) rfl (by first | exact Or.inl rfl | exact Or.inr (Or.inl rfl) | exact Or.inr (Or.inr rfl)))) (fun _ _ _ _ _ => (sg_name (i := 3) fs_16.nd rfl (by first | exact Or.inl rfl | exact Or.inr rfl))) (fun _ _ _ _ _ => sts_nil) (fun _ _ _ _ _ => se_dic))))
    (sss_cons (ss_fld T.G (se_name (i := 0) rfl (by first | exact Or.inl rfl | exact Or.inr (Or.inl rfl) | exact Or.inr (Or.inr rfl))) (se_bin op_addY ok_addC (se_lstC (sa_cons se_dic sa_nil)) (se_lcC rfl fs_16.nd (own := [("row", 3)]) (blkOk_by (N := N_16) (sc := defScope st_16) (by decide +kernel)) (by decide) (si_seq (se_name (i := 1) rfl (by first | exact Or.inl rfl | exact Or.inr (Or.inl rfl) | exact Or.inr (Or.inr rfl)))) (fun _ _ _ _ _ => (sg_name (i := 3) fs_16.nd rfl (by first | exact Or.inl rfl | exact Or.inr rfl))) (fun _ _ _ _ _ => sts_nil) (fun _ _ _ _ _ => se_none))))
    (sss_cons (ss_fld T.G (se_name (i := 0) rfl (by first | exact Or.inl rfl | exact Or.inr (Or.inl rfl) | exact Or.inr (Or.inr rfl))) se_bool)
    (sss_one (ss_for rfl (si_rng1 (by rfl) T.n_range (sa_cons (se_callB ok_len call_len (by rfl) T.n_len (by decide +kernel) (sa_cons (se_name (i := 1) rfl (by first | exact Or.inl rfl | exact Or.inr (Or.inl rfl) | exact Or.inr (Or.inr rfl))) sa_nil)) sa_nil)) (sg_name (i := 2) fs_16.nd rfl (by first | exact Or.inl rfl | exact Or.inr rfl)) (sss_one (ss_expr (se_methD (se_name (i := 0) rfl (by first | exact Or.inl rfl | exact Or.inr (Or.inl rfl) | exact Or.inr (Or.inr rfl))) T.c_0 T.me_17 D.d_17 hr (sa_cons (se_name (i := 2) rfl (by first | exact Or.inl rfl | exact Or.inr (Or.inl rfl) | exact Or.inr (Or.inr rfl))) sa_nil))))))))))

theorem ok_17 (T : Txt W w K mg) (D : Lvl W P w K mg base k M) (D' : Lvl W P w K mg base (k - 1) M') (h0 : ∀ j, k = 0 → M' j = fun _ _ => .stuck) (f : Addr) (cdv : Value) (A : Around) (outer : List Env) (s : Shared) (H : Hp) (E : XK) (hr : YG.RoomG k (A.deeper (envOfC "Ways.look" (defScope st_17) s.heap.objs.size f cdv))) :
    SSs W (cxOf CX0 P w K mg base N_17 "Ways.look" (defScope st_17) f cdv A outer s H E).nox (defBody st_17) (b_17 W M M') := by
  unfold b_17
  exact (sss_cons (ss_parC (i := 5) (j := 6) rfl (sa_cons (se_item T.G hr.u1 (se_fld T.G (se_name (i := 0) rfl (by first | exact Or.inl rfl | exact Or.inr (Or.inl rfl) | exact Or.inr (Or.inr rfl)))) (se_name (i := 1) rfl (by first | exact Or.inl rfl | exact Or.inr (Or.inl rfl) | exact Or.inr (Or.inr rfl)))) (sa_cons (se_item T.G hr.u1 (se_fld T.G (se_name (i := 0) rfl (by first | exact Or.inl rfl | exact Or.inr (Or.inl rfl) | exact Or.inr (Or.inr rfl)))) (se_name (i := 1) rfl (by first | exact Or.inl rfl | exact Or.inr (Or.inl rfl) | exact Or.inr (Or.inr rfl)))) sa_nil)) (pgs_cons (pg_name fs_17.nd rfl (by first | exact Or.inl rfl | exact Or.inr rfl)) (pgs_cons (pg_name fs_17.nd rfl (by first | exact Or.inl rfl | exact Or.inr rfl)) pgs_nil)))
    (sss_cons (ss_if (sb_cmp (YG.op_eqDN (Nat.lt_of_succ_lt hr.u1)) ok_eqDN (se_name (i := 6) rfl (by first | exact Or.inl rfl | exact Or.inr (Or.inl rfl) | exact Or.inr (Or.inr rfl))) se_dic (nomark _)) (sss_one ss_retN) sss_nil)
    (sss_cons (ss_set (i := 2) fs_17.nd rfl (by first | exact Or.inl rfl | exact Or.inr rfl) (se_item T.G hr.u1 (se_fld T.G (se_name (i := 0) rfl (by first | exact Or.inl rfl | exact Or.inr (Or.inl rfl) | exact Or.inr (Or.inr rfl)))) (se_name (i := 1) rfl (by first | exact Or.inl rfl | exact Or.inr (Or.inl rfl) | exact Or.inr (Or.inr rfl)))))
    (sss_cons (ss_if (SW.sb (sw_or (sb_cmp op_lt ok_inb (se_callB ok_minD (cr_minK rfl) (by rfl) T.n_min (by decide +kernel) (sa_cons (se_name (i := 6) rfl (by first | exact Or.inl rfl | exact Or.inr (Or.inl rfl) | exact Or.inr (Or.inr rfl))) sa_nil)) (se_item T.G hr.u1 (se_gref (by rfl) T.g_TAKES fun _ _ => .kd 1) (se_item T.G hr.u1 (se_name (i := 5) rfl (by first | exact Or.inl rfl | exact Or.inr (Or.inl rfl) | exact Or.inr (Or.inr rfl))) se_int)) (nomark _)) (sw_or1 (SW.sb (sw_and (sb_cmp (op_eqY hr.u64) ok_eq (se_item T.G hr.u1 (se_name (i := 5) rfl (by first | exact Or.inl rfl | exact Or.inr (Or.inl rfl) | exact Or.inr (Or.inr rfl))) se_int) se_str (nomark _)) (sw_and1 (sb_cmp (op_ninY hr.u65) (ok_nin T.G) (se_item T.G hr.u1 (se_name (i := 5) rfl (by first | exact Or.inl rfl | exact Or.inr (Or.inl rfl) | exact Or.inr (Or.inr rfl))) se_int) (se_name (i := 2) rfl (by first | exact Or.inl rfl | exact Or.inr (Or.inl rfl) | exact Or.inr (Or.inr rfl))) (by with_unfolding_all rfl)))))))) (sss_cons (ss_fld T.G (se_name (i := 0) rfl (by first | exact Or.inl rfl | exact Or.inr (Or.inl rfl) | exact Or.inr (Or.inr rfl))) se_bool)
    (sss_one ss_retN)) sss_nil)
    (sss_cons (ss_set (i := 3) fs_17.nd rfl (by first | exact Or.inl rfl | exact Or.inr rfl) (se_callTy (YH.ok_dict T.K2) YH.call_dictY (by rfl) T.n_dict (by decide +kernel) (sa_cons (se_name (i := 2) rfl (by first | exact Or.inl rfl | exact Or.inr (Or.inl rfl) | exact Or.inr (Or.inr rfl))) sa_nil)))
    (sss_cons (ss_if (sb_cmp (op_eqY hr.u64) ok_eq (se_item T.G hr.u1 (se_name (i := 5) rfl (by first | exact Or.inl rfl | exact Or.inr (Or.inl rfl) | exact Or.inr (Or.inr rfl))) se_int) se_str (nomark _)) (sss_one (ss_asgG se_bool (sgg_sub hr.u1 (se_name (i := 3) rfl (by first | exact Or.inl rfl | exact Or.inr (Or.inl rfl) | exact Or.inr (Or.inr rfl))) (se_item T.G hr.u1 (se_name (i := 5) rfl (by first | exact Or.inl rfl | exact Or.inr (Or.inl rfl) | exact Or.inr (Or.inr rfl))) se_int)))) sss_nil)
    (sss_one (ss_for rfl (si_seq (se_callD D.d_15 hr (by rfl) T.m_next_of (sa_cons (se_fld T.G (se_name (i := 0) rfl (by first | exact Or.inl rfl | exact Or.inr (Or.inl rfl) | exact Or.inr (Or.inr rfl)))) (sa_cons (se_name (i := 1) rfl (by first | exact Or.inl rfl | exact Or.inr (Or.inl rfl) | exact Or.inr (Or.inr rfl))) sa_nil)))) (sg_name (i := 4) fs_17.nd rfl (by first | exact Or.inl rfl | exact Or.inr rfl)) (sss_one (ss_expr (se_methD (se_name (i := 0) rfl (by first | exact Or.inl rfl | exact Or.inr (Or.inl rfl) | exact Or.inr (Or.inr rfl))) T.c_0 T.me_18 D.d_18 hr (sa_cons (se_name (i := 4) rfl (by first | exact Or.inl rfl | exact Or.inr (Or.inl rfl) | exact Or.inr (Or.inr rfl))) (sa_cons (se_lc rfl fs_17.nd (own := [("high", 7)]) (blkOk_by (N := N_17) (sc := defScope st_17) (by decide +kernel)) (by decide) (si_seq (se_callB ok_sortD (call_sortedDI rfl) (by rfl) T.n_sorted (by decide +kernel) (sa_cons (se_name (i := 6) rfl (by first | exact Or.inl rfl | exact Or.inr (Or.inl rfl) | exact Or.inr (Or.inr rfl))) sa_nil))) (fun _ _ _ _ _ => (sg_name (i := 7) fs_17.nd rfl (by first | exact Or.inl rfl | exact Or.inr rfl))) (fun _ _ _ _ _ => sts_nil) (fun _ _ _ _ _ => (se_bin op_addY ok_add (se_bin op_subY ok_sub (se_name (i := 7) rfl (by first | exact Or.inl rfl | exact Or.inr (Or.inl rfl) | exact Or.inr (Or.inr rfl))) (se_item T.G hr.u1 (se_gref (by rfl) T.g_TAKES fun _ _ => .kd 1) (se_item T.G hr.u1 (se_name (i := 5) rfl (by first | exact Or.inl rfl | exact Or.inr (Or.inl rfl) | exact Or.inr (Or.inr rfl))) se_int))) (se_item T.G hr.u1 (se_gref (by rfl) T.g_LEAVES fun _ _ => .kd 2) (se_item T.G hr.u1 (se_name (i := 5) rfl (by first | exact Or.inl rfl | exact Or.inr (Or.inl rfl) | exact Or.inr (Or.inr rfl))) se_int))))) (sa_cons (se_name (i := 3) rfl (by first | exact Or.inl rfl | exact Or.inr (Or.inl rfl) | exact Or.inr (Or.inr rfl))) sa_nil))))))))))))))

theorem ok_18 (T : Txt W w K mg) (D : Lvl W P w K mg base k M) (D' : Lvl W P w K mg base (k - 1) M') (h0 : ∀ j, k = 0 → M' j = fun _ _ => .stuck) (f : Addr) (cdv : Value) (A : Around) (outer : List Env) (s : Shared) (H : Hp) (E : XK) (hr : YG.RoomG k (A.deeper (envOfC "Ways.lead" (defScope st_18) s.heap.objs.size f cdv))) :
    SSs W (cxOf CX0 P w K mg base N_18 "Ways.lead" (defScope st_18) f cdv A outer s H E).nox (defBody st_18) (b_18 W M M') := by
  unfold b_18
  exact (sss_cons (ss_for rfl (si_seq (se_name (i := 2) rfl (by first | exact Or.inl rfl | exact Or.inr (Or.inl rfl) | exact Or.inr (Or.inr rfl)))) (sg_name (i := 4) fs_18.nd rfl (by first | exact Or.inl rfl | exact Or.inr rfl)) (sss_one (ss_asgG se_bool (sgg_sub hr.u1 (se_item T.G hr.u1 (se_fld T.G (se_name (i := 0) rfl (by first | exact Or.inl rfl | exact Or.inr (Or.inl rfl) | exact Or.inr (Or.inr rfl)))) (se_name (i := 1) rfl (by first | exact Or.inl rfl | exact Or.inr (Or.inl rfl) | exact Or.inr (Or.inr rfl)))) (se_name (i := 4) rfl (by first | exact Or.inl rfl | exact Or.inr (Or.inl rfl) | exact Or.inr (Or.inr rfl)))))))
    (sss_cons (ss_set (i := 5) fs_18.nd rfl (by first | exact Or.inl rfl | exact Or.inr rfl) (se_item T.G hr.u1 (se_fld T.G (se_name (i := 0) rfl (by first | exact Or.inl rfl | exact Or.inr (Or.inl rfl) | exact Or.inr (Or.inr rfl)))) (se_name (i := 1) rfl (by first | exact Or.inl rfl | exact Or.inr (Or.inl rfl) | exact Or.inr (Or.inr rfl)))))
    (sss_one (ss_asgG (se_if (sb_cmp op_isN ok_is (se_name (i := 5) rfl (by first | exact Or.inl rfl | exact Or.inr (Or.inl rfl) | exact Or.inr (Or.inr rfl))) se_none (nomark _)) (se_callTy (YH.ok_dict T.K2) YH.call_dictY (by rfl) T.n_dict (by decide +kernel) (sa_cons (se_name (i := 3) rfl (by first | exact Or.inl rfl | exact Or.inr (Or.inl rfl) | exact Or.inr (Or.inr rfl))) sa_nil)) (se_dcKK (v := 6) (i := 5) (j := 3) (own := [("cell", 6)]) rfl fs_18.nd (blkOk_by (N := N_18) (sc := defScope st_18) (by decide +kernel)) rfl (by decide) (by decide) (pe_var rfl (by first | exact Or.inl rfl | exact Or.inr (Or.inl rfl) | exact Or.inr (Or.inr rfl)) (by decide +kernel) (by decide +kernel)) (fun _ _ _ _ _ => pg_name fs_18.nd rfl (by first | exact Or.inl rfl | exact Or.inr rfl)) (fun _ _ _ _ _ => pts_one (pt_cmpR (op_inY hr.u65) (pe_var rfl (by first | exact Or.inl rfl | exact Or.inr (Or.inl rfl) | exact Or.inr (Or.inr rfl)) (by decide +kernel) (by decide +kernel)) (pe_var rfl (by first | exact Or.inl rfl | exact Or.inr (Or.inl rfl) | exact Or.inr (Or.inr rfl)) (by decide +kernel) (by decide +kernel)) (by with_unfolding_all rfl))) (fun _ _ _ _ _ => pe_var rfl (by first | exact Or.inl rfl | exact Or.inr (Or.inl rfl) | exact Or.inr (Or.inr rfl)) (by decide +kernel) (by decide +kernel)) (fun _ _ _ _ _ => pe_bl))) (sgg_sub hr.u1 (se_fld T.G (se_name (i := 0) rfl (by first | exact Or.inl rfl | exact Or.inr (Or.inl rfl) | exact Or.inr (Or.inr rfl)))) (se_name (i := 1) rfl (by first | exact Or.inl rfl | exact Or.inr (Or.inl rfl) | exact Or.inr (Or.inr rfl))))))))

theorem ok_19 (T : Txt W w K mg) (D : Lvl W P w K mg base k M) (D' : Lvl W P w K mg base (k - 1) M') (h0 : ∀ j, k = 0 → M' j = fun _ _ => .stuck) (f : Addr) (cdv : Value) (A : Around) (outer : List Env) (s : Shared) (H : Hp) (E : XK) (hr : YG.RoomG k (A.deeper (envOfC "stands_well" (defScope st_19) s.heap.objs.size f cdv))) :
    SSs W (cxOf CX0 P w K mg base N_19 "stands_well" (defScope st_19) f cdv A outer s H E).nox (defBody st_19) (b_19 W M M') := by
  unfold b_19
  exact (sss_cons (ss_set (i := 1) fs_19.nd rfl (by first | exact Or.inl rfl | exact Or.inr rfl) (se_makeD T.mk_0 D'.d_16 (h0 _) hr (by rfl) T.k_0 (sa_cons (se_name (i := 0) rfl (by first | exact Or.inl rfl | exact Or.inr (Or.inl rfl) | exact Or.inr (Or.inr rfl))) sa_nil)))
    (sss_one (ss_ret (se_and (se_fld T.G (se_name (i := 1) rfl (by first | exact Or.inl rfl | exact Or.inr (Or.inl rfl) | exact Or.inr (Or.inr rfl)))) (se_one (se_cmp (op_eqY hr.u64) ok_eq (se_callB ok_sortD (call_sortedDI rfl) (by rfl) T.n_sorted (by decide +kernel) (sa_cons (se_item T.G hr.u1 (se_fld T.G (se_name (i := 1) rfl (by first | exact Or.inl rfl | exact Or.inr (Or.inl rfl) | exact Or.inr (Or.inr rfl)))) (se_un un_neg ok_neg se_int)) sa_nil)) (se_lst (sa_cons se_int sa_nil)) (nomark _)))))))

theorem ok_20 (T : Txt W w K mg) (D : Lvl W P w K mg base k M) (D' : Lvl W P w K mg base (k - 1) M') (h0 : ∀ j, k = 0 → M' j = fun _ _ => .stuck) (f : Addr) (cdv : Value) (A : Around) (outer : List Env) (s : Shared) (H : Hp) (E : XK) (hr : YG.RoomG k (A.deeper (envOfC "is_code" (defScope st_20) s.heap.objs.size f cdv))) (hcd : cdv = .ref (YG.cdOf K (W.fad 20))) :
    SSs W (cxOf CX0 P w K mg base N_20 "is_code" (defScope st_20) f cdv A outer s H E).nox (defBody st_20) (b_20 W M M') := by
  unfold b_20
  exact (sss_cons (ss_if (SW.sb (sw_or (sb_not (sb_val (se_callD D.d_5 hr (by rfl) T.m_is_row (sa_cons (se_name (i := 0) rfl (by first | exact Or.inl rfl | exact Or.inr (Or.inl rfl) | exact Or.inr (Or.inr rfl))) (sa_cons se_int (sa_cons (se_gint (by rfl) T.g_MOST_ROWS) sa_nil)))))) (sw_or1 (sb_cmp op_notN ok_isnt (se_callD D.d_6 hr (by rfl) T.m_first_wrong (sa_cons (se_name (i := 0) rfl (by first | exact Or.inl rfl | exact Or.inr (Or.inl rfl) | exact Or.inr (Or.inr rfl))) (sa_cons (se_lam (i := 0) D.tb_0 hcd T.lam_0 (by rw [T.tbs]; exact List.mem_cons_self) (fun p hp _ => by rw [T.tbs] at hp; cases (List.mem_singleton.mp hp); rfl) rfl (by decide)) sa_nil))) se_none (nomark _))))) (sss_one (ss_ret se_bool)) sss_nil)
    (sss_one (ss_ret (se_and (se_callD D.d_14 hr (by rfl) T.m_lead_on (sa_cons (se_name (i := 0) rfl (by first | exact Or.inl rfl | exact Or.inr (Or.inl rfl) | exact Or.inr (Or.inr rfl))) sa_nil)) (se_one (se_callD D.d_19 hr (by rfl) T.m_stands_well (sa_cons (se_name (i := 0) rfl (by first | exact Or.inl rfl | exact Or.inr (Or.inl rfl) | exact Or.inr (Or.inr rfl))) sa_nil)))))))

theorem ok_21 (T : Txt W w K mg) (D : Lvl W P w K mg base k M) (D' : Lvl W P w K mg base (k - 1) M') (h0 : ∀ j, k = 0 → M' j = fun _ _ => .stuck) (f : Addr) (cdv : Value) (A : Around) (outer : List Env) (s : Shared) (H : Hp) (E : XK) (hr : YG.RoomG k (A.deeper (envOfC "are_numbers" (defScope st_21) s.heap.objs.size f cdv))) :
    SSs W (cxOf CX0 P w K mg base N_21 "are_numbers" (defScope st_21) f cdv A outer s H E).nox (defBody st_21) (b_21 W M M') := by
  unfold b_21
  exact (sss_cons (ss_if (SW.sb (sw_or (sb_not (sb_val (se_isi (by rfl) T.n_isinstance (se_name (i := 1) rfl (by first | exact Or.inl rfl | exact Or.inr (Or.inl rfl) | exact Or.inr (Or.inr rfl))) (by rfl) T.n_tuple (by decide +kernel)))) (sw_or1 (sb_not (sb_val (se_callB ok_all (cr_all rfl) (by rfl) T.n_all (by decide +kernel) (sa_cons (se_lc rfl fs_21.nd (own := [("own", 3)]) (blkOk_by (N := N_21) (sc := defScope st_21) (by decide +kernel)) (by decide) (si_seq (se_name (i := 1) rfl (by first | exact Or.inl rfl | exact Or.inr (Or.inl rfl) | exact Or.inr (Or.inr rfl)))) (fun _ _ _ _ _ => (sg_name (i := 3) fs_21.nd rfl (by first | exact Or.inl rfl | exact Or.inr rfl))) (fun _ _ _ _ _ => sts_nil) (fun _ _ _ _ _ => (se_callD D.d_8 hr (by rfl) T.m_is_fraction (sa_cons (se_name (i := 3) rfl (by first | exact Or.inl rfl | exact Or.inr (Or.inl rfl) | exact Or.inr (Or.inr rfl))) sa_nil)))) sa_nil))))))) (sss_one (ss_ret se_bool)) sss_nil)
    (sss_one (ss_ret (se_callB ok_all (cr_all rfl) (by rfl) T.n_all (by decide +kernel) (sa_cons (se_lc rfl fs_21.nd (own := [("row", 2)]) (blkOk_by (N := N_21) (sc := defScope st_21) (by decide +kernel)) (by decide) (si_seq (se_name (i := 0) rfl (by first | exact Or.inl rfl | exact Or.inr (Or.inl rfl) | exact Or.inr (Or.inr rfl)))) (fun _ _ _ _ _ => (sg_name (i := 2) fs_21.nd rfl (by first | exact Or.inl rfl | exact Or.inr rfl))) (fun _ _ _ _ _ => (sts_one (sb_cmp (op_eqY hr.u64) ok_eq (se_item T.G hr.u1 (se_name (i := 2) rfl (by first | exact Or.inl rfl | exact Or.inr (Or.inl rfl) | exact Or.inr (Or.inr rfl))) se_int) se_str (nomark _)))) (fun _ _ _ _ _ => (se_cmp op_lt ok_inb (se_item T.G hr.u1 (se_name (i := 2) rfl (by first | exact Or.inl rfl | exact Or.inr (Or.inl rfl) | exact Or.inr (Or.inr rfl))) se_int) (se_callB ok_len call_len (by rfl) T.n_len (by decide +kernel) (sa_cons (se_name (i := 1) rfl (by first | exact Or.inl rfl | exact Or.inr (Or.inl rfl) | exact Or.inr (Or.inr rfl))) sa_nil)) (nomark _)))) sa_nil)))))

theorem ok_22 (T : Txt W w K mg) (D : Lvl W P w K mg base k M) (D' : Lvl W P w K mg base (k - 1) M') (h0 : ∀ j, k = 0 → M' j = fun _ _ => .stuck) (f : Addr) (cdv : Value) (A : Around) (outer : List Env) (s : Shared) (H : Hp) (E : XK) (hr : YG.RoomG k (A.deeper (envOfC "two_made" (defScope st_22) s.heap.objs.size f cdv))) :
    SSs W (cxOf CX0 P w K mg base N_22 "two_made" (defScope st_22) f cdv A outer s H E).nox (defBody st_22) (b_22 W M M') := by
  unfold b_22
  exact (sss_cons (ss_if (sb_cmp (op_eqY hr.u64) ok_eq (se_item T.G hr.u1 (se_name (i := 0) rfl (by first | exact Or.inl rfl | exact Or.inr (Or.inl rfl) | exact Or.inr (Or.inr rfl))) se_int) se_str (nomark _)) (sss_one (ss_ret (se_callD D.d_9 hr (by rfl) T.m_plus (sa_cons (se_name (i := 1) rfl (by first | exact Or.inl rfl | exact Or.inr (Or.inl rfl) | exact Or.inr (Or.inr rfl))) (sa_cons (se_name (i := 2) rfl (by first | exact Or.inl rfl | exact Or.inr (Or.inl rfl) | exact Or.inr (Or.inr rfl))) sa_nil))))) sss_nil)
    (sss_cons (ss_if (sb_cmp (op_eqY hr.u64) ok_eq (se_item T.G hr.u1 (se_name (i := 0) rfl (by first | exact Or.inl rfl | exact Or.inr (Or.inl rfl) | exact Or.inr (Or.inr rfl))) se_int) se_str (nomark _)) (sss_one (ss_ret (se_callD D.d_10 hr (by rfl) T.m_less_by (sa_cons (se_name (i := 1) rfl (by first | exact Or.inl rfl | exact Or.inr (Or.inl rfl) | exact Or.inr (Or.inr rfl))) (sa_cons (se_name (i := 2) rfl (by first | exact Or.inl rfl | exact Or.inr (Or.inl rfl) | exact Or.inr (Or.inr rfl))) sa_nil))))) sss_nil)
    (sss_cons (ss_set (i := 3) fs_22.nd rfl (by first | exact Or.inl rfl | exact Or.inr rfl) (se_if (sb_cmp (op_eqY hr.u64) ok_eq (se_item T.G hr.u1 (se_name (i := 0) rfl (by first | exact Or.inl rfl | exact Or.inr (Or.inl rfl) | exact Or.inr (Or.inr rfl))) se_int) se_str (nomark _)) (se_callD D.d_12 hr (by rfl) T.m_is_less (sa_cons (se_name (i := 1) rfl (by first | exact Or.inl rfl | exact Or.inr (Or.inl rfl) | exact Or.inr (Or.inr rfl))) (sa_cons (se_name (i := 2) rfl (by first | exact Or.inl rfl | exact Or.inr (Or.inl rfl) | exact Or.inr (Or.inr rfl))) sa_nil))) (se_cmp (op_eqY hr.u64) ok_eq (se_name (i := 1) rfl (by first | exact Or.inl rfl | exact Or.inr (Or.inl rfl) | exact Or.inr (Or.inr rfl))) (se_name (i := 2) rfl (by first | exact Or.inl rfl | exact Or.inr (Or.inl rfl) | exact Or.inr (Or.inr rfl))) (nomark _))))
    (sss_one (ss_ret (se_if (sb_val (se_name (i := 3) rfl (by first | exact Or.inl rfl | exact Or.inr (Or.inl rfl) | exact Or.inr (Or.inr rfl)))) (se_gref (by rfl) T.g_ONE fun φ Z => T.r_ONE φ Z) (se_gref (by rfl) T.g_ZERO fun φ Z => T.r_ZERO φ Z)))))))

theorem ok_23 (T : Txt W w K mg) (D : Lvl W P w K mg base k M) (D' : Lvl W P w K mg base (k - 1) M') (h0 : ∀ j, k = 0 → M' j = fun _ _ => .stuck) (f : Addr) (cdv : Value) (A : Around) (outer : List Env) (s : Shared) (H : Hp) (E : XK) (hr : YG.RoomG k (A.deeper (envOfC "left_by" (defScope st_23) s.heap.objs.size f cdv))) :
    SSs W (cxOf CX0 P w K mg base N_23 "left_by" (defScope st_23) f cdv A outer s H E).nox (defBody st_23) (b_23 W M M') := by
  unfold b_23
  exact (sss_cons (ss_if (sb_cmp (op_eqY hr.u64) ok_eq (se_item T.G hr.u1 (se_name (i := 0) rfl (by first | exact Or.inl rfl | exact Or.inr (Or.inl rfl) | exact Or.inr (Or.inr rfl))) se_int) se_str (nomark _)) (sss_one (ss_ret (se_slice ok_slc (se_name (i := 0) rfl (by first | exact Or.inl rfl | exact Or.inr (Or.inl rfl) | exact Or.inr (Or.inr rfl))) (so_some se_int) so_none))) sss_nil)
    (sss_cons (ss_if (sb_cmp (op_eqY hr.u64) ok_eq (se_item T.G hr.u1 (se_name (i := 0) rfl (by first | exact Or.inl rfl | exact Or.inr (Or.inl rfl) | exact Or.inr (Or.inr rfl))) se_int) se_str (nomark _)) (sss_one (ss_ret (se_item T.G hr.u1 (se_name (i := 3) rfl (by first | exact Or.inl rfl | exact Or.inr (Or.inl rfl) | exact Or.inr (Or.inr rfl))) (se_item T.G hr.u1 (se_name (i := 0) rfl (by first | exact Or.inl rfl | exact Or.inr (Or.inl rfl) | exact Or.inr (Or.inr rfl))) se_int)))) sss_nil)
    (sss_cons (ss_if (sb_cmp (op_eqY hr.u64) ok_eq (se_item T.G hr.u1 (se_name (i := 0) rfl (by first | exact Or.inl rfl | exact Or.inr (Or.inl rfl) | exact Or.inr (Or.inr rfl))) se_int) se_str (nomark _)) (sss_one (ss_ret (se_item T.G hr.u1 (se_name (i := 2) rfl (by first | exact Or.inl rfl | exact Or.inr (Or.inl rfl) | exact Or.inr (Or.inr rfl))) (se_item T.G hr.u1 (se_name (i := 0) rfl (by first | exact Or.inl rfl | exact Or.inr (Or.inl rfl) | exact Or.inr (Or.inr rfl))) se_int)))) sss_nil)
    (sss_cons (ss_if (sb_cmp (op_eqY hr.u64) ok_eq (se_item T.G hr.u1 (se_name (i := 0) rfl (by first | exact Or.inl rfl | exact Or.inr (Or.inl rfl) | exact Or.inr (Or.inr rfl))) se_int) se_str (nomark _)) (sss_one (ss_ret (se_callD D.d_11 hr (by rfl) T.m_times (sa_cons (se_item T.G hr.u1 (se_name (i := 1) rfl (by first | exact Or.inl rfl | exact Or.inr (Or.inl rfl) | exact Or.inr (Or.inr rfl))) (se_un un_neg ok_neg se_int)) (sa_cons (se_slice ok_slc (se_name (i := 0) rfl (by first | exact Or.inl rfl | exact Or.inr (Or.inl rfl) | exact Or.inr (Or.inr rfl))) (so_some se_int) so_none) sa_nil))))) sss_nil)
    (sss_cons (ss_if (sb_cmp (op_eqY hr.u64) ok_eq (se_item T.G hr.u1 (se_gref (by rfl) T.g_TAKES fun _ _ => .kd 1) (se_item T.G hr.u1 (se_name (i := 0) rfl (by first | exact Or.inl rfl | exact Or.inr (Or.inl rfl) | exact Or.inr (Or.inr rfl))) se_int)) se_int (nomark _)) (sss_one (ss_ret (se_callD D.d_22 hr (by rfl) T.m_two_made (sa_cons (se_name (i := 0) rfl (by first | exact Or.inl rfl | exact Or.inr (Or.inl rfl) | exact Or.inr (Or.inr rfl))) (sa_cons (se_item T.G hr.u1 (se_name (i := 1) rfl (by first | exact Or.inl rfl | exact Or.inr (Or.inl rfl) | exact Or.inr (Or.inr rfl))) (se_un un_neg ok_neg se_int)) (sa_cons (se_item T.G hr.u1 (se_name (i := 1) rfl (by first | exact Or.inl rfl | exact Or.inr (Or.inl rfl) | exact Or.inr (Or.inr rfl))) (se_un un_neg ok_neg se_int)) sa_nil)))))) sss_nil)
    (sss_one (ss_ret (se_if (sb_cmp (op_neY hr.u64) ok_ne (se_item T.G hr.u1 (se_name (i := 0) rfl (by first | exact Or.inl rfl | exact Or.inr (Or.inl rfl) | exact Or.inr (Or.inr rfl))) se_int) se_str (nomark _)) (se_item T.G hr.u1 (se_name (i := 1) rfl (by first | exact Or.inl rfl | exact Or.inr (Or.inl rfl) | exact Or.inr (Or.inr rfl))) (se_un un_neg ok_neg se_int)) se_none))))))))

theorem ok_24 (T : Txt W w K mg) (D : Lvl W P w K mg base k M) (D' : Lvl W P w K mg base (k - 1) M') (h0 : ∀ j, k = 0 → M' j = fun _ _ => .stuck) (f : Addr) (cdv : Value) (A : Around) (outer : List Env) (s : Shared) (H : Hp) (E : XK) (hr : YG.RoomG k (A.deeper (envOfC "run_by" (defScope st_24) s.heap.objs.size f cdv))) :
    SSs W (cxOf CX0 P w K mg base N_24 "run_by" (defScope st_24) f cdv A outer s H E).nox (defBody st_24) (b_24 W M M') := by
  unfold b_24
  exact (sss_cons (ss_par3 (i := 2) (j := 3) (l := 4) rfl fs_24.nd rfl rfl rfl (by decide) (by decide) (by decide) rfl rfl rfl (sa_cons (se_lstC sa_nil) (sa_cons se_dic (sa_cons se_int sa_nil))))
    (sss_cons (ss_while (sb_cmp op_lt ok_inb (se_name (i := 4) rfl (by first | exact Or.inl rfl | exact Or.inr (Or.inl rfl) | exact Or.inr (Or.inr rfl))) (se_callB ok_len call_len (by rfl) T.n_len (by decide +kernel) (sa_cons (se_name (i := 0) rfl (by first | exact Or.inl rfl | exact Or.inr (Or.inl rfl) | exact Or.inr (Or.inr rfl))) sa_nil)) (nomark _)) (sss_cons (ss_set (i := 5) fs_24.nd rfl (by first | exact Or.inl rfl | exact Or.inr rfl) (se_item T.G hr.u1 (se_name (i := 0) rfl (by first | exact Or.inl rfl | exact Or.inr (Or.inl rfl) | exact Or.inr (Or.inr rfl))) (se_name (i := 4) rfl (by first | exact Or.inl rfl | exact Or.inr (Or.inl rfl) | exact Or.inr (Or.inr rfl)))))
    (sss_cons (ss_set (i := 6) fs_24.nd rfl (by first | exact Or.inl rfl | exact Or.inr rfl) (se_callD D.d_23 hr (by rfl) T.m_left_by (sa_cons (se_name (i := 5) rfl (by first | exact Or.inl rfl | exact Or.inr (Or.inl rfl) | exact Or.inr (Or.inr rfl))) (sa_cons (se_name (i := 2) rfl (by first | exact Or.inl rfl | exact Or.inr (Or.inl rfl) | exact Or.inr (Or.inr rfl))) (sa_cons (se_name (i := 3) rfl (by first | exact Or.inl rfl | exact Or.inr (Or.inl rfl) | exact Or.inr (Or.inr rfl))) (sa_cons (se_name (i := 1) rfl (by first | exact Or.inl rfl | exact Or.inr (Or.inl rfl) | exact Or.inr (Or.inr rfl))) sa_nil))))))
    (sss_cons (ss_for rfl (si_rng1 (by rfl) T.n_range (sa_cons (se_item T.G hr.u1 (se_gref (by rfl) T.g_TAKES fun _ _ => .kd 1) (se_item T.G hr.u1 (se_name (i := 5) rfl (by first | exact Or.inl rfl | exact Or.inr (Or.inl rfl) | exact Or.inr (Or.inr rfl))) se_int)) sa_nil)) (sg_name (i := 7) fs_24.nd rfl (by first | exact Or.inl rfl | exact Or.inr rfl)) (sss_one (ss_expr (se_bm0 PySem.F.plainAttrs_list PySem.F.slot_list_pop PySem.F.type_list_pop mt_pop ok_pop (se_name (i := 2) rfl (by first | exact Or.inl rfl | exact Or.inr (Or.inl rfl) | exact Or.inr (Or.inr rfl)))))))
    (sss_cons (ss_if (sb_cmp (op_eqY hr.u64) ok_eq (se_item T.G hr.u1 (se_name (i := 5) rfl (by first | exact Or.inl rfl | exact Or.inr (Or.inl rfl) | exact Or.inr (Or.inr rfl))) se_int) se_str (nomark _)) (sss_one (ss_asgG (se_name (i := 6) rfl (by first | exact Or.inl rfl | exact Or.inr (Or.inl rfl) | exact Or.inr (Or.inr rfl))) (sgg_sub hr.u1 (se_name (i := 3) rfl (by first | exact Or.inl rfl | exact Or.inr (Or.inl rfl) | exact Or.inr (Or.inr rfl))) (se_item T.G hr.u1 (se_name (i := 5) rfl (by first | exact Or.inl rfl | exact Or.inr (Or.inl rfl) | exact Or.inr (Or.inr rfl))) se_int)))) sss_nil)
    (sss_cons (ss_if (sb_cmp (op_eqY hr.u64) ok_eq (se_item T.G hr.u1 (se_gref (by rfl) T.g_LEAVES fun _ _ => .kd 2) (se_item T.G hr.u1 (se_name (i := 5) rfl (by first | exact Or.inl rfl | exact Or.inr (Or.inl rfl) | exact Or.inr (Or.inr rfl))) se_int)) se_int (nomark _)) (sss_one (ss_expr (se_bm PySem.F.plainAttrs_list PySem.F.slot_list_append PySem.F.type_list_append mt_append ok_append (se_name (i := 2) rfl (by first | exact Or.inl rfl | exact Or.inr (Or.inl rfl) | exact Or.inr (Or.inr rfl))) (sa_cons (se_name (i := 6) rfl (by first | exact Or.inl rfl | exact Or.inr (Or.inl rfl) | exact Or.inr (Or.inr rfl))) sa_nil)))) sss_nil)
    (sss_cons (ss_set (i := 8) fs_24.nd rfl (by first | exact Or.inl rfl | exact Or.inr rfl) (se_or (se_cmp (op_eqY hr.u64) ok_eq (se_item T.G hr.u1 (se_name (i := 5) rfl (by first | exact Or.inl rfl | exact Or.inr (Or.inl rfl) | exact Or.inr (Or.inr rfl))) se_int) se_str (nomark _)) (se_one (se_and (se_cmp (op_eqY hr.u64) ok_eq (se_item T.G hr.u1 (se_name (i := 5) rfl (by first | exact Or.inl rfl | exact Or.inr (Or.inl rfl) | exact Or.inr (Or.inr rfl))) se_int) se_str (nomark _)) (se_one (se_cmp (op_eqY hr.u64) ok_eq (se_name (i := 6) rfl (by first | exact Or.inl rfl | exact Or.inr (Or.inl rfl) | exact Or.inr (Or.inr rfl))) (se_gref (by rfl) T.g_ZERO fun φ Z => T.r_ZERO φ Z) (nomark _)))))))
    (sss_one (ss_set (i := 4) fs_24.nd rfl (by first | exact Or.inl rfl | exact Or.inr rfl) (se_if (sb_val (se_name (i := 8) rfl (by first | exact Or.inl rfl | exact Or.inr (Or.inl rfl) | exact Or.inr (Or.inr rfl)))) (se_item T.G hr.u1 (se_name (i := 5) rfl (by first | exact Or.inl rfl | exact Or.inr (Or.inl rfl) | exact Or.inr (Or.inr rfl))) se_int) (se_bin op_addY ok_add (se_name (i := 4) rfl (by first | exact Or.inl rfl | exact Or.inr (Or.inl rfl) | exact Or.inr (Or.inr rfl))) se_int)))))))))))
    (sss_one (ss_ret (se_item T.G hr.u1 (se_name (i := 2) rfl (by first | exact Or.inl rfl | exact Or.inr (Or.inl rfl) | exact Or.inr (Or.inr rfl))) (se_un un_neg ok_neg se_int))))))

theorem ok_25 (T : Txt W w K mg) (D : Lvl W P w K mg base k M) (D' : Lvl W P w K mg base (k - 1) M') (h0 : ∀ j, k = 0 → M' j = fun _ _ => .stuck) (f : Addr) (cdv : Value) (A : Around) (outer : List Env) (s : Shared) (H : Hp) (E : XK) (hr : YG.RoomG k (A.deeper (envOfC "check_code" (defScope st_25) s.heap.objs.size f cdv))) :
    SSs W (cxOf CX0 P w K mg base N_25 "check_code" (defScope st_25) f cdv A outer s H E).nox (defBody st_25) (b_25 W M M') := by
  unfold b_25
  exact (sss_one (ss_if (sb_not (sb_val (se_callD D.d_20 hr (by rfl) T.m_is_code (sa_cons (se_name (i := 0) rfl (by first | exact Or.inl rfl | exact Or.inr (Or.inl rfl) | exact Or.inr (Or.inr rfl))) sa_nil)))) (sss_one ss_never) sss_nil))

theorem ok_26 (T : Txt W w K mg) (D : Lvl W P w K mg base k M) (D' : Lvl W P w K mg base (k - 1) M') (h0 : ∀ j, k = 0 → M' j = fun _ _ => .stuck) (f : Addr) (cdv : Value) (A : Around) (outer : List Env) (s : Shared) (H : Hp) (E : XK) (hr : YG.RoomG k (A.deeper (envOfC "run" (defScope st_26) s.heap.objs.size f cdv))) :
    SSs W (cxOf CX0 P w K mg base N_26 "run" (defScope st_26) f cdv A outer s H E).nox (defBody st_26) (b_26 W M M') := by
  unfold b_26
  exact (sss_cons (ss_expr (se_callD D.d_25 hr (by rfl) T.m_check_code (sa_cons (se_name (i := 0) rfl (by first | exact Or.inl rfl | exact Or.inr (Or.inl rfl) | exact Or.inr (Or.inr rfl))) sa_nil)))
    (sss_cons (ss_if (sb_not (sb_val (se_callD D.d_21 hr (by rfl) T.m_are_numbers (sa_cons (se_name (i := 0) rfl (by first | exact Or.inl rfl | exact Or.inr (Or.inl rfl) | exact Or.inr (Or.inr rfl))) (sa_cons (se_name (i := 1) rfl (by first | exact Or.inl rfl | exact Or.inr (Or.inl rfl) | exact Or.inr (Or.inr rfl))) sa_nil))))) (sss_one ss_never) sss_nil)
    (sss_one (ss_ret (se_callD D.d_24 hr (by rfl) T.m_run_by (sa_cons (se_name (i := 0) rfl (by first | exact Or.inl rfl | exact Or.inr (Or.inl rfl) | exact Or.inr (Or.inr rfl))) (sa_cons (se_name (i := 1) rfl (by first | exact Or.inl rfl | exact Or.inr (Or.inl rfl) | exact Or.inr (Or.inr rfl))) sa_nil)))))))

theorem ok_27 (T : Txt W w K mg) (D : Lvl W P w K mg base k M) (D' : Lvl W P w K mg base (k - 1) M') (h0 : ∀ j, k = 0 → M' j = fun _ _ => .stuck) (f : Addr) (cdv : Value) (A : Around) (outer : List Env) (s : Shared) (H : Hp) (E : XK) (hr : YG.RoomG k (A.deeper (envOfC "_law_bag" (defScope st_27) s.heap.objs.size f cdv))) :
    SSs W (cxOf CX0 P w K mg base N_27 "_law_bag" (defScope st_27) f cdv A outer s H E).nox (defBody st_27) (b_27 W M M') := by
  unfold b_27
  exact (sss_cons (ss_set (i := 2) fs_27.nd rfl (by first | exact Or.inl rfl | exact Or.inr rfl) (se_bin op_addY ok_add se_int (se_bin op_mulA ok_mul se_int (se_name (i := 1) rfl (by first | exact Or.inl rfl | exact Or.inr (Or.inl rfl) | exact Or.inr (Or.inr rfl))))))
    (sss_cons (ss_for rfl (si_seq (se_slice ok_slc (se_name (i := 0) rfl (by first | exact Or.inl rfl | exact Or.inr (Or.inl rfl) | exact Or.inr (Or.inr rfl))) so_none (so_some se_int))) (sg_name (i := 3) fs_27.nd rfl (by first | exact Or.inl rfl | exact Or.inr rfl)) (sss_one (ss_set (i := 2) fs_27.nd rfl (by first | exact Or.inl rfl | exact Or.inr rfl) (se_bin op_modY ok_iniC (se_callTy ok_int call_intY (by rfl) T.n_int (by decide +kernel) (sa_cons (se_bin op_addY ok_add (se_bin op_addY ok_add (se_bin op_mulA ok_mul (se_name (i := 2) rfl (by first | exact Or.inl rfl | exact Or.inr (Or.inl rfl) | exact Or.inr (Or.inr rfl))) se_int) (se_bin op_modY ok_iniC (se_callTy ok_int call_intY (by rfl) T.n_int (by decide +kernel) (sa_cons (se_name (i := 3) rfl (by first | exact Or.inl rfl | exact Or.inr (Or.inl rfl) | exact Or.inr (Or.inr rfl))) sa_nil)) se_int)) se_int) sa_nil)) se_int))))
    (sss_cons (ss_set (i := 4) fs_27.nd rfl (by first | exact Or.inl rfl | exact Or.inr rfl) (se_if (sb_cmp op_lt ok_inb (se_name (i := 1) rfl (by first | exact Or.inl rfl | exact Or.inr (Or.inl rfl) | exact Or.inr (Or.inr rfl))) (se_callB ok_len call_len (by rfl) T.n_len (by decide +kernel) (sa_cons (se_name (i := 0) rfl (by first | exact Or.inl rfl | exact Or.inr (Or.inl rfl) | exact Or.inr (Or.inr rfl))) sa_nil)) (nomark _)) (se_callTy ok_int call_intY (by rfl) T.n_int (by decide +kernel) (sa_cons (se_item T.G hr.u1 (se_name (i := 0) rfl (by first | exact Or.inl rfl | exact Or.inr (Or.inl rfl) | exact Or.inr (Or.inr rfl))) (se_name (i := 1) rfl (by first | exact Or.inl rfl | exact Or.inr (Or.inl rfl) | exact Or.inr (Or.inr rfl)))) sa_nil)) se_int))
    (sss_cons (ss_set (i := 2) fs_27.nd rfl (by first | exact Or.inl rfl | exact Or.inr rfl) (se_bin op_modY ok_iniC (se_callTy ok_int call_intY (by rfl) T.n_int (by decide +kernel) (sa_cons (se_bin op_addY ok_add (se_bin op_addY ok_add (se_bin op_mulA ok_mul (se_name (i := 2) rfl (by first | exact Or.inl rfl | exact Or.inr (Or.inl rfl) | exact Or.inr (Or.inr rfl))) se_int) (se_bin op_mulA ok_mul (se_bin op_modY ok_iniC (se_callTy ok_int call_intY (by rfl) T.n_int (by decide +kernel) (sa_cons (se_name (i := 4) rfl (by first | exact Or.inl rfl | exact Or.inr (Or.inl rfl) | exact Or.inr (Or.inr rfl))) sa_nil)) se_int) se_int)) se_int) sa_nil)) se_int))
    (sss_cons (ss_set (i := 5) fs_27.nd rfl (by first | exact Or.inl rfl | exact Or.inr rfl) (se_bin op_mulA ok_mul (se_bin op_mulA ok_mul (se_bin op_mulA ok_mul (se_bin op_mulA ok_mul (se_bin op_mulA ok_mul (se_bin op_powY ok_iniC se_int se_int) (se_bin op_powY ok_iniC se_int se_int)) (se_bin op_powY ok_iniC se_int se_int)) (se_bin op_powY ok_iniC se_int se_int)) (se_bin op_powY ok_iniC se_int se_int)) (se_bin op_powY ok_iniC se_int se_int)))
    (sss_one (ss_ret (se_lstC (sa_cons (se_if (SW.sb (sw_or (sb_cmp op_lt ok_inb (se_name (i := 4) rfl (by first | exact Or.inl rfl | exact Or.inr (Or.inl rfl) | exact Or.inr (Or.inr rfl))) se_int (nomark _)) (sw_or1 (sb_cmp op_ge ok_inb (se_name (i := 4) rfl (by first | exact Or.inl rfl | exact Or.inr (Or.inl rfl) | exact Or.inr (Or.inr rfl))) (se_bin op_powY ok_iniC se_int se_int) (nomark _))))) (se_bin op_modY ok_iniC (se_callTy ok_int call_intY (by rfl) T.n_int (by decide +kernel) (sa_cons (se_callB ok_abs call_abs (by rfl) T.n_abs (by decide +kernel) (sa_cons (se_name (i := 4) rfl (by first | exact Or.inl rfl | exact Or.inr (Or.inl rfl) | exact Or.inr (Or.inr rfl))) sa_nil)) sa_nil)) (se_name (i := 5) rfl (by first | exact Or.inl rfl | exact Or.inr (Or.inl rfl) | exact Or.inr (Or.inr rfl)))) se_int) (sa_cons (se_name (i := 2) rfl (by first | exact Or.inl rfl | exact Or.inr (Or.inl rfl) | exact Or.inr (Or.inr rfl))) (sa_cons se_int sa_nil)))))))))))

theorem ok_28 (T : Txt W w K mg) (D : Lvl W P w K mg base k M) (D' : Lvl W P w K mg base (k - 1) M') (h0 : ∀ j, k = 0 → M' j = fun _ _ => .stuck) (f : Addr) (cdv : Value) (A : Around) (outer : List Env) (s : Shared) (H : Hp) (E : XK) (hr : YG.RoomG k (A.deeper (envOfC "_law_take" (defScope st_28) s.heap.objs.size f cdv))) :
    SSs W (cxOf CX0 P w K mg base N_28 "_law_take" (defScope st_28) f cdv A outer s H E).nox (defBody st_28) (b_28 W M M') := by
  unfold b_28
  exact (sss_cons (ss_if (sb_cmp op_gt ok_inb (se_item T.G hr.u1 (se_name (i := 0) rfl (by first | exact Or.inl rfl | exact Or.inr (Or.inl rfl) | exact Or.inr (Or.inr rfl))) se_int) se_int (nomark _)) (sss_cons (ss_asgG (se_callB ok_divmod call_divmodW (by rfl) T.n_divmod (by decide +kernel) (sa_cons (se_item T.G hr.u1 (se_name (i := 0) rfl (by first | exact Or.inl rfl | exact Or.inr (Or.inl rfl) | exact Or.inr (Or.inr rfl))) se_int) (sa_cons (se_name (i := 1) rfl (by first | exact Or.inl rfl | exact Or.inr (Or.inl rfl) | exact Or.inr (Or.inr rfl))) sa_nil))) (sgg_tup rfl (sggs_cons (sgg_sub hr.u1 (se_name (i := 0) rfl (by first | exact Or.inl rfl | exact Or.inr (Or.inl rfl) | exact Or.inr (Or.inr rfl))) se_int) (sggs_cons (sgg_pat (sg_name (i := 2) fs_28.nd rfl (by first | exact Or.inl rfl | exact Or.inr rfl))) sggs_nil))))
    (sss_one (ss_ret (se_name (i := 2) rfl (by first | exact Or.inl rfl | exact Or.inr (Or.inl rfl) | exact Or.inr (Or.inr rfl)))))) sss_nil)
    (sss_cons (ss_asgG (se_bin op_addY ok_add (se_item T.G hr.u1 (se_name (i := 0) rfl (by first | exact Or.inl rfl | exact Or.inr (Or.inl rfl) | exact Or.inr (Or.inr rfl))) se_int) se_int) (sgg_sub hr.u1 (se_name (i := 0) rfl (by first | exact Or.inl rfl | exact Or.inr (Or.inl rfl) | exact Or.inr (Or.inr rfl))) se_int))
    (sss_cons (ss_asgG (se_bin op_modY ok_iniC (se_callTy ok_int call_intY (by rfl) T.n_int (by decide +kernel) (sa_cons (se_bin op_addY ok_add (se_bin op_addY ok_add (se_bin op_mulA ok_mul (se_item T.G hr.u1 (se_name (i := 0) rfl (by first | exact Or.inl rfl | exact Or.inr (Or.inl rfl) | exact Or.inr (Or.inr rfl))) se_int) se_int) (se_bin op_mulA ok_mul se_int (se_item T.G hr.u1 (se_name (i := 0) rfl (by first | exact Or.inl rfl | exact Or.inr (Or.inl rfl) | exact Or.inr (Or.inr rfl))) se_int))) se_int) sa_nil)) se_int) (sgg_sub hr.u1 (se_name (i := 0) rfl (by first | exact Or.inl rfl | exact Or.inr (Or.inl rfl) | exact Or.inr (Or.inr rfl))) se_int))
    (sss_one (ss_ret (se_bin op_modY ok_iniC (se_callTy ok_int call_intY (by rfl) T.n_int (by decide +kernel) (sa_cons (se_bin op_fdivY ok_iniC (se_item T.G hr.u1 (se_name (i := 0) rfl (by first | exact Or.inl rfl | exact Or.inr (Or.inl rfl) | exact Or.inr (Or.inr rfl))) se_int) se_int) sa_nil)) (se_name (i := 1) rfl (by first | exact Or.inl rfl | exact Or.inr (Or.inl rfl) | exact Or.inr (Or.inr rfl)))))))))

theorem ok_29 (T : Txt W w K mg) (D : Lvl W P w K mg base k M) (D' : Lvl W P w K mg base (k - 1) M') (h0 : ∀ j, k = 0 → M' j = fun _ _ => .stuck) (f : Addr) (cdv : Value) (A : Around) (outer : List Env) (s : Shared) (H : Hp) (E : XK) (hr : YG.RoomG k (A.deeper (envOfC "_law_pull" (defScope st_29) s.heap.objs.size f cdv))) :
    SSs W (cxOf CX0 P w K mg base N_29 "_law_pull" (defScope st_29) f cdv A outer s H E).nox (defBody st_29) (b_29 W M M') := by
  unfold b_29
  exact (sss_one (ss_ret (se_item T.G hr.u1 (se_name (i := 1) rfl (by first | exact Or.inl rfl | exact Or.inr (Or.inl rfl) | exact Or.inr (Or.inr rfl))) (se_callD D.d_28 hr (by rfl) T.m__law_take (sa_cons (se_name (i := 0) rfl (by first | exact Or.inl rfl | exact Or.inr (Or.inl rfl) | exact Or.inr (Or.inr rfl))) (sa_cons (se_callB ok_len call_len (by rfl) T.n_len (by decide +kernel) (sa_cons (se_name (i := 1) rfl (by first | exact Or.inl rfl | exact Or.inr (Or.inl rfl) | exact Or.inr (Or.inr rfl))) sa_nil)) sa_nil))))))

theorem ok_30 (T : Txt W w K mg) (D : Lvl W P w K mg base k M) (D' : Lvl W P w K mg base (k - 1) M') (h0 : ∀ j, k = 0 → M' j = fun _ _ => .stuck) (f : Addr) (cdv : Value) (A : Around) (outer : List Env) (s : Shared) (H : Hp) (E : XK) (hr : YG.RoomG k (A.deeper (envOfC "_law_cut" (defScope st_30) s.heap.objs.size f cdv))) :
    SSs W (cxOf CX0 P w K mg base N_30 "_law_cut" (defScope st_30) f cdv A outer s H E).nox (defBody st_30) (b_30 W M M') := by
  unfold b_30
  exact (sss_cons (ss_par (i := 2) (j := 3) rfl fs_30.nd rfl rfl (by decide) rfl rfl (sa_cons (se_callB ok_abs call_abs (by rfl) T.n_abs (by decide +kernel) (sa_cons (se_name (i := 0) rfl (by first | exact Or.inl rfl | exact Or.inr (Or.inl rfl) | exact Or.inr (Or.inr rfl))) sa_nil)) (sa_cons (se_callB ok_abs call_abs (by rfl) T.n_abs (by decide +kernel) (sa_cons (se_name (i := 1) rfl (by first | exact Or.inl rfl | exact Or.inr (Or.inl rfl) | exact Or.inr (Or.inr rfl))) sa_nil)) sa_nil)))
    (sss_cons (ss_while (sb_cmp op_gt ok_inb (se_name (i := 3) rfl (by first | exact Or.inl rfl | exact Or.inr (Or.inl rfl) | exact Or.inr (Or.inr rfl))) se_int (nomark _)) (sss_one (ss_par (i := 2) (j := 3) rfl fs_30.nd rfl rfl (by decide) rfl rfl (sa_cons (se_name (i := 3) rfl (by first | exact Or.inl rfl | exact Or.inr (Or.inl rfl) | exact Or.inr (Or.inr rfl))) (sa_cons (se_bin op_modY ok_iniC (se_callTy ok_int call_intY (by rfl) T.n_int (by decide +kernel) (sa_cons (se_name (i := 2) rfl (by first | exact Or.inl rfl | exact Or.inr (Or.inl rfl) | exact Or.inr (Or.inr rfl))) sa_nil)) (se_name (i := 3) rfl (by first | exact Or.inl rfl | exact Or.inr (Or.inl rfl) | exact Or.inr (Or.inr rfl)))) sa_nil)))))
    (sss_cons (ss_if (sb_cmp (op_eqY hr.u64) ok_eq (se_name (i := 1) rfl (by first | exact Or.inl rfl | exact Or.inr (Or.inl rfl) | exact Or.inr (Or.inr rfl))) se_int (nomark _)) (sss_one (ss_ret se_none)) sss_nil)
    (sss_one (ss_ret (se_if (sb_cmp op_gt ok_inb (se_name (i := 1) rfl (by first | exact Or.inl rfl | exact Or.inr (Or.inl rfl) | exact Or.inr (Or.inr rfl))) se_int (nomark _)) (se_tup (sa_cons (se_bin op_fdivY ok_iniC (se_name (i := 0) rfl (by first | exact Or.inl rfl | exact Or.inr (Or.inl rfl) | exact Or.inr (Or.inr rfl))) (se_name (i := 2) rfl (by first | exact Or.inl rfl | exact Or.inr (Or.inl rfl) | exact Or.inr (Or.inr rfl)))) (sa_cons (se_bin op_fdivY ok_iniC (se_name (i := 1) rfl (by first | exact Or.inl rfl | exact Or.inr (Or.inl rfl) | exact Or.inr (Or.inr rfl))) (se_name (i := 2) rfl (by first | exact Or.inl rfl | exact Or.inr (Or.inl rfl) | exact Or.inr (Or.inr rfl)))) sa_nil))) (se_tup (sa_cons (se_bin op_subY ok_sub se_int (se_bin op_fdivY ok_iniC (se_name (i := 0) rfl (by first | exact Or.inl rfl | exact Or.inr (Or.inl rfl) | exact Or.inr (Or.inr rfl))) (se_name (i := 2) rfl (by first | exact Or.inl rfl | exact Or.inr (Or.inl rfl) | exact Or.inr (Or.inr rfl))))) (sa_cons (se_bin op_subY ok_sub se_int (se_bin op_fdivY ok_iniC (se_name (i := 1) rfl (by first | exact Or.inl rfl | exact Or.inr (Or.inl rfl) | exact Or.inr (Or.inr rfl))) (se_name (i := 2) rfl (by first | exact Or.inl rfl | exact Or.inr (Or.inl rfl) | exact Or.inr (Or.inr rfl))))) sa_nil)))))))))

theorem ok_31 (T : Txt W w K mg) (D : Lvl W P w K mg base k M) (D' : Lvl W P w K mg base (k - 1) M') (h0 : ∀ j, k = 0 → M' j = fun _ _ => .stuck) (f : Addr) (cdv : Value) (A : Around) (outer : List Env) (s : Shared) (H : Hp) (E : XK) (hr : YG.RoomG k (A.deeper (envOfC "_law_plus" (defScope st_31) s.heap.objs.size f cdv))) :
    SSs W (cxOf CX0 P w K mg base N_31 "_law_plus" (defScope st_31) f cdv A outer s H E).nox (defBody st_31) (b_31 W M M') := by
  unfold b_31
  exact (sss_cons (ss_if (SW.sb (sw_or (sb_cmp op_isN ok_is (se_name (i := 0) rfl (by first | exact Or.inl rfl | exact Or.inr (Or.inl rfl) | exact Or.inr (Or.inr rfl))) se_none (nomark _)) (sw_or1 (sb_cmp op_isN ok_is (se_name (i := 1) rfl (by first | exact Or.inl rfl | exact Or.inr (Or.inl rfl) | exact Or.inr (Or.inr rfl))) se_none (nomark _))))) (sss_one (ss_ret se_none)) sss_nil)
    (sss_one (ss_ret (se_callD D.d_30 hr (by rfl) T.m__law_cut (sa_cons (se_bin op_addY ok_add (se_bin op_mulA ok_mul (se_item T.G hr.u1 (se_name (i := 0) rfl (by first | exact Or.inl rfl | exact Or.inr (Or.inl rfl) | exact Or.inr (Or.inr rfl))) se_int) (se_item T.G hr.u1 (se_name (i := 1) rfl (by first | exact Or.inl rfl | exact Or.inr (Or.inl rfl) | exact Or.inr (Or.inr rfl))) se_int)) (se_bin op_mulA ok_mul (se_bin op_mulA ok_mul (se_name (i := 2) rfl (by first | exact Or.inl rfl | exact Or.inr (Or.inl rfl) | exact Or.inr (Or.inr rfl))) (se_item T.G hr.u1 (se_name (i := 1) rfl (by first | exact Or.inl rfl | exact Or.inr (Or.inl rfl) | exact Or.inr (Or.inr rfl))) se_int)) (se_item T.G hr.u1 (se_name (i := 0) rfl (by first | exact Or.inl rfl | exact Or.inr (Or.inl rfl) | exact Or.inr (Or.inr rfl))) se_int))) (sa_cons (se_bin op_mulA ok_mul (se_item T.G hr.u1 (se_name (i := 0) rfl (by first | exact Or.inl rfl | exact Or.inr (Or.inl rfl) | exact Or.inr (Or.inr rfl))) se_int) (se_item T.G hr.u1 (se_name (i := 1) rfl (by first | exact Or.inl rfl | exact Or.inr (Or.inl rfl) | exact Or.inr (Or.inr rfl))) se_int)) sa_nil))))))

theorem ok_32 (T : Txt W w K mg) (D : Lvl W P w K mg base k M) (D' : Lvl W P w K mg base (k - 1) M') (h0 : ∀ j, k = 0 → M' j = fun _ _ => .stuck) (f : Addr) (cdv : Value) (A : Around) (outer : List Env) (s : Shared) (H : Hp) (E : XK) (hr : YG.RoomG k (A.deeper (envOfC "_law_times" (defScope st_32) s.heap.objs.size f cdv))) :
    SSs W (cxOf CX0 P w K mg base N_32 "_law_times" (defScope st_32) f cdv A outer s H E).nox (defBody st_32) (b_32 W M M') := by
  unfold b_32
  exact (sss_one (ss_ret (se_if (SW.sb (sw_or (sb_cmp op_isN ok_is (se_name (i := 0) rfl (by first | exact Or.inl rfl | exact Or.inr (Or.inl rfl) | exact Or.inr (Or.inr rfl))) se_none (nomark _)) (sw_or1 (sb_cmp op_isN ok_is (se_name (i := 1) rfl (by first | exact Or.inl rfl | exact Or.inr (Or.inl rfl) | exact Or.inr (Or.inr rfl))) se_none (nomark _))))) se_none (se_callD D.d_30 hr (by rfl) T.m__law_cut (sa_cons (se_bin op_mulA ok_mul (se_item T.G hr.u1 (se_name (i := 0) rfl (by first | exact Or.inl rfl | exact Or.inr (Or.inl rfl) | exact Or.inr (Or.inr rfl))) se_int) (se_item T.G hr.u1 (se_name (i := 1) rfl (by first | exact Or.inl rfl | exact Or.inr (Or.inl rfl) | exact Or.inr (Or.inr rfl))) se_int)) (sa_cons (se_bin op_mulA ok_mul (se_item T.G hr.u1 (se_name (i := 0) rfl (by first | exact Or.inl rfl | exact Or.inr (Or.inl rfl) | exact Or.inr (Or.inr rfl))) se_int) (se_item T.G hr.u1 (se_name (i := 1) rfl (by first | exact Or.inl rfl | exact Or.inr (Or.inl rfl) | exact Or.inr (Or.inr rfl))) se_int)) sa_nil))))))

theorem ok_33 (T : Txt W w K mg) (D : Lvl W P w K mg base k M) (D' : Lvl W P w K mg base (k - 1) M') (h0 : ∀ j, k = 0 → M' j = fun _ _ => .stuck) (f : Addr) (cdv : Value) (A : Around) (outer : List Env) (s : Shared) (H : Hp) (E : XK) (hr : YG.RoomG k (A.deeper (envOfC "_law_is_less" (defScope st_33) s.heap.objs.size f cdv))) :
    SSs W (cxOf CX0 P w K mg base N_33 "_law_is_less" (defScope st_33) f cdv A outer s H E).nox (defBody st_33) (b_33 W M M') := by
  unfold b_33
  exact (sss_one (ss_ret (se_cmp op_lt ok_inb (se_bin op_mulA ok_mul (se_item T.G hr.u1 (se_name (i := 0) rfl (by first | exact Or.inl rfl | exact Or.inr (Or.inl rfl) | exact Or.inr (Or.inr rfl))) se_int) (se_item T.G hr.u1 (se_name (i := 1) rfl (by first | exact Or.inl rfl | exact Or.inr (Or.inl rfl) | exact Or.inr (Or.inr rfl))) se_int)) (se_bin op_mulA ok_mul (se_item T.G hr.u1 (se_name (i := 1) rfl (by first | exact Or.inl rfl | exact Or.inr (Or.inl rfl) | exact Or.inr (Or.inr rfl))) se_int) (se_item T.G hr.u1 (se_name (i := 0) rfl (by first | exact Or.inl rfl | exact Or.inr (Or.inl rfl) | exact Or.inr (Or.inr rfl))) se_int)) (nomark _))))

theorem ok_34 (T : Txt W w K mg) (D : Lvl W P w K mg base k M) (D' : Lvl W P w K mg base (k - 1) M') (h0 : ∀ j, k = 0 → M' j = fun _ _ => .stuck) (f : Addr) (cdv : Value) (A : Around) (outer : List Env) (s : Shared) (H : Hp) (E : XK) (hr : YG.RoomG k (A.deeper (envOfC "_law_machine" (defScope st_34) s.heap.objs.size f cdv))) :
    SSs W (cxOf CX0 P w K mg base N_34 "_law_machine" (defScope st_34) f cdv A outer s H E).nox (defBody st_34) (b_34 W M M') := by
  unfold b_34
  exact (sss_cons (ss_par3 (i := 2) (j := 3) (l := 4) rfl fs_34.nd rfl rfl rfl (by decide) (by decide) (by decide) rfl rfl rfl (sa_cons (se_lstC sa_nil) (sa_cons se_dic (sa_cons se_int sa_nil))))
    (sss_cons (ss_while (sb_cmp op_lt ok_inb (se_name (i := 4) rfl (by first | exact Or.inl rfl | exact Or.inr (Or.inl rfl) | exact Or.inr (Or.inr rfl))) (se_callB ok_len call_len (by rfl) T.n_len (by decide +kernel) (sa_cons (se_name (i := 0) rfl (by first | exact Or.inl rfl | exact Or.inr (Or.inl rfl) | exact Or.inr (Or.inr rfl))) sa_nil)) (nomark _)) (sss_cons (ss_par (i := 6) (j := 4) rfl fs_34.nd rfl rfl (by decide) rfl rfl (sa_cons (se_item T.G hr.u1 (se_name (i := 0) rfl (by first | exact Or.inl rfl | exact Or.inr (Or.inl rfl) | exact Or.inr (Or.inr rfl))) (se_name (i := 4) rfl (by first | exact Or.inl rfl | exact Or.inr (Or.inl rfl) | exact Or.inr (Or.inr rfl)))) (sa_cons (se_bin op_addY ok_add (se_name (i := 4) rfl (by first | exact Or.inl rfl | exact Or.inr (Or.inl rfl) | exact Or.inr (Or.inr rfl))) se_int) sa_nil)))
    (sss_cons (ss_set (i := 5) fs_34.nd rfl (by first | exact Or.inl rfl | exact Or.inr rfl) (se_item T.G hr.u1 (se_name (i := 6) rfl (by first | exact Or.inl rfl | exact Or.inr (Or.inl rfl) | exact Or.inr (Or.inr rfl))) se_int))
    (sss_one (ss_if (sb_cmp (op_eqY hr.u64) ok_eq (se_name (i := 5) rfl (by first | exact Or.inl rfl | exact Or.inr (Or.inl rfl) | exact Or.inr (Or.inr rfl))) se_str (nomark _)) (sss_one (ss_expr (se_bm PySem.F.plainAttrs_list PySem.F.slot_list_append PySem.F.type_list_append mt_append ok_append (se_name (i := 2) rfl (by first | exact Or.inl rfl | exact Or.inr (Or.inl rfl) | exact Or.inr (Or.inr rfl))) (sa_cons (se_tup (sa_cons (se_item T.G hr.u1 (se_name (i := 6) rfl (by first | exact Or.inl rfl | exact Or.inr (Or.inl rfl) | exact Or.inr (Or.inr rfl))) se_int) (sa_cons (se_item T.G hr.u1 (se_name (i := 6) rfl (by first | exact Or.inl rfl | exact Or.inr (Or.inl rfl) | exact Or.inr (Or.inr rfl))) se_int) sa_nil))) sa_nil)))) (sss_one (ss_if (sb_cmp (op_eqY hr.u64) ok_eq (se_name (i := 5) rfl (by first | exact Or.inl rfl | exact Or.inr (Or.inl rfl) | exact Or.inr (Or.inr rfl))) se_str (nomark _)) (sss_one (ss_expr (se_bm PySem.F.plainAttrs_list PySem.F.slot_list_append PySem.F.type_list_append mt_append ok_append (se_name (i := 2) rfl (by first | exact Or.inl rfl | exact Or.inr (Or.inl rfl) | exact Or.inr (Or.inr rfl))) (sa_cons (se_item T.G hr.u1 (se_name (i := 1) rfl (by first | exact Or.inl rfl | exact Or.inr (Or.inl rfl) | exact Or.inr (Or.inr rfl))) (se_item T.G hr.u1 (se_name (i := 6) rfl (by first | exact Or.inl rfl | exact Or.inr (Or.inl rfl) | exact Or.inr (Or.inr rfl))) se_int)) sa_nil)))) (sss_one (ss_if (sb_cmp (op_eqY hr.u64) ok_eq (se_name (i := 5) rfl (by first | exact Or.inl rfl | exact Or.inr (Or.inl rfl) | exact Or.inr (Or.inr rfl))) se_str (nomark _)) (sss_one (ss_expr (se_bm PySem.F.plainAttrs_list PySem.F.slot_list_append PySem.F.type_list_append mt_append ok_append (se_name (i := 2) rfl (by first | exact Or.inl rfl | exact Or.inr (Or.inl rfl) | exact Or.inr (Or.inr rfl))) (sa_cons (se_item T.G hr.u1 (se_name (i := 3) rfl (by first | exact Or.inl rfl | exact Or.inr (Or.inl rfl) | exact Or.inr (Or.inr rfl))) (se_item T.G hr.u1 (se_name (i := 6) rfl (by first | exact Or.inl rfl | exact Or.inr (Or.inl rfl) | exact Or.inr (Or.inr rfl))) se_int)) sa_nil)))) (sss_one (ss_if (sb_cmp (op_eqY hr.u64) ok_eq (se_name (i := 5) rfl (by first | exact Or.inl rfl | exact Or.inr (Or.inl rfl) | exact Or.inr (Or.inr rfl))) se_str (nomark _)) (sss_one (ss_asgG (se_bm0 PySem.F.plainAttrs_list PySem.F.slot_list_pop PySem.F.type_list_pop mt_pop ok_pop (se_name (i := 2) rfl (by first | exact Or.inl rfl | exact Or.inr (Or.inl rfl) | exact Or.inr (Or.inr rfl)))) (sgg_sub hr.u1 (se_name (i := 3) rfl (by first | exact Or.inl rfl | exact Or.inr (Or.inl rfl) | exact Or.inr (Or.inr rfl))) (se_item T.G hr.u1 (se_name (i := 6) rfl (by first | exact Or.inl rfl | exact Or.inr (Or.inl rfl) | exact Or.inr (Or.inr rfl))) se_int)))) (sss_one (ss_if (sb_cmp (op_eqY hr.u64) ok_eq (se_name (i := 5) rfl (by first | exact Or.inl rfl | exact Or.inr (Or.inl rfl) | exact Or.inr (Or.inr rfl))) se_str (nomark _)) (sss_one (ss_set (i := 4) fs_34.nd rfl (by first | exact Or.inl rfl | exact Or.inr rfl) (se_item T.G hr.u1 (se_name (i := 6) rfl (by first | exact Or.inl rfl | exact Or.inr (Or.inl rfl) | exact Or.inr (Or.inr rfl))) se_int))) (sss_one (ss_if (sb_cmp (op_eqY hr.u64) ok_eq (se_name (i := 5) rfl (by first | exact Or.inl rfl | exact Or.inr (Or.inl rfl) | exact Or.inr (Or.inr rfl))) se_str (nomark _)) (sss_one (ss_set (i := 4) fs_34.nd rfl (by first | exact Or.inl rfl | exact Or.inr rfl) (se_if (sb_cmp (op_eqY hr.u64) ok_eq (se_bm0 PySem.F.plainAttrs_list PySem.F.slot_list_pop PySem.F.type_list_pop mt_pop ok_pop (se_name (i := 2) rfl (by first | exact Or.inl rfl | exact Or.inr (Or.inl rfl) | exact Or.inr (Or.inr rfl)))) (se_tup (sa_cons se_int (sa_cons se_int sa_nil))) (nomark _)) (se_item T.G hr.u1 (se_name (i := 6) rfl (by first | exact Or.inl rfl | exact Or.inr (Or.inl rfl) | exact Or.inr (Or.inr rfl))) se_int) (se_name (i := 4) rfl (by first | exact Or.inl rfl | exact Or.inr (Or.inl rfl) | exact Or.inr (Or.inr rfl)))))) (sss_one (ss_if (sb_cmp (op_eqY hr.u64) ok_eq (se_name (i := 5) rfl (by first | exact Or.inl rfl | exact Or.inr (Or.inl rfl) | exact Or.inr (Or.inr rfl))) se_str (nomark _)) (sss_one (ss_expr (se_bm PySem.F.plainAttrs_list PySem.F.slot_list_append PySem.F.type_list_append mt_append ok_append (se_name (i := 2) rfl (by first | exact Or.inl rfl | exact Or.inr (Or.inl rfl) | exact Or.inr (Or.inr rfl))) (sa_cons (se_callD D.d_32 hr (by rfl) T.m__law_times (sa_cons (se_bm0 PySem.F.plainAttrs_list PySem.F.slot_list_pop PySem.F.type_list_pop mt_pop ok_pop (se_name (i := 2) rfl (by first | exact Or.inl rfl | exact Or.inr (Or.inl rfl) | exact Or.inr (Or.inr rfl)))) (sa_cons (se_tup (sa_cons (se_item T.G hr.u1 (se_name (i := 6) rfl (by first | exact Or.inl rfl | exact Or.inr (Or.inl rfl) | exact Or.inr (Or.inr rfl))) se_int) (sa_cons (se_item T.G hr.u1 (se_name (i := 6) rfl (by first | exact Or.inl rfl | exact Or.inr (Or.inl rfl) | exact Or.inr (Or.inr rfl))) se_int) sa_nil))) sa_nil))) sa_nil)))) (sss_cons (ss_set (i := 7) fs_34.nd rfl (by first | exact Or.inl rfl | exact Or.inr rfl) (se_bm0 PySem.F.plainAttrs_list PySem.F.slot_list_pop PySem.F.type_list_pop mt_pop ok_pop (se_name (i := 2) rfl (by first | exact Or.inl rfl | exact Or.inr (Or.inl rfl) | exact Or.inr (Or.inr rfl)))))
    (sss_cons (ss_set (i := 8) fs_34.nd rfl (by first | exact Or.inl rfl | exact Or.inr rfl) (se_bm0 PySem.F.plainAttrs_list PySem.F.slot_list_pop PySem.F.type_list_pop mt_pop ok_pop (se_name (i := 2) rfl (by first | exact Or.inl rfl | exact Or.inr (Or.inl rfl) | exact Or.inr (Or.inr rfl)))))
    (sss_cons (ss_set (i := 9) fs_34.nd rfl (by first | exact Or.inl rfl | exact Or.inr rfl) (se_callD D.d_31 hr (by rfl) T.m__law_plus (sa_cons (se_name (i := 8) rfl (by first | exact Or.inl rfl | exact Or.inr (Or.inl rfl) | exact Or.inr (Or.inr rfl))) (sa_cons (se_name (i := 7) rfl (by first | exact Or.inl rfl | exact Or.inr (Or.inl rfl) | exact Or.inr (Or.inr rfl))) (sa_cons (se_if (sb_cmp (op_eqY hr.u64) ok_eq (se_name (i := 5) rfl (by first | exact Or.inl rfl | exact Or.inr (Or.inl rfl) | exact Or.inr (Or.inr rfl))) se_str (nomark _)) se_int (se_un un_neg ok_neg se_int)) sa_nil)))))
    (sss_cons (ss_set (i := 10) fs_34.nd rfl (by first | exact Or.inl rfl | exact Or.inr rfl) (se_if (sb_cmp (op_eqY hr.u64) ok_eq (se_name (i := 5) rfl (by first | exact Or.inl rfl | exact Or.inr (Or.inl rfl) | exact Or.inr (Or.inr rfl))) se_str (nomark _)) (se_callD D.d_33 hr (by rfl) T.m__law_is_less (sa_cons (se_name (i := 8) rfl (by first | exact Or.inl rfl | exact Or.inr (Or.inl rfl) | exact Or.inr (Or.inr rfl))) (sa_cons (se_name (i := 7) rfl (by first | exact Or.inl rfl | exact Or.inr (Or.inl rfl) | exact Or.inr (Or.inr rfl))) sa_nil))) (se_cmp (op_eqY hr.u64) ok_eq (se_name (i := 8) rfl (by first | exact Or.inl rfl | exact Or.inr (Or.inl rfl) | exact Or.inr (Or.inr rfl))) (se_name (i := 7) rfl (by first | exact Or.inl rfl | exact Or.inr (Or.inl rfl) | exact Or.inr (Or.inr rfl))) (nomark _))))
    (sss_one (ss_expr (se_bm PySem.F.plainAttrs_list PySem.F.slot_list_append PySem.F.type_list_append mt_append ok_append (se_name (i := 2) rfl (by first | exact Or.inl rfl | exact Or.inr (Or.inl rfl) | exact Or.inr (Or.inr rfl))) (sa_cons (se_if (sb_cmp (op_inY hr.u65) (ok_in T.G) (se_name (i := 5) rfl (by first | exact Or.inl rfl | exact Or.inr (Or.inl rfl) | exact Or.inr (Or.inr rfl))) (se_tup (sa_cons se_str (sa_cons se_str sa_nil))) (by with_unfolding_all rfl)) (se_name (i := 9) rfl (by first | exact Or.inl rfl | exact Or.inr (Or.inl rfl) | exact Or.inr (Or.inr rfl))) (se_tup (sa_cons (se_callTy ok_int call_intY (by rfl) T.n_int (by decide +kernel) (sa_cons (se_name (i := 10) rfl (by first | exact Or.inl rfl | exact Or.inr (Or.inl rfl) | exact Or.inr (Or.inr rfl))) sa_nil)) (sa_cons se_int sa_nil)))) sa_nil)))))))))))))))))))))))))
    (sss_one (ss_ret (se_frz (se_name (i := 2) rfl (by first | exact Or.inl rfl | exact Or.inr (Or.inl rfl) | exact Or.inr (Or.inr rfl))))))))

theorem ok_35 (T : Txt W w K mg) (D : Lvl W P w K mg base k M) (D' : Lvl W P w K mg base (k - 1) M') (h0 : ∀ j, k = 0 → M' j = fun _ _ => .stuck) (f : Addr) (cdv : Value) (A : Around) (outer : List Env) (s : Shared) (H : Hp) (E : XK) (hr : YG.RoomG k (A.deeper (envOfC "_law_some" (defScope st_35) s.heap.objs.size f cdv))) :
    SSs W (cxOf CX0 P w K mg base N_35 "_law_some" (defScope st_35) f cdv A outer s H E).nox (defBody st_35) (b_35 W M M') := by
  unfold b_35
  exact (sss_cons (ss_set (i := 4) fs_35.nd rfl (by first | exact Or.inl rfl | exact Or.inr rfl) (se_if (sb_cmp op_gt ok_inb (se_name (i := 1) rfl (by first | exact Or.inl rfl | exact Or.inr (Or.inl rfl) | exact Or.inr (Or.inr rfl))) se_int (nomark _)) (se_callD D.d_28 hr (by rfl) T.m__law_take (sa_cons (se_name (i := 0) rfl (by first | exact Or.inl rfl | exact Or.inr (Or.inl rfl) | exact Or.inr (Or.inr rfl))) (sa_cons se_int sa_nil))) (se_callD D.d_28 hr (by rfl) T.m__law_take (sa_cons (se_name (i := 0) rfl (by first | exact Or.inl rfl | exact Or.inr (Or.inl rfl) | exact Or.inr (Or.inr rfl))) (sa_cons se_int sa_nil)))))
    (sss_cons (ss_if (sb_cmp op_lt ok_inb (se_name (i := 4) rfl (by first | exact Or.inl rfl | exact Or.inr (Or.inl rfl) | exact Or.inr (Or.inr rfl))) se_int (nomark _)) (sss_cons (ss_set (i := 9) fs_35.nd rfl (by first | exact Or.inl rfl | exact Or.inr rfl) (se_callD D.d_30 hr (by rfl) T.m__law_cut (sa_cons (se_bin op_subY ok_sub (se_callD D.d_28 hr (by rfl) T.m__law_take (sa_cons (se_name (i := 0) rfl (by first | exact Or.inl rfl | exact Or.inr (Or.inl rfl) | exact Or.inr (Or.inr rfl))) (sa_cons se_int sa_nil))) se_int) (sa_cons (se_bin op_addY ok_add se_int (se_callD D.d_28 hr (by rfl) T.m__law_take (sa_cons (se_name (i := 0) rfl (by first | exact Or.inl rfl | exact Or.inr (Or.inl rfl) | exact Or.inr (Or.inr rfl))) (sa_cons se_int sa_nil)))) sa_nil))))
    (sss_one (ss_ret (se_lst (sa_cons (se_callD D.d_29 hr (by rfl) T.m__law_pull (sa_cons (se_name (i := 0) rfl (by first | exact Or.inl rfl | exact Or.inr (Or.inl rfl) | exact Or.inr (Or.inr rfl))) (sa_cons (se_lst (sa_cons (se_tup (sa_cons se_str (sa_cons (se_item T.G hr.u1 (se_name (i := 9) rfl (by first | exact Or.inl rfl | exact Or.inr (Or.inl rfl) | exact Or.inr (Or.inr rfl))) se_int) (sa_cons (se_item T.G hr.u1 (se_name (i := 9) rfl (by first | exact Or.inl rfl | exact Or.inr (Or.inl rfl) | exact Or.inr (Or.inr rfl))) se_int) sa_nil)))) (sa_cons (se_tup (sa_cons se_str (sa_cons (se_callD D.d_28 hr (by rfl) T.m__law_take (sa_cons (se_name (i := 0) rfl (by first | exact Or.inl rfl | exact Or.inr (Or.inl rfl) | exact Or.inr (Or.inr rfl))) (sa_cons se_int sa_nil))) sa_nil))) sa_nil))) sa_nil))) sa_nil))))) sss_nil)
    (sss_cons (ss_if (sb_cmp (op_eqY hr.u64) ok_eq (se_name (i := 4) rfl (by first | exact Or.inl rfl | exact Or.inr (Or.inl rfl) | exact Or.inr (Or.inr rfl))) se_int (nomark _)) (sss_one (ss_ret (se_if (sb_val (se_name (i := 3) rfl (by first | exact Or.inl rfl | exact Or.inr (Or.inl rfl) | exact Or.inr (Or.inr rfl)))) (se_lst (sa_cons (se_tup (sa_cons se_str (sa_cons se_int sa_nil))) sa_nil)) (se_lst (sa_cons (se_tup (sa_cons se_str (sa_cons (se_callD D.d_28 hr (by rfl) T.m__law_take (sa_cons (se_name (i := 0) rfl (by first | exact Or.inl rfl | exact Or.inr (Or.inl rfl) | exact Or.inr (Or.inr rfl))) (sa_cons se_int sa_nil))) (sa_cons se_int sa_nil)))) sa_nil))))) sss_nil)
    (sss_cons (ss_if (sb_cmp (op_eqY hr.u64) ok_eq (se_name (i := 4) rfl (by first | exact Or.inl rfl | exact Or.inr (Or.inl rfl) | exact Or.inr (Or.inr rfl))) se_int (nomark _)) (sss_cons (ss_set (i := 9) fs_35.nd rfl (by first | exact Or.inl rfl | exact Or.inr rfl) (se_callD D.d_30 hr (by rfl) T.m__law_cut (sa_cons (se_bin op_subY ok_sub (se_callD D.d_28 hr (by rfl) T.m__law_take (sa_cons (se_name (i := 0) rfl (by first | exact Or.inl rfl | exact Or.inr (Or.inl rfl) | exact Or.inr (Or.inr rfl))) (sa_cons se_int sa_nil))) se_int) (sa_cons (se_bin op_addY ok_add se_int (se_callD D.d_28 hr (by rfl) T.m__law_take (sa_cons (se_name (i := 0) rfl (by first | exact Or.inl rfl | exact Or.inr (Or.inl rfl) | exact Or.inr (Or.inr rfl))) (sa_cons se_int sa_nil)))) sa_nil))))
    (sss_one (ss_ret (se_bin op_addY ok_add (se_callD D.d_35 hr (by rfl) T.m__law_some (sa_cons (se_name (i := 0) rfl (by first | exact Or.inl rfl | exact Or.inr (Or.inl rfl) | exact Or.inr (Or.inr rfl))) (sa_cons (se_bin op_subY ok_sub (se_name (i := 1) rfl (by first | exact Or.inl rfl | exact Or.inr (Or.inl rfl) | exact Or.inr (Or.inr rfl))) se_int) (sa_cons (se_name (i := 2) rfl (by first | exact Or.inl rfl | exact Or.inr (Or.inl rfl) | exact Or.inr (Or.inr rfl))) (sa_cons (se_name (i := 3) rfl (by first | exact Or.inl rfl | exact Or.inr (Or.inl rfl) | exact Or.inr (Or.inr rfl))) sa_nil))))) (se_lst (sa_cons (se_tup (sa_cons se_str (sa_cons (se_item T.G hr.u1 (se_name (i := 9) rfl (by first | exact Or.inl rfl | exact Or.inr (Or.inl rfl) | exact Or.inr (Or.inr rfl))) se_int) (sa_cons (se_item T.G hr.u1 (se_name (i := 9) rfl (by first | exact Or.inl rfl | exact Or.inr (Or.inl rfl) | exact Or.inr (Or.inr rfl))) se_int) sa_nil)))) sa_nil)))))) sss_nil)
    (sss_cons (ss_if (sb_cmp (op_eqY hr.u64) ok_eq (se_name (i := 4) rfl (by first | exact Or.inl rfl | exact Or.inr (Or.inl rfl) | exact Or.inr (Or.inr rfl))) se_int (nomark _)) (sss_cons (ss_set (i := 5) fs_35.nd rfl (by first | exact Or.inl rfl | exact Or.inr rfl) (se_callD D.d_35 hr (by rfl) T.m__law_some (sa_cons (se_name (i := 0) rfl (by first | exact Or.inl rfl | exact Or.inr (Or.inl rfl) | exact Or.inr (Or.inr rfl))) (sa_cons (se_bin op_subY ok_sub (se_name (i := 1) rfl (by first | exact Or.inl rfl | exact Or.inr (Or.inl rfl) | exact Or.inr (Or.inr rfl))) se_int) (sa_cons (se_name (i := 2) rfl (by first | exact Or.inl rfl | exact Or.inr (Or.inl rfl) | exact Or.inr (Or.inr rfl))) (sa_cons (se_name (i := 3) rfl (by first | exact Or.inl rfl | exact Or.inr (Or.inl rfl) | exact Or.inr (Or.inr rfl))) sa_nil))))))
    (sss_one (ss_ret (se_bin op_addY ok_add (se_name (i := 5) rfl (by first | exact Or.inl rfl | exact Or.inr (Or.inl rfl) | exact Or.inr (Or.inr rfl))) (se_lst (sa_cons (se_tup (sa_cons se_str (sa_cons se_int sa_nil))) (sa_cons (se_tup (sa_cons se_str (sa_cons se_int sa_nil))) (sa_cons (se_tup (sa_cons se_str (sa_cons se_int sa_nil))) (sa_cons (se_tup (sa_cons se_str sa_nil)) sa_nil))))))))) sss_nil)
    (sss_cons (ss_if (sb_cmp op_lt ok_inb (se_name (i := 4) rfl (by first | exact Or.inl rfl | exact Or.inr (Or.inl rfl) | exact Or.inr (Or.inr rfl))) se_int (nomark _)) (sss_cons (ss_set (i := 5) fs_35.nd rfl (by first | exact Or.inl rfl | exact Or.inr rfl) (se_callD D.d_35 hr (by rfl) T.m__law_some (sa_cons (se_name (i := 0) rfl (by first | exact Or.inl rfl | exact Or.inr (Or.inl rfl) | exact Or.inr (Or.inr rfl))) (sa_cons (se_bin op_subY ok_sub (se_name (i := 1) rfl (by first | exact Or.inl rfl | exact Or.inr (Or.inl rfl) | exact Or.inr (Or.inr rfl))) se_int) (sa_cons (se_name (i := 2) rfl (by first | exact Or.inl rfl | exact Or.inr (Or.inl rfl) | exact Or.inr (Or.inr rfl))) (sa_cons (se_name (i := 3) rfl (by first | exact Or.inl rfl | exact Or.inr (Or.inl rfl) | exact Or.inr (Or.inr rfl))) sa_nil))))))
    (sss_cons (ss_set (i := 5) fs_35.nd rfl (by first | exact Or.inl rfl | exact Or.inr rfl) (se_bin op_addY ok_add (se_name (i := 5) rfl (by first | exact Or.inl rfl | exact Or.inr (Or.inl rfl) | exact Or.inr (Or.inr rfl))) (se_callD D.d_35 hr (by rfl) T.m__law_some (sa_cons (se_name (i := 0) rfl (by first | exact Or.inl rfl | exact Or.inr (Or.inl rfl) | exact Or.inr (Or.inr rfl))) (sa_cons (se_bin op_subY ok_sub (se_name (i := 1) rfl (by first | exact Or.inl rfl | exact Or.inr (Or.inl rfl) | exact Or.inr (Or.inr rfl))) se_int) (sa_cons (se_bin op_addY ok_add (se_name (i := 2) rfl (by first | exact Or.inl rfl | exact Or.inr (Or.inl rfl) | exact Or.inr (Or.inr rfl))) (se_callB ok_len call_len (by rfl) T.n_len (by decide +kernel) (sa_cons (se_name (i := 5) rfl (by first | exact Or.inl rfl | exact Or.inr (Or.inl rfl) | exact Or.inr (Or.inr rfl))) sa_nil))) (sa_cons (se_name (i := 3) rfl (by first | exact Or.inl rfl | exact Or.inr (Or.inl rfl) | exact Or.inr (Or.inr rfl))) sa_nil)))))))
    (sss_one (ss_ret (se_bin op_addY ok_add (se_name (i := 5) rfl (by first | exact Or.inl rfl | exact Or.inr (Or.inl rfl) | exact Or.inr (Or.inr rfl))) (se_lst (sa_cons (se_tup (sa_cons (se_callD D.d_29 hr (by rfl) T.m__law_pull (sa_cons (se_name (i := 0) rfl (by first | exact Or.inl rfl | exact Or.inr (Or.inl rfl) | exact Or.inr (Or.inr rfl))) (sa_cons (se_lst (sa_cons se_str (sa_cons se_str (sa_cons se_str (sa_cons se_str sa_nil))))) sa_nil))) sa_nil)) sa_nil))))))) sss_nil)
    (sss_cons (ss_set (i := 5) fs_35.nd rfl (by first | exact Or.inl rfl | exact Or.inr rfl) (se_callD D.d_35 hr (by rfl) T.m__law_some (sa_cons (se_name (i := 0) rfl (by first | exact Or.inl rfl | exact Or.inr (Or.inl rfl) | exact Or.inr (Or.inr rfl))) (sa_cons (se_bin op_subY ok_sub (se_name (i := 1) rfl (by first | exact Or.inl rfl | exact Or.inr (Or.inl rfl) | exact Or.inr (Or.inr rfl))) se_int) (sa_cons (se_name (i := 2) rfl (by first | exact Or.inl rfl | exact Or.inr (Or.inl rfl) | exact Or.inr (Or.inr rfl))) (sa_cons (se_name (i := 3) rfl (by first | exact Or.inl rfl | exact Or.inr (Or.inl rfl) | exact Or.inr (Or.inr rfl))) sa_nil))))))
    (sss_cons (ss_set (i := 6) fs_35.nd rfl (by first | exact Or.inl rfl | exact Or.inr rfl) (se_callD D.d_35 hr (by rfl) T.m__law_some (sa_cons (se_name (i := 0) rfl (by first | exact Or.inl rfl | exact Or.inr (Or.inl rfl) | exact Or.inr (Or.inr rfl))) (sa_cons (se_bin op_subY ok_sub (se_name (i := 1) rfl (by first | exact Or.inl rfl | exact Or.inr (Or.inl rfl) | exact Or.inr (Or.inr rfl))) se_int) (sa_cons (se_bin op_addY ok_add (se_bin op_addY ok_add (se_name (i := 2) rfl (by first | exact Or.inl rfl | exact Or.inr (Or.inl rfl) | exact Or.inr (Or.inr rfl))) (se_callB ok_len call_len (by rfl) T.n_len (by decide +kernel) (sa_cons (se_name (i := 5) rfl (by first | exact Or.inl rfl | exact Or.inr (Or.inl rfl) | exact Or.inr (Or.inr rfl))) sa_nil))) se_int) (sa_cons (se_name (i := 3) rfl (by first | exact Or.inl rfl | exact Or.inr (Or.inl rfl) | exact Or.inr (Or.inr rfl))) sa_nil))))))
    (sss_cons (ss_set (i := 7) fs_35.nd rfl (by first | exact Or.inl rfl | exact Or.inr rfl) (se_callD D.d_35 hr (by rfl) T.m__law_some (sa_cons (se_name (i := 0) rfl (by first | exact Or.inl rfl | exact Or.inr (Or.inl rfl) | exact Or.inr (Or.inr rfl))) (sa_cons (se_bin op_subY ok_sub (se_name (i := 1) rfl (by first | exact Or.inl rfl | exact Or.inr (Or.inl rfl) | exact Or.inr (Or.inr rfl))) se_int) (sa_cons (se_bin op_addY ok_add (se_bin op_addY ok_add (se_bin op_addY ok_add (se_name (i := 2) rfl (by first | exact Or.inl rfl | exact Or.inr (Or.inl rfl) | exact Or.inr (Or.inr rfl))) (se_callB ok_len call_len (by rfl) T.n_len (by decide +kernel) (sa_cons (se_name (i := 5) rfl (by first | exact Or.inl rfl | exact Or.inr (Or.inl rfl) | exact Or.inr (Or.inr rfl))) sa_nil))) (se_callB ok_len call_len (by rfl) T.n_len (by decide +kernel) (sa_cons (se_name (i := 6) rfl (by first | exact Or.inl rfl | exact Or.inr (Or.inl rfl) | exact Or.inr (Or.inr rfl))) sa_nil))) se_int) (sa_cons (se_name (i := 3) rfl (by first | exact Or.inl rfl | exact Or.inr (Or.inl rfl) | exact Or.inr (Or.inr rfl))) sa_nil))))))
    (sss_cons (ss_set (i := 8) fs_35.nd rfl (by first | exact Or.inl rfl | exact Or.inr rfl) (se_bin op_addY ok_add (se_bin op_addY ok_add (se_bin op_addY ok_add (se_name (i := 2) rfl (by first | exact Or.inl rfl | exact Or.inr (Or.inl rfl) | exact Or.inr (Or.inr rfl))) (se_callB ok_len call_len (by rfl) T.n_len (by decide +kernel) (sa_cons (se_name (i := 5) rfl (by first | exact Or.inl rfl | exact Or.inr (Or.inl rfl) | exact Or.inr (Or.inr rfl))) sa_nil))) (se_callB ok_len call_len (by rfl) T.n_len (by decide +kernel) (sa_cons (se_name (i := 6) rfl (by first | exact Or.inl rfl | exact Or.inr (Or.inl rfl) | exact Or.inr (Or.inr rfl))) sa_nil))) se_int))
    (sss_one (ss_ret (se_bin op_addY ok_add (se_bin op_addY ok_add (se_bin op_addY ok_add (se_bin op_addY ok_add (se_name (i := 5) rfl (by first | exact Or.inl rfl | exact Or.inr (Or.inl rfl) | exact Or.inr (Or.inr rfl))) (se_lst (sa_cons (se_tup (sa_cons se_str (sa_cons (se_name (i := 8) rfl (by first | exact Or.inl rfl | exact Or.inr (Or.inl rfl) | exact Or.inr (Or.inr rfl))) sa_nil))) sa_nil))) (se_name (i := 6) rfl (by first | exact Or.inl rfl | exact Or.inr (Or.inl rfl) | exact Or.inr (Or.inr rfl)))) (se_lst (sa_cons (se_tup (sa_cons se_str (sa_cons (se_bin op_addY ok_add (se_name (i := 8) rfl (by first | exact Or.inl rfl | exact Or.inr (Or.inl rfl) | exact Or.inr (Or.inr rfl))) (se_callB ok_len call_len (by rfl) T.n_len (by decide +kernel) (sa_cons (se_name (i := 7) rfl (by first | exact Or.inl rfl | exact Or.inr (Or.inl rfl) | exact Or.inr (Or.inr rfl))) sa_nil))) sa_nil))) sa_nil))) (se_name (i := 7) rfl (by first | exact Or.inl rfl | exact Or.inr (Or.inl rfl) | exact Or.inr (Or.inr rfl))))))))))))))))

theorem ok_36 (T : Txt W w K mg) (D : Lvl W P w K mg base k M) (D' : Lvl W P w K mg base (k - 1) M') (h0 : ∀ j, k = 0 → M' j = fun _ _ => .stuck) (f : Addr) (cdv : Value) (A : Around) (outer : List Env) (s : Shared) (H : Hp) (E : XK) (hr : YG.RoomG k (A.deeper (envOfC "_law_right" (defScope st_36) s.heap.objs.size f cdv))) :
    SSs W (cxOf CX0 P w K mg base N_36 "_law_right" (defScope st_36) f cdv A outer s H E).nox (defBody st_36) (b_36 W M M') := by
  unfold b_36
  exact (sss_cons (ss_set (i := 1) fs_36.nd rfl (by first | exact Or.inl rfl | exact Or.inr rfl) (se_if (sb_cmp (op_eqY hr.u64) ok_eq (se_callD D.d_28 hr (by rfl) T.m__law_take (sa_cons (se_name (i := 0) rfl (by first | exact Or.inl rfl | exact Or.inr (Or.inl rfl) | exact Or.inr (Or.inr rfl))) (sa_cons se_int sa_nil))) se_int (nomark _)) (se_lst (sa_cons (se_tup (sa_cons se_str (sa_cons se_int (sa_cons se_int sa_nil)))) (sa_cons (se_tup (sa_cons se_str (sa_cons se_int sa_nil))) sa_nil))) (se_lst sa_nil)))
    (sss_cons (ss_set (i := 2) fs_36.nd rfl (by first | exact Or.inl rfl | exact Or.inr rfl) (se_callTy ok_tuple call_tuple_of (by rfl) T.n_tuple (by decide +kernel) (sa_cons (se_bin op_addY ok_add (se_name (i := 1) rfl (by first | exact Or.inl rfl | exact Or.inr (Or.inl rfl) | exact Or.inr (Or.inr rfl))) (se_callD D.d_35 hr (by rfl) T.m__law_some (sa_cons (se_name (i := 0) rfl (by first | exact Or.inl rfl | exact Or.inr (Or.inl rfl) | exact Or.inr (Or.inr rfl))) (sa_cons se_int (sa_cons (se_callB ok_len call_len (by rfl) T.n_len (by decide +kernel) (sa_cons (se_name (i := 1) rfl (by first | exact Or.inl rfl | exact Or.inr (Or.inl rfl) | exact Or.inr (Or.inr rfl))) sa_nil)) (sa_cons (se_cmp (op_neY hr.u64) ok_ne (se_name (i := 1) rfl (by first | exact Or.inl rfl | exact Or.inr (Or.inl rfl) | exact Or.inr (Or.inr rfl))) (se_lst sa_nil) (nomark _)) sa_nil)))))) sa_nil)))
    (sss_cons (ss_set (i := 3) fs_36.nd rfl (by first | exact Or.inl rfl | exact Or.inr rfl) (se_callTy ok_tuple call_tuple_of (by rfl) T.n_tuple (by decide +kernel) (sa_cons (se_lc rfl fs_36.nd (own := [("k", 5)]) (blkOk_by (N := N_36) (sc := defScope st_36) (by decide +kernel)) (by decide) (si_rng1 (by rfl) T.n_range (sa_cons se_int sa_nil)) (fun _ _ _ _ _ => (sg_name (i := 5) fs_36.nd rfl (by first | exact Or.inl rfl | exact Or.inr rfl))) (fun _ _ _ _ _ => sts_nil) (fun _ _ _ _ _ => (se_callD D.d_30 hr (by rfl) T.m__law_cut (sa_cons (se_bin op_subY ok_sub (se_callD D.d_28 hr (by rfl) T.m__law_take (sa_cons (se_name (i := 0) rfl (by first | exact Or.inl rfl | exact Or.inr (Or.inl rfl) | exact Or.inr (Or.inr rfl))) (sa_cons se_int sa_nil))) se_int) (sa_cons (se_bin op_addY ok_add se_int (se_callD D.d_28 hr (by rfl) T.m__law_take (sa_cons (se_name (i := 0) rfl (by first | exact Or.inl rfl | exact Or.inr (Or.inl rfl) | exact Or.inr (Or.inr rfl))) (sa_cons se_int sa_nil)))) sa_nil))))) sa_nil)))
    (sss_cons (ss_set (i := 4) fs_36.nd rfl (by first | exact Or.inl rfl | exact Or.inr rfl) (se_callD D.d_34 hr (by rfl) T.m__law_machine (sa_cons (se_name (i := 2) rfl (by first | exact Or.inl rfl | exact Or.inr (Or.inl rfl) | exact Or.inr (Or.inr rfl))) (sa_cons (se_name (i := 3) rfl (by first | exact Or.inl rfl | exact Or.inr (Or.inl rfl) | exact Or.inr (Or.inr rfl))) sa_nil))))
    (sss_cons (ss_if (sb_cmp (op_neY hr.u64) ok_ne (se_callB ok_len call_len (by rfl) T.n_len (by decide +kernel) (sa_cons (se_name (i := 4) rfl (by first | exact Or.inl rfl | exact Or.inr (Or.inl rfl) | exact Or.inr (Or.inr rfl))) sa_nil)) se_int (nomark _)) (sss_one (ss_ret se_bool)) sss_nil)
    (sss_one (ss_ret (se_cmp (op_eqY hr.u64) ok_eq (se_callB ok_repr (call_reprD hr.gd hr.u64) (by rfl) T.n_repr (by decide +kernel) (sa_cons (se_lst (sa_cons (se_callD D.d_26 hr (by rfl) T.m_run (sa_cons (se_name (i := 2) rfl (by first | exact Or.inl rfl | exact Or.inr (Or.inl rfl) | exact Or.inr (Or.inr rfl))) (sa_cons (se_name (i := 3) rfl (by first | exact Or.inl rfl | exact Or.inr (Or.inl rfl) | exact Or.inr (Or.inr rfl))) sa_nil))) (sa_cons (se_callKD D.k_26_10 hr (by rfl) T.m_run (sk_cons (se_name (i := 3) rfl (by first | exact Or.inl rfl | exact Or.inr (Or.inl rfl) | exact Or.inr (Or.inr rfl))) (sk_cons (se_name (i := 2) rfl (by first | exact Or.inl rfl | exact Or.inr (Or.inl rfl) | exact Or.inr (Or.inr rfl))) sk_nil))) sa_nil))) sa_nil)) (se_callB ok_repr (call_reprD hr.gd hr.u64) (by rfl) T.n_repr (by decide +kernel) (sa_cons (se_lst (sa_cons (se_item T.G hr.u1 (se_name (i := 4) rfl (by first | exact Or.inl rfl | exact Or.inr (Or.inl rfl) | exact Or.inr (Or.inr rfl))) se_int) (sa_cons (se_item T.G hr.u1 (se_name (i := 4) rfl (by first | exact Or.inl rfl | exact Or.inr (Or.inl rfl) | exact Or.inr (Or.inr rfl))) se_int) sa_nil))) sa_nil)) (nomark _)))))))))

theorem ok_37 (T : Txt W w K mg) (D : Lvl W P w K mg base k M) (D' : Lvl W P w K mg base (k - 1) M') (h0 : ∀ j, k = 0 → M' j = fun _ _ => .stuck) (f : Addr) (cdv : Value) (A : Around) (outer : List Env) (s : Shared) (H : Hp) (E : XK) (hr : YG.RoomG k (A.deeper (envOfC "law" (defScope st_37) s.heap.objs.size f cdv))) :
    SSs W (cxOf CX0 P w K mg base N_37 "law" (defScope st_37) f cdv A outer s H E).nox (defBody st_37) (b_37 W M M') := by
  unfold b_37
  exact (sss_cons (ss_for rfl (si_rng1 (by rfl) T.n_range (sa_cons (se_callB ok_max2 (call_max2 rfl) (by rfl) T.n_max (by decide +kernel) (sa_cons se_int (sa_cons (se_callB ok_min2 (call_min2 rfl) (by rfl) T.n_min (by decide +kernel) (sa_cons (se_callB ok_len call_len (by rfl) T.n_len (by decide +kernel) (sa_cons (se_name (i := 0) rfl (by first | exact Or.inl rfl | exact Or.inr (Or.inl rfl) | exact Or.inr (Or.inr rfl))) sa_nil)) (sa_cons se_int sa_nil))) sa_nil))) sa_nil)) (sg_name (i := 1) fs_37.nd rfl (by first | exact Or.inl rfl | exact Or.inr rfl)) (sss_cons (ss_set (i := 2) fs_37.nd rfl (by first | exact Or.inl rfl | exact Or.inr rfl) (se_callD D.d_27 hr (by rfl) T.m__law_bag (sa_cons (se_name (i := 0) rfl (by first | exact Or.inl rfl | exact Or.inr (Or.inl rfl) | exact Or.inr (Or.inr rfl))) (sa_cons (se_name (i := 1) rfl (by first | exact Or.inl rfl | exact Or.inr (Or.inl rfl) | exact Or.inr (Or.inr rfl))) sa_nil))))
    (sss_one (ss_if (sb_not (sb_val (se_callB ok_all (cr_all rfl) (by rfl) T.n_all (by decide +kernel) (sa_cons (se_lc rfl fs_37.nd (own := [("turn", 3)]) (blkOk_by (N := N_37) (sc := defScope st_37) (by decide +kernel)) (by decide) (si_rng1 (by rfl) T.n_range (sa_cons se_int sa_nil)) (fun _ _ _ _ _ => (sg_name (i := 3) fs_37.nd rfl (by first | exact Or.inl rfl | exact Or.inr rfl))) (fun _ _ _ _ _ => sts_nil) (fun _ _ _ _ _ => (se_callD D.d_36 hr (by rfl) T.m__law_right (sa_cons (se_name (i := 2) rfl (by first | exact Or.inl rfl | exact Or.inr (Or.inl rfl) | exact Or.inr (Or.inr rfl))) sa_nil)))) sa_nil)))) (sss_one (ss_ret se_bool)) sss_nil))))
    (sss_one (ss_ret se_bool)))
theorem okL_0 (T : Txt W w K mg) (D : Lvl W P w K mg base k M) (D' : Lvl W P w K mg base (k - 1) M') (h0 : ∀ j, k = 0 → M' j = fun _ _ => .stuck) (f : Addr) (cdv : Value) (A : Around) (outer : List Env) (s : Shared) (H : Hp) (E : XK) (hr : YG.RoomG k (A.deeper (envOfC lam_0.qual lam_0.scope s.heap.objs.size f cdv))) :
    SE W (cxOf CX0 P w K mg base NL_0 lam_0.qual lam_0.scope f cdv A outer s H E) lam_0.body (bL_0 W M M') := by
  unfold bL_0
  exact (se_callD D.d_13 hr (by rfl) T.m_is_code_row (sa_cons (se_name (i := 0) rfl (by first | exact Or.inl rfl | exact Or.inr (Or.inl rfl) | exact Or.inr (Or.inr rfl))) sa_nil))
end
structure Fds (W : Wd) (K : PySem.W.Frag) : Prop where
  f_0 : ∃ fd, FunD K "is_whole" "is_whole" (defArgs st_0) (defBody st_0) (defScope st_0) [] [] (W.fad 0) fd
  f_1 : ∃ fd, FunD K "is_number" "is_number" (defArgs st_1) (defBody st_1) (defScope st_1) [.int (0), .non] [] (W.fad 1) fd
  f_2 : ∃ fd, FunD K "is_between" "is_between" (defArgs st_2) (defBody st_2) (defScope st_2) [] [] (W.fad 2) fd
  f_3 : ∃ fd, FunD K "is_string" "is_string" (defArgs st_3) (defBody st_3) (defScope st_3) [] [] (W.fad 3) fd
  f_4 : ∃ fd, FunD K "is_tuple_of" "is_tuple_of" (defArgs st_4) (defBody st_4) (defScope st_4) [] [] (W.fad 4) fd
  f_5 : ∃ fd, FunD K "is_row" "is_row" (defArgs st_5) (defBody st_5) (defScope st_5) [] [] (W.fad 5) fd
  f_6 : ∃ fd, FunD K "first_wrong" "first_wrong" (defArgs st_6) (defBody st_6) (defScope st_6) [] [] (W.fad 6) fd
  f_7 : ∃ fd, FunD K "lowest" "lowest" (defArgs st_7) (defBody st_7) (defScope st_7) [] [] (W.fad 7) fd
  f_8 : ∃ fd, FunD K "is_fraction" "is_fraction" (defArgs st_8) (defBody st_8) (defScope st_8) [] [] (W.fad 8) fd
  f_9 : ∃ fd, FunD K "plus" "plus" (defArgs st_9) (defBody st_9) (defScope st_9) [] [] (W.fad 9) fd
  f_10 : ∃ fd, FunD K "less_by" "less_by" (defArgs st_10) (defBody st_10) (defScope st_10) [] [] (W.fad 10) fd
  f_11 : ∃ fd, FunD K "times" "times" (defArgs st_11) (defBody st_11) (defScope st_11) [] [] (W.fad 11) fd
  f_12 : ∃ fd, FunD K "is_less" "is_less" (defArgs st_12) (defBody st_12) (defScope st_12) [] [] (W.fad 12) fd
  f_13 : ∃ fd, FunD K "is_code_row" "is_code_row" (defArgs st_13) (defBody st_13) (defScope st_13) [] [] (W.fad 13) fd
  f_14 : ∃ fd, FunD K "lead_on" "lead_on" (defArgs st_14) (defBody st_14) (defScope st_14) [] [] (W.fad 14) fd
  f_15 : ∃ fd, FunD K "next_of" "next_of" (defArgs st_15) (defBody st_15) (defScope st_15) [] [] (W.fad 15) fd
  f_16 : ∃ fd, FunD K "__init__" "Ways.__init__" (defArgs st_16) (defBody st_16) (defScope st_16) [] [] (W.fad 16) fd
  f_17 : ∃ fd, FunD K "look" "Ways.look" (defArgs st_17) (defBody st_17) (defScope st_17) [] [] (W.fad 17) fd
  f_18 : ∃ fd, FunD K "lead" "Ways.lead" (defArgs st_18) (defBody st_18) (defScope st_18) [] [] (W.fad 18) fd
  f_19 : ∃ fd, FunD K "stands_well" "stands_well" (defArgs st_19) (defBody st_19) (defScope st_19) [] [] (W.fad 19) fd
  f_20 : ∃ fd, FunD K "is_code" "is_code" (defArgs st_20) (defBody st_20) (defScope st_20) [] [] (W.fad 20) fd
  f_21 : ∃ fd, FunD K "are_numbers" "are_numbers" (defArgs st_21) (defBody st_21) (defScope st_21) [] [] (W.fad 21) fd
  f_22 : ∃ fd, FunD K "two_made" "two_made" (defArgs st_22) (defBody st_22) (defScope st_22) [] [] (W.fad 22) fd
  f_23 : ∃ fd, FunD K "left_by" "left_by" (defArgs st_23) (defBody st_23) (defScope st_23) [] [] (W.fad 23) fd
  f_24 : ∃ fd, FunD K "run_by" "run_by" (defArgs st_24) (defBody st_24) (defScope st_24) [] [] (W.fad 24) fd
  f_25 : ∃ fd, FunD K "check_code" "check_code" (defArgs st_25) (defBody st_25) (defScope st_25) [] [] (W.fad 25) fd
  f_26 : ∃ fd, FunD K "run" "run" (defArgs st_26) (defBody st_26) (defScope st_26) [] [] (W.fad 26) fd
  f_27 : ∃ fd, FunD K "_law_bag" "_law_bag" (defArgs st_27) (defBody st_27) (defScope st_27) [] [] (W.fad 27) fd
  f_28 : ∃ fd, FunD K "_law_take" "_law_take" (defArgs st_28) (defBody st_28) (defScope st_28) [] [] (W.fad 28) fd
  f_29 : ∃ fd, FunD K "_law_pull" "_law_pull" (defArgs st_29) (defBody st_29) (defScope st_29) [] [] (W.fad 29) fd
  f_30 : ∃ fd, FunD K "_law_cut" "_law_cut" (defArgs st_30) (defBody st_30) (defScope st_30) [] [] (W.fad 30) fd
  f_31 : ∃ fd, FunD K "_law_plus" "_law_plus" (defArgs st_31) (defBody st_31) (defScope st_31) [] [] (W.fad 31) fd
  f_32 : ∃ fd, FunD K "_law_times" "_law_times" (defArgs st_32) (defBody st_32) (defScope st_32) [] [] (W.fad 32) fd
  f_33 : ∃ fd, FunD K "_law_is_less" "_law_is_less" (defArgs st_33) (defBody st_33) (defScope st_33) [] [] (W.fad 33) fd
  f_34 : ∃ fd, FunD K "_law_machine" "_law_machine" (defArgs st_34) (defBody st_34) (defScope st_34) [] [] (W.fad 34) fd
  f_35 : ∃ fd, FunD K "_law_some" "_law_some" (defArgs st_35) (defBody st_35) (defScope st_35) [] [] (W.fad 35) fd
  f_36 : ∃ fd, FunD K "_law_right" "_law_right" (defArgs st_36) (defBody st_36) (defScope st_36) [] [] (W.fad 36) fd
  f_37 : ∃ fd, FunD K "law" "law" (defArgs st_37) (defBody st_37) (defScope st_37) [] [] (W.fad 37) fd
noncomputable def stepL (W : Wd) (M M' : Lv) : Lv := fun i => match i with
  | 0 => fnF N_0.length ps_0.length (b_0 W M M')
  | 1 => fnF N_1.length ps_1.length (b_1 W M M')
  | 2 => fnF N_2.length ps_2.length (b_2 W M M')
  | 3 => fnF N_3.length ps_3.length (b_3 W M M')
  | 4 => fnF N_4.length ps_4.length (b_4 W M M')
  | 5 => fnF N_5.length ps_5.length (b_5 W M M')
  | 6 => fnF N_6.length ps_6.length (b_6 W M M')
  | 7 => fnF N_7.length ps_7.length (b_7 W M M')
  | 8 => fnF N_8.length ps_8.length (b_8 W M M')
  | 9 => fnF N_9.length ps_9.length (b_9 W M M')
  | 10 => fnF N_10.length ps_10.length (b_10 W M M')
  | 11 => fnF N_11.length ps_11.length (b_11 W M M')
  | 12 => fnF N_12.length ps_12.length (b_12 W M M')
  | 13 => fnF N_13.length ps_13.length (b_13 W M M')
  | 14 => fnF N_14.length ps_14.length (b_14 W M M')
  | 15 => fnF N_15.length ps_15.length (b_15 W M M')
  | 16 => fnF N_16.length ps_16.length (b_16 W M M')
  | 17 => fnF N_17.length ps_17.length (b_17 W M M')
  | 18 => fnF N_18.length ps_18.length (b_18 W M M')
  | 19 => fnF N_19.length ps_19.length (b_19 W M M')
  | 20 => fnF N_20.length ps_20.length (b_20 W M M')
  | 21 => fnF N_21.length ps_21.length (b_21 W M M')
  | 22 => fnF N_22.length ps_22.length (b_22 W M M')
  | 23 => fnF N_23.length ps_23.length (b_23 W M M')
  | 24 => fnF N_24.length ps_24.length (b_24 W M M')
  | 25 => fnF N_25.length ps_25.length (b_25 W M M')
  | 26 => fnF N_26.length ps_26.length (b_26 W M M')
  | 27 => fnF N_27.length ps_27.length (b_27 W M M')
  | 28 => fnF N_28.length ps_28.length (b_28 W M M')
  | 29 => fnF N_29.length ps_29.length (b_29 W M M')
  | 30 => fnF N_30.length ps_30.length (b_30 W M M')
  | 31 => fnF N_31.length ps_31.length (b_31 W M M')
  | 32 => fnF N_32.length ps_32.length (b_32 W M M')
  | 33 => fnF N_33.length ps_33.length (b_33 W M M')
  | 34 => fnF N_34.length ps_34.length (b_34 W M M')
  | 35 => fnF N_35.length ps_35.length (b_35 W M M')
  | 36 => fnF N_36.length ps_36.length (b_36 W M M')
  | 37 => fnF N_37.length ps_37.length (b_37 W M M')
  | 500 => lamF NL_0.length psL_0.length (bL_0 W M M')
  | _ => fun _ _ => .stuck
section
variable {W : Wd} {P : Program} {w : World} {K : PySem.W.Frag} {mg : Str → Option Value} {base : Heap} {k : Nat} {M M' : Lv}
theorem bd_0 {f : Addr} {fd : FuncData} (F : FunD K "is_whole" "is_whole" (defArgs st_0) (defBody st_0) (defScope st_0) [] [] f fd) : Binds K fd ps_0 [] := F.bindsN fun _ _ _ _ _ _ us hl => match us, hl with | [_], _ => rfl
theorem bd_2 {f : Addr} {fd : FuncData} (F : FunD K "is_between" "is_between" (defArgs st_2) (defBody st_2) (defScope st_2) [] [] f fd) : Binds K fd ps_2 [] := F.bindsN fun _ _ _ _ _ _ us hl => match us, hl with | [_, _, _], _ => rfl
theorem bd_3 {f : Addr} {fd : FuncData} (F : FunD K "is_string" "is_string" (defArgs st_3) (defBody st_3) (defScope st_3) [] [] f fd) : Binds K fd ps_3 [] := F.bindsN fun _ _ _ _ _ _ us hl => match us, hl with | [_], _ => rfl
theorem bd_4 {f : Addr} {fd : FuncData} (F : FunD K "is_tuple_of" "is_tuple_of" (defArgs st_4) (defBody st_4) (defScope st_4) [] [] f fd) : Binds K fd ps_4 [] := F.bindsN fun _ _ _ _ _ _ us hl => match us, hl with | [_, _], _ => rfl
theorem bd_5 {f : Addr} {fd : FuncData} (F : FunD K "is_row" "is_row" (defArgs st_5) (defBody st_5) (defScope st_5) [] [] f fd) : Binds K fd ps_5 [] := F.bindsN fun _ _ _ _ _ _ us hl => match us, hl with | [_, _, _], _ => rfl
theorem bd_6 {f : Addr} {fd : FuncData} (F : FunD K "first_wrong" "first_wrong" (defArgs st_6) (defBody st_6) (defScope st_6) [] [] f fd) : Binds K fd ps_6 [] := F.bindsN fun _ _ _ _ _ _ us hl => match us, hl with | [_, _], _ => rfl
theorem bd_7 {f : Addr} {fd : FuncData} (F : FunD K "lowest" "lowest" (defArgs st_7) (defBody st_7) (defScope st_7) [] [] f fd) : Binds K fd ps_7 [] := F.bindsN fun _ _ _ _ _ _ us hl => match us, hl with | [_, _], _ => rfl
theorem bd_8 {f : Addr} {fd : FuncData} (F : FunD K "is_fraction" "is_fraction" (defArgs st_8) (defBody st_8) (defScope st_8) [] [] f fd) : Binds K fd ps_8 [] := F.bindsN fun _ _ _ _ _ _ us hl => match us, hl with | [_], _ => rfl
theorem bd_9 {f : Addr} {fd : FuncData} (F : FunD K "plus" "plus" (defArgs st_9) (defBody st_9) (defScope st_9) [] [] f fd) : Binds K fd ps_9 [] := F.bindsN fun _ _ _ _ _ _ us hl => match us, hl with | [_, _], _ => rfl
theorem bd_10 {f : Addr} {fd : FuncData} (F : FunD K "less_by" "less_by" (defArgs st_10) (defBody st_10) (defScope st_10) [] [] f fd) : Binds K fd ps_10 [] := F.bindsN fun _ _ _ _ _ _ us hl => match us, hl with | [_, _], _ => rfl
theorem bd_11 {f : Addr} {fd : FuncData} (F : FunD K "times" "times" (defArgs st_11) (defBody st_11) (defScope st_11) [] [] f fd) : Binds K fd ps_11 [] := F.bindsN fun _ _ _ _ _ _ us hl => match us, hl with | [_, _], _ => rfl
theorem bd_12 {f : Addr} {fd : FuncData} (F : FunD K "is_less" "is_less" (defArgs st_12) (defBody st_12) (defScope st_12) [] [] f fd) : Binds K fd ps_12 [] := F.bindsN fun _ _ _ _ _ _ us hl => match us, hl with | [_, _], _ => rfl
theorem bd_13 {f : Addr} {fd : FuncData} (F : FunD K "is_code_row" "is_code_row" (defArgs st_13) (defBody st_13) (defScope st_13) [] [] f fd) : Binds K fd ps_13 [] := F.bindsN fun _ _ _ _ _ _ us hl => match us, hl with | [_], _ => rfl
theorem bd_14 {f : Addr} {fd : FuncData} (F : FunD K "lead_on" "lead_on" (defArgs st_14) (defBody st_14) (defScope st_14) [] [] f fd) : Binds K fd ps_14 [] := F.bindsN fun _ _ _ _ _ _ us hl => match us, hl with | [_], _ => rfl
theorem bd_15 {f : Addr} {fd : FuncData} (F : FunD K "next_of" "next_of" (defArgs st_15) (defBody st_15) (defScope st_15) [] [] f fd) : Binds K fd ps_15 [] := F.bindsN fun _ _ _ _ _ _ us hl => match us, hl with | [_, _], _ => rfl
theorem bd_16 {f : Addr} {fd : FuncData} (F : FunD K "__init__" "Ways.__init__" (defArgs st_16) (defBody st_16) (defScope st_16) [] [] f fd) : Binds K fd ps_16 [] := F.bindsN fun _ _ _ _ _ _ us hl => match us, hl with | [_, _], _ => rfl
theorem bd_17 {f : Addr} {fd : FuncData} (F : FunD K "look" "Ways.look" (defArgs st_17) (defBody st_17) (defScope st_17) [] [] f fd) : Binds K fd ps_17 [] := F.bindsN fun _ _ _ _ _ _ us hl => match us, hl with | [_, _], _ => rfl
theorem bd_18 {f : Addr} {fd : FuncData} (F : FunD K "lead" "Ways.lead" (defArgs st_18) (defBody st_18) (defScope st_18) [] [] f fd) : Binds K fd ps_18 [] := F.bindsN fun _ _ _ _ _ _ us hl => match us, hl with | [_, _, _, _], _ => rfl
theorem bd_19 {f : Addr} {fd : FuncData} (F : FunD K "stands_well" "stands_well" (defArgs st_19) (defBody st_19) (defScope st_19) [] [] f fd) : Binds K fd ps_19 [] := F.bindsN fun _ _ _ _ _ _ us hl => match us, hl with | [_], _ => rfl
theorem bd_20 {f : Addr} {fd : FuncData} (F : FunD K "is_code" "is_code" (defArgs st_20) (defBody st_20) (defScope st_20) [] [] f fd) : Binds K fd ps_20 [] := F.bindsN fun _ _ _ _ _ _ us hl => match us, hl with | [_], _ => rfl
theorem bd_21 {f : Addr} {fd : FuncData} (F : FunD K "are_numbers" "are_numbers" (defArgs st_21) (defBody st_21) (defScope st_21) [] [] f fd) : Binds K fd ps_21 [] := F.bindsN fun _ _ _ _ _ _ us hl => match us, hl with | [_, _], _ => rfl
theorem bd_22 {f : Addr} {fd : FuncData} (F : FunD K "two_made" "two_made" (defArgs st_22) (defBody st_22) (defScope st_22) [] [] f fd) : Binds K fd ps_22 [] := F.bindsN fun _ _ _ _ _ _ us hl => match us, hl with | [_, _, _], _ => rfl
theorem bd_23 {f : Addr} {fd : FuncData} (F : FunD K "left_by" "left_by" (defArgs st_23) (defBody st_23) (defScope st_23) [] [] f fd) : Binds K fd ps_23 [] := F.bindsN fun _ _ _ _ _ _ us hl => match us, hl with | [_, _, _, _], _ => rfl
theorem bd_24 {f : Addr} {fd : FuncData} (F : FunD K "run_by" "run_by" (defArgs st_24) (defBody st_24) (defScope st_24) [] [] f fd) : Binds K fd ps_24 [] := F.bindsN fun _ _ _ _ _ _ us hl => match us, hl with | [_, _], _ => rfl
theorem bd_25 {f : Addr} {fd : FuncData} (F : FunD K "check_code" "check_code" (defArgs st_25) (defBody st_25) (defScope st_25) [] [] f fd) : Binds K fd ps_25 [] := F.bindsN fun _ _ _ _ _ _ us hl => match us, hl with | [_], _ => rfl
theorem bd_26 {f : Addr} {fd : FuncData} (F : FunD K "run" "run" (defArgs st_26) (defBody st_26) (defScope st_26) [] [] f fd) : Binds K fd ps_26 [] := F.bindsN fun _ _ _ _ _ _ us hl => match us, hl with | [_, _], _ => rfl
theorem bd_27 {f : Addr} {fd : FuncData} (F : FunD K "_law_bag" "_law_bag" (defArgs st_27) (defBody st_27) (defScope st_27) [] [] f fd) : Binds K fd ps_27 [] := F.bindsN fun _ _ _ _ _ _ us hl => match us, hl with | [_, _], _ => rfl
theorem bd_28 {f : Addr} {fd : FuncData} (F : FunD K "_law_take" "_law_take" (defArgs st_28) (defBody st_28) (defScope st_28) [] [] f fd) : Binds K fd ps_28 [] := F.bindsN fun _ _ _ _ _ _ us hl => match us, hl with | [_, _], _ => rfl
theorem bd_29 {f : Addr} {fd : FuncData} (F : FunD K "_law_pull" "_law_pull" (defArgs st_29) (defBody st_29) (defScope st_29) [] [] f fd) : Binds K fd ps_29 [] := F.bindsN fun _ _ _ _ _ _ us hl => match us, hl with | [_, _], _ => rfl
theorem bd_30 {f : Addr} {fd : FuncData} (F : FunD K "_law_cut" "_law_cut" (defArgs st_30) (defBody st_30) (defScope st_30) [] [] f fd) : Binds K fd ps_30 [] := F.bindsN fun _ _ _ _ _ _ us hl => match us, hl with | [_, _], _ => rfl
theorem bd_31 {f : Addr} {fd : FuncData} (F : FunD K "_law_plus" "_law_plus" (defArgs st_31) (defBody st_31) (defScope st_31) [] [] f fd) : Binds K fd ps_31 [] := F.bindsN fun _ _ _ _ _ _ us hl => match us, hl with | [_, _, _], _ => rfl
theorem bd_32 {f : Addr} {fd : FuncData} (F : FunD K "_law_times" "_law_times" (defArgs st_32) (defBody st_32) (defScope st_32) [] [] f fd) : Binds K fd ps_32 [] := F.bindsN fun _ _ _ _ _ _ us hl => match us, hl with | [_, _], _ => rfl
theorem bd_33 {f : Addr} {fd : FuncData} (F : FunD K "_law_is_less" "_law_is_less" (defArgs st_33) (defBody st_33) (defScope st_33) [] [] f fd) : Binds K fd ps_33 [] := F.bindsN fun _ _ _ _ _ _ us hl => match us, hl with | [_, _], _ => rfl
theorem bd_34 {f : Addr} {fd : FuncData} (F : FunD K "_law_machine" "_law_machine" (defArgs st_34) (defBody st_34) (defScope st_34) [] [] f fd) : Binds K fd ps_34 [] := F.bindsN fun _ _ _ _ _ _ us hl => match us, hl with | [_, _], _ => rfl
theorem bd_35 {f : Addr} {fd : FuncData} (F : FunD K "_law_some" "_law_some" (defArgs st_35) (defBody st_35) (defScope st_35) [] [] f fd) : Binds K fd ps_35 [] := F.bindsN fun _ _ _ _ _ _ us hl => match us, hl with | [_, _, _, _], _ => rfl
theorem bd_36 {f : Addr} {fd : FuncData} (F : FunD K "_law_right" "_law_right" (defArgs st_36) (defBody st_36) (defScope st_36) [] [] f fd) : Binds K fd ps_36 [] := F.bindsN fun _ _ _ _ _ _ us hl => match us, hl with | [_], _ => rfl
theorem bd_37 {f : Addr} {fd : FuncData} (F : FunD K "law" "law" (defArgs st_37) (defBody st_37) (defScope st_37) [] [] f fd) : Binds K fd ps_37 [] := F.bindsN fun _ _ _ _ _ _ us hl => match us, hl with | [_], _ => rfl
theorem bdd_1_1 {f : Addr} {fd : FuncData} (F : FunD K "is_number" "is_number" (defArgs st_1) (defBody st_1) (defScope st_1) [.int (0), .non] [] f fd) : ∃ ds, Vals (([.int (0), .non] : List V).drop 1) ds ∧ Binds K fd ps_1 ds := F.binds1 2 1 (by simp) rfl fun T kV doc pm an cdv ct us its hu hi => match us, its, hu, hi with | [_, _], [_, _], _, _ => ⟨_, by rfl, by rfl⟩
theorem kw_26_10 (kV doc pm : Value) (an : Option Addr) (cdv ct : Value) (ws : List Value) (hl : ws.length = (["numbers", "rows"] : List Str).length) : bindArgs (PySem.W.fnOf "run" "run" (defArgs st_26) (defBody st_26) (defScope st_26) .none kV doc pm an cdv ct) ⟨[], (["numbers", "rows"] : List Str).zip ws⟩ = pure (ps_26.zip (([1, 0] : List Nat).filterMap fun i => ws[i]?)) := match ws, hl with | [_, _], _ => rfl
theorem bl_0 (pm ctv : Value) (c : Addr) (us : List Value) (hl : us.length = psL_0.length) : bindArgs (PySem.W.kla_fn "<lambda>" lam_0.qual lam_0.params lam_0.body lam_0.scope [] pm (.ref c) ctv) ⟨us, []⟩ = pure (psL_0.zip us) := match us, hl with | [_, _], _ => rfl
theorem lvl0 (F : Fds W K) (T : Txt W w K mg) (tb_0 : LamX.TabB base mg (YG.cdOf K (W.fad 20)) (tabA K (W.fad 20))) : Lvl W P w K mg base 0 (fun _ _ _ => .stuck) where
  d_0 := .mk' F.f_0 (fun _ h => bd_0 h) (fun _ _ => fnOk0) ar_stuck
  d_2 := .mk' F.f_2 (fun _ h => bd_2 h) (fun _ _ => fnOk0) ar_stuck
  d_3 := .mk' F.f_3 (fun _ h => bd_3 h) (fun _ _ => fnOk0) ar_stuck
  d_4 := .mk' F.f_4 (fun _ h => bd_4 h) (fun _ _ => fnOk0) ar_stuck
  d_5 := .mk' F.f_5 (fun _ h => bd_5 h) (fun _ _ => fnOk0) ar_stuck
  d_6 := .mk' F.f_6 (fun _ h => bd_6 h) (fun _ _ => fnOk0) ar_stuck
  d_7 := .mk' F.f_7 (fun _ h => bd_7 h) (fun _ _ => fnOk0) ar_stuck
  d_8 := .mk' F.f_8 (fun _ h => bd_8 h) (fun _ _ => fnOk0) ar_stuck
  d_9 := .mk' F.f_9 (fun _ h => bd_9 h) (fun _ _ => fnOk0) ar_stuck
  d_10 := .mk' F.f_10 (fun _ h => bd_10 h) (fun _ _ => fnOk0) ar_stuck
  d_11 := .mk' F.f_11 (fun _ h => bd_11 h) (fun _ _ => fnOk0) ar_stuck
  d_12 := .mk' F.f_12 (fun _ h => bd_12 h) (fun _ _ => fnOk0) ar_stuck
  d_13 := .mk' F.f_13 (fun _ h => bd_13 h) (fun _ _ => fnOk0) ar_stuck
  d_14 := .mk' F.f_14 (fun _ h => bd_14 h) (fun _ _ => fnOk0) ar_stuck
  d_15 := .mk' F.f_15 (fun _ h => bd_15 h) (fun _ _ => fnOk0) ar_stuck
  d_16 := .mk' F.f_16 (fun _ h => bd_16 h) (fun _ _ => fnOk0) ar_stuck
  d_17 := .mk' F.f_17 (fun _ h => bd_17 h) (fun _ _ => fnOk0) ar_stuck
  d_18 := .mk' F.f_18 (fun _ h => bd_18 h) (fun _ _ => fnOk0) ar_stuck
  d_19 := .mk' F.f_19 (fun _ h => bd_19 h) (fun _ _ => fnOk0) ar_stuck
  d_20 := .mk' F.f_20 (fun _ h => bd_20 h) (fun _ _ => fnOk0) ar_stuck
  d_21 := .mk' F.f_21 (fun _ h => bd_21 h) (fun _ _ => fnOk0) ar_stuck
  d_22 := .mk' F.f_22 (fun _ h => bd_22 h) (fun _ _ => fnOk0) ar_stuck
  d_23 := .mk' F.f_23 (fun _ h => bd_23 h) (fun _ _ => fnOk0) ar_stuck
  d_24 := .mk' F.f_24 (fun _ h => bd_24 h) (fun _ _ => fnOk0) ar_stuck
  d_25 := .mk' F.f_25 (fun _ h => bd_25 h) (fun _ _ => fnOk0) ar_stuck
  d_26 := .mk' F.f_26 (fun _ h => bd_26 h) (fun _ _ => fnOk0) ar_stuck
  d_27 := .mk' F.f_27 (fun _ h => bd_27 h) (fun _ _ => fnOk0) ar_stuck
  d_28 := .mk' F.f_28 (fun _ h => bd_28 h) (fun _ _ => fnOk0) ar_stuck
  d_29 := .mk' F.f_29 (fun _ h => bd_29 h) (fun _ _ => fnOk0) ar_stuck
  d_30 := .mk' F.f_30 (fun _ h => bd_30 h) (fun _ _ => fnOk0) ar_stuck
  d_31 := .mk' F.f_31 (fun _ h => bd_31 h) (fun _ _ => fnOk0) ar_stuck
  d_32 := .mk' F.f_32 (fun _ h => bd_32 h) (fun _ _ => fnOk0) ar_stuck
  d_33 := .mk' F.f_33 (fun _ h => bd_33 h) (fun _ _ => fnOk0) ar_stuck
  d_34 := .mk' F.f_34 (fun _ h => bd_34 h) (fun _ _ => fnOk0) ar_stuck
  d_35 := .mk' F.f_35 (fun _ h => bd_35 h) (fun _ _ => fnOk0) ar_stuck
  d_36 := .mk' F.f_36 (fun _ h => bd_36 h) (fun _ _ => fnOk0) ar_stuck
  d_37 := .mk' F.f_37 (fun _ h => bd_37 h) (fun _ _ => fnOk0) ar_stuck
  d_1_1 := .mkD F.f_1 (fun _ h => bdd_1_1 h) (fun _ _ => (.cons (Rep.none) .nil)) (fun _ _ => fnOk0) ar_stuck
  k_26_10 := .mk' F.f_26 (by decide) kw_26_10 (fun _ _ => fnOk0) ar_stuck
  tb_0 := tb_0
  l_0 := lamOk0 (ps := psL_0) T.lam_0 rfl
theorem lvlS (F : Fds W K) (T : Txt W w K mg) (D : Lvl W P w K mg base k M) (D' : Lvl W P w K mg base (k - 1) M') (h0 : ∀ j, k = 0 → M' j = fun _ _ => .stuck) : Lvl W P w K mg base (k + 1) (stepL W M M') where
  d_1_1 := .mkD F.f_1 (fun _ h => bdd_1_1 h) (fun _ _ => (.cons (Rep.none) .nil)) (fun _ h => fn_ok h fs_1 fun cdv A outer s H E hr => ok_1 T D D' h0 _ cdv A outer s H E hr) ar_fnF
  d_0 := .mk' F.f_0 (fun _ h => bd_0 h) (fun _ h => fn_ok h fs_0 fun cdv A outer s H E hr => ok_0 T D D' h0 _ cdv A outer s H E hr) ar_fnF
  d_2 := .mk' F.f_2 (fun _ h => bd_2 h) (fun _ h => fn_ok h fs_2 fun cdv A outer s H E hr => ok_2 T D D' h0 _ cdv A outer s H E hr) ar_fnF
  d_3 := .mk' F.f_3 (fun _ h => bd_3 h) (fun _ h => fn_ok h fs_3 fun cdv A outer s H E hr => ok_3 T D D' h0 _ cdv A outer s H E hr) ar_fnF
  d_4 := .mk' F.f_4 (fun _ h => bd_4 h) (fun _ h => fn_ok h fs_4 fun cdv A outer s H E hr => ok_4 T D D' h0 _ cdv A outer s H E hr) ar_fnF
  d_5 := .mk' F.f_5 (fun _ h => bd_5 h) (fun _ h => fn_ok h fs_5 fun cdv A outer s H E hr => ok_5 T D D' h0 _ cdv A outer s H E hr) ar_fnF
  d_6 := .mk' F.f_6 (fun _ h => bd_6 h) (fun _ h => fn_ok h fs_6 fun cdv A outer s H E hr => ok_6 T D D' h0 _ cdv A outer s H E hr) ar_fnF
  d_7 := .mk' F.f_7 (fun _ h => bd_7 h) (fun _ h => fn_ok h fs_7 fun cdv A outer s H E hr => ok_7 T D D' h0 _ cdv A outer s H E hr) ar_fnF
  d_8 := .mk' F.f_8 (fun _ h => bd_8 h) (fun _ h => fn_ok h fs_8 fun cdv A outer s H E hr => ok_8 T D D' h0 _ cdv A outer s H E hr) ar_fnF
  d_9 := .mk' F.f_9 (fun _ h => bd_9 h) (fun _ h => fn_ok h fs_9 fun cdv A outer s H E hr => ok_9 T D D' h0 _ cdv A outer s H E hr) ar_fnF
  d_10 := .mk' F.f_10 (fun _ h => bd_10 h) (fun _ h => fn_ok h fs_10 fun cdv A outer s H E hr => ok_10 T D D' h0 _ cdv A outer s H E hr) ar_fnF
  d_11 := .mk' F.f_11 (fun _ h => bd_11 h) (fun _ h => fn_ok h fs_11 fun cdv A outer s H E hr => ok_11 T D D' h0 _ cdv A outer s H E hr) ar_fnF
  d_12 := .mk' F.f_12 (fun _ h => bd_12 h) (fun _ h => fn_ok h fs_12 fun cdv A outer s H E hr => ok_12 T D D' h0 _ cdv A outer s H E hr) ar_fnF
  d_13 := .mk' F.f_13 (fun _ h => bd_13 h) (fun _ h => fn_ok h fs_13 fun cdv A outer s H E hr => ok_13 T D D' h0 _ cdv A outer s H E hr) ar_fnF
  d_14 := .mk' F.f_14 (fun _ h => bd_14 h) (fun _ h => fn_ok h fs_14 fun cdv A outer s H E hr => ok_14 T D D' h0 _ cdv A outer s H E hr) ar_fnF
  d_15 := .mk' F.f_15 (fun _ h => bd_15 h) (fun _ h => fn_ok h fs_15 fun cdv A outer s H E hr => ok_15 T D D' h0 _ cdv A outer s H E hr) ar_fnF
  d_16 := .mk' F.f_16 (fun _ h => bd_16 h) (fun _ h => fn_ok h fs_16 fun cdv A outer s H E hr => ok_16 T D D' h0 _ cdv A outer s H E hr) ar_fnF
  d_17 := .mk' F.f_17 (fun _ h => bd_17 h) (fun _ h => fn_ok h fs_17 fun cdv A outer s H E hr => ok_17 T D D' h0 _ cdv A outer s H E hr) ar_fnF
  d_18 := .mk' F.f_18 (fun _ h => bd_18 h) (fun _ h => fn_ok h fs_18 fun cdv A outer s H E hr => ok_18 T D D' h0 _ cdv A outer s H E hr) ar_fnF
  d_19 := .mk' F.f_19 (fun _ h => bd_19 h) (fun _ h => fn_ok h fs_19 fun cdv A outer s H E hr => ok_19 T D D' h0 _ cdv A outer s H E hr) ar_fnF
  d_20 := .mk' F.f_20 (fun _ h => bd_20 h) (fun _ h => fn_okC h fs_20 fun cdv hcd A outer s H E hr => ok_20 T D D' h0 _ cdv A outer s H E hr hcd) ar_fnF
  d_21 := .mk' F.f_21 (fun _ h => bd_21 h) (fun _ h => fn_ok h fs_21 fun cdv A outer s H E hr => ok_21 T D D' h0 _ cdv A outer s H E hr) ar_fnF
  d_22 := .mk' F.f_22 (fun _ h => bd_22 h) (fun _ h => fn_ok h fs_22 fun cdv A outer s H E hr => ok_22 T D D' h0 _ cdv A outer s H E hr) ar_fnF
  d_23 := .mk' F.f_23 (fun _ h => bd_23 h) (fun _ h => fn_ok h fs_23 fun cdv A outer s H E hr => ok_23 T D D' h0 _ cdv A outer s H E hr) ar_fnF
  d_24 := .mk' F.f_24 (fun _ h => bd_24 h) (fun _ h => fn_ok h fs_24 fun cdv A outer s H E hr => ok_24 T D D' h0 _ cdv A outer s H E hr) ar_fnF
  d_25 := .mk' F.f_25 (fun _ h => bd_25 h) (fun _ h => fn_ok h fs_25 fun cdv A outer s H E hr => ok_25 T D D' h0 _ cdv A outer s H E hr) ar_fnF
  d_26 := .mk' F.f_26 (fun _ h => bd_26 h) (fun _ h => fn_ok h fs_26 fun cdv A outer s H E hr => ok_26 T D D' h0 _ cdv A outer s H E hr) ar_fnF
  d_27 := .mk' F.f_27 (fun _ h => bd_27 h) (fun _ h => fn_ok h fs_27 fun cdv A outer s H E hr => ok_27 T D D' h0 _ cdv A outer s H E hr) ar_fnF
  d_28 := .mk' F.f_28 (fun _ h => bd_28 h) (fun _ h => fn_ok h fs_28 fun cdv A outer s H E hr => ok_28 T D D' h0 _ cdv A outer s H E hr) ar_fnF
  d_29 := .mk' F.f_29 (fun _ h => bd_29 h) (fun _ h => fn_ok h fs_29 fun cdv A outer s H E hr => ok_29 T D D' h0 _ cdv A outer s H E hr) ar_fnF
  d_30 := .mk' F.f_30 (fun _ h => bd_30 h) (fun _ h => fn_ok h fs_30 fun cdv A outer s H E hr => ok_30 T D D' h0 _ cdv A outer s H E hr) ar_fnF
  d_31 := .mk' F.f_31 (fun _ h => bd_31 h) (fun _ h => fn_ok h fs_31 fun cdv A outer s H E hr => ok_31 T D D' h0 _ cdv A outer s H E hr) ar_fnF
  d_32 := .mk' F.f_32 (fun _ h => bd_32 h) (fun _ h => fn_ok h fs_32 fun cdv A outer s H E hr => ok_32 T D D' h0 _ cdv A outer s H E hr) ar_fnF
  d_33 := .mk' F.f_33 (fun _ h => bd_33 h) (fun _ h => fn_ok h fs_33 fun cdv A outer s H E hr => ok_33 T D D' h0 _ cdv A outer s H E hr) ar_fnF
  d_34 := .mk' F.f_34 (fun _ h => bd_34 h) (fun _ h => fn_ok h fs_34 fun cdv A outer s H E hr => ok_34 T D D' h0 _ cdv A outer s H E hr) ar_fnF
  d_35 := .mk' F.f_35 (fun _ h => bd_35 h) (fun _ h => fn_ok h fs_35 fun cdv A outer s H E hr => ok_35 T D D' h0 _ cdv A outer s H E hr) ar_fnF
  d_36 := .mk' F.f_36 (fun _ h => bd_36 h) (fun _ h => fn_ok h fs_36 fun cdv A outer s H E hr => ok_36 T D D' h0 _ cdv A outer s H E hr) ar_fnF
  d_37 := .mk' F.f_37 (fun _ h => bd_37 h) (fun _ h => fn_ok h fs_37 fun cdv A outer s H E hr => ok_37 T D D' h0 _ cdv A outer s H E hr) ar_fnF
  k_26_10 := .mk' F.f_26 (by decide) kw_26_10 (fun _ h => fn_ok h fs_26 fun cdv A outer s H E hr => ok_26 T D D' h0 _ cdv A outer s H E hr) ar_fnF
  tb_0 := D.tb_0
  l_0 := lam_ok T.lam_0 fsL_0 bl_0 fun f cdv A outer s H E hr => okL_0 T D D' h0 f cdv A outer s H E hr
noncomputable def tabs (W : Wd) : Nat → Lv × Lv
  | 0 => (fun _ _ _ => .stuck, fun _ _ _ => .stuck)
  | k + 1 => (stepL W (tabs W k).1 (tabs W k).2, (tabs W k).1)
theorem lvls (F : Fds W K) (T : Txt W w K mg) (tb_0 : LamX.TabB base mg (YG.cdOf K (W.fad 20)) (tabA K (W.fad 20))) : ∀ k, Lvl W P w K mg base k (tabs W k).1 ∧ Lvl W P w K mg base (k - 1) (tabs W k).2 ∧ (∀ j, k = 0 → (tabs W k).2 j = fun _ _ => .stuck)
  | 0 => ⟨lvl0 F T tb_0, lvl0 F T tb_0, fun _ _ => rfl⟩
  | k + 1 => let ⟨a, b, c⟩ := lvls F T tb_0 k; ⟨lvlS F T a b c, a, fun _ h => absurd h (Nat.succ_ne_zero k)⟩
end
end G
end
section
set_option Elab.async false
set_option linter.all false
set_option maxRecDepth 100000
set_option maxHeartbeats 0
namespace G
open PySem PySem.Spec L2 Y He YH
abbrev R : PySem.W.OpenRow := PySem.W.OpenLaw.row PySem.Challenge.rw_scaletongue_k59_whole_machines_with_jump
def fa : List Fa := [.glo "is_whole",
  .glo "is_number",
  .glo "is_between",
  .glo "is_string",
  .glo "is_tuple_of",
  .glo "is_row",
  .glo "first_wrong",
  .glo "lowest",
  .glo "is_fraction",
  .glo "plus",
  .glo "less_by",
  .glo "times",
  .glo "is_less",
  .glo "is_code_row",
  .glo "lead_on",
  .glo "next_of",
  .glo "stands_well",
  .glo "is_code",
  .glo "are_numbers",
  .glo "two_made",
  .glo "left_by",
  .glo "run_by",
  .glo "check_code",
  .glo "run",
  .glo "_law_bag",
  .glo "_law_take",
  .glo "_law_pull",
  .glo "_law_cut",
  .glo "_law_plus",
  .glo "_law_times",
  .glo "_law_is_less",
  .glo "_law_machine",
  .glo "_law_some",
  .glo "_law_right",
  .glo "law",
  .free "abs",
  .free "all",
  .free "bool",
  .free "dict",
  .free "divmod",
  .free "enumerate",
  .free "int",
  .free "isinstance",
  .free "len",
  .free "max",
  .free "min",
  .free "range",
  .free "repr",
  .free "sorted",
  .free "str",
  .free "tuple",
  .glo "ZERO",
  .glo "ONE",
  .int "MOST_ROWS" (3000),
  .int "MOST_CELL" (99),
  .int "MOST_DATA" (3),
  .glo "LENGTHS",
  .glo "TAKES",
  .glo "LEAVES",
  .glo "JUMPS",
  .cls "Ways",
  .glo "Ways",
  .mkr "Ways",
  .noat "Ways" "rows",
  .noat "Ways" "highs",
  .noat "Ways" "kept",
  .noat "Ways" "is_right",
  .meth "Ways" "look",
  .meth "Ways" "lead"]
def dd_0 : DefD := ⟨("is_whole", none), "is_whole", "is_whole", defArgs st_0, defBody st_0, defScope st_0, [], []⟩
def dd_1 : DefD := ⟨("is_number", none), "is_number", "is_number", defArgs st_1, defBody st_1, defScope st_1, [.int (0), .non], []⟩
def dd_2 : DefD := ⟨("is_between", none), "is_between", "is_between", defArgs st_2, defBody st_2, defScope st_2, [], []⟩
def dd_3 : DefD := ⟨("is_string", none), "is_string", "is_string", defArgs st_3, defBody st_3, defScope st_3, [], []⟩
def dd_4 : DefD := ⟨("is_tuple_of", none), "is_tuple_of", "is_tuple_of", defArgs st_4, defBody st_4, defScope st_4, [], []⟩
def dd_5 : DefD := ⟨("is_row", none), "is_row", "is_row", defArgs st_5, defBody st_5, defScope st_5, [], []⟩
def dd_6 : DefD := ⟨("first_wrong", none), "first_wrong", "first_wrong", defArgs st_6, defBody st_6, defScope st_6, [], []⟩
def dd_7 : DefD := ⟨("lowest", none), "lowest", "lowest", defArgs st_7, defBody st_7, defScope st_7, [], []⟩
def dd_8 : DefD := ⟨("is_fraction", none), "is_fraction", "is_fraction", defArgs st_8, defBody st_8, defScope st_8, [], []⟩
def dd_9 : DefD := ⟨("plus", none), "plus", "plus", defArgs st_9, defBody st_9, defScope st_9, [], []⟩
def dd_10 : DefD := ⟨("less_by", none), "less_by", "less_by", defArgs st_10, defBody st_10, defScope st_10, [], []⟩
def dd_11 : DefD := ⟨("times", none), "times", "times", defArgs st_11, defBody st_11, defScope st_11, [], []⟩
def dd_12 : DefD := ⟨("is_less", none), "is_less", "is_less", defArgs st_12, defBody st_12, defScope st_12, [], []⟩
def dd_13 : DefD := ⟨("is_code_row", none), "is_code_row", "is_code_row", defArgs st_13, defBody st_13, defScope st_13, [], []⟩
def dd_14 : DefD := ⟨("lead_on", none), "lead_on", "lead_on", defArgs st_14, defBody st_14, defScope st_14, [], []⟩
def dd_15 : DefD := ⟨("next_of", none), "next_of", "next_of", defArgs st_15, defBody st_15, defScope st_15, [], []⟩
def dd_16 : DefD := ⟨("Ways", some "__init__"), "__init__", "Ways.__init__", defArgs st_16, defBody st_16, defScope st_16, [], []⟩
def dd_17 : DefD := ⟨("Ways", some "look"), "look", "Ways.look", defArgs st_17, defBody st_17, defScope st_17, [], []⟩
def dd_18 : DefD := ⟨("Ways", some "lead"), "lead", "Ways.lead", defArgs st_18, defBody st_18, defScope st_18, [], []⟩
def dd_19 : DefD := ⟨("stands_well", none), "stands_well", "stands_well", defArgs st_19, defBody st_19, defScope st_19, [], []⟩
def dd_20 : DefD := ⟨("is_code", none), "is_code", "is_code", defArgs st_20, defBody st_20, defScope st_20, [], []⟩
def dd_21 : DefD := ⟨("are_numbers", none), "are_numbers", "are_numbers", defArgs st_21, defBody st_21, defScope st_21, [], []⟩
def dd_22 : DefD := ⟨("two_made", none), "two_made", "two_made", defArgs st_22, defBody st_22, defScope st_22, [], []⟩
def dd_23 : DefD := ⟨("left_by", none), "left_by", "left_by", defArgs st_23, defBody st_23, defScope st_23, [], []⟩
def dd_24 : DefD := ⟨("run_by", none), "run_by", "run_by", defArgs st_24, defBody st_24, defScope st_24, [], []⟩
def dd_25 : DefD := ⟨("check_code", none), "check_code", "check_code", defArgs st_25, defBody st_25, defScope st_25, [], []⟩
def dd_26 : DefD := ⟨("run", none), "run", "run", defArgs st_26, defBody st_26, defScope st_26, [], []⟩
def dd_27 : DefD := ⟨("_law_bag", none), "_law_bag", "_law_bag", defArgs st_27, defBody st_27, defScope st_27, [], []⟩
def dd_28 : DefD := ⟨("_law_take", none), "_law_take", "_law_take", defArgs st_28, defBody st_28, defScope st_28, [], []⟩
def dd_29 : DefD := ⟨("_law_pull", none), "_law_pull", "_law_pull", defArgs st_29, defBody st_29, defScope st_29, [], []⟩
def dd_30 : DefD := ⟨("_law_cut", none), "_law_cut", "_law_cut", defArgs st_30, defBody st_30, defScope st_30, [], []⟩
def dd_31 : DefD := ⟨("_law_plus", none), "_law_plus", "_law_plus", defArgs st_31, defBody st_31, defScope st_31, [], []⟩
def dd_32 : DefD := ⟨("_law_times", none), "_law_times", "_law_times", defArgs st_32, defBody st_32, defScope st_32, [], []⟩
def dd_33 : DefD := ⟨("_law_is_less", none), "_law_is_less", "_law_is_less", defArgs st_33, defBody st_33, defScope st_33, [], []⟩
def dd_34 : DefD := ⟨("_law_machine", none), "_law_machine", "_law_machine", defArgs st_34, defBody st_34, defScope st_34, [], []⟩
def dd_35 : DefD := ⟨("_law_some", none), "_law_some", "_law_some", defArgs st_35, defBody st_35, defScope st_35, [], []⟩
def dd_36 : DefD := ⟨("_law_right", none), "_law_right", "_law_right", defArgs st_36, defBody st_36, defScope st_36, [], []⟩
def dd_37 : DefD := ⟨("law", none), "law", "law", defArgs st_37, defBody st_37, defScope st_37, [], []⟩
def fn : List DefD := [dd_0, dd_1, dd_2, dd_3, dd_4, dd_5, dd_6, dd_7, dd_8, dd_9, dd_10, dd_11, dd_12, dd_13, dd_14, dd_15, dd_16, dd_17, dd_18, dd_19, dd_20, dd_21, dd_22, dd_23, dd_24, dd_25, dd_26, dd_27, dd_28, dd_29, dd_30, dd_31, dd_32, dd_33, dd_34, dd_35, dd_36, dd_37]
def kv_LENGTHS : List (Str × PyData) := [("push", (.int (3))), ("data", (.int (2))), ("add", (.int (1))), ("sub", (.int (1))), ("times", (.int (3))), ("less", (.int (1))), ("same", (.int (1))), ("keep", (.int (2))), ("load", (.int (2))), ("jump", (.int (2))), ("unless", (.int (2)))]
def kv_TAKES : List (Str × PyData) := [("push", (.int (0))), ("data", (.int (0))), ("add", (.int (2))), ("sub", (.int (2))), ("times", (.int (1))), ("less", (.int (2))), ("same", (.int (2))), ("keep", (.int (1))), ("load", (.int (0))), ("jump", (.int (0))), ("unless", (.int (1)))]
def kv_LEAVES : List (Str × PyData) := [("push", (.int (1))), ("data", (.int (1))), ("add", (.int (1))), ("sub", (.int (1))), ("times", (.int (1))), ("less", (.int (1))), ("same", (.int (1))), ("keep", (.int (0))), ("load", (.int (1))), ("jump", (.int (0))), ("unless", (.int (0)))]
def tb_LENGTHS : Tab := (fun K => ga K "LENGTHS", kv_LENGTHS.map (·.1))
def tb_TAKES : Tab := (fun K => ga K "TAKES", kv_TAKES.map (·.1))
def tb_LEAVES : Tab := (fun K => ga K "LEAVES", kv_LEAVES.map (·.1))
def ts : List Tab := [tb_LENGTHS, tb_TAKES, tb_LEAVES]
def exT (K : PySem.W.Frag) : Bool := ([("ZERO", (.tuple [(.int (0)), (.int (1))])), ("ONE", (.tuple [(.int (1)), (.int (1))])), ("JUMPS", (.tuple [(.str "jump"), (.str "unless")]))] : List (Str × PyData)).all fun q => dzB K q.2 (.ref (ga K q.1))
def exB (K : PySem.W.Frag) : Bool := ([("Ways", "look"), ("Ways", "lead")] : List (Str × Str)).all fun q => bmB K q.1 q.2
def exV (K : PySem.W.Frag) : Bool := ([("LENGTHS", kv_LENGTHS), ("TAKES", kv_TAKES), ("LEAVES", kv_LEAVES)] : List (Str × List (Str × PyData))).all fun q => valB K (ga K q.1) q.2
def exG (K : PySem.W.Frag) : Bool := eqO (PySem.W.nsIn K mainGlobals "gcd") (some (some (.builtin "math.gcd")))
def ex (K : PySem.W.Frag) : Bool := exT K && (exB K && (exV K && exG K))
def WK (K : PySem.W.Frag) : Wd where
  fad := fun i => match i with
    | 0 => ga K "is_whole"
    | 1 => ga K "is_number"
    | 2 => ga K "is_between"
    | 3 => ga K "is_string"
    | 4 => ga K "is_tuple_of"
    | 5 => ga K "is_row"
    | 6 => ga K "first_wrong"
    | 7 => ga K "lowest"
    | 8 => ga K "is_fraction"
    | 9 => ga K "plus"
    | 10 => ga K "less_by"
    | 11 => ga K "times"
    | 12 => ga K "is_less"
    | 13 => ga K "is_code_row"
    | 14 => ga K "lead_on"
    | 15 => ga K "next_of"
    | 16 => ma K (ga K "Ways") "__init__"
    | 17 => ma K (ga K "Ways") "look"
    | 18 => ma K (ga K "Ways") "lead"
    | 19 => ga K "stands_well"
    | 20 => ga K "is_code"
    | 21 => ga K "are_numbers"
    | 22 => ga K "two_made"
    | 23 => ga K "left_by"
    | 24 => ga K "run_by"
    | 25 => ga K "check_code"
    | 26 => ga K "run"
    | 27 => ga K "_law_bag"
    | 28 => ga K "_law_take"
    | 29 => ga K "_law_pull"
    | 30 => ga K "_law_cut"
    | 31 => ga K "_law_plus"
    | 32 => ga K "_law_times"
    | 33 => ga K "_law_is_less"
    | 34 => ga K "_law_machine"
    | 35 => ga K "_law_some"
    | 36 => ga K "_law_right"
    | 37 => ga K "law"
    | 1001 => ga K "ZERO"
    | 1002 => ga K "ONE"
    | 1009 => ga K "JUMPS"
    | _ => 0
  cad := fun i => match i with
    | 0 => ga K "Ways"
    | _ => 0
  kad := fun i => match i with
    | 0 => ga K "LENGTHS"
    | 1 => ga K "TAKES"
    | 2 => ga K "LEAVES"
    | _ => 0
  kdv := fun i => match i with
    | 0 => kv_LENGTHS.map fun q => (q.1, T.d q.2)
    | 1 => kv_TAKES.map fun q => (q.1, T.d q.2)
    | 2 => kv_LEAVES.map fun q => (q.1, T.d q.2)
    | _ => []
  okf := fun c f => match c with
    | 0 => decide (f ∈ (["rows", "highs", "kept", "is_right"] : List Str))
    | _ => false
  tbs := [(tabA K (ga K "is_code"), ("is_code.<locals>.<lambda>" : Str))]
  lam := fun i => match i with
    | 0 => lam_0
    | _ => lam_0
def tf : List Defn := [("is_code", none)]
section
variable {w : World} {K : PySem.W.Frag} {h : Heap} {mg : Str → Option Value}
theorem fds (c : SaysL fa fn ts tf ex w h K) : Fds (WK K) K where
  f_0 := c.t.d.def_ 0 (d := dd_0) rfl
  f_1 := c.t.d.def_ 1 (d := dd_1) rfl
  f_2 := c.t.d.def_ 2 (d := dd_2) rfl
  f_3 := c.t.d.def_ 3 (d := dd_3) rfl
  f_4 := c.t.d.def_ 4 (d := dd_4) rfl
  f_5 := c.t.d.def_ 5 (d := dd_5) rfl
  f_6 := c.t.d.def_ 6 (d := dd_6) rfl
  f_7 := c.t.d.def_ 7 (d := dd_7) rfl
  f_8 := c.t.d.def_ 8 (d := dd_8) rfl
  f_9 := c.t.d.def_ 9 (d := dd_9) rfl
  f_10 := c.t.d.def_ 10 (d := dd_10) rfl
  f_11 := c.t.d.def_ 11 (d := dd_11) rfl
  f_12 := c.t.d.def_ 12 (d := dd_12) rfl
  f_13 := c.t.d.def_ 13 (d := dd_13) rfl
  f_14 := c.t.d.def_ 14 (d := dd_14) rfl
  f_15 := c.t.d.def_ 15 (d := dd_15) rfl
  f_16 := c.t.d.def_ 16 (d := dd_16) rfl
  f_17 := c.t.d.def_ 17 (d := dd_17) rfl
  f_18 := c.t.d.def_ 18 (d := dd_18) rfl
  f_19 := c.t.d.def_ 19 (d := dd_19) rfl
  f_20 := c.t.d.def_ 20 (d := dd_20) rfl
  f_21 := c.t.d.def_ 21 (d := dd_21) rfl
  f_22 := c.t.d.def_ 22 (d := dd_22) rfl
  f_23 := c.t.d.def_ 23 (d := dd_23) rfl
  f_24 := c.t.d.def_ 24 (d := dd_24) rfl
  f_25 := c.t.d.def_ 25 (d := dd_25) rfl
  f_26 := c.t.d.def_ 26 (d := dd_26) rfl
  f_27 := c.t.d.def_ 27 (d := dd_27) rfl
  f_28 := c.t.d.def_ 28 (d := dd_28) rfl
  f_29 := c.t.d.def_ 29 (d := dd_29) rfl
  f_30 := c.t.d.def_ 30 (d := dd_30) rfl
  f_31 := c.t.d.def_ 31 (d := dd_31) rfl
  f_32 := c.t.d.def_ 32 (d := dd_32) rfl
  f_33 := c.t.d.def_ 33 (d := dd_33) rfl
  f_34 := c.t.d.def_ 34 (d := dd_34) rfl
  f_35 := c.t.d.def_ 35 (d := dd_35) rfl
  f_36 := c.t.d.def_ 36 (d := dd_36) rfl
  f_37 := c.t.d.def_ 37 (d := dd_37) rfl
theorem exs (c : SaysL fa fn ts tf ex w h K) : exT K = true ∧ exB K = true ∧ exV K = true ∧ exG K = true := let ⟨a, b⟩ := ba c.more; let ⟨d, e⟩ := ba b; let ⟨e1, e2⟩ := ba e; ⟨a, d, e1, e2⟩
theorem wok (c : SaysL fa fn ts tf ex w h K) : WOk (WK K) K w where
  kd := fun i hi => match i, hi with
    | 0, _ => kd_ok (kvs := kv_LENGTHS) (tab_at c.t 0 (t := tb_LENGTHS) rfl) (List.all_eq_true.mp (exs c).2.2.1 ("LENGTHS", kv_LENGTHS) (by repeat (first | exact List.mem_cons_self | apply List.mem_cons_of_mem)))
    | 1, _ => kd_ok (kvs := kv_TAKES) (tab_at c.t 1 (t := tb_TAKES) rfl) (List.all_eq_true.mp (exs c).2.2.1 ("TAKES", kv_TAKES) (by repeat (first | exact List.mem_cons_self | apply List.mem_cons_of_mem)))
    | 2, _ => kd_ok (kvs := kv_LEAVES) (tab_at c.t 2 (t := tb_LEAVES) rfl) (List.all_eq_true.mp (exs c).2.2.1 ("LEAVES", kv_LEAVES) (by repeat (first | exact List.mem_cons_self | apply List.mem_cons_of_mem)))
    | _ + 3, hi => absurd rfl hi
  fld := fun c0 f hf => match c0, hf with
    | 0, hf => by
      have hf : f ∈ (["rows", "highs", "kept", "is_right"] : List Str) := of_decide_eq_true hf
      refine ⟨cls_ok (c.t.d.fact 60 (f := .cls "Ways") rfl), ?_⟩
      simp only [List.mem_cons, List.mem_nil_iff, or_false] at hf
      rcases hf with rfl | rfl | rfl | rfl
      · exact noat_ok (c.t.d.fact 63 (f := .noat "Ways" "rows") rfl)
      · exact noat_ok (c.t.d.fact 64 (f := .noat "Ways" "highs") rfl)
      · exact noat_ok (c.t.d.fact 65 (f := .noat "Ways" "kept") rfl)
      · exact noat_ok (c.t.d.fact 66 (f := .noat "Ways" "is_right") rfl)
    | _ + 1, hf => by cases hf
theorem wok2 (c : SaysL fa fn ts tf ex w h K) : WOk2 (WK K) K w where
  cp := fun i hi => match i, hi with
    | 0, _ => ⟨kv_LENGTHS, rfl, ⟨tab_at c.t 0 (t := tb_LENGTHS) rfl, List.all_eq_true.mp (exs c).2.2.1 ("LENGTHS", kv_LENGTHS) (by repeat (first | exact List.mem_cons_self | apply List.mem_cons_of_mem)), by decide +kernel⟩, by decide⟩
    | 1, _ => ⟨kv_TAKES, rfl, ⟨tab_at c.t 1 (t := tb_TAKES) rfl, List.all_eq_true.mp (exs c).2.2.1 ("TAKES", kv_TAKES) (by repeat (first | exact List.mem_cons_self | apply List.mem_cons_of_mem)), by decide +kernel⟩, by decide⟩
    | 2, _ => ⟨kv_LEAVES, rfl, ⟨tab_at c.t 2 (t := tb_LEAVES) rfl, List.all_eq_true.mp (exs c).2.2.1 ("LEAVES", kv_LEAVES) (by repeat (first | exact List.mem_cons_self | apply List.mem_cons_of_mem)), by decide +kernel⟩, by decide⟩
    | _ + 3, hi => absurd rfl hi
theorem txt (X : K.In h) (G : h.Ns mainGlobals mg) (c : SaysL fa fn ts tf ex w h K) : Txt (WK K) w K mg where
  G := wok c
  K2 := wok2 c
  m_is_whole := glo_ok X G (c.t.d.fact 0 (f := .glo "is_whole") rfl)
  m_is_number := glo_ok X G (c.t.d.fact 1 (f := .glo "is_number") rfl)
  m_is_between := glo_ok X G (c.t.d.fact 2 (f := .glo "is_between") rfl)
  m_is_string := glo_ok X G (c.t.d.fact 3 (f := .glo "is_string") rfl)
  m_is_tuple_of := glo_ok X G (c.t.d.fact 4 (f := .glo "is_tuple_of") rfl)
  m_is_row := glo_ok X G (c.t.d.fact 5 (f := .glo "is_row") rfl)
  m_first_wrong := glo_ok X G (c.t.d.fact 6 (f := .glo "first_wrong") rfl)
  m_lowest := glo_ok X G (c.t.d.fact 7 (f := .glo "lowest") rfl)
  m_is_fraction := glo_ok X G (c.t.d.fact 8 (f := .glo "is_fraction") rfl)
  m_plus := glo_ok X G (c.t.d.fact 9 (f := .glo "plus") rfl)
  m_less_by := glo_ok X G (c.t.d.fact 10 (f := .glo "less_by") rfl)
  m_times := glo_ok X G (c.t.d.fact 11 (f := .glo "times") rfl)
  m_is_less := glo_ok X G (c.t.d.fact 12 (f := .glo "is_less") rfl)
  m_is_code_row := glo_ok X G (c.t.d.fact 13 (f := .glo "is_code_row") rfl)
  m_lead_on := glo_ok X G (c.t.d.fact 14 (f := .glo "lead_on") rfl)
  m_next_of := glo_ok X G (c.t.d.fact 15 (f := .glo "next_of") rfl)
  m_stands_well := glo_ok X G (c.t.d.fact 16 (f := .glo "stands_well") rfl)
  m_is_code := glo_ok X G (c.t.d.fact 17 (f := .glo "is_code") rfl)
  m_are_numbers := glo_ok X G (c.t.d.fact 18 (f := .glo "are_numbers") rfl)
  m_two_made := glo_ok X G (c.t.d.fact 19 (f := .glo "two_made") rfl)
  m_left_by := glo_ok X G (c.t.d.fact 20 (f := .glo "left_by") rfl)
  m_run_by := glo_ok X G (c.t.d.fact 21 (f := .glo "run_by") rfl)
  m_check_code := glo_ok X G (c.t.d.fact 22 (f := .glo "check_code") rfl)
  m_run := glo_ok X G (c.t.d.fact 23 (f := .glo "run") rfl)
  m__law_bag := glo_ok X G (c.t.d.fact 24 (f := .glo "_law_bag") rfl)
  m__law_take := glo_ok X G (c.t.d.fact 25 (f := .glo "_law_take") rfl)
  m__law_pull := glo_ok X G (c.t.d.fact 26 (f := .glo "_law_pull") rfl)
  m__law_cut := glo_ok X G (c.t.d.fact 27 (f := .glo "_law_cut") rfl)
  m__law_plus := glo_ok X G (c.t.d.fact 28 (f := .glo "_law_plus") rfl)
  m__law_times := glo_ok X G (c.t.d.fact 29 (f := .glo "_law_times") rfl)
  m__law_is_less := glo_ok X G (c.t.d.fact 30 (f := .glo "_law_is_less") rfl)
  m__law_machine := glo_ok X G (c.t.d.fact 31 (f := .glo "_law_machine") rfl)
  m__law_some := glo_ok X G (c.t.d.fact 32 (f := .glo "_law_some") rfl)
  m__law_right := glo_ok X G (c.t.d.fact 33 (f := .glo "_law_right") rfl)
  m_law := glo_ok X G (c.t.d.fact 34 (f := .glo "law") rfl)
  n_abs := free_ok X G (c.t.d.fact 35 (f := .free "abs") rfl)
  n_all := free_ok X G (c.t.d.fact 36 (f := .free "all") rfl)
  n_bool := free_ok X G (c.t.d.fact 37 (f := .free "bool") rfl)
  n_dict := free_ok X G (c.t.d.fact 38 (f := .free "dict") rfl)
  n_divmod := free_ok X G (c.t.d.fact 39 (f := .free "divmod") rfl)
  n_enumerate := free_ok X G (c.t.d.fact 40 (f := .free "enumerate") rfl)
  n_int := free_ok X G (c.t.d.fact 41 (f := .free "int") rfl)
  n_isinstance := free_ok X G (c.t.d.fact 42 (f := .free "isinstance") rfl)
  n_len := free_ok X G (c.t.d.fact 43 (f := .free "len") rfl)
  n_max := free_ok X G (c.t.d.fact 44 (f := .free "max") rfl)
  n_min := free_ok X G (c.t.d.fact 45 (f := .free "min") rfl)
  n_range := free_ok X G (c.t.d.fact 46 (f := .free "range") rfl)
  n_repr := free_ok X G (c.t.d.fact 47 (f := .free "repr") rfl)
  n_sorted := free_ok X G (c.t.d.fact 48 (f := .free "sorted") rfl)
  n_str := free_ok X G (c.t.d.fact 49 (f := .free "str") rfl)
  n_tuple := free_ok X G (c.t.d.fact 50 (f := .free "tuple") rfl)
  g_gcd := PySem.W.mg_of X G (eqO_ok (exs c).2.2.2)
  g_ZERO := glo_ok X G (c.t.d.fact 51 (f := .glo "ZERO") rfl)
  r_ZERO := tup_rep (List.all_eq_true.mp (exs c).1 ("ZERO", (.tuple [(.int (0)), (.int (1))])) (by repeat (first | exact List.mem_cons_self | apply List.mem_cons_of_mem)))
  g_ONE := glo_ok X G (c.t.d.fact 52 (f := .glo "ONE") rfl)
  r_ONE := tup_rep (List.all_eq_true.mp (exs c).1 ("ONE", (.tuple [(.int (1)), (.int (1))])) (by repeat (first | exact List.mem_cons_self | apply List.mem_cons_of_mem)))
  g_MOST_ROWS := int_ok X G (c.t.d.fact 53 (f := .int "MOST_ROWS" (3000)) rfl)
  g_MOST_CELL := int_ok X G (c.t.d.fact 54 (f := .int "MOST_CELL" (99)) rfl)
  g_MOST_DATA := int_ok X G (c.t.d.fact 55 (f := .int "MOST_DATA" (3)) rfl)
  g_LENGTHS := glo_ok X G (c.t.d.fact 56 (f := .glo "LENGTHS") rfl)
  g_TAKES := glo_ok X G (c.t.d.fact 57 (f := .glo "TAKES") rfl)
  g_LEAVES := glo_ok X G (c.t.d.fact 58 (f := .glo "LEAVES") rfl)
  g_JUMPS := glo_ok X G (c.t.d.fact 59 (f := .glo "JUMPS") rfl)
  r_JUMPS := tup_rep (List.all_eq_true.mp (exs c).1 ("JUMPS", (.tuple [(.str "jump"), (.str "unless")])) (by repeat (first | exact List.mem_cons_self | apply List.mem_cons_of_mem)))
  c_0 := cls_ok (c.t.d.fact 60 (f := .cls "Ways") rfl)
  k_0 := glo_ok X G (c.t.d.fact 61 (f := .glo "Ways") rfl)
  mk_0 := mkr_ok (c.t.d.fact 62 (f := .mkr "Ways") rfl)
  me_17 := meth_ok (c.t.d.fact 67 (f := .meth "Ways" "look") rfl)
  bm_17 := bmB_ok (List.all_eq_true.mp (exs c).2.1 ("Ways", "look") (by repeat (first | exact List.mem_cons_self | apply List.mem_cons_of_mem))) (meth_ok (c.t.d.fact 67 (f := .meth "Ways" "look") rfl))
  me_18 := meth_ok (c.t.d.fact 68 (f := .meth "Ways" "lead") rfl)
  bm_18 := bmB_ok (List.all_eq_true.mp (exs c).2.1 ("Ways", "lead") (by repeat (first | exact List.mem_cons_self | apply List.mem_cons_of_mem))) (meth_ok (c.t.d.fact 68 (f := .meth "Ways" "lead") rfl))
  lam_0 := rfl
  tbs := rfl
end
end G
namespace Hd
open PySem PySem.W PySem.Calls PyProof.Rows HandSHeadRun
def names : List PySem.Str := (["__name__", "is_whole", "is_number", "is_between", "is_string", "is_tuple_of", "is_row", "first_wrong", "ZERO", "ONE", "lowest", "is_fraction", "plus", "less_by", "times", "is_less", "ScaleError", "InvalidGiven", "InvalidCode", "MOST_ROWS", "MOST_CELL", "MOST_DATA", "LENGTHS", "TAKES", "LEAVES", "JUMPS", "is_code_row", "lead_on", "next_of", "Ways"] : List PySem.Str) ++ (["stands_well", "is_code", "are_numbers", "two_made", "left_by", "run_by", "check_code", "run", "_law_bag", "_law_take", "_law_pull", "_law_cut", "_law_plus", "_law_times", "_law_worth", "_law_is_less", "_law_ranked", "_law_is_so", "_law_machine", "_law_some", "_law_right"] : List PySem.Str)
abbrev qv : Program := view G.R.prog [0, 56]
abbrev hk : Hook := YH.hookL 4 G.fa G.fn G.ts G.tf G.ex
def ob (s : SharedT) : He.AlT × Bool := YH.obsL 4 G.fa G.fn G.ts G.tf G.ex (HandSHeadRun.getT s)
theorem ob_eq (s : SharedT) : ob s = hk.obs s.abs := YH.obsL_eq (HandSHeadRun.getT_eq s)
end Hd
end
section
set_option Elab.async false
set_option linter.all false
set_option maxRecDepth 100000
set_option maxHeartbeats 0
namespace Hd
open PySem PySem.W PySem.Calls PyProof.Rows HandSHeadRun
theorem runF (w : World) : RunEqI G.R qv hk ob 400000 names (w.withFollow "special-get-raises" false) := by
  unfold RunEqI; kernel_rfl
theorem runT (w : World) : RunEqI G.R qv hk ob 400000 names (w.withFollow "special-get-raises" true) := by
  unfold RunEqI; kernel_rfl
theorem run (w : World) : RunEqI G.R qv hk ob 400000 names w := byRow2 "special-get-raises" (P := fun w => RunEqI G.R qv hk ob 400000 names w) runF runT w
end Hd
end
section
set_option Elab.async false
set_option linter.all false
set_option maxRecDepth 100000
set_option maxHeartbeats 0
namespace G
open PySem PySem.Spec L2 Y He YH
/-- what is left: the plain law -/
def Plain : Prop := ∀ (K : PySem.W.Frag) (ns : List Int), ns.length ≤ 63 → ∃ c, fnF N_37.length ps_37.length (b_37 (WK K) (tabs (WK K) 40).1 (tabs (WK K) 40).2) [.scr ns] [] = .ok (.d (.bool true)) c
theorem law_fn {P : Program} {w : World} {K : PySem.W.Frag} {h : Heap} {mg : Str → Option Value} {f : Addr} (X : K.In h) (G : h.Ns mainGlobals mg) (hfa : mg ("law" : Str) = some (.ref f)) (c : SaysL fa fn ts tf ex w h K) :
    ∃ fd : FuncData, (∀ (s : Shared) (v : Value), BindsTo s fd ⟨[v], []⟩ [("script", v)]) ∧ ∀ base : Heap, K.In base → base.Ns mainGlobals mg → (∀ p ∈ tf.map (cT K), LamX.TabB base mg p.1 p.2) → YG.FnG P w K mg base 41 f fd ["script"] (spY (WK K) K 1 (fnF N_37.length ps_37.length (b_37 (WK K) (tabs (WK K) 40).1 (tabs (WK K) 40).2))) := by
  obtain ⟨fd, F⟩ := (fds c).f_37
  have T := txt X G c
  have e := hfa.symm.trans T.m_law
  cases e
  have b := FunD.bindsA (ps := ["script"]) F fun _ _ _ _ _ _ us hl => match us, hl with | [_], _ => rfl
  refine ⟨fd, fun s v => b s [v] rfl, fun base _ _ tb => ?_⟩
  obtain ⟨a, b2, c0⟩ := lvls (P := P) (base := base) (fds c) T (tb _ List.mem_cons_self) 40
  exact fn_ok F fs_37 fun cdv A outer s H E hr => ok_37 T a b2 c0 _ cdv A outer s H E hr
end G
open PySem PySem.W PySem.Calls PyProof.Rows
theorem k59_of (hp : G.Plain) : PySem.Challenge.rw_scaletongue_k59_whole_machines_with_jump.Holds := by
  w_on; o_law
  refine HandSHeadRun.head_imp (r := G.R) (q := Hd.qv) (H := Hd.hk) (ob := Hd.ob) (M := 400000) (loose := Hd.names) (d := HandSHeadRun.topDef G.R.prog 56) (kwd := []) Hd.ob_eq Hd.run
    (by kernel_rfl) (by kernel_rfl) (by kernel_rfl) (by rfl) (by first | assumption | decide +kernel) (by decide +kernel) ⟨rfl, rfl, rfl, rfl, rfl, by decide +kernel⟩ ?hw ?hc
  case hw => w_witness2
  case hc =>
    refine YG.walk_ofT (l := PySem.Challenge.rw_scaletongue_k59_whole_machines_with_jump) (n := 63) (k := 41) (x := "script") rfl (by decide) (by kernel_rfl) ⟨⟨rfl, by decide, by decide⟩, rfl⟩ ?F
    intro w mg fa h Y GN hmg0
    obtain ⟨K, KX, c⟩ := Y
    have hmg : mg ("law" : PySem.Str) = some (.ref fa) := by
      have e : (HandSHeadRun.topDef G.R.prog 56).name = ("law" : PySem.Str) := by kernel_rfl
      rw [← e]
      exact hmg0
    obtain ⟨fd, hb, hF⟩ := G.law_fn (P := (PySem.Challenge.rw_scaletongue_k59_whole_machines_with_jump).prog) (w := w) KX GN hmg c
    refine ⟨K, fd, G.tf.map (He.cT K), _, KX, fun p hp => ?_, fun p hp => ?_, fun p hp => ?_, hb, fun H a ns hl hT hS => YH.start_sp hS (fun p hp => ?_) (hp K ns hl), hF⟩
    · obtain ⟨q, hq, rfl⟩ := List.mem_map.mp hp
      exact c.empty q hq
    · obtain ⟨q, hq, rfl⟩ := List.mem_map.mp hp
      exact c.out q hq
    · obtain ⟨q, hq, rfl⟩ := List.mem_map.mp hp
      exact PySem.W.codeHd_of_K KX (c.hd q hq)
    · cases List.mem_singleton.mp hp
      exact hT (He.cT K ("is_code", none)) List.mem_cons_self
end
section
set_option Elab.async false
set_option linter.all false
set_option maxRecDepth 100000
set_option maxHeartbeats 1000000
namespace G
open PySem Y
variable {W : Wd} {k : Nat} {cs : Cs}
noncomputable abbrev Tb (W : Wd) (k : Nat) : Lv := (tabs W k).1
theorem tb_0 : Tb W (k + 1) 0 = fnF N_0.length ps_0.length (b_0 W (Tb W k) (tabs W k).2) := rfl
theorem tb_1 : Tb W (k + 1) 1 = fnF N_1.length ps_1.length (b_1 W (Tb W k) (tabs W k).2) := rfl
theorem tb_2 : Tb W (k + 1) 2 = fnF N_2.length ps_2.length (b_2 W (Tb W k) (tabs W k).2) := rfl
theorem tb_3 : Tb W (k + 1) 3 = fnF N_3.length ps_3.length (b_3 W (Tb W k) (tabs W k).2) := rfl
theorem tb_4 : Tb W (k + 1) 4 = fnF N_4.length ps_4.length (b_4 W (Tb W k) (tabs W k).2) := rfl
theorem tb_5 : Tb W (k + 1) 5 = fnF N_5.length ps_5.length (b_5 W (Tb W k) (tabs W k).2) := rfl
theorem tb_6 : Tb W (k + 1) 6 = fnF N_6.length ps_6.length (b_6 W (Tb W k) (tabs W k).2) := rfl
theorem tb_7 : Tb W (k + 1) 7 = fnF N_7.length ps_7.length (b_7 W (Tb W k) (tabs W k).2) := rfl
theorem tb_8 : Tb W (k + 1) 8 = fnF N_8.length ps_8.length (b_8 W (Tb W k) (tabs W k).2) := rfl
theorem tb_9 : Tb W (k + 1) 9 = fnF N_9.length ps_9.length (b_9 W (Tb W k) (tabs W k).2) := rfl
theorem tb_10 : Tb W (k + 1) 10 = fnF N_10.length ps_10.length (b_10 W (Tb W k) (tabs W k).2) := rfl
theorem tb_11 : Tb W (k + 1) 11 = fnF N_11.length ps_11.length (b_11 W (Tb W k) (tabs W k).2) := rfl
theorem tb_12 : Tb W (k + 1) 12 = fnF N_12.length ps_12.length (b_12 W (Tb W k) (tabs W k).2) := rfl
theorem tb_13 : Tb W (k + 1) 13 = fnF N_13.length ps_13.length (b_13 W (Tb W k) (tabs W k).2) := rfl
theorem tb_14 : Tb W (k + 1) 14 = fnF N_14.length ps_14.length (b_14 W (Tb W k) (tabs W k).2) := rfl
theorem tb_15 : Tb W (k + 1) 15 = fnF N_15.length ps_15.length (b_15 W (Tb W k) (tabs W k).2) := rfl
theorem tb_16 : Tb W (k + 1) 16 = fnF N_16.length ps_16.length (b_16 W (Tb W k) (tabs W k).2) := rfl
theorem tb_17 : Tb W (k + 1) 17 = fnF N_17.length ps_17.length (b_17 W (Tb W k) (tabs W k).2) := rfl
theorem tb_18 : Tb W (k + 1) 18 = fnF N_18.length ps_18.length (b_18 W (Tb W k) (tabs W k).2) := rfl
theorem tb_19 : Tb W (k + 1) 19 = fnF N_19.length ps_19.length (b_19 W (Tb W k) (tabs W k).2) := rfl
theorem tb_20 : Tb W (k + 1) 20 = fnF N_20.length ps_20.length (b_20 W (Tb W k) (tabs W k).2) := rfl
theorem tb_21 : Tb W (k + 1) 21 = fnF N_21.length ps_21.length (b_21 W (Tb W k) (tabs W k).2) := rfl
theorem tb_22 : Tb W (k + 1) 22 = fnF N_22.length ps_22.length (b_22 W (Tb W k) (tabs W k).2) := rfl
theorem tb_23 : Tb W (k + 1) 23 = fnF N_23.length ps_23.length (b_23 W (Tb W k) (tabs W k).2) := rfl
theorem tb_24 : Tb W (k + 1) 24 = fnF N_24.length ps_24.length (b_24 W (Tb W k) (tabs W k).2) := rfl
theorem tb_25 : Tb W (k + 1) 25 = fnF N_25.length ps_25.length (b_25 W (Tb W k) (tabs W k).2) := rfl
theorem tb_26 : Tb W (k + 1) 26 = fnF N_26.length ps_26.length (b_26 W (Tb W k) (tabs W k).2) := rfl
theorem tb_27 : Tb W (k + 1) 27 = fnF N_27.length ps_27.length (b_27 W (Tb W k) (tabs W k).2) := rfl
theorem tb_28 : Tb W (k + 1) 28 = fnF N_28.length ps_28.length (b_28 W (Tb W k) (tabs W k).2) := rfl
theorem tb_29 : Tb W (k + 1) 29 = fnF N_29.length ps_29.length (b_29 W (Tb W k) (tabs W k).2) := rfl
theorem tb_30 : Tb W (k + 1) 30 = fnF N_30.length ps_30.length (b_30 W (Tb W k) (tabs W k).2) := rfl
theorem tb_31 : Tb W (k + 1) 31 = fnF N_31.length ps_31.length (b_31 W (Tb W k) (tabs W k).2) := rfl
theorem tb_32 : Tb W (k + 1) 32 = fnF N_32.length ps_32.length (b_32 W (Tb W k) (tabs W k).2) := rfl
theorem tb_33 : Tb W (k + 1) 33 = fnF N_33.length ps_33.length (b_33 W (Tb W k) (tabs W k).2) := rfl
theorem tb_34 : Tb W (k + 1) 34 = fnF N_34.length ps_34.length (b_34 W (Tb W k) (tabs W k).2) := rfl
theorem tb_35 : Tb W (k + 1) 35 = fnF N_35.length ps_35.length (b_35 W (Tb W k) (tabs W k).2) := rfl
theorem tb_36 : Tb W (k + 1) 36 = fnF N_36.length ps_36.length (b_36 W (Tb W k) (tabs W k).2) := rfl
theorem tb_37 : Tb W (k + 1) 37 = fnF N_37.length ps_37.length (b_37 W (Tb W k) (tabs W k).2) := rfl
theorem tb_500 : Tb W (k + 1) 500 = lamF NL_0.length psL_0.length (bL_0 W (Tb W k) (tabs W k).2) := rfl
theorem tab2 : (tabs W (k + 1)).2 = Tb W k := rfl
theorem gv0 {t : T} {ρ : Rho} : getV (some t :: ρ) 0 cs = .ok t cs := rfl
theorem gv1 {x : Option T} {ρ : Rho} : getV (x :: ρ) 1 cs = getV ρ 0 cs := rfl
theorem gv2 {x : Option T} {ρ : Rho} : getV (x :: ρ) 2 cs = getV ρ 1 cs := rfl
theorem gv3 {x : Option T} {ρ : Rho} : getV (x :: ρ) 3 cs = getV ρ 2 cs := rfl
theorem gv4 {x : Option T} {ρ : Rho} : getV (x :: ρ) 4 cs = getV ρ 3 cs := rfl
theorem gv5 {x : Option T} {ρ : Rho} : getV (x :: ρ) 5 cs = getV ρ 4 cs := rfl
theorem gv6 {x : Option T} {ρ : Rho} : getV (x :: ρ) 6 cs = getV ρ 5 cs := rfl
theorem gv7 {x : Option T} {ρ : Rho} : getV (x :: ρ) 7 cs = getV ρ 6 cs := rfl
theorem gv8 {x : Option T} {ρ : Rho} : getV (x :: ρ) 8 cs = getV ρ 7 cs := rfl
theorem gv9 {x : Option T} {ρ : Rho} : getV (x :: ρ) 9 cs = getV ρ 8 cs := rfl
theorem gv10 {x : Option T} {ρ : Rho} : getV (x :: ρ) 10 cs = getV ρ 9 cs := rfl
theorem gv11 {x : Option T} {ρ : Rho} : getV (x :: ρ) 11 cs = getV ρ 10 cs := rfl
theorem gv12 {x : Option T} {ρ : Rho} : getV (x :: ρ) 12 cs = getV ρ 11 cs := rfl
theorem leave_same {x : PyData} {cs : Cs} : leaveT cs (.ok (.d x) cs) = .ok (.d x) cs := by
  unfold leaveT
  simp [isData]
theorem seq_nx {a b : SF} {ρ ρ1 : Rho} {c c1 : Cs} (h : a ρ c = .nx ρ1 c1) : seqS a b ρ c = b ρ1 c1 := by
  unfold seqS
  rw [h]
theorem seq_rt {a b : SF} {ρ : Rho} {c c1 : Cs} {t : T} (h : a ρ c = .rt t c1) : seqS a b ρ c = .rt t c1 := by
  unfold seqS
  rw [h]
theorem leave_len {c : Cs} {t : T} (h : c.length = cs.length) : leaveT cs (.ok t c) = .ok t c := by
  unfold leaveT
  dsimp only
  rw [List.take_of_length_le (Nat.le_of_eq h)]
  split <;> rfl
theorem leave_cut {x : PyData} {more : Cs} : leaveT cs (.ok (.d x) (cs ++ more)) = .ok (.d x) cs := by
  unfold leaveT
  simp [isData]
theorem mulOk_l {a b : Int} (h : -(2 ^ 64) < a ∧ a < 2 ^ 64) : mulOk a b = true := by
  unfold mulOk
  rw [decide_eq_true (.inl h)]
  rfl
theorem mulOk_r {a b : Int} (h : -(2 ^ 64) < b ∧ b < 2 ^ 64) : mulOk a b = true := by
  unfold mulOk
  rw [decide_eq_true (.inr h)]
  rfl
theorem divOk_of {a m : Int} (h : 0 < m ∧ m < 2 ^ 200) : divOk a m = true := by
  unfold divOk
  refine decide_eq_true ⟨h.1, ?_⟩
  have h1 : m.natAbs < 2 ^ 200 := by omega
  have h2 : (2 : Nat) ^ 200 ≤ 2 ^ 9000 := Nat.pow_le_pow_right (by decide) (by decide)
  exact (Nat.log2_lt (by omega)).mpr (Nat.lt_of_lt_of_le h1 h2)
theorem call1 {F : FF} {f : EF} {ρ : Rho} {c c1 : Cs} {t : T} (h : f ρ c = .ok t c1) : callE F [] (consA f nilA) ρ c = F [t] c1 := by
  unfold callE consA nilA
  rw [h]
  rfl
theorem call2 {F : FF} {f g : EF} {ρ : Rho} {c c1 c2 : Cs} {t u : T} (h : f ρ c = .ok t c1) (h2 : g ρ c1 = .ok u c2) : callE F [] (consA f (consA g nilA)) ρ c = F [t, u] c2 := by
  unfold callE consA
  rw [h]
  dsimp only [R.bind]
  rw [h2]
  rfl
theorem bin_of {op : BT} {f g : EF} {ρ : Rho} {c c1 c2 : Cs} {t u : T} {r : Y.R T} (h : f ρ c = .ok t c1) (h2 : g ρ c1 = .ok u c2) (h3 : op t u c2 = r) : bin op f g ρ c = r := by
  rw [← h3]
  unfold bin
  rw [h]
  dsimp only [R.bind]
  rw [h2]
theorem atI_at {α : Type} {xs : List α} {i : Int} {x : α} (h0 : 0 ≤ i) (h : xs[i.toNat]? = some x) : L2.atI xs i = some x := by
  have hi := (List.getElem?_eq_some_iff.mp h).1
  unfold L2.atI L2.ixN
  rw [if_pos h0, if_pos (by omega)]
  exact h
theorem item_list {xs : List PyData} {i : Int} {x : PyData} (h0 : 0 ≤ i) (h : xs[i.toNat]? = some x) : itemT W (.d (.list xs)) (.d (.int i)) cs = .ok (.d x) cs := by
  have e : L2.atI (xs.map T.d) i = some (.d x) := atI_at h0 (by rw [List.getElem?_map, h]; rfl)
  simp [itemT, asQ, asT, asL, e]
theorem item_tup {xs : List PyData} {i : Int} {x : PyData} (h0 : 0 ≤ i) (h : xs[i.toNat]? = some x) : itemT W (.d (.tuple xs)) (.d (.int i)) cs = .ok (.d x) cs := by
  have e : L2.atI (xs.map T.d) i = some (.d x) := atI_at h0 (by rw [List.getElem?_map, h]; rfl)
  simp [itemT, asQ, asT, asL, e]
theorem it0 {x : PyData} {xs : List PyData} : itemT W (.d (.tuple (x :: xs))) (.d (.int 0)) cs = .ok (.d x) cs := item_tup (by decide) rfl
theorem it1 {y x : PyData} {xs : List PyData} : itemT W (.d (.tuple (y :: x :: xs))) (.d (.int 1)) cs = .ok (.d x) cs := item_tup (by decide) rfl
theorem it2 {z y x : PyData} {xs : List PyData} : itemT W (.d (.tuple (z :: y :: x :: xs))) (.d (.int 2)) cs = .ok (.d x) cs := item_tup (by decide) rfl
theorem ret_of {f : EF} {ρ : Rho} {c c1 : Cs} {t : T} (h : f ρ c = .ok t c1) : retS f ρ c = .rt t c1 := by
  unfold retS
  rw [h]
theorem set_of {f : EF} {i : Nat} {ρ : Rho} {c c1 : Cs} {t : T} (h : f ρ c = .ok t c1) : setS i f ρ c = .nx (ρ.set i (some t)) c1 := by
  unfold setS
  rw [h]
theorem fn_rt {N n : Nat} {body : SF} {ts : List T} {c c1 : Cs} {t : T} (hn : ts.length = n) (h : body (startR N ts) c = .rt t c1) : fnF N n body ts c = leaveT c (.ok t c1) := by
  unfold fnF
  rw [if_pos hn, h]
  rfl
theorem fn_nx {N n : Nat} {body : SF} {ts : List T} {ρ : Rho} {c c1 : Cs} (hn : ts.length = n) (h : body (startR N ts) c = .nx ρ c1) : fnF N n body ts c = leaveT c (.ok (.d .none) c1) := by
  unfold fnF
  rw [if_pos hn, h]
  rfl
theorem addC_int {a b : Int} : addC (.d (.int a)) (.d (.int b)) cs = .ok (.d (.int (a + b))) cs := rfl
section
open PySem PySem.Spec L2 Y He YH
theorem kit_ii : kitB "int" "int" = some true := by decide +kernel
theorem kit_ib : kitB "int" "bool" = some false := by decide +kernel
theorem kit_bi : kitB "bool" "int" = some true := by decide +kernel
theorem kit_bb : kitB "bool" "bool" = some true := by decide +kernel
theorem kit_ss : kitB "str" "str" = some true := by decide +kernel
theorem kit_tt : kitB "tuple" "tuple" = some true := by decide +kernel
end

/-! fractions -/
abbrev Fr := Int × Int
abbrev fr (p : Fr) : PyData := .tuple [.int p.1, .int p.2]
abbrev frs (ps : List Fr) : List T := ps.map fun p => .d (fr p)
/-- small, the number below above 0 -/
structure Good (p : Fr) : Prop where
  pos : 0 < p.2
  den : p.2 < 2 ^ 40
  lo : -(2 ^ 40) < p.1
  hi : p.1 < 2 ^ 40
def low (a b : Int) : Fr := (a / (Nat.gcd a.natAbs b.natAbs : Nat), b / (Nat.gcd a.natAbs b.natAbs : Nat))
def fplus (p q : Fr) (t : Int) : Fr := low (p.1 * q.2 + t * q.1 * p.2) (p.2 * q.2)
def ftimes (p q : Fr) : Fr := low (p.1 * q.1) (p.2 * q.2)
theorem is_whole_int (n : Int) : Tb W (k + 1) 0 [.d (.int n)] cs = .ok (.d (.bool true)) cs := by
  rw [tb_0]
  simp [fnF, b_0, retS, andE, un, notE, getV, startR, endF, isiT, tyT, kit_ii, kit_ib, truthT, leave_same]
theorem is_number_int (n a : Int) : Tb W (k + 2) 1 [.d (.int n), .d (.int a), .d .none] cs = .ok (.d (.bool (decide (a ≤ n)))) cs := by
  rw [tb_1]
  by_cases h : a ≤ n <;> simp [fnF, b_1, retS, andE, orE, bin, isT, isNone, inb, getV, startR, endF, callE, consA, nilA, is_whole_int, truthT, h, leave_same]
theorem is_between_int (n a b : Int) : Tb W (k + 2) 2 [.d (.int n), .d (.int a), .d (.int b)] cs = .ok (.d (.bool (decide (a ≤ n ∧ n ≤ b)))) cs := by
  rw [tb_2]
  simp [fnF, b_2, retS, andE, un, notE, getV, startR, endF, callE, consA, nilA, is_whole_int, truthT, chn, inb]
  by_cases h : a ≤ n <;> simp [h, leave_same]
theorem is_string_str (n : Str) : Tb W (k + 1) 3 [.d (.str n)] cs = .ok (.d (.bool true)) cs := by
  rw [tb_3]
  simp [fnF, b_3, retS, un, getV, startR, endF, isiT, tyT, kit_ss, leave_same]
theorem is_tuple_of_tup (ds : List PyData) (n : Int) : Tb W (k + 1) 4 [.d (.tuple ds), .d (.int n)] cs = .ok (.d (.bool (decide ((ds.length : Int) = n)))) cs := by
  rw [tb_4]
  simp [fnF, b_4, retS, andE, un, bin, getV, startR, endF, isiT, tyT, kit_tt, truthT, app, consA, nilA, lenT, asQ, asT, eqT, eqD, leave_same]
theorem is_row_tup (ds : List PyData) (a b : Int) : Tb W (k + 1) 5 [.d (.tuple ds), .d (.int a), .d (.int b)] cs = .ok (.d (.bool (decide (a ≤ ds.length ∧ (ds.length : Int) ≤ b)))) cs := by
  rw [tb_5]
  simp [fnF, b_5, retS, andE, un, getV, startR, endF, isiT, tyT, kit_tt, truthT, chn, inb, app, consA, nilA, lenT, asQ, asT]
  by_cases h : a ≤ (ds.length : Int) <;> simp [h, leave_same]
theorem gcd_pos {a b : Int} (hb : 0 < b) : 0 < (Nat.gcd a.natAbs b.natAbs : Int) := by
  have : 0 < Nat.gcd a.natAbs b.natAbs := Nat.gcd_pos_of_pos_right _ (by omega)
  omega
theorem gcd_le {a b : Int} (hb : 0 < b) : (Nat.gcd a.natAbs b.natAbs : Int) ≤ b := by
  have : Nat.gcd a.natAbs b.natAbs ≤ b.natAbs := Nat.gcd_le_right _ (by omega)
  omega
theorem gcd_div {a b : Int} (hb : 0 < b) (hb2 : b < 2 ^ 200) (x : Int) : divOk x (Nat.gcd a.natAbs b.natAbs : Int) = true := divOk_of ⟨gcd_pos hb, Int.lt_of_le_of_lt (gcd_le hb) hb2⟩
theorem lowest_ok {a b : Int} (hb : 0 < b) (hb2 : b < 2 ^ 200) : Tb W (k + 1) 7 [.d (.int a), .d (.int b)] cs = .ok (.d (fr (low a b))) cs := by
  rw [tb_7]
  have d1 := gcd_div (a := a) hb hb2
  have e1 : setS 2 (ifE (tst (bin (inb fun i j => decide (j < i)) (fun ρ cs => getV ρ 1 cs) (fun _ cs => .ok (.d (.int (0))) cs))) (app gcdT (consA (fun ρ cs => getV ρ 0 cs) (consA (fun ρ cs => getV ρ 1 cs) nilA))) (un negT (app gcdT (consA (fun ρ cs => getV ρ 0 cs) (consA (fun ρ cs => getV ρ 1 cs) nilA))))) [some (.d (.int a)), some (.d (.int b)), none] cs = .nx [some (.d (.int a)), some (.d (.int b)), some (.d (.int (Nat.gcd a.natAbs b.natAbs : Nat)))] cs := by
    simp [setS, ifE, tst, bin, inb, gv0, gv1, hb, app, consA, nilA, gcdT, int2]
  refine (fn_rt rfl ((seq_nx e1).trans (ret_of (t := .d (fr (low a b))) ?_))).trans leave_same
  simp [tupE, consA, nilA, bin, gv0, gv1, gv2, fdivT, iniC, d1, allD, low, sizeLine_eq]
theorem is_fraction_ok {p : Fr} (h0 : 0 < p.2) : Tb W (k + 3) 8 [.d (fr p)] cs = .ok (.d (.bool (decide (Nat.gcd p.1.natAbs p.2.natAbs = 1)))) cs := by
  rw [tb_8]
  unfold b_8
  have h1 : (1 : Int) ≤ p.2 := h0
  simp [fnF, seqS, ifS, orB, notB, val, callE, consA, nilA, startR, bin, gv0, it0, it1, is_tuple_of_tup, is_whole_int, is_number_int, truthT, h1, passS, retS, app, gcdT, int2, eqT, eqD, endF]
  have e : ((Nat.gcd p.1.natAbs p.2.natAbs : Int) = 1) = (Nat.gcd p.1.natAbs p.2.natAbs = 1) := by
    apply propext
    omega
  simp [e, leave_same]
theorem mul_ok {a b : Int} (h : -(2 ^ 64) < a ∧ a < 2 ^ 64) : mulA (.d (.int a)) (.d (.int b)) cs = .ok (.d (.int (a * b))) cs := by
  simp [mulA, mulOk_l h]
theorem den_pos {p q : Fr} (hp : Good p) (hq : Good q) : 0 < p.2 * q.2 ∧ p.2 * q.2 < 2 ^ 200 := by
  refine ⟨Int.mul_pos hp.pos hq.pos, ?_⟩
  have h1 : p.2 * q.2 ≤ 2 ^ 40 * 2 ^ 40 := Int.mul_le_mul (Int.le_of_lt hp.den) (Int.le_of_lt hq.den) (Int.le_of_lt hq.pos) (by decide)
  exact Int.lt_of_le_of_lt h1 (by decide)
theorem Good.n {p : Fr} (h : Good p) : -(2 ^ 64) < p.1 ∧ p.1 < 2 ^ 64 := ⟨by have := h.lo; omega, by have := h.hi; omega⟩
theorem Good.d {p : Fr} (h : Good p) : -(2 ^ 64) < p.2 ∧ p.2 < 2 ^ 64 := ⟨by have := h.pos; omega, by have := h.den; omega⟩
theorem plus_ok {p q : Fr} (hp : Good p) (hq : Good q) : Tb W (k + 2) 9 [.d (fr p), .d (fr q)] cs = .ok (.d (fr (fplus p q 1))) cs := by
  rw [tb_9]
  obtain ⟨h1, h2⟩ := den_pos hp hq
  simp [fnF, b_9, retS, callE, consA, nilA, startR, bin, gv0, gv1, it0, it1, mul_ok hp.n, mul_ok hq.n, mul_ok hp.d, addT, lowest_ok h1 h2, endF, leave_same, fplus]
theorem less_by_ok {p q : Fr} (hp : Good p) (hq : Good q) : Tb W (k + 2) 10 [.d (fr p), .d (fr q)] cs = .ok (.d (fr (fplus p q (-1)))) cs := by
  rw [tb_10]
  obtain ⟨h1, h2⟩ := den_pos hp hq
  have e : p.1 * q.2 - q.1 * p.2 = p.1 * q.2 + -1 * q.1 * p.2 := by rw [Int.neg_mul, Int.one_mul, Int.neg_mul]; omega
  simp only [fnF, b_10, retS, callE, consA, nilA, startR, bin]
  simp [gv0, gv1, it0, it1, mul_ok hp.n, mul_ok hq.n, mul_ok hp.d, subY, lowest_ok h1 h2, endF, leave_same, fplus, e]
theorem times_ok {p q : Fr} (hp : Good p) (hq : Good q) : Tb W (k + 2) 11 [.d (fr p), .d (fr q)] cs = .ok (.d (fr (ftimes p q))) cs := by
  rw [tb_11]
  obtain ⟨h1, h2⟩ := den_pos hp hq
  simp [fnF, b_11, retS, callE, consA, nilA, startR, bin, gv0, gv1, it0, it1, mul_ok hp.n, mul_ok hp.d, lowest_ok h1 h2, endF, leave_same, ftimes]
def fless (p q : Fr) : Bool := decide (p.1 * q.2 < q.1 * p.2)
theorem is_less_ok {p q : Fr} (hp : Good p) (hq : Good q) : Tb W (k + 1) 12 [.d (fr p), .d (fr q)] cs = .ok (.d (.bool (fless p q))) cs := by
  rw [tb_12]
  simp [fnF, b_12, retS, startR, bin, gv0, gv1, it0, it1, mul_ok hp.n, mul_ok hq.n, inb, endF, leave_same, fless]
theorem law_less_ok {p q : Fr} (hp : Good p) (hq : Good q) : Tb W (k + 1) 33 [.d (fr p), .d (fr q)] cs = .ok (.d (.bool (fless p q))) cs := by
  rw [tb_33]
  simp [fnF, b_33, retS, startR, bin, gv0, gv1, it0, it1, mul_ok hp.n, mul_ok hq.n, inb, endF, leave_same, fless]
end G
end
section
set_option Elab.async false
set_option linter.all false
set_option maxRecDepth 100000
set_option maxHeartbeats 1000000
namespace G
open PySem Y

noncomputable def lb_6_0 (W : Wd) (M M' : Lv) : SF := (ifS (notB (val (callL [0] (fun j => M (500 + j)) 1 (consA (fun ρ cs => getV ρ 3 cs) (consA (sliceE slcT (fun ρ cs => getV ρ 0 cs) noO (someO (fun ρ cs => getV ρ 2 cs))) nilA))))) (retS (fun ρ cs => getV ρ 2 cs)) passS)
theorem bq_6 {W : Wd} {M M' : Lv} : b_6 W M M' = (seqS (forS (enumI (consA (fun ρ cs => getV ρ 0 cs) nilA)) (.tp [(.nm 2), (.nm 3)]) (lb_6_0 W M M')) (retS (fun _ cs => .ok (.d .none) cs))) := rfl
noncomputable def lb_16_0 (W : Wd) (M M' : Lv) : SF := (expS (methE 0 "look" (M 17) [] (fun ρ cs => getV ρ 0 cs) (consA (fun ρ cs => getV ρ 2 cs) nilA)))
theorem bq_16 {W : Wd} {M M' : Lv} : b_16 W M M' = (seqS (fldS W "rows" (fun ρ cs => getV ρ 0 cs) (fun ρ cs => getV ρ 1 cs)) (seqS (fldS W "highs" (fun ρ cs => getV ρ 0 cs) (bin addC (lstC (consA (dispC (((fun _ cs => .ok (.d (.int (0))) cs), (fun _ cs => .ok (.d (.bool true)) cs)) :: [])) nilA)) (lcC (seqI (fun ρ cs => getV ρ 1 cs)) [3] (.nm 3) yesB dicC))) (seqS (fldS W "kept" (fun ρ cs => getV ρ 0 cs) (bin addC (lstC (consA dicC nilA)) (lcC (seqI (fun ρ cs => getV ρ 1 cs)) [3] (.nm 3) yesB (fun _ cs => .ok (.d .none) cs)))) (seqS (fldS W "is_right" (fun ρ cs => getV ρ 0 cs) (fun _ cs => .ok (.d (.bool true)) cs)) (forS (rng1I (consA (app lenT (consA (fun ρ cs => getV ρ 1 cs) nilA)) nilA)) (.nm 2) (lb_16_0 W M M')))))) := rfl
noncomputable def lb_17_0 (W : Wd) (M M' : Lv) : SF := (expS (methE 0 "lead" (M 18) [] (fun ρ cs => getV ρ 0 cs) (consA (fun ρ cs => getV ρ 4 cs) (consA (lcE (seqI (app sortDT (consA (fun ρ cs => getV ρ 6 cs) nilA))) [7] (.nm 7) yesB (bin addT (bin subY (fun ρ cs => getV ρ 7 cs) (bin (itemT W) (fun _ cs => .ok (.kd 1) cs) (bin (itemT W) (fun ρ cs => getV ρ 5 cs) (fun _ cs => .ok (.d (.int (0))) cs)))) (bin (itemT W) (fun _ cs => .ok (.kd 2) cs) (bin (itemT W) (fun ρ cs => getV ρ 5 cs) (fun _ cs => .ok (.d (.int (0))) cs))))) (consA (fun ρ cs => getV ρ 3 cs) nilA)))))
theorem bq_17 {W : Wd} {M M' : Lv} : b_17 W M M' = (seqS (parS 5 6 (consA (bin (itemT W) (fldE W "rows" (fun ρ cs => getV ρ 0 cs)) (fun ρ cs => getV ρ 1 cs)) (consA (bin (itemT W) (fldE W "highs" (fun ρ cs => getV ρ 0 cs)) (fun ρ cs => getV ρ 1 cs)) nilA))) (seqS (ifS (tst (bin eqDN (fun ρ cs => getV ρ 6 cs) dicC)) retN passS) (seqS (setS 2 (bin (itemT W) (fldE W "kept" (fun ρ cs => getV ρ 0 cs)) (fun ρ cs => getV ρ 1 cs))) (seqS (ifS (orB (tst (bin (inb fun i j => decide (i < j)) (app minDT (consA (fun ρ cs => getV ρ 6 cs) nilA)) (bin (itemT W) (fun _ cs => .ok (.kd 1) cs) (bin (itemT W) (fun ρ cs => getV ρ 5 cs) (fun _ cs => .ok (.d (.int (0))) cs))))) (andB (tst (bin eqT (bin (itemT W) (fun ρ cs => getV ρ 5 cs) (fun _ cs => .ok (.d (.int (0))) cs)) (fun _ cs => .ok (.d (.str "load")) cs))) (tst (bin (ninT W) (bin (itemT W) (fun ρ cs => getV ρ 5 cs) (fun _ cs => .ok (.d (.int (1))) cs)) (fun ρ cs => getV ρ 2 cs))))) (seqS (fldS W "is_right" (fun ρ cs => getV ρ 0 cs) (fun _ cs => .ok (.d (.bool false)) cs)) retN) passS) (seqS (setS 3 (app (YH.dictT W) (consA (fun ρ cs => getV ρ 2 cs) nilA))) (seqS (ifS (tst (bin eqT (bin (itemT W) (fun ρ cs => getV ρ 5 cs) (fun _ cs => .ok (.d (.int (0))) cs)) (fun _ cs => .ok (.d (.str "keep")) cs))) (asgG (subG (fun ρ cs => getV ρ 3 cs) (bin (itemT W) (fun ρ cs => getV ρ 5 cs) (fun _ cs => .ok (.d (.int (1))) cs))) (fun _ cs => .ok (.d (.bool true)) cs)) passS) (forS (seqI (callE (M 15) [] (consA (fldE W "rows" (fun ρ cs => getV ρ 0 cs)) (consA (fun ρ cs => getV ρ 1 cs) nilA)))) (.nm 4) (lb_17_0 W M M')))))))) := rfl
noncomputable def lb_18_0 (W : Wd) (M M' : Lv) : SF := (asgG (subG (bin (itemT W) (fldE W "highs" (fun ρ cs => getV ρ 0 cs)) (fun ρ cs => getV ρ 1 cs)) (fun ρ cs => getV ρ 4 cs)) (fun _ cs => .ok (.d (.bool true)) cs))
theorem bq_18 {W : Wd} {M M' : Lv} : b_18 W M M' = (seqS (forS (seqI (fun ρ cs => getV ρ 2 cs)) (.nm 4) (lb_18_0 W M M')) (seqS (setS 5 (bin (itemT W) (fldE W "kept" (fun ρ cs => getV ρ 0 cs)) (fun ρ cs => getV ρ 1 cs))) (asgG (subG (fldE W "kept" (fun ρ cs => getV ρ 0 cs)) (fun ρ cs => getV ρ 1 cs)) (ifE (tst (bin isT (fun ρ cs => getV ρ 5 cs) (fun _ cs => .ok (.d .none) cs))) (app (YH.dictT W) (consA (fun ρ cs => getV ρ 3 cs) nilA)) (dcKK 6 5 3))))) := rfl
noncomputable def lb_24_0 (W : Wd) (M M' : Lv) : SF := (expS (bmE isLst popT (fun ρ cs => getV ρ 2 cs) nilA))
noncomputable def lt_24_1 (W : Wd) (M M' : Lv) : BF := (tst (bin (inb fun i j => decide (i < j)) (fun ρ cs => getV ρ 4 cs) (app lenT (consA (fun ρ cs => getV ρ 0 cs) nilA))))
noncomputable def lb_24_1 (W : Wd) (M M' : Lv) : SF := (seqS (setS 5 (bin (itemT W) (fun ρ cs => getV ρ 0 cs) (fun ρ cs => getV ρ 4 cs))) (seqS (setS 6 (callE (M 23) [] (consA (fun ρ cs => getV ρ 5 cs) (consA (fun ρ cs => getV ρ 2 cs) (consA (fun ρ cs => getV ρ 3 cs) (consA (fun ρ cs => getV ρ 1 cs) nilA)))))) (seqS (forS (rng1I (consA (bin (itemT W) (fun _ cs => .ok (.kd 1) cs) (bin (itemT W) (fun ρ cs => getV ρ 5 cs) (fun _ cs => .ok (.d (.int (0))) cs))) nilA)) (.nm 7) (lb_24_0 W M M')) (seqS (ifS (tst (bin eqT (bin (itemT W) (fun ρ cs => getV ρ 5 cs) (fun _ cs => .ok (.d (.int (0))) cs)) (fun _ cs => .ok (.d (.str "keep")) cs))) (asgG (subG (fun ρ cs => getV ρ 3 cs) (bin (itemT W) (fun ρ cs => getV ρ 5 cs) (fun _ cs => .ok (.d (.int (1))) cs))) (fun ρ cs => getV ρ 6 cs)) passS) (seqS (ifS (tst (bin eqT (bin (itemT W) (fun _ cs => .ok (.kd 2) cs) (bin (itemT W) (fun ρ cs => getV ρ 5 cs) (fun _ cs => .ok (.d (.int (0))) cs))) (fun _ cs => .ok (.d (.int (1))) cs))) (expS (bmE isLst appendT (fun ρ cs => getV ρ 2 cs) (consA (fun ρ cs => getV ρ 6 cs) nilA))) passS) (seqS (setS 8 (orE (bin eqT (bin (itemT W) (fun ρ cs => getV ρ 5 cs) (fun _ cs => .ok (.d (.int (0))) cs)) (fun _ cs => .ok (.d (.str "jump")) cs)) (andE (bin eqT (bin (itemT W) (fun ρ cs => getV ρ 5 cs) (fun _ cs => .ok (.d (.int (0))) cs)) (fun _ cs => .ok (.d (.str "unless")) cs)) (bin eqT (fun ρ cs => getV ρ 6 cs) (fun _ cs => .ok (.d (.tuple [(.int (0)), (.int (1))])) cs))))) (setS 4 (ifE (val (fun ρ cs => getV ρ 8 cs)) (bin (itemT W) (fun ρ cs => getV ρ 5 cs) (fun _ cs => .ok (.d (.int (1))) cs)) (bin addT (fun ρ cs => getV ρ 4 cs) (fun _ cs => .ok (.d (.int (1))) cs))))))))))
theorem bq_24 {W : Wd} {M M' : Lv} : b_24 W M M' = (seqS (par3S 2 3 4 (consA (lstC nilA) (consA dicC (consA (fun _ cs => .ok (.d (.int (0))) cs) nilA)))) (seqS (whileS (lt_24_1 W M M') (lb_24_1 W M M')) (retS (bin (itemT W) (fun ρ cs => getV ρ 2 cs) (un negT (fun _ cs => .ok (.d (.int (1))) cs)))))) := rfl
noncomputable def lb_27_0 (W : Wd) (M M' : Lv) : SF := (setS 2 (bin modT (app intT (consA (bin addT (bin addT (bin mulA (fun ρ cs => getV ρ 2 cs) (fun _ cs => .ok (.d (.int (48271))) cs)) (bin modT (app intT (consA (fun ρ cs => getV ρ 3 cs) nilA)) (fun _ cs => .ok (.d (.int (2147483629))) cs))) (fun _ cs => .ok (.d (.int (23))) cs)) nilA)) (fun _ cs => .ok (.d (.int (2147483647))) cs)))
theorem bq_27 {W : Wd} {M M' : Lv} : b_27 W M M' = (seqS (setS 2 (bin addT (fun _ cs => .ok (.d (.int (52027))) cs) (bin mulA (fun _ cs => .ok (.d (.int (8009))) cs) (fun ρ cs => getV ρ 1 cs)))) (seqS (forS (seqI (sliceE slcT (fun ρ cs => getV ρ 0 cs) noO (someO (fun _ cs => .ok (.d (.int (16))) cs)))) (.nm 3) (lb_27_0 W M M')) (seqS (setS 4 (ifE (tst (bin (inb fun i j => decide (i < j)) (fun ρ cs => getV ρ 1 cs) (app lenT (consA (fun ρ cs => getV ρ 0 cs) nilA)))) (app intT (consA (bin (itemT W) (fun ρ cs => getV ρ 0 cs) (fun ρ cs => getV ρ 1 cs)) nilA)) (fun _ cs => .ok (.d (.int (0))) cs))) (seqS (setS 2 (bin modT (app intT (consA (bin addT (bin addT (bin mulA (fun ρ cs => getV ρ 2 cs) (fun _ cs => .ok (.d (.int (31))) cs)) (bin mulA (bin modT (app intT (consA (fun ρ cs => getV ρ 4 cs) nilA)) (fun _ cs => .ok (.d (.int (2147483629))) cs)) (fun _ cs => .ok (.d (.int (17))) cs))) (fun _ cs => .ok (.d (.int (3))) cs)) nilA)) (fun _ cs => .ok (.d (.int (2147483647))) cs))) (seqS (setS 5 (bin mulA (bin mulA (bin mulA (bin mulA (bin mulA (bin powT (fun _ cs => .ok (.d (.int (10))) cs) (fun _ cs => .ok (.d (.int (64))) cs)) (bin powT (fun _ cs => .ok (.d (.int (10))) cs) (fun _ cs => .ok (.d (.int (64))) cs))) (bin powT (fun _ cs => .ok (.d (.int (10))) cs) (fun _ cs => .ok (.d (.int (64))) cs))) (bin powT (fun _ cs => .ok (.d (.int (10))) cs) (fun _ cs => .ok (.d (.int (64))) cs))) (bin powT (fun _ cs => .ok (.d (.int (10))) cs) (fun _ cs => .ok (.d (.int (64))) cs))) (bin powT (fun _ cs => .ok (.d (.int (10))) cs) (fun _ cs => .ok (.d (.int (64))) cs)))) (retS (lstC (consA (ifE (orB (tst (bin (inb fun i j => decide (i < j)) (fun ρ cs => getV ρ 4 cs) (fun _ cs => .ok (.d (.int (0))) cs))) (tst (bin (inb fun i j => decide (j ≤ i)) (fun ρ cs => getV ρ 4 cs) (bin powT (fun _ cs => .ok (.d (.int (10))) cs) (fun _ cs => .ok (.d (.int (15))) cs))))) (bin modT (app intT (consA (app absT (consA (fun ρ cs => getV ρ 4 cs) nilA)) nilA)) (fun ρ cs => getV ρ 5 cs)) (fun _ cs => .ok (.d (.int (0))) cs)) (consA (fun ρ cs => getV ρ 2 cs) (consA (fun _ cs => .ok (.d (.int (0))) cs) nilA)))))))))) := rfl
noncomputable def lt_30_0 (W : Wd) (M M' : Lv) : BF := (tst (bin (inb fun i j => decide (j < i)) (fun ρ cs => getV ρ 3 cs) (fun _ cs => .ok (.d (.int (0))) cs)))
noncomputable def lb_30_0 (W : Wd) (M M' : Lv) : SF := (parS 2 3 (consA (fun ρ cs => getV ρ 3 cs) (consA (bin modT (app intT (consA (fun ρ cs => getV ρ 2 cs) nilA)) (fun ρ cs => getV ρ 3 cs)) nilA)))
theorem bq_30 {W : Wd} {M M' : Lv} : b_30 W M M' = (seqS (parS 2 3 (consA (app absT (consA (fun ρ cs => getV ρ 0 cs) nilA)) (consA (app absT (consA (fun ρ cs => getV ρ 1 cs) nilA)) nilA))) (seqS (whileS (lt_30_0 W M M') (lb_30_0 W M M')) (seqS (ifS (tst (bin eqT (fun ρ cs => getV ρ 1 cs) (fun _ cs => .ok (.d (.int (0))) cs))) (retS (fun _ cs => .ok (.d .none) cs)) passS) (retS (ifE (tst (bin (inb fun i j => decide (j < i)) (fun ρ cs => getV ρ 1 cs) (fun _ cs => .ok (.d (.int (0))) cs))) (tupE (consA (bin fdivT (fun ρ cs => getV ρ 0 cs) (fun ρ cs => getV ρ 2 cs)) (consA (bin fdivT (fun ρ cs => getV ρ 1 cs) (fun ρ cs => getV ρ 2 cs)) nilA))) (tupE (consA (bin subY (fun _ cs => .ok (.d (.int (0))) cs) (bin fdivT (fun ρ cs => getV ρ 0 cs) (fun ρ cs => getV ρ 2 cs))) (consA (bin subY (fun _ cs => .ok (.d (.int (0))) cs) (bin fdivT (fun ρ cs => getV ρ 1 cs) (fun ρ cs => getV ρ 2 cs))) nilA)))))))) := rfl
noncomputable def lt_34_0 (W : Wd) (M M' : Lv) : BF := (tst (bin (inb fun i j => decide (i < j)) (fun ρ cs => getV ρ 4 cs) (app lenT (consA (fun ρ cs => getV ρ 0 cs) nilA))))
noncomputable def lb_34_0 (W : Wd) (M M' : Lv) : SF := (seqS (parS 6 4 (consA (bin (itemT W) (fun ρ cs => getV ρ 0 cs) (fun ρ cs => getV ρ 4 cs)) (consA (bin addT (fun ρ cs => getV ρ 4 cs) (fun _ cs => .ok (.d (.int (1))) cs)) nilA))) (seqS (setS 5 (bin (itemT W) (fun ρ cs => getV ρ 6 cs) (fun _ cs => .ok (.d (.int (0))) cs))) (ifS (tst (bin eqT (fun ρ cs => getV ρ 5 cs) (fun _ cs => .ok (.d (.str "push")) cs))) (expS (bmE isLst appendT (fun ρ cs => getV ρ 2 cs) (consA (tupE (consA (bin (itemT W) (fun ρ cs => getV ρ 6 cs) (fun _ cs => .ok (.d (.int (1))) cs)) (consA (bin (itemT W) (fun ρ cs => getV ρ 6 cs) (fun _ cs => .ok (.d (.int (2))) cs)) nilA))) nilA))) (ifS (tst (bin eqT (fun ρ cs => getV ρ 5 cs) (fun _ cs => .ok (.d (.str "data")) cs))) (expS (bmE isLst appendT (fun ρ cs => getV ρ 2 cs) (consA (bin (itemT W) (fun ρ cs => getV ρ 1 cs) (bin (itemT W) (fun ρ cs => getV ρ 6 cs) (fun _ cs => .ok (.d (.int (1))) cs))) nilA))) (ifS (tst (bin eqT (fun ρ cs => getV ρ 5 cs) (fun _ cs => .ok (.d (.str "load")) cs))) (expS (bmE isLst appendT (fun ρ cs => getV ρ 2 cs) (consA (bin (itemT W) (fun ρ cs => getV ρ 3 cs) (bin (itemT W) (fun ρ cs => getV ρ 6 cs) (fun _ cs => .ok (.d (.int (1))) cs))) nilA))) (ifS (tst (bin eqT (fun ρ cs => getV ρ 5 cs) (fun _ cs => .ok (.d (.str "keep")) cs))) (asgG (subG (fun ρ cs => getV ρ 3 cs) (bin (itemT W) (fun ρ cs => getV ρ 6 cs) (fun _ cs => .ok (.d (.int (1))) cs))) (bmE isLst popT (fun ρ cs => getV ρ 2 cs) nilA)) (ifS (tst (bin eqT (fun ρ cs => getV ρ 5 cs) (fun _ cs => .ok (.d (.str "jump")) cs))) (setS 4 (bin (itemT W) (fun ρ cs => getV ρ 6 cs) (fun _ cs => .ok (.d (.int (1))) cs))) (ifS (tst (bin eqT (fun ρ cs => getV ρ 5 cs) (fun _ cs => .ok (.d (.str "unless")) cs))) (setS 4 (ifE (tst (bin eqT (bmE isLst popT (fun ρ cs => getV ρ 2 cs) nilA) (tupE (consA (fun _ cs => .ok (.d (.int (0))) cs) (consA (fun _ cs => .ok (.d (.int (1))) cs) nilA))))) (bin (itemT W) (fun ρ cs => getV ρ 6 cs) (fun _ cs => .ok (.d (.int (1))) cs)) (fun ρ cs => getV ρ 4 cs))) (ifS (tst (bin eqT (fun ρ cs => getV ρ 5 cs) (fun _ cs => .ok (.d (.str "times")) cs))) (expS (bmE isLst appendT (fun ρ cs => getV ρ 2 cs) (consA (callE (M 32) [] (consA (bmE isLst popT (fun ρ cs => getV ρ 2 cs) nilA) (consA (tupE (consA (bin (itemT W) (fun ρ cs => getV ρ 6 cs) (fun _ cs => .ok (.d (.int (1))) cs)) (consA (bin (itemT W) (fun ρ cs => getV ρ 6 cs) (fun _ cs => .ok (.d (.int (2))) cs)) nilA))) nilA))) nilA))) (seqS (setS 7 (bmE isLst popT (fun ρ cs => getV ρ 2 cs) nilA)) (seqS (setS 8 (bmE isLst popT (fun ρ cs => getV ρ 2 cs) nilA)) (seqS (setS 9 (callE (M 31) [] (consA (fun ρ cs => getV ρ 8 cs) (consA (fun ρ cs => getV ρ 7 cs) (consA (ifE (tst (bin eqT (fun ρ cs => getV ρ 5 cs) (fun _ cs => .ok (.d (.str "add")) cs))) (fun _ cs => .ok (.d (.int (1))) cs) (un negT (fun _ cs => .ok (.d (.int (1))) cs))) nilA))))) (seqS (setS 10 (ifE (tst (bin eqT (fun ρ cs => getV ρ 5 cs) (fun _ cs => .ok (.d (.str "less")) cs))) (callE (M 33) [] (consA (fun ρ cs => getV ρ 8 cs) (consA (fun ρ cs => getV ρ 7 cs) nilA))) (bin eqT (fun ρ cs => getV ρ 8 cs) (fun ρ cs => getV ρ 7 cs)))) (expS (bmE isLst appendT (fun ρ cs => getV ρ 2 cs) (consA (ifE (tst (bin (inT W) (fun ρ cs => getV ρ 5 cs) (tupE (consA (fun _ cs => .ok (.d (.str "add")) cs) (consA (fun _ cs => .ok (.d (.str "sub")) cs) nilA))))) (fun ρ cs => getV ρ 9 cs) (tupE (consA (app intT (consA (fun ρ cs => getV ρ 10 cs) nilA)) (consA (fun _ cs => .ok (.d (.int (1))) cs) nilA)))) nilA))))))))))))))))
theorem bq_34 {W : Wd} {M M' : Lv} : b_34 W M M' = (seqS (par3S 2 3 4 (consA (lstC nilA) (consA dicC (consA (fun _ cs => .ok (.d (.int (0))) cs) nilA)))) (seqS (whileS (lt_34_0 W M M') (lb_34_0 W M M')) (retS (frzE (fun ρ cs => getV ρ 2 cs))))) := rfl
noncomputable def lb_37_0 (W : Wd) (M M' : Lv) : SF := (seqS (setS 2 (callE (M 27) [] (consA (fun ρ cs => getV ρ 0 cs) (consA (fun ρ cs => getV ρ 1 cs) nilA)))) (ifS (notB (val (app allT (consA (lcE (rng1I (consA (fun _ cs => .ok (.d (.int (8))) cs) nilA)) [3] (.nm 3) yesB (callE (M 36) [] (consA (fun ρ cs => getV ρ 2 cs) nilA))) nilA)))) (retS (fun _ cs => .ok (.d (.bool false)) cs)) passS))
theorem bq_37 {W : Wd} {M M' : Lv} : b_37 W M M' = (seqS (forS (rng1I (consA (app max2T (consA (fun _ cs => .ok (.d (.int (2))) cs) (consA (app min2T (consA (app lenT (consA (fun ρ cs => getV ρ 0 cs) nilA)) (consA (fun _ cs => .ok (.d (.int (3))) cs) nilA))) nilA))) nilA)) (.nm 1) (lb_37_0 W M M')) (retS (fun _ cs => .ok (.d (.bool true)) cs))) := rfl
end G
end
section
set_option Elab.async false
set_option linter.all false
set_option maxRecDepth 100000
set_option maxHeartbeats 1000000
namespace G
open PySem Y
variable {W : Wd} {k : Nat} {cs : Cs}
/-! the fraction in lowest terms, by the law's own steps -/
theorem euclid {M M' : Lv} (a b : T) : ∀ (m x y : Nat), y ≤ m → ∃ n, whileN (lt_30_0 W M M') (lb_30_0 W M M') n [some a, some b, some (.d (.int (x : Nat))), some (.d (.int (y : Nat)))] cs = .nx [some a, some b, some (.d (.int (Nat.gcd x y : Nat))), some (.d (.int 0))] cs
  | m, x, 0, _ => ⟨1, by
    unfold whileN lt_30_0
    simp [tst, bin, gv0, gv1, gv2, gv3, inb]⟩
  | 0, x, y + 1, h => absurd h (by omega)
  | m + 1, x, y + 1, h => by
    have hlt : x % (y + 1) < y + 1 := Nat.mod_lt _ (by omega)
    obtain ⟨n, e⟩ := euclid a b m (y + 1) (x % (y + 1)) (by omega)
    refine ⟨n + 1, ?_⟩
    have hg : Nat.gcd x (y + 1) = Nat.gcd (y + 1) (x % (y + 1)) := by
      rw [Nat.gcd_comm x, Nat.gcd_rec, Nat.gcd_comm]
    rw [hg, ← e]
    have h1 : (0 : Int) < ((y + 1 : Nat) : Int) := by omega
    have e1 : lt_30_0 W M M' [some a, some b, some (.d (.int (x : Nat))), some (.d (.int ((y + 1 : Nat) : Int)))] cs = .ok true cs := by
      unfold lt_30_0
      simp only [tst, bin, gv0, gv1, gv2, gv3, inb, R.bind_ok, decide_eq_true h1]
    have e2 : lb_30_0 W M M' [some a, some b, some (.d (.int (x : Nat))), some (.d (.int ((y + 1 : Nat) : Int)))] cs = .nx [some a, some b, some (.d (.int ((y + 1 : Nat) : Int))), some (.d (.int ((x % (y + 1) : Nat) : Int)))] cs := by
      unfold lb_30_0
      simp only [parS, consA, nilA, bin, app, gv0, gv1, gv2, gv3, intT, modT, iniC, R.bind_ok, decide_eq_true h1, if_true, List.set]
      rfl
    rw [whileN, e1]
    dsimp only
    rw [if_pos rfl, e2]
theorem abs_nat (a : Int) : (if a < 0 then -a else a) = (a.natAbs : Nat) := by split <;> omega
theorem cut_ok {a b : Int} (hb : 0 < b) (hb2 : b < 2 ^ 200) : Tb W (k + 1) 30 [.d (.int a), .d (.int b)] cs = .ok (.d (fr (low a b))) cs := by
  rw [tb_30, bq_30]
  have d1 := gcd_div (a := a) hb hb2
  have e1 : parS 2 3 (consA (app absT (consA (fun ρ cs => getV ρ 0 cs) nilA)) (consA (app absT (consA (fun ρ cs => getV ρ 1 cs) nilA)) nilA)) [some (.d (.int a)), some (.d (.int b)), none, none] cs = .nx [some (.d (.int a)), some (.d (.int b)), some (.d (.int (a.natAbs : Nat))), some (.d (.int (b.natAbs : Nat)))] cs := by
    simp only [parS, consA, nilA, app, gv0, gv1, absT, int1, R.bind_ok, abs_nat, List.set]
  obtain ⟨n, e2⟩ := euclid (W := W) (M := Tb W k) (M' := (tabs W k).2) (cs := cs) (.d (.int a)) (.d (.int b)) b.natAbs a.natAbs b.natAbs (Nat.le_refl _)
  have e3 := whileS_of e2 (by intro h; cases h)
  refine (fn_rt rfl ((seq_nx e1).trans ((seq_nx e3).trans (?_ : _ = RS.rt (.d (fr (low a b))) cs)))).trans leave_same
  have nb : ¬ b = 0 := by omega
  simp [seqS, ifS, tst, bin, gv0, gv1, gv2, eqT, eqD, nb, passS, retS, ifE, inb, hb, tupE, consA, nilA, fdivT, iniC, d1, allD, low, sizeLine_eq]
theorem law_plus_ok {p q : Fr} {t : Int} (ht : -(2 ^ 20) < t ∧ t < 2 ^ 20) (hp : Good p) (hq : Good q) : Tb W (k + 2) 31 [.d (fr p), .d (fr q), .d (.int t)] cs = .ok (.d (fr (fplus p q t))) cs := by
  rw [tb_31]
  obtain ⟨h1, h2⟩ := den_pos hp hq
  have m1 : mulA (.d (.int t)) (.d (.int q.1)) cs = .ok (.d (.int (t * q.1))) cs := mul_ok (by omega)
  have m2 : mulA (.d (.int (t * q.1))) (.d (.int p.2)) cs = .ok (.d (.int (t * q.1 * p.2))) cs := by simp [mulA, mulOk_r hp.d]
  unfold b_31
  simp [fnF, seqS, ifS, orB, tst, bin, isT, isNone, passS, retS, callE, consA, nilA, startR, gv0, gv1, gv2, it0, it1, mul_ok hp.n, m1, m2, mul_ok hp.d, addT, cut_ok h1 h2, endF, leave_same, fplus]
theorem law_times_ok {p q : Fr} (hp : Good p) (hq : Good q) : Tb W (k + 2) 32 [.d (fr p), .d (fr q)] cs = .ok (.d (fr (ftimes p q))) cs := by
  rw [tb_32]
  obtain ⟨h1, h2⟩ := den_pos hp hq
  unfold b_32
  simp [fnF, ifE, orB, tst, bin, isT, isNone, retS, callE, consA, nilA, startR, gv0, gv1, it0, it1, mul_ok hp.n, mul_ok hp.d, cut_ok h1 h2, endF, leave_same, ftimes]
/-! draws -/
/-- what is left of a bag: digits, seed, turn -/
structure Dw where
  f : Int
  s : Int
  t : Int
abbrev Dw.cell (D : Dw) : Cell := .lst [.d (.int D.f), .d (.int D.s), .d (.int D.t)]
abbrev Dw.Ok (D : Dw) : Prop := 0 ≤ D.s ∧ D.s < 2147483647
def nextS (s t : Int) : Int := (s * 16807 + 4099 * (t + 1) + 1) % 2147483647
theorem nextS_range (s t : Int) : 0 ≤ nextS s t ∧ nextS s t < 2147483647 := ⟨Int.emod_nonneg _ (by decide), Int.emod_lt_of_pos _ (by decide)⟩
def Dw.val (D : Dw) (m : Int) : Int := if 0 < D.f then D.f % m else nextS D.s D.t / 911 % m
def Dw.next (D : Dw) (m : Int) : Dw := if 0 < D.f then ⟨D.f / m, D.s, D.t⟩ else ⟨D.f, nextS D.s D.t, D.t + 1⟩
theorem Dw.next_ok {D : Dw} (h : D.Ok) (m : Int) : (D.next m).Ok := by
  unfold Dw.next
  split
  · exact h
  · exact nextS_range _ _
theorem Dw.val_range (D : Dw) {m : Int} (h : 0 < m) : 0 ≤ D.val m ∧ D.val m < m := by
  unfold Dw.val
  split <;> exact ⟨Int.emod_nonneg _ (by omega), Int.emod_lt_of_pos _ h⟩
theorem pylong_no {a m : Int} (h : 0 < m ∧ m ≤ 1000000) : Builtin.divisionGoesByPylong a m = false := by
  unfold Builtin.divisionGoesByPylong
  have h1 : m.natAbs < 2 ^ 20 := by omega
  have h2 : m.natAbs.log2 < 20 := (Nat.log2_lt (by omega)).mpr h1
  have h3 : (m == 0) = false := by rw [beq_eq_false_iff_ne]; omega
  simp only [h3]
  have h4 : ¬ (m.natAbs.log2 / 30 + 1 > 300) := by omega
  simp [h4]
theorem take_ok {D : Dw} {n : Nat} {m : Int} (hn : cs[n]? = some D.cell) (hD : D.Ok) (hm : 0 < m ∧ m ≤ 1000000) :
    Tb W (k + 1) 28 [.ref n, .d (.int m)] cs = .ok (.d (.int (D.val m))) (cs.set n (D.next m).cell) := by
  have hl : n < cs.length := (List.getElem?_eq_some_iff.mp hn).1
  have sg : ∀ x : Cell, (cs.set n x)[n]? = some x := fun x => by rw [List.getElem?_set_self hl]
  clear hl
  have hn' : cs[n]? = some (.lst [.d (.int D.f), .d (.int D.s), .d (.int D.t)]) := hn
  have m1 : mulOk D.s 16807 = true := mulOk_r (by decide)
  have m2 : mulOk 4099 (D.t + 1) = true := mulOk_l (by decide)
  have d2 : divOk (nextS D.s D.t) 911 = true := divOk_of (by decide)
  have py := pylong_no (a := D.f) hm
  have sg' : ∀ a b c : Int, (cs.set n (.lst [.d (.int a), .d (.int b), .d (.int c)]))[n]? = some (.lst [.d (.int a), .d (.int b), .d (.int c)]) := fun a b c => sg _
  have i0 : ∀ (a b c : Int) (cs : Cs), cs[n]? = some (.lst [.d (.int a), .d (.int b), .d (.int c)]) → itemT W (.ref n) (.d (.int 0)) cs = .ok (.d (.int a)) cs := fun a b c cs h => by simp [itemT, asQ, asT, asL, h, L2.atI, L2.ixN]
  have i1 : ∀ (a b c : Int) (cs : Cs), cs[n]? = some (.lst [.d (.int a), .d (.int b), .d (.int c)]) → itemT W (.ref n) (.d (.int 1)) cs = .ok (.d (.int b)) cs := fun a b c cs h => by simp [itemT, asQ, asT, asL, h, L2.atI, L2.ixN]
  have i2 : ∀ (a b c : Int) (cs : Cs), cs[n]? = some (.lst [.d (.int a), .d (.int b), .d (.int c)]) → itemT W (.ref n) (.d (.int 2)) cs = .ok (.d (.int c)) cs := fun a b c cs h => by simp [itemT, asQ, asT, asL, h, L2.atI, L2.ixN]
  rw [tb_28]
  unfold fnF b_28
  rw [if_pos (show ([T.ref n, T.d (.int m)] : List T).length = ps_28.length from rfl)]
  have e0 : startR N_28.length [T.ref n, T.d (.int m)] = [some (.ref n), some (.d (.int m)), none] := rfl
  rw [e0]
  by_cases hf : 0 < D.f
  · simp [seqS, ifS, tst, bin, gv0, gv1, gv2, i0 _ _ _ _ hn', inb, hf, asgG, app, consA, nilA, divmodT, hm.1, py, tupG, asQ, asT, consG, subG, setiT, hn', L2.ixN, patG, asgP, nilG, retS, endF, Dw.val, Dw.next]
    exact leave_len (by simp)
  · simp only [seqS, ifS, tst, bin, gv0, gv1, gv2, i0 _ _ _ _ hn', inb, hf, passS, R.bind_ok, decide_false, Bool.false_eq_true, if_false]
    simp [asgG, subG, setiT, gv0, gv1, bin, i2 _ _ _ _ hn', addT, hn', L2.ixN, i1 _ _ _ _ (sg' _ _ _), i2 _ _ _ _ (sg' _ _ _), sg', mulA, m1, m2, app, consA, nilA, intT, modT, iniC, List.set_set, fdivT, hm.1, retS, endF, Dw.val, Dw.next, hf]
    have e1 : (D.s * 16807 + 4099 * (D.t + 1) + 1) % 2147483647 = nextS D.s D.t := rfl
    simp only [e1, d2, if_true, R.bind_ok, intT, if_pos hm.1]
    exact leave_len (by simp)
/-- one of a list, drawn -/
theorem pull_ok {D : Dw} {n : Nat} {xs : List PyData} (hn : cs[n]? = some D.cell) (hD : D.Ok) (hx : 0 < xs.length ∧ xs.length ≤ 1000000) :
    ∃ x, xs[(D.val xs.length).toNat]? = some x ∧ Tb W (k + 2) 29 [.ref n, .d (.list xs)] cs = .ok (.d x) (cs.set n (D.next xs.length).cell) := by
  have hv := D.val_range (m := xs.length) (by omega)
  have hi : (D.val xs.length).toNat < xs.length := by omega
  refine ⟨xs[(D.val xs.length).toNat], List.getElem?_eq_getElem hi, ?_⟩
  rw [tb_29]
  unfold b_29
  refine (fn_rt rfl (ret_of (t := .d xs[(D.val xs.length).toNat]) (bin_of (t := .d (.list xs)) (u := .d (.int (D.val xs.length))) rfl ((call2 (t := .ref n) (u := .d (.int xs.length)) rfl (by simp [startR, app, consA, nilA, lenT, gv0, gv1, asQ, asT, asL])).trans (take_ok hn hD (by omega))) (item_list hv.1 (List.getElem?_eq_getElem hi))))).trans (leave_len (by simp))
end G
end
section
set_option Elab.async false
set_option linter.all false
set_option maxRecDepth 100000
set_option maxHeartbeats 1000000
namespace G
open PySem Y
variable {W : Wd} {k : Nat} {cs : Cs}
/-! steps as terms -/
theorem ifS_t {t : BF} {a b : SF} {ρ : Rho} {c c1 : Cs} (h : t ρ c = .ok true c1) : ifS t a b ρ c = a ρ c1 := by
  unfold ifS
  rw [h]
  rfl
theorem ifS_f {t : BF} {a b : SF} {ρ : Rho} {c c1 : Cs} (h : t ρ c = .ok false c1) : ifS t a b ρ c = b ρ c1 := by
  unfold ifS
  rw [h]
  rfl
theorem ifE_t {t : BF} {a b : EF} {ρ : Rho} {c c1 : Cs} (h : t ρ c = .ok true c1) : ifE t a b ρ c = a ρ c1 := by
  unfold ifE
  rw [h]
  rfl
theorem ifE_f {t : BF} {a b : EF} {ρ : Rho} {c c1 : Cs} (h : t ρ c = .ok false c1) : ifE t a b ρ c = b ρ c1 := by
  unfold ifE
  rw [h]
  rfl
theorem tst_of {f : EF} {ρ : Rho} {c c1 : Cs} {b : Bool} (h : f ρ c = .ok (.d (.bool b)) c1) : tst f ρ c = .ok b c1 := by
  unfold tst
  rw [h]
  rfl
theorem val_of {f : EF} {ρ : Rho} {c c1 : Cs} {b : Bool} (h : f ρ c = .ok (.d (.bool b)) c1) : val f ρ c = .ok b c1 := by
  unfold val
  rw [h]
  rfl
theorem expS_of {f : EF} {ρ : Rho} {c c1 : Cs} {t : T} (h : f ρ c = .ok t c1) : expS f ρ c = .nx ρ c1 := by
  unfold expS
  rw [h]
theorem consA_of {f : EF} {g : AF} {ρ : Rho} {c c1 c2 : Cs} {t : T} {ts : List T} (h : f ρ c = .ok t c1) (h2 : g ρ c1 = .ok ts c2) : consA f g ρ c = .ok (t :: ts) c2 := by
  unfold consA
  rw [h]
  dsimp only [R.bind]
  rw [h2]
theorem callE_of {F : FF} {g : AF} {ρ : Rho} {c c1 : Cs} {ts : List T} (h : g ρ c = .ok ts c1) : callE F [] g ρ c = F ts c1 := by
  unfold callE
  rw [h]
  dsimp only [R.bind]
  rw [List.append_nil]
theorem app_of {op : List T → Cs → Y.R T} {g : AF} {ρ : Rho} {c c1 : Cs} {ts : List T} (h : g ρ c = .ok ts c1) : app op g ρ c = op ts c1 := by
  unfold app
  rw [h]
  rfl
theorem tup_of {g : AF} {ρ : Rho} {c c1 : Cs} {ts : List T} {ds : List PyData} (h : g ρ c = .ok ts c1) (h2 : allD ts = some ds) (h3 : ds.length ≤ 1000) : tupE g ρ c = .ok (.d (.tuple ds)) c1 := by
  unfold tupE
  rw [h]
  dsimp only [R.bind]
  rw [h2]
  dsimp only
  rw [if_pos (by rw [sizeLine_eq]; omega)]
theorem lst_of {g : AF} {ρ : Rho} {c c1 : Cs} {ts : List T} {ds : List PyData} (h : g ρ c = .ok ts c1) (h2 : allD ts = some ds) (h3 : ds.length ≤ 1000) : lstE g ρ c = .ok (.d (.list ds)) c1 := by
  unfold lstE
  rw [h]
  dsimp only [R.bind]
  rw [h2]
  dsimp only
  rw [if_pos (by rw [sizeLine_eq]; omega)]
theorem lt_t {a b : Int} (h : a < b) : inb (fun i j => decide (i < j)) (.d (.int a)) (.d (.int b)) cs = .ok (.d (.bool true)) cs := by simp [inb, h]
theorem lt_f {a b : Int} (h : ¬ a < b) : inb (fun i j => decide (i < j)) (.d (.int a)) (.d (.int b)) cs = .ok (.d (.bool false)) cs := by simp [inb, h]
theorem gt_t {a b : Int} (h : b < a) : inb (fun i j => decide (j < i)) (.d (.int a)) (.d (.int b)) cs = .ok (.d (.bool true)) cs := by simp [inb, h]
theorem gt_f {a b : Int} (h : ¬ b < a) : inb (fun i j => decide (j < i)) (.d (.int a)) (.d (.int b)) cs = .ok (.d (.bool false)) cs := by simp [inb, h]
theorem eqi_t {a b : Int} (h : a = b) : eqT (.d (.int a)) (.d (.int b)) cs = .ok (.d (.bool true)) cs := by simp [eqT, eqD, h]
theorem eqi_f {a b : Int} (h : ¬ a = b) : eqT (.d (.int a)) (.d (.int b)) cs = .ok (.d (.bool false)) cs := by simp [eqT, eqD, h]
theorem eqs {a b : Str} : eqT (.d (.str a)) (.d (.str b)) cs = .ok (.d (.bool (decide (a = b)))) cs := rfl
theorem subi {a b r : Int} (h : a - b = r) : subY (.d (.int a)) (.d (.int b)) cs = .ok (.d (.int r)) cs := by rw [← h]; rfl
theorem addi {a b r : Int} (h : a + b = r) : addT (.d (.int a)) (.d (.int b)) cs = .ok (.d (.int r)) cs := by rw [← h]; rfl
theorem addl {a b : List PyData} (h : (a ++ b).length ≤ 1000) : addT (.d (.list a)) (.d (.list b)) cs = .ok (.d (.list (a ++ b))) cs := by
  have e : ∀ l : List PyData, allD (l.map T.d) = some l := fun l => by
    induction l with
    | nil => rfl
    | cons x l ih => simp [allD, ih]
  have h2 : allD (a.map T.d ++ b.map T.d) = some (a ++ b) := by rw [← List.map_append]; exact e _
  unfold addT
  simp only [asM, h2]
  rw [if_pos (by rw [sizeLine_eq]; omega)]
theorem len_list {ds : List PyData} {n : Int} (h : (ds.length : Int) = n) : lenT [.d (.list ds)] cs = .ok (.d (.int n)) cs := by
  rw [← h]
  simp [lenT, asQ, asT, asL]
theorem takeU {D : Dw} {n : Nat} {m : Int} (hn : n < cs.length) (hD : D.Ok) (hm : 0 < m ∧ m ≤ 1000000) : Tb W (k + 1) 28 [.ref n, .d (.int m)] (cs.set n D.cell) = .ok (.d (.int (D.val m))) (cs.set n (D.next m).cell) := by
  have := take_ok (W := W) (k := k) (cs := cs.set n D.cell) (List.getElem?_set_self hn) hD hm
  rw [List.set_set] at this
  exact this
theorem pullU {D : Dw} {n : Nat} {xs : List PyData} (hn : n < cs.length) (hD : D.Ok) (hx : 0 < xs.length ∧ xs.length ≤ 1000000) :
    ∃ x, xs[(D.val xs.length).toNat]? = some x ∧ Tb W (k + 2) 29 [.ref n, .d (.list xs)] (cs.set n D.cell) = .ok (.d x) (cs.set n (D.next xs.length).cell) := by
  obtain ⟨x, h1, h2⟩ := pull_ok (W := W) (k := k) (cs := cs.set n D.cell) (List.getElem?_set_self hn) hD hx
  rw [List.set_set] at h2
  exact ⟨x, h1, h2⟩
/-! rows and what they are made of -/
inductive Rw where
  | push (p : Fr)
  | data (i : Nat)
  | load (i : Nat)
  | keep (i : Nat)
  | jump (j : Nat)
  | unless (j : Nat)
  | times (p : Fr)
  | op (o : Fin 4)
def opS (o : Fin 4) : Str := match o with
  | 0 => "add"
  | 1 => "sub"
  | 2 => "less"
  | 3 => "same"
def Rw.d : Rw → PyData
  | .push p => .tuple [.str "push", .int p.1, .int p.2]
  | .data i => .tuple [.str "data", .int i]
  | .load i => .tuple [.str "load", .int i]
  | .keep i => .tuple [.str "keep", .int i]
  | .jump i => .tuple [.str "jump", .int i]
  | .unless i => .tuple [.str "unless", .int i]
  | .times p => .tuple [.str "times", .int p.1, .int p.2]
  | .op o => .tuple [.str (opS o)]
inductive Mx where
  | push (p : Fr)
  | data (i : Nat)
  | load
  | tim (a : Mx) (p : Fr)
  | kep (a : Mx)
  | bin (o : Fin 4) (a b : Mx)
  | cnd (a b c : Mx)
def Mx.len : Mx → Nat
  | .push _ => 1
  | .data _ => 1
  | .load => 1
  | .tim a _ => a.len + 1
  | .kep a => a.len + 4
  | .bin _ a b => a.len + b.len + 1
  | .cnd a b c => a.len + b.len + c.len + 2
def Mx.rows : Mx → Nat → List Rw
  | .push p, _ => [.push p]
  | .data i, _ => [.data i]
  | .load, _ => [.load 7]
  | .tim a p, s => a.rows s ++ [.times p]
  | .kep a, s => a.rows s ++ [.keep 3, .load 3, .load 3, .op 0]
  | .bin o a b, s => a.rows s ++ b.rows (s + a.len) ++ [.op o]
  | .cnd a b c, s => a.rows s ++ [.unless (s + a.len + b.len + 2)] ++ b.rows (s + a.len + 1) ++ [.jump (s + a.len + b.len + 2 + c.len)] ++ c.rows (s + a.len + b.len + 2)
theorem Mx.rows_len : ∀ (M : Mx) (s : Nat), (M.rows s).length = M.len
  | .push _, _ => rfl
  | .data _, _ => rfl
  | .load, _ => rfl
  | .tim a p, s => by simp [rows, len, rows_len a]
  | .kep a, s => by simp [rows, len, rows_len a]
  | .bin o a b, s => by simp [rows, len, rows_len a, rows_len b]; omega
  | .cnd a b c, s => by simp [rows, len, rows_len a, rows_len b, rows_len c]; omega
theorem Mx.len_pos : ∀ M : Mx, 0 < M.len
  | .push _ => Nat.one_pos
  | .data _ => Nat.one_pos
  | .load => Nat.one_pos
  | .tim a p => by simp [len]
  | .kep a => by simp [len]
  | .bin o a b => by simp [len]
  | .cnd a b c => by simp [len]
abbrev Small (p : Fr) : Prop := Nat.gcd p.1.natAbs p.2.natAbs = 1 ∧ 0 < p.2 ∧ p.2 ≤ 5 ∧ -5 ≤ p.1 ∧ p.1 ≤ 5
def MOk (f : Bool) : Nat → Mx → Prop
  | _, .push p => Small p
  | _, .data i => i < 3
  | _, .load => f = true
  | d + 1, .tim a p => MOk f d a ∧ Small p
  | d + 1, .kep a => MOk f d a
  | d + 1, .bin _ a b => MOk f d a ∧ MOk f d b
  | d + 1, .cnd a b c => MOk f d a ∧ MOk f d b ∧ MOk f d c
  | 0, _ => False
theorem MOk.len_le {f : Bool} : ∀ {d : Nat} {M : Mx}, MOk f d M → M.len + 2 ≤ 4 ^ (d + 1)
  | d, .push _, _ => by have := Nat.one_le_two_pow (n := 2 * d); simp [Mx.len]; have h : 4 ^ (d + 1) = 4 * 4 ^ d := by rw [Nat.pow_succ, Nat.mul_comm]
                        have h2 : 0 < 4 ^ d := Nat.pow_pos (by decide); omega
  | d, .data _, _ => by simp [Mx.len]; have h : 4 ^ (d + 1) = 4 * 4 ^ d := by rw [Nat.pow_succ, Nat.mul_comm]
                        have h2 : 0 < 4 ^ d := Nat.pow_pos (by decide); omega
  | d, .load, _ => by simp [Mx.len]; have h : 4 ^ (d + 1) = 4 * 4 ^ d := by rw [Nat.pow_succ, Nat.mul_comm]
                      have h2 : 0 < 4 ^ d := Nat.pow_pos (by decide); omega
  | d + 1, .tim a p, h => by
    have := MOk.len_le (M := a) h.1
    simp [Mx.len]; have h : 4 ^ (d + 1 + 1) = 4 * 4 ^ (d + 1) := by rw [Nat.pow_succ, Nat.mul_comm]
    omega
  | d + 1, .kep a, h => by
    have := MOk.len_le (M := a) (d := d) h
    simp [Mx.len]; have h : 4 ^ (d + 1 + 1) = 4 * 4 ^ (d + 1) := by rw [Nat.pow_succ, Nat.mul_comm]
    have h3 : 4 ^ (d + 1) = 4 * 4 ^ d := by rw [Nat.pow_succ, Nat.mul_comm]
    have h2 : 0 < 4 ^ d := Nat.pow_pos (by decide)
    omega
  | d + 1, .bin o a b, h => by
    have h1 := MOk.len_le (M := a) h.1
    have h2 := MOk.len_le (M := b) h.2
    simp [Mx.len]; have h : 4 ^ (d + 1 + 1) = 4 * 4 ^ (d + 1) := by rw [Nat.pow_succ, Nat.mul_comm]
    omega
  | d + 1, .cnd a b c, h => by
    have h1 := MOk.len_le (M := a) h.1
    have h2 := MOk.len_le (M := b) h.2.1
    have h3 := MOk.len_le (M := c) h.2.2
    simp [Mx.len]; have h : 4 ^ (d + 1 + 1) = 4 * 4 ^ (d + 1) := by rw [Nat.pow_succ, Nat.mul_comm]
    omega
theorem small_low {a b : Int} (ha : 0 ≤ a ∧ a < 9) (hb : 0 ≤ b ∧ b < 3) : Small (low (a - 4) (1 + b)) := by
  have h : ∀ i : Fin 9, ∀ j : Fin 3, Small (low ((i.val : Int) - 4) (1 + (j.val : Int))) := by decide +kernel
  have := h ⟨a.toNat, by omega⟩ ⟨b.toNat, by omega⟩
  have e1 : ((a.toNat : Nat) : Int) = a := by omega
  have e2 : ((b.toNat : Nat) : Int) = b := by omega
  dsimp only at this
  rw [e1, e2] at this
  exact this
/-- a fraction drawn -/
theorem cut_draw {D : Dw} {n : Nat} {ρ : Rho} (hn : n < cs.length) (hD : D.Ok) (h0 : ∀ c, getV ρ 0 c = .ok (.ref n) c) :
    ∃ (p : Fr) (D' : Dw), Small p ∧ D'.Ok ∧ callE (Tb W (k + 1) 30) [] (consA (bin subY (callE (Tb W (k + 1) 28) [] (consA (fun ρ cs => getV ρ 0 cs) (consA (fun _ cs => .ok (.d (.int (9))) cs) nilA))) (fun _ cs => .ok (.d (.int (4))) cs)) (consA (bin addT (fun _ cs => .ok (.d (.int (1))) cs) (callE (Tb W (k + 1) 28) [] (consA (fun ρ cs => getV ρ 0 cs) (consA (fun _ cs => .ok (.d (.int (3))) cs) nilA)))) nilA)) ρ (cs.set n D.cell) = .ok (.d (fr p)) (cs.set n D'.cell) := by
  have r1 := D.val_range (m := 9) (by decide)
  have r2 := (D.next 9).val_range (m := 3) (by decide)
  have o1 := Dw.next_ok hD 9
  refine ⟨low (D.val 9 - 4) (1 + (D.next 9).val 3), (D.next 9).next 3, small_low r1 r2, Dw.next_ok o1 3, ?_⟩
  exact (callE_of (consA_of (bin_of ((call2 (h0 _) rfl).trans (takeU hn hD (by decide))) rfl (subi rfl)) (consA_of (bin_of rfl ((call2 (h0 _) rfl).trans (takeU hn o1 (by decide))) (addi rfl)) rfl))).trans (cut_ok (by omega) (by omega))
end G
end
section
set_option Elab.async false
set_option linter.all false
set_option maxRecDepth 100000
set_option maxHeartbeats 1000000
namespace G
open PySem Y
noncomputable def tq_b_35_10 (W : Wd) (M M' : Lv) : SF := (retS (bin addT (bin addT (bin addT (bin addT (fun ρ cs => getV ρ 5 cs) (lstE (consA (tupE (consA (fun _ cs => .ok (.d (.str "unless")) cs) (consA (fun ρ cs => getV ρ 8 cs) nilA))) nilA))) (fun ρ cs => getV ρ 6 cs)) (lstE (consA (tupE (consA (fun _ cs => .ok (.d (.str "jump")) cs) (consA (bin addT (fun ρ cs => getV ρ 8 cs) (app lenT (consA (fun ρ cs => getV ρ 7 cs) nilA))) nilA))) nilA))) (fun ρ cs => getV ρ 7 cs)))
noncomputable def tq_b_35_9 (W : Wd) (M M' : Lv) : SF := (seqS (setS 8 (bin addT (bin addT (bin addT (fun ρ cs => getV ρ 2 cs) (app lenT (consA (fun ρ cs => getV ρ 5 cs) nilA))) (app lenT (consA (fun ρ cs => getV ρ 6 cs) nilA))) (fun _ cs => .ok (.d (.int (2))) cs))) (tq_b_35_10 W M M'))
noncomputable def tq_b_35_8 (W : Wd) (M M' : Lv) : SF := (seqS (setS 7 (callE (M 35) [] (consA (fun ρ cs => getV ρ 0 cs) (consA (bin subY (fun ρ cs => getV ρ 1 cs) (fun _ cs => .ok (.d (.int (1))) cs)) (consA (bin addT (bin addT (bin addT (fun ρ cs => getV ρ 2 cs) (app lenT (consA (fun ρ cs => getV ρ 5 cs) nilA))) (app lenT (consA (fun ρ cs => getV ρ 6 cs) nilA))) (fun _ cs => .ok (.d (.int (2))) cs)) (consA (fun ρ cs => getV ρ 3 cs) nilA)))))) (tq_b_35_9 W M M'))
noncomputable def tq_b_35_7 (W : Wd) (M M' : Lv) : SF := (seqS (setS 6 (callE (M 35) [] (consA (fun ρ cs => getV ρ 0 cs) (consA (bin subY (fun ρ cs => getV ρ 1 cs) (fun _ cs => .ok (.d (.int (1))) cs)) (consA (bin addT (bin addT (fun ρ cs => getV ρ 2 cs) (app lenT (consA (fun ρ cs => getV ρ 5 cs) nilA))) (fun _ cs => .ok (.d (.int (1))) cs)) (consA (fun ρ cs => getV ρ 3 cs) nilA)))))) (tq_b_35_8 W M M'))
noncomputable def tq_b_35_6 (W : Wd) (M M' : Lv) : SF := (seqS (setS 5 (callE (M 35) [] (consA (fun ρ cs => getV ρ 0 cs) (consA (bin subY (fun ρ cs => getV ρ 1 cs) (fun _ cs => .ok (.d (.int (1))) cs)) (consA (fun ρ cs => getV ρ 2 cs) (consA (fun ρ cs => getV ρ 3 cs) nilA)))))) (tq_b_35_7 W M M'))
noncomputable def tq_b_35_5 (W : Wd) (M M' : Lv) : SF := (seqS (ifS (tst (bin (inb fun i j => decide (i < j)) (fun ρ cs => getV ρ 4 cs) (fun _ cs => .ok (.d (.int (7))) cs))) (seqS (setS 5 (callE (M 35) [] (consA (fun ρ cs => getV ρ 0 cs) (consA (bin subY (fun ρ cs => getV ρ 1 cs) (fun _ cs => .ok (.d (.int (1))) cs)) (consA (fun ρ cs => getV ρ 2 cs) (consA (fun ρ cs => getV ρ 3 cs) nilA)))))) (seqS (setS 5 (bin addT (fun ρ cs => getV ρ 5 cs) (callE (M 35) [] (consA (fun ρ cs => getV ρ 0 cs) (consA (bin subY (fun ρ cs => getV ρ 1 cs) (fun _ cs => .ok (.d (.int (1))) cs)) (consA (bin addT (fun ρ cs => getV ρ 2 cs) (app lenT (consA (fun ρ cs => getV ρ 5 cs) nilA))) (consA (fun ρ cs => getV ρ 3 cs) nilA))))))) (retS (bin addT (fun ρ cs => getV ρ 5 cs) (lstE (consA (tupE (consA (callE (M 29) [] (consA (fun ρ cs => getV ρ 0 cs) (consA (lstE (consA (fun _ cs => .ok (.d (.str "add")) cs) (consA (fun _ cs => .ok (.d (.str "sub")) cs) (consA (fun _ cs => .ok (.d (.str "less")) cs) (consA (fun _ cs => .ok (.d (.str "same")) cs) nilA))))) nilA))) nilA)) nilA)))))) passS) (tq_b_35_6 W M M'))
noncomputable def tq_b_35_4 (W : Wd) (M M' : Lv) : SF := (seqS (ifS (tst (bin eqT (fun ρ cs => getV ρ 4 cs) (fun _ cs => .ok (.d (.int (4))) cs))) (seqS (setS 5 (callE (M 35) [] (consA (fun ρ cs => getV ρ 0 cs) (consA (bin subY (fun ρ cs => getV ρ 1 cs) (fun _ cs => .ok (.d (.int (1))) cs)) (consA (fun ρ cs => getV ρ 2 cs) (consA (fun ρ cs => getV ρ 3 cs) nilA)))))) (retS (bin addT (fun ρ cs => getV ρ 5 cs) (lstE (consA (tupE (consA (fun _ cs => .ok (.d (.str "keep")) cs) (consA (fun _ cs => .ok (.d (.int (3))) cs) nilA))) (consA (tupE (consA (fun _ cs => .ok (.d (.str "load")) cs) (consA (fun _ cs => .ok (.d (.int (3))) cs) nilA))) (consA (tupE (consA (fun _ cs => .ok (.d (.str "load")) cs) (consA (fun _ cs => .ok (.d (.int (3))) cs) nilA))) (consA (tupE (consA (fun _ cs => .ok (.d (.str "add")) cs) nilA)) nilA)))))))) passS) (tq_b_35_5 W M M'))
noncomputable def tq_b_35_3 (W : Wd) (M M' : Lv) : SF := (seqS (ifS (tst (bin eqT (fun ρ cs => getV ρ 4 cs) (fun _ cs => .ok (.d (.int (3))) cs))) (seqS (setS 9 (callE (M 30) [] (consA (bin subY (callE (M 28) [] (consA (fun ρ cs => getV ρ 0 cs) (consA (fun _ cs => .ok (.d (.int (9))) cs) nilA))) (fun _ cs => .ok (.d (.int (4))) cs)) (consA (bin addT (fun _ cs => .ok (.d (.int (1))) cs) (callE (M 28) [] (consA (fun ρ cs => getV ρ 0 cs) (consA (fun _ cs => .ok (.d (.int (3))) cs) nilA)))) nilA)))) (retS (bin addT (callE (M 35) [] (consA (fun ρ cs => getV ρ 0 cs) (consA (bin subY (fun ρ cs => getV ρ 1 cs) (fun _ cs => .ok (.d (.int (1))) cs)) (consA (fun ρ cs => getV ρ 2 cs) (consA (fun ρ cs => getV ρ 3 cs) nilA))))) (lstE (consA (tupE (consA (fun _ cs => .ok (.d (.str "times")) cs) (consA (bin (itemT W) (fun ρ cs => getV ρ 9 cs) (fun _ cs => .ok (.d (.int (0))) cs)) (consA (bin (itemT W) (fun ρ cs => getV ρ 9 cs) (fun _ cs => .ok (.d (.int (1))) cs)) nilA)))) nilA))))) passS) (tq_b_35_4 W M M'))
noncomputable def tq_b_35_2 (W : Wd) (M M' : Lv) : SF := (seqS (ifS (tst (bin eqT (fun ρ cs => getV ρ 4 cs) (fun _ cs => .ok (.d (.int (2))) cs))) (retS (ifE (val (fun ρ cs => getV ρ 3 cs)) (lstE (consA (tupE (consA (fun _ cs => .ok (.d (.str "load")) cs) (consA (fun _ cs => .ok (.d (.int (7))) cs) nilA))) nilA)) (lstE (consA (tupE (consA (fun _ cs => .ok (.d (.str "push")) cs) (consA (callE (M 28) [] (consA (fun ρ cs => getV ρ 0 cs) (consA (fun _ cs => .ok (.d (.int (2))) cs) nilA))) (consA (fun _ cs => .ok (.d (.int (1))) cs) nilA)))) nilA)))) passS) (tq_b_35_3 W M M'))
noncomputable def tq_b_35_1 (W : Wd) (M M' : Lv) : SF := (seqS (ifS (tst (bin (inb fun i j => decide (i < j)) (fun ρ cs => getV ρ 4 cs) (fun _ cs => .ok (.d (.int (2))) cs))) (seqS (setS 9 (callE (M 30) [] (consA (bin subY (callE (M 28) [] (consA (fun ρ cs => getV ρ 0 cs) (consA (fun _ cs => .ok (.d (.int (9))) cs) nilA))) (fun _ cs => .ok (.d (.int (4))) cs)) (consA (bin addT (fun _ cs => .ok (.d (.int (1))) cs) (callE (M 28) [] (consA (fun ρ cs => getV ρ 0 cs) (consA (fun _ cs => .ok (.d (.int (3))) cs) nilA)))) nilA)))) (retS (lstE (consA (callE (M 29) [] (consA (fun ρ cs => getV ρ 0 cs) (consA (lstE (consA (tupE (consA (fun _ cs => .ok (.d (.str "push")) cs) (consA (bin (itemT W) (fun ρ cs => getV ρ 9 cs) (fun _ cs => .ok (.d (.int (0))) cs)) (consA (bin (itemT W) (fun ρ cs => getV ρ 9 cs) (fun _ cs => .ok (.d (.int (1))) cs)) nilA)))) (consA (tupE (consA (fun _ cs => .ok (.d (.str "data")) cs) (consA (callE (M 28) [] (consA (fun ρ cs => getV ρ 0 cs) (consA (fun _ cs => .ok (.d (.int (3))) cs) nilA))) nilA))) nilA))) nilA))) nilA)))) passS) (tq_b_35_2 W M M'))
theorem tqe_b_35 {W : Wd} {M M' : Lv} : b_35 W M M' = seqS (setS 4 (ifE (tst (bin (inb fun i j => decide (j < i)) (fun ρ cs => getV ρ 1 cs) (fun _ cs => .ok (.d (.int (0))) cs))) (callE (M 28) [] (consA (fun ρ cs => getV ρ 0 cs) (consA (fun _ cs => .ok (.d (.int (9))) cs) nilA))) (callE (M 28) [] (consA (fun ρ cs => getV ρ 0 cs) (consA (fun _ cs => .ok (.d (.int (3))) cs) nilA))))) (tq_b_35_1 W M M') := rfl
theorem tqe_b_35_1 {W : Wd} {M M' : Lv} : tq_b_35_1 W M M' = seqS (ifS (tst (bin (inb fun i j => decide (i < j)) (fun ρ cs => getV ρ 4 cs) (fun _ cs => .ok (.d (.int (2))) cs))) (seqS (setS 9 (callE (M 30) [] (consA (bin subY (callE (M 28) [] (consA (fun ρ cs => getV ρ 0 cs) (consA (fun _ cs => .ok (.d (.int (9))) cs) nilA))) (fun _ cs => .ok (.d (.int (4))) cs)) (consA (bin addT (fun _ cs => .ok (.d (.int (1))) cs) (callE (M 28) [] (consA (fun ρ cs => getV ρ 0 cs) (consA (fun _ cs => .ok (.d (.int (3))) cs) nilA)))) nilA)))) (retS (lstE (consA (callE (M 29) [] (consA (fun ρ cs => getV ρ 0 cs) (consA (lstE (consA (tupE (consA (fun _ cs => .ok (.d (.str "push")) cs) (consA (bin (itemT W) (fun ρ cs => getV ρ 9 cs) (fun _ cs => .ok (.d (.int (0))) cs)) (consA (bin (itemT W) (fun ρ cs => getV ρ 9 cs) (fun _ cs => .ok (.d (.int (1))) cs)) nilA)))) (consA (tupE (consA (fun _ cs => .ok (.d (.str "data")) cs) (consA (callE (M 28) [] (consA (fun ρ cs => getV ρ 0 cs) (consA (fun _ cs => .ok (.d (.int (3))) cs) nilA))) nilA))) nilA))) nilA))) nilA)))) passS) (tq_b_35_2 W M M') := rfl
theorem tqe_b_35_2 {W : Wd} {M M' : Lv} : tq_b_35_2 W M M' = seqS (ifS (tst (bin eqT (fun ρ cs => getV ρ 4 cs) (fun _ cs => .ok (.d (.int (2))) cs))) (retS (ifE (val (fun ρ cs => getV ρ 3 cs)) (lstE (consA (tupE (consA (fun _ cs => .ok (.d (.str "load")) cs) (consA (fun _ cs => .ok (.d (.int (7))) cs) nilA))) nilA)) (lstE (consA (tupE (consA (fun _ cs => .ok (.d (.str "push")) cs) (consA (callE (M 28) [] (consA (fun ρ cs => getV ρ 0 cs) (consA (fun _ cs => .ok (.d (.int (2))) cs) nilA))) (consA (fun _ cs => .ok (.d (.int (1))) cs) nilA)))) nilA)))) passS) (tq_b_35_3 W M M') := rfl
theorem tqe_b_35_3 {W : Wd} {M M' : Lv} : tq_b_35_3 W M M' = seqS (ifS (tst (bin eqT (fun ρ cs => getV ρ 4 cs) (fun _ cs => .ok (.d (.int (3))) cs))) (seqS (setS 9 (callE (M 30) [] (consA (bin subY (callE (M 28) [] (consA (fun ρ cs => getV ρ 0 cs) (consA (fun _ cs => .ok (.d (.int (9))) cs) nilA))) (fun _ cs => .ok (.d (.int (4))) cs)) (consA (bin addT (fun _ cs => .ok (.d (.int (1))) cs) (callE (M 28) [] (consA (fun ρ cs => getV ρ 0 cs) (consA (fun _ cs => .ok (.d (.int (3))) cs) nilA)))) nilA)))) (retS (bin addT (callE (M 35) [] (consA (fun ρ cs => getV ρ 0 cs) (consA (bin subY (fun ρ cs => getV ρ 1 cs) (fun _ cs => .ok (.d (.int (1))) cs)) (consA (fun ρ cs => getV ρ 2 cs) (consA (fun ρ cs => getV ρ 3 cs) nilA))))) (lstE (consA (tupE (consA (fun _ cs => .ok (.d (.str "times")) cs) (consA (bin (itemT W) (fun ρ cs => getV ρ 9 cs) (fun _ cs => .ok (.d (.int (0))) cs)) (consA (bin (itemT W) (fun ρ cs => getV ρ 9 cs) (fun _ cs => .ok (.d (.int (1))) cs)) nilA)))) nilA))))) passS) (tq_b_35_4 W M M') := rfl
theorem tqe_b_35_4 {W : Wd} {M M' : Lv} : tq_b_35_4 W M M' = seqS (ifS (tst (bin eqT (fun ρ cs => getV ρ 4 cs) (fun _ cs => .ok (.d (.int (4))) cs))) (seqS (setS 5 (callE (M 35) [] (consA (fun ρ cs => getV ρ 0 cs) (consA (bin subY (fun ρ cs => getV ρ 1 cs) (fun _ cs => .ok (.d (.int (1))) cs)) (consA (fun ρ cs => getV ρ 2 cs) (consA (fun ρ cs => getV ρ 3 cs) nilA)))))) (retS (bin addT (fun ρ cs => getV ρ 5 cs) (lstE (consA (tupE (consA (fun _ cs => .ok (.d (.str "keep")) cs) (consA (fun _ cs => .ok (.d (.int (3))) cs) nilA))) (consA (tupE (consA (fun _ cs => .ok (.d (.str "load")) cs) (consA (fun _ cs => .ok (.d (.int (3))) cs) nilA))) (consA (tupE (consA (fun _ cs => .ok (.d (.str "load")) cs) (consA (fun _ cs => .ok (.d (.int (3))) cs) nilA))) (consA (tupE (consA (fun _ cs => .ok (.d (.str "add")) cs) nilA)) nilA)))))))) passS) (tq_b_35_5 W M M') := rfl
theorem tqe_b_35_5 {W : Wd} {M M' : Lv} : tq_b_35_5 W M M' = seqS (ifS (tst (bin (inb fun i j => decide (i < j)) (fun ρ cs => getV ρ 4 cs) (fun _ cs => .ok (.d (.int (7))) cs))) (seqS (setS 5 (callE (M 35) [] (consA (fun ρ cs => getV ρ 0 cs) (consA (bin subY (fun ρ cs => getV ρ 1 cs) (fun _ cs => .ok (.d (.int (1))) cs)) (consA (fun ρ cs => getV ρ 2 cs) (consA (fun ρ cs => getV ρ 3 cs) nilA)))))) (seqS (setS 5 (bin addT (fun ρ cs => getV ρ 5 cs) (callE (M 35) [] (consA (fun ρ cs => getV ρ 0 cs) (consA (bin subY (fun ρ cs => getV ρ 1 cs) (fun _ cs => .ok (.d (.int (1))) cs)) (consA (bin addT (fun ρ cs => getV ρ 2 cs) (app lenT (consA (fun ρ cs => getV ρ 5 cs) nilA))) (consA (fun ρ cs => getV ρ 3 cs) nilA))))))) (retS (bin addT (fun ρ cs => getV ρ 5 cs) (lstE (consA (tupE (consA (callE (M 29) [] (consA (fun ρ cs => getV ρ 0 cs) (consA (lstE (consA (fun _ cs => .ok (.d (.str "add")) cs) (consA (fun _ cs => .ok (.d (.str "sub")) cs) (consA (fun _ cs => .ok (.d (.str "less")) cs) (consA (fun _ cs => .ok (.d (.str "same")) cs) nilA))))) nilA))) nilA)) nilA)))))) passS) (tq_b_35_6 W M M') := rfl
theorem tqe_b_35_6 {W : Wd} {M M' : Lv} : tq_b_35_6 W M M' = seqS (setS 5 (callE (M 35) [] (consA (fun ρ cs => getV ρ 0 cs) (consA (bin subY (fun ρ cs => getV ρ 1 cs) (fun _ cs => .ok (.d (.int (1))) cs)) (consA (fun ρ cs => getV ρ 2 cs) (consA (fun ρ cs => getV ρ 3 cs) nilA)))))) (tq_b_35_7 W M M') := rfl
theorem tqe_b_35_7 {W : Wd} {M M' : Lv} : tq_b_35_7 W M M' = seqS (setS 6 (callE (M 35) [] (consA (fun ρ cs => getV ρ 0 cs) (consA (bin subY (fun ρ cs => getV ρ 1 cs) (fun _ cs => .ok (.d (.int (1))) cs)) (consA (bin addT (bin addT (fun ρ cs => getV ρ 2 cs) (app lenT (consA (fun ρ cs => getV ρ 5 cs) nilA))) (fun _ cs => .ok (.d (.int (1))) cs)) (consA (fun ρ cs => getV ρ 3 cs) nilA)))))) (tq_b_35_8 W M M') := rfl
theorem tqe_b_35_8 {W : Wd} {M M' : Lv} : tq_b_35_8 W M M' = seqS (setS 7 (callE (M 35) [] (consA (fun ρ cs => getV ρ 0 cs) (consA (bin subY (fun ρ cs => getV ρ 1 cs) (fun _ cs => .ok (.d (.int (1))) cs)) (consA (bin addT (bin addT (bin addT (fun ρ cs => getV ρ 2 cs) (app lenT (consA (fun ρ cs => getV ρ 5 cs) nilA))) (app lenT (consA (fun ρ cs => getV ρ 6 cs) nilA))) (fun _ cs => .ok (.d (.int (2))) cs)) (consA (fun ρ cs => getV ρ 3 cs) nilA)))))) (tq_b_35_9 W M M') := rfl
theorem tqe_b_35_9 {W : Wd} {M M' : Lv} : tq_b_35_9 W M M' = seqS (setS 8 (bin addT (bin addT (bin addT (fun ρ cs => getV ρ 2 cs) (app lenT (consA (fun ρ cs => getV ρ 5 cs) nilA))) (app lenT (consA (fun ρ cs => getV ρ 6 cs) nilA))) (fun _ cs => .ok (.d (.int (2))) cs))) (tq_b_35_10 W M M') := rfl
theorem tqe_b_35_10 {W : Wd} {M M' : Lv} : tq_b_35_10 W M M' = (retS (bin addT (bin addT (bin addT (bin addT (fun ρ cs => getV ρ 5 cs) (lstE (consA (tupE (consA (fun _ cs => .ok (.d (.str "unless")) cs) (consA (fun ρ cs => getV ρ 8 cs) nilA))) nilA))) (fun ρ cs => getV ρ 6 cs)) (lstE (consA (tupE (consA (fun _ cs => .ok (.d (.str "jump")) cs) (consA (bin addT (fun ρ cs => getV ρ 8 cs) (app lenT (consA (fun ρ cs => getV ρ 7 cs) nilA))) nilA))) nilA))) (fun ρ cs => getV ρ 7 cs))) := rfl
noncomputable def tq_b_36_5 (W : Wd) (M M' : Lv) : SF := (retS (bin eqT (app reprT (consA (lstE (consA (callE (M 26) [] (consA (fun ρ cs => getV ρ 2 cs) (consA (fun ρ cs => getV ρ 3 cs) nilA))) (consA (callKE 2 [1, 0] (M 26) (consA (fun ρ cs => getV ρ 3 cs) (consA (fun ρ cs => getV ρ 2 cs) nilA))) nilA))) nilA)) (app reprT (consA (lstE (consA (bin (itemT W) (fun ρ cs => getV ρ 4 cs) (fun _ cs => .ok (.d (.int (0))) cs)) (consA (bin (itemT W) (fun ρ cs => getV ρ 4 cs) (fun _ cs => .ok (.d (.int (0))) cs)) nilA))) nilA))))
noncomputable def tq_b_36_4 (W : Wd) (M M' : Lv) : SF := (seqS (ifS (tst (bin neT (app lenT (consA (fun ρ cs => getV ρ 4 cs) nilA)) (fun _ cs => .ok (.d (.int (1))) cs))) (retS (fun _ cs => .ok (.d (.bool false)) cs)) passS) (tq_b_36_5 W M M'))
noncomputable def tq_b_36_3 (W : Wd) (M M' : Lv) : SF := (seqS (setS 4 (callE (M 34) [] (consA (fun ρ cs => getV ρ 2 cs) (consA (fun ρ cs => getV ρ 3 cs) nilA)))) (tq_b_36_4 W M M'))
noncomputable def tq_b_36_2 (W : Wd) (M M' : Lv) : SF := (seqS (setS 3 (app tupleT (consA (lcE (rng1I (consA (fun _ cs => .ok (.d (.int (3))) cs) nilA)) [5] (.nm 5) yesB (callE (M 30) [] (consA (bin subY (callE (M 28) [] (consA (fun ρ cs => getV ρ 0 cs) (consA (fun _ cs => .ok (.d (.int (9))) cs) nilA))) (fun _ cs => .ok (.d (.int (4))) cs)) (consA (bin addT (fun _ cs => .ok (.d (.int (1))) cs) (callE (M 28) [] (consA (fun ρ cs => getV ρ 0 cs) (consA (fun _ cs => .ok (.d (.int (3))) cs) nilA)))) nilA)))) nilA))) (tq_b_36_3 W M M'))
noncomputable def tq_b_36_1 (W : Wd) (M M' : Lv) : SF := (seqS (setS 2 (app tupleT (consA (bin addT (fun ρ cs => getV ρ 1 cs) (callE (M 35) [] (consA (fun ρ cs => getV ρ 0 cs) (consA (fun _ cs => .ok (.d (.int (3))) cs) (consA (app lenT (consA (fun ρ cs => getV ρ 1 cs) nilA)) (consA (bin neT (fun ρ cs => getV ρ 1 cs) (lstE nilA)) nilA)))))) nilA))) (tq_b_36_2 W M M'))
theorem tqe_b_36 {W : Wd} {M M' : Lv} : b_36 W M M' = seqS (setS 1 (ifE (tst (bin eqT (callE (M 28) [] (consA (fun ρ cs => getV ρ 0 cs) (consA (fun _ cs => .ok (.d (.int (2))) cs) nilA))) (fun _ cs => .ok (.d (.int (0))) cs))) (lstE (consA (tupE (consA (fun _ cs => .ok (.d (.str "push")) cs) (consA (fun _ cs => .ok (.d (.int (5))) cs) (consA (fun _ cs => .ok (.d (.int (2))) cs) nilA)))) (consA (tupE (consA (fun _ cs => .ok (.d (.str "keep")) cs) (consA (fun _ cs => .ok (.d (.int (7))) cs) nilA))) nilA))) (lstE nilA))) (tq_b_36_1 W M M') := rfl
theorem tqe_b_36_1 {W : Wd} {M M' : Lv} : tq_b_36_1 W M M' = seqS (setS 2 (app tupleT (consA (bin addT (fun ρ cs => getV ρ 1 cs) (callE (M 35) [] (consA (fun ρ cs => getV ρ 0 cs) (consA (fun _ cs => .ok (.d (.int (3))) cs) (consA (app lenT (consA (fun ρ cs => getV ρ 1 cs) nilA)) (consA (bin neT (fun ρ cs => getV ρ 1 cs) (lstE nilA)) nilA)))))) nilA))) (tq_b_36_2 W M M') := rfl
theorem tqe_b_36_2 {W : Wd} {M M' : Lv} : tq_b_36_2 W M M' = seqS (setS 3 (app tupleT (consA (lcE (rng1I (consA (fun _ cs => .ok (.d (.int (3))) cs) nilA)) [5] (.nm 5) yesB (callE (M 30) [] (consA (bin subY (callE (M 28) [] (consA (fun ρ cs => getV ρ 0 cs) (consA (fun _ cs => .ok (.d (.int (9))) cs) nilA))) (fun _ cs => .ok (.d (.int (4))) cs)) (consA (bin addT (fun _ cs => .ok (.d (.int (1))) cs) (callE (M 28) [] (consA (fun ρ cs => getV ρ 0 cs) (consA (fun _ cs => .ok (.d (.int (3))) cs) nilA)))) nilA)))) nilA))) (tq_b_36_3 W M M') := rfl
theorem tqe_b_36_3 {W : Wd} {M M' : Lv} : tq_b_36_3 W M M' = seqS (setS 4 (callE (M 34) [] (consA (fun ρ cs => getV ρ 2 cs) (consA (fun ρ cs => getV ρ 3 cs) nilA)))) (tq_b_36_4 W M M') := rfl
theorem tqe_b_36_4 {W : Wd} {M M' : Lv} : tq_b_36_4 W M M' = seqS (ifS (tst (bin neT (app lenT (consA (fun ρ cs => getV ρ 4 cs) nilA)) (fun _ cs => .ok (.d (.int (1))) cs))) (retS (fun _ cs => .ok (.d (.bool false)) cs)) passS) (tq_b_36_5 W M M') := rfl
theorem tqe_b_36_5 {W : Wd} {M M' : Lv} : tq_b_36_5 W M M' = (retS (bin eqT (app reprT (consA (lstE (consA (callE (M 26) [] (consA (fun ρ cs => getV ρ 2 cs) (consA (fun ρ cs => getV ρ 3 cs) nilA))) (consA (callKE 2 [1, 0] (M 26) (consA (fun ρ cs => getV ρ 3 cs) (consA (fun ρ cs => getV ρ 2 cs) nilA))) nilA))) nilA)) (app reprT (consA (lstE (consA (bin (itemT W) (fun ρ cs => getV ρ 4 cs) (fun _ cs => .ok (.d (.int (0))) cs)) (consA (bin (itemT W) (fun ρ cs => getV ρ 4 cs) (fun _ cs => .ok (.d (.int (0))) cs)) nilA))) nilA)))) := rfl
noncomputable def tq_lb_34_0_2 (W : Wd) (M M' : Lv) : SF := (ifS (tst (bin eqT (fun ρ cs => getV ρ 5 cs) (fun _ cs => .ok (.d (.str "push")) cs))) (expS (bmE isLst appendT (fun ρ cs => getV ρ 2 cs) (consA (tupE (consA (bin (itemT W) (fun ρ cs => getV ρ 6 cs) (fun _ cs => .ok (.d (.int (1))) cs)) (consA (bin (itemT W) (fun ρ cs => getV ρ 6 cs) (fun _ cs => .ok (.d (.int (2))) cs)) nilA))) nilA))) (ifS (tst (bin eqT (fun ρ cs => getV ρ 5 cs) (fun _ cs => .ok (.d (.str "data")) cs))) (expS (bmE isLst appendT (fun ρ cs => getV ρ 2 cs) (consA (bin (itemT W) (fun ρ cs => getV ρ 1 cs) (bin (itemT W) (fun ρ cs => getV ρ 6 cs) (fun _ cs => .ok (.d (.int (1))) cs))) nilA))) (ifS (tst (bin eqT (fun ρ cs => getV ρ 5 cs) (fun _ cs => .ok (.d (.str "load")) cs))) (expS (bmE isLst appendT (fun ρ cs => getV ρ 2 cs) (consA (bin (itemT W) (fun ρ cs => getV ρ 3 cs) (bin (itemT W) (fun ρ cs => getV ρ 6 cs) (fun _ cs => .ok (.d (.int (1))) cs))) nilA))) (ifS (tst (bin eqT (fun ρ cs => getV ρ 5 cs) (fun _ cs => .ok (.d (.str "keep")) cs))) (asgG (subG (fun ρ cs => getV ρ 3 cs) (bin (itemT W) (fun ρ cs => getV ρ 6 cs) (fun _ cs => .ok (.d (.int (1))) cs))) (bmE isLst popT (fun ρ cs => getV ρ 2 cs) nilA)) (ifS (tst (bin eqT (fun ρ cs => getV ρ 5 cs) (fun _ cs => .ok (.d (.str "jump")) cs))) (setS 4 (bin (itemT W) (fun ρ cs => getV ρ 6 cs) (fun _ cs => .ok (.d (.int (1))) cs))) (ifS (tst (bin eqT (fun ρ cs => getV ρ 5 cs) (fun _ cs => .ok (.d (.str "unless")) cs))) (setS 4 (ifE (tst (bin eqT (bmE isLst popT (fun ρ cs => getV ρ 2 cs) nilA) (tupE (consA (fun _ cs => .ok (.d (.int (0))) cs) (consA (fun _ cs => .ok (.d (.int (1))) cs) nilA))))) (bin (itemT W) (fun ρ cs => getV ρ 6 cs) (fun _ cs => .ok (.d (.int (1))) cs)) (fun ρ cs => getV ρ 4 cs))) (ifS (tst (bin eqT (fun ρ cs => getV ρ 5 cs) (fun _ cs => .ok (.d (.str "times")) cs))) (expS (bmE isLst appendT (fun ρ cs => getV ρ 2 cs) (consA (callE (M 32) [] (consA (bmE isLst popT (fun ρ cs => getV ρ 2 cs) nilA) (consA (tupE (consA (bin (itemT W) (fun ρ cs => getV ρ 6 cs) (fun _ cs => .ok (.d (.int (1))) cs)) (consA (bin (itemT W) (fun ρ cs => getV ρ 6 cs) (fun _ cs => .ok (.d (.int (2))) cs)) nilA))) nilA))) nilA))) (seqS (setS 7 (bmE isLst popT (fun ρ cs => getV ρ 2 cs) nilA)) (seqS (setS 8 (bmE isLst popT (fun ρ cs => getV ρ 2 cs) nilA)) (seqS (setS 9 (callE (M 31) [] (consA (fun ρ cs => getV ρ 8 cs) (consA (fun ρ cs => getV ρ 7 cs) (consA (ifE (tst (bin eqT (fun ρ cs => getV ρ 5 cs) (fun _ cs => .ok (.d (.str "add")) cs))) (fun _ cs => .ok (.d (.int (1))) cs) (un negT (fun _ cs => .ok (.d (.int (1))) cs))) nilA))))) (seqS (setS 10 (ifE (tst (bin eqT (fun ρ cs => getV ρ 5 cs) (fun _ cs => .ok (.d (.str "less")) cs))) (callE (M 33) [] (consA (fun ρ cs => getV ρ 8 cs) (consA (fun ρ cs => getV ρ 7 cs) nilA))) (bin eqT (fun ρ cs => getV ρ 8 cs) (fun ρ cs => getV ρ 7 cs)))) (expS (bmE isLst appendT (fun ρ cs => getV ρ 2 cs) (consA (ifE (tst (bin (inT W) (fun ρ cs => getV ρ 5 cs) (tupE (consA (fun _ cs => .ok (.d (.str "add")) cs) (consA (fun _ cs => .ok (.d (.str "sub")) cs) nilA))))) (fun ρ cs => getV ρ 9 cs) (tupE (consA (app intT (consA (fun ρ cs => getV ρ 10 cs) nilA)) (consA (fun _ cs => .ok (.d (.int (1))) cs) nilA)))) nilA))))))))))))))
noncomputable def tq_lb_34_0_1 (W : Wd) (M M' : Lv) : SF := (seqS (setS 5 (bin (itemT W) (fun ρ cs => getV ρ 6 cs) (fun _ cs => .ok (.d (.int (0))) cs))) (tq_lb_34_0_2 W M M'))
theorem tqe_lb_34_0 {W : Wd} {M M' : Lv} : lb_34_0 W M M' = seqS (parS 6 4 (consA (bin (itemT W) (fun ρ cs => getV ρ 0 cs) (fun ρ cs => getV ρ 4 cs)) (consA (bin addT (fun ρ cs => getV ρ 4 cs) (fun _ cs => .ok (.d (.int (1))) cs)) nilA))) (tq_lb_34_0_1 W M M') := rfl
theorem tqe_lb_34_0_1 {W : Wd} {M M' : Lv} : tq_lb_34_0_1 W M M' = seqS (setS 5 (bin (itemT W) (fun ρ cs => getV ρ 6 cs) (fun _ cs => .ok (.d (.int (0))) cs))) (tq_lb_34_0_2 W M M') := rfl
theorem tqe_lb_34_0_2 {W : Wd} {M M' : Lv} : tq_lb_34_0_2 W M M' = (ifS (tst (bin eqT (fun ρ cs => getV ρ 5 cs) (fun _ cs => .ok (.d (.str "push")) cs))) (expS (bmE isLst appendT (fun ρ cs => getV ρ 2 cs) (consA (tupE (consA (bin (itemT W) (fun ρ cs => getV ρ 6 cs) (fun _ cs => .ok (.d (.int (1))) cs)) (consA (bin (itemT W) (fun ρ cs => getV ρ 6 cs) (fun _ cs => .ok (.d (.int (2))) cs)) nilA))) nilA))) (ifS (tst (bin eqT (fun ρ cs => getV ρ 5 cs) (fun _ cs => .ok (.d (.str "data")) cs))) (expS (bmE isLst appendT (fun ρ cs => getV ρ 2 cs) (consA (bin (itemT W) (fun ρ cs => getV ρ 1 cs) (bin (itemT W) (fun ρ cs => getV ρ 6 cs) (fun _ cs => .ok (.d (.int (1))) cs))) nilA))) (ifS (tst (bin eqT (fun ρ cs => getV ρ 5 cs) (fun _ cs => .ok (.d (.str "load")) cs))) (expS (bmE isLst appendT (fun ρ cs => getV ρ 2 cs) (consA (bin (itemT W) (fun ρ cs => getV ρ 3 cs) (bin (itemT W) (fun ρ cs => getV ρ 6 cs) (fun _ cs => .ok (.d (.int (1))) cs))) nilA))) (ifS (tst (bin eqT (fun ρ cs => getV ρ 5 cs) (fun _ cs => .ok (.d (.str "keep")) cs))) (asgG (subG (fun ρ cs => getV ρ 3 cs) (bin (itemT W) (fun ρ cs => getV ρ 6 cs) (fun _ cs => .ok (.d (.int (1))) cs))) (bmE isLst popT (fun ρ cs => getV ρ 2 cs) nilA)) (ifS (tst (bin eqT (fun ρ cs => getV ρ 5 cs) (fun _ cs => .ok (.d (.str "jump")) cs))) (setS 4 (bin (itemT W) (fun ρ cs => getV ρ 6 cs) (fun _ cs => .ok (.d (.int (1))) cs))) (ifS (tst (bin eqT (fun ρ cs => getV ρ 5 cs) (fun _ cs => .ok (.d (.str "unless")) cs))) (setS 4 (ifE (tst (bin eqT (bmE isLst popT (fun ρ cs => getV ρ 2 cs) nilA) (tupE (consA (fun _ cs => .ok (.d (.int (0))) cs) (consA (fun _ cs => .ok (.d (.int (1))) cs) nilA))))) (bin (itemT W) (fun ρ cs => getV ρ 6 cs) (fun _ cs => .ok (.d (.int (1))) cs)) (fun ρ cs => getV ρ 4 cs))) (ifS (tst (bin eqT (fun ρ cs => getV ρ 5 cs) (fun _ cs => .ok (.d (.str "times")) cs))) (expS (bmE isLst appendT (fun ρ cs => getV ρ 2 cs) (consA (callE (M 32) [] (consA (bmE isLst popT (fun ρ cs => getV ρ 2 cs) nilA) (consA (tupE (consA (bin (itemT W) (fun ρ cs => getV ρ 6 cs) (fun _ cs => .ok (.d (.int (1))) cs)) (consA (bin (itemT W) (fun ρ cs => getV ρ 6 cs) (fun _ cs => .ok (.d (.int (2))) cs)) nilA))) nilA))) nilA))) (seqS (setS 7 (bmE isLst popT (fun ρ cs => getV ρ 2 cs) nilA)) (seqS (setS 8 (bmE isLst popT (fun ρ cs => getV ρ 2 cs) nilA)) (seqS (setS 9 (callE (M 31) [] (consA (fun ρ cs => getV ρ 8 cs) (consA (fun ρ cs => getV ρ 7 cs) (consA (ifE (tst (bin eqT (fun ρ cs => getV ρ 5 cs) (fun _ cs => .ok (.d (.str "add")) cs))) (fun _ cs => .ok (.d (.int (1))) cs) (un negT (fun _ cs => .ok (.d (.int (1))) cs))) nilA))))) (seqS (setS 10 (ifE (tst (bin eqT (fun ρ cs => getV ρ 5 cs) (fun _ cs => .ok (.d (.str "less")) cs))) (callE (M 33) [] (consA (fun ρ cs => getV ρ 8 cs) (consA (fun ρ cs => getV ρ 7 cs) nilA))) (bin eqT (fun ρ cs => getV ρ 8 cs) (fun ρ cs => getV ρ 7 cs)))) (expS (bmE isLst appendT (fun ρ cs => getV ρ 2 cs) (consA (ifE (tst (bin (inT W) (fun ρ cs => getV ρ 5 cs) (tupE (consA (fun _ cs => .ok (.d (.str "add")) cs) (consA (fun _ cs => .ok (.d (.str "sub")) cs) nilA))))) (fun ρ cs => getV ρ 9 cs) (tupE (consA (app intT (consA (fun ρ cs => getV ρ 10 cs) nilA)) (consA (fun _ cs => .ok (.d (.int (1))) cs) nilA)))) nilA)))))))))))))) := rfl
noncomputable def tq_lb_24_1_6 (W : Wd) (M M' : Lv) : SF := (setS 4 (ifE (val (fun ρ cs => getV ρ 8 cs)) (bin (itemT W) (fun ρ cs => getV ρ 5 cs) (fun _ cs => .ok (.d (.int (1))) cs)) (bin addT (fun ρ cs => getV ρ 4 cs) (fun _ cs => .ok (.d (.int (1))) cs))))
noncomputable def tq_lb_24_1_5 (W : Wd) (M M' : Lv) : SF := (seqS (setS 8 (orE (bin eqT (bin (itemT W) (fun ρ cs => getV ρ 5 cs) (fun _ cs => .ok (.d (.int (0))) cs)) (fun _ cs => .ok (.d (.str "jump")) cs)) (andE (bin eqT (bin (itemT W) (fun ρ cs => getV ρ 5 cs) (fun _ cs => .ok (.d (.int (0))) cs)) (fun _ cs => .ok (.d (.str "unless")) cs)) (bin eqT (fun ρ cs => getV ρ 6 cs) (fun _ cs => .ok (.d (.tuple [(.int (0)), (.int (1))])) cs))))) (tq_lb_24_1_6 W M M'))
noncomputable def tq_lb_24_1_4 (W : Wd) (M M' : Lv) : SF := (seqS (ifS (tst (bin eqT (bin (itemT W) (fun _ cs => .ok (.kd 2) cs) (bin (itemT W) (fun ρ cs => getV ρ 5 cs) (fun _ cs => .ok (.d (.int (0))) cs))) (fun _ cs => .ok (.d (.int (1))) cs))) (expS (bmE isLst appendT (fun ρ cs => getV ρ 2 cs) (consA (fun ρ cs => getV ρ 6 cs) nilA))) passS) (tq_lb_24_1_5 W M M'))
noncomputable def tq_lb_24_1_3 (W : Wd) (M M' : Lv) : SF := (seqS (ifS (tst (bin eqT (bin (itemT W) (fun ρ cs => getV ρ 5 cs) (fun _ cs => .ok (.d (.int (0))) cs)) (fun _ cs => .ok (.d (.str "keep")) cs))) (asgG (subG (fun ρ cs => getV ρ 3 cs) (bin (itemT W) (fun ρ cs => getV ρ 5 cs) (fun _ cs => .ok (.d (.int (1))) cs))) (fun ρ cs => getV ρ 6 cs)) passS) (tq_lb_24_1_4 W M M'))
noncomputable def tq_lb_24_1_2 (W : Wd) (M M' : Lv) : SF := (seqS (forS (rng1I (consA (bin (itemT W) (fun _ cs => .ok (.kd 1) cs) (bin (itemT W) (fun ρ cs => getV ρ 5 cs) (fun _ cs => .ok (.d (.int (0))) cs))) nilA)) (.nm 7) (lb_24_0 W M M')) (tq_lb_24_1_3 W M M'))
noncomputable def tq_lb_24_1_1 (W : Wd) (M M' : Lv) : SF := (seqS (setS 6 (callE (M 23) [] (consA (fun ρ cs => getV ρ 5 cs) (consA (fun ρ cs => getV ρ 2 cs) (consA (fun ρ cs => getV ρ 3 cs) (consA (fun ρ cs => getV ρ 1 cs) nilA)))))) (tq_lb_24_1_2 W M M'))
theorem tqe_lb_24_1 {W : Wd} {M M' : Lv} : lb_24_1 W M M' = seqS (setS 5 (bin (itemT W) (fun ρ cs => getV ρ 0 cs) (fun ρ cs => getV ρ 4 cs))) (tq_lb_24_1_1 W M M') := rfl
theorem tqe_lb_24_1_1 {W : Wd} {M M' : Lv} : tq_lb_24_1_1 W M M' = seqS (setS 6 (callE (M 23) [] (consA (fun ρ cs => getV ρ 5 cs) (consA (fun ρ cs => getV ρ 2 cs) (consA (fun ρ cs => getV ρ 3 cs) (consA (fun ρ cs => getV ρ 1 cs) nilA)))))) (tq_lb_24_1_2 W M M') := rfl
theorem tqe_lb_24_1_2 {W : Wd} {M M' : Lv} : tq_lb_24_1_2 W M M' = seqS (forS (rng1I (consA (bin (itemT W) (fun _ cs => .ok (.kd 1) cs) (bin (itemT W) (fun ρ cs => getV ρ 5 cs) (fun _ cs => .ok (.d (.int (0))) cs))) nilA)) (.nm 7) (lb_24_0 W M M')) (tq_lb_24_1_3 W M M') := rfl
theorem tqe_lb_24_1_3 {W : Wd} {M M' : Lv} : tq_lb_24_1_3 W M M' = seqS (ifS (tst (bin eqT (bin (itemT W) (fun ρ cs => getV ρ 5 cs) (fun _ cs => .ok (.d (.int (0))) cs)) (fun _ cs => .ok (.d (.str "keep")) cs))) (asgG (subG (fun ρ cs => getV ρ 3 cs) (bin (itemT W) (fun ρ cs => getV ρ 5 cs) (fun _ cs => .ok (.d (.int (1))) cs))) (fun ρ cs => getV ρ 6 cs)) passS) (tq_lb_24_1_4 W M M') := rfl
theorem tqe_lb_24_1_4 {W : Wd} {M M' : Lv} : tq_lb_24_1_4 W M M' = seqS (ifS (tst (bin eqT (bin (itemT W) (fun _ cs => .ok (.kd 2) cs) (bin (itemT W) (fun ρ cs => getV ρ 5 cs) (fun _ cs => .ok (.d (.int (0))) cs))) (fun _ cs => .ok (.d (.int (1))) cs))) (expS (bmE isLst appendT (fun ρ cs => getV ρ 2 cs) (consA (fun ρ cs => getV ρ 6 cs) nilA))) passS) (tq_lb_24_1_5 W M M') := rfl
theorem tqe_lb_24_1_5 {W : Wd} {M M' : Lv} : tq_lb_24_1_5 W M M' = seqS (setS 8 (orE (bin eqT (bin (itemT W) (fun ρ cs => getV ρ 5 cs) (fun _ cs => .ok (.d (.int (0))) cs)) (fun _ cs => .ok (.d (.str "jump")) cs)) (andE (bin eqT (bin (itemT W) (fun ρ cs => getV ρ 5 cs) (fun _ cs => .ok (.d (.int (0))) cs)) (fun _ cs => .ok (.d (.str "unless")) cs)) (bin eqT (fun ρ cs => getV ρ 6 cs) (fun _ cs => .ok (.d (.tuple [(.int (0)), (.int (1))])) cs))))) (tq_lb_24_1_6 W M M') := rfl
theorem tqe_lb_24_1_6 {W : Wd} {M M' : Lv} : tq_lb_24_1_6 W M M' = (setS 4 (ifE (val (fun ρ cs => getV ρ 8 cs)) (bin (itemT W) (fun ρ cs => getV ρ 5 cs) (fun _ cs => .ok (.d (.int (1))) cs)) (bin addT (fun ρ cs => getV ρ 4 cs) (fun _ cs => .ok (.d (.int (1))) cs)))) := rfl
noncomputable def tq_b_17_6 (W : Wd) (M M' : Lv) : SF := (forS (seqI (callE (M 15) [] (consA (fldE W "rows" (fun ρ cs => getV ρ 0 cs)) (consA (fun ρ cs => getV ρ 1 cs) nilA)))) (.nm 4) (expS (methE 0 "lead" (M 18) [] (fun ρ cs => getV ρ 0 cs) (consA (fun ρ cs => getV ρ 4 cs) (consA (lcE (seqI (app sortDT (consA (fun ρ cs => getV ρ 6 cs) nilA))) [7] (.nm 7) yesB (bin addT (bin subY (fun ρ cs => getV ρ 7 cs) (bin (itemT W) (fun _ cs => .ok (.kd 1) cs) (bin (itemT W) (fun ρ cs => getV ρ 5 cs) (fun _ cs => .ok (.d (.int (0))) cs)))) (bin (itemT W) (fun _ cs => .ok (.kd 2) cs) (bin (itemT W) (fun ρ cs => getV ρ 5 cs) (fun _ cs => .ok (.d (.int (0))) cs))))) (consA (fun ρ cs => getV ρ 3 cs) nilA))))))
noncomputable def tq_b_17_5 (W : Wd) (M M' : Lv) : SF := (seqS (ifS (tst (bin eqT (bin (itemT W) (fun ρ cs => getV ρ 5 cs) (fun _ cs => .ok (.d (.int (0))) cs)) (fun _ cs => .ok (.d (.str "keep")) cs))) (asgG (subG (fun ρ cs => getV ρ 3 cs) (bin (itemT W) (fun ρ cs => getV ρ 5 cs) (fun _ cs => .ok (.d (.int (1))) cs))) (fun _ cs => .ok (.d (.bool true)) cs)) passS) (tq_b_17_6 W M M'))
noncomputable def tq_b_17_4 (W : Wd) (M M' : Lv) : SF := (seqS (setS 3 (app (YH.dictT W) (consA (fun ρ cs => getV ρ 2 cs) nilA))) (tq_b_17_5 W M M'))
noncomputable def tq_b_17_3 (W : Wd) (M M' : Lv) : SF := (seqS (ifS (orB (tst (bin (inb fun i j => decide (i < j)) (app minDT (consA (fun ρ cs => getV ρ 6 cs) nilA)) (bin (itemT W) (fun _ cs => .ok (.kd 1) cs) (bin (itemT W) (fun ρ cs => getV ρ 5 cs) (fun _ cs => .ok (.d (.int (0))) cs))))) (andB (tst (bin eqT (bin (itemT W) (fun ρ cs => getV ρ 5 cs) (fun _ cs => .ok (.d (.int (0))) cs)) (fun _ cs => .ok (.d (.str "load")) cs))) (tst (bin (ninT W) (bin (itemT W) (fun ρ cs => getV ρ 5 cs) (fun _ cs => .ok (.d (.int (1))) cs)) (fun ρ cs => getV ρ 2 cs))))) (seqS (fldS W "is_right" (fun ρ cs => getV ρ 0 cs) (fun _ cs => .ok (.d (.bool false)) cs)) retN) passS) (tq_b_17_4 W M M'))
noncomputable def tq_b_17_2 (W : Wd) (M M' : Lv) : SF := (seqS (setS 2 (bin (itemT W) (fldE W "kept" (fun ρ cs => getV ρ 0 cs)) (fun ρ cs => getV ρ 1 cs))) (tq_b_17_3 W M M'))
noncomputable def tq_b_17_1 (W : Wd) (M M' : Lv) : SF := (seqS (ifS (tst (bin eqDN (fun ρ cs => getV ρ 6 cs) dicC)) retN passS) (tq_b_17_2 W M M'))
theorem tqe_b_17 {W : Wd} {M M' : Lv} : b_17 W M M' = seqS (parS 5 6 (consA (bin (itemT W) (fldE W "rows" (fun ρ cs => getV ρ 0 cs)) (fun ρ cs => getV ρ 1 cs)) (consA (bin (itemT W) (fldE W "highs" (fun ρ cs => getV ρ 0 cs)) (fun ρ cs => getV ρ 1 cs)) nilA))) (tq_b_17_1 W M M') := rfl
theorem tqe_b_17_1 {W : Wd} {M M' : Lv} : tq_b_17_1 W M M' = seqS (ifS (tst (bin eqDN (fun ρ cs => getV ρ 6 cs) dicC)) retN passS) (tq_b_17_2 W M M') := rfl
theorem tqe_b_17_2 {W : Wd} {M M' : Lv} : tq_b_17_2 W M M' = seqS (setS 2 (bin (itemT W) (fldE W "kept" (fun ρ cs => getV ρ 0 cs)) (fun ρ cs => getV ρ 1 cs))) (tq_b_17_3 W M M') := rfl
theorem tqe_b_17_3 {W : Wd} {M M' : Lv} : tq_b_17_3 W M M' = seqS (ifS (orB (tst (bin (inb fun i j => decide (i < j)) (app minDT (consA (fun ρ cs => getV ρ 6 cs) nilA)) (bin (itemT W) (fun _ cs => .ok (.kd 1) cs) (bin (itemT W) (fun ρ cs => getV ρ 5 cs) (fun _ cs => .ok (.d (.int (0))) cs))))) (andB (tst (bin eqT (bin (itemT W) (fun ρ cs => getV ρ 5 cs) (fun _ cs => .ok (.d (.int (0))) cs)) (fun _ cs => .ok (.d (.str "load")) cs))) (tst (bin (ninT W) (bin (itemT W) (fun ρ cs => getV ρ 5 cs) (fun _ cs => .ok (.d (.int (1))) cs)) (fun ρ cs => getV ρ 2 cs))))) (seqS (fldS W "is_right" (fun ρ cs => getV ρ 0 cs) (fun _ cs => .ok (.d (.bool false)) cs)) retN) passS) (tq_b_17_4 W M M') := rfl
theorem tqe_b_17_4 {W : Wd} {M M' : Lv} : tq_b_17_4 W M M' = seqS (setS 3 (app (YH.dictT W) (consA (fun ρ cs => getV ρ 2 cs) nilA))) (tq_b_17_5 W M M') := rfl
theorem tqe_b_17_5 {W : Wd} {M M' : Lv} : tq_b_17_5 W M M' = seqS (ifS (tst (bin eqT (bin (itemT W) (fun ρ cs => getV ρ 5 cs) (fun _ cs => .ok (.d (.int (0))) cs)) (fun _ cs => .ok (.d (.str "keep")) cs))) (asgG (subG (fun ρ cs => getV ρ 3 cs) (bin (itemT W) (fun ρ cs => getV ρ 5 cs) (fun _ cs => .ok (.d (.int (1))) cs))) (fun _ cs => .ok (.d (.bool true)) cs)) passS) (tq_b_17_6 W M M') := rfl
theorem tqe_b_17_6 {W : Wd} {M M' : Lv} : tq_b_17_6 W M M' = (forS (seqI (callE (M 15) [] (consA (fldE W "rows" (fun ρ cs => getV ρ 0 cs)) (consA (fun ρ cs => getV ρ 1 cs) nilA)))) (.nm 4) (expS (methE 0 "lead" (M 18) [] (fun ρ cs => getV ρ 0 cs) (consA (fun ρ cs => getV ρ 4 cs) (consA (lcE (seqI (app sortDT (consA (fun ρ cs => getV ρ 6 cs) nilA))) [7] (.nm 7) yesB (bin addT (bin subY (fun ρ cs => getV ρ 7 cs) (bin (itemT W) (fun _ cs => .ok (.kd 1) cs) (bin (itemT W) (fun ρ cs => getV ρ 5 cs) (fun _ cs => .ok (.d (.int (0))) cs)))) (bin (itemT W) (fun _ cs => .ok (.kd 2) cs) (bin (itemT W) (fun ρ cs => getV ρ 5 cs) (fun _ cs => .ok (.d (.int (0))) cs))))) (consA (fun ρ cs => getV ρ 3 cs) nilA)))))) := rfl
noncomputable def tq_b_13_5 (W : Wd) (M M' : Lv) : SF := (retS (orE (bin (ninT W) (bin (itemT W) (fun ρ cs => getV ρ 0 cs) (fun _ cs => .ok (.d (.int (0))) cs)) (fun _ cs => .ok (.d (.tuple [(.str "jump"), (.str "unless")])) cs)) (callE (M 2) [] (consA (bin (itemT W) (fun ρ cs => getV ρ 0 cs) (fun _ cs => .ok (.d (.int (1))) cs)) (consA (fun _ cs => .ok (.d (.int (0))) cs) (consA (fun _ cs => .ok (.d (.int (3000))) cs) nilA))))))
noncomputable def tq_b_13_4 (W : Wd) (M M' : Lv) : SF := (seqS (ifS (tst (bin eqT (bin (itemT W) (fun ρ cs => getV ρ 0 cs) (fun _ cs => .ok (.d (.int (0))) cs)) (fun _ cs => .ok (.d (.str "data")) cs))) (retS (callE (M 2) [] (consA (bin (itemT W) (fun ρ cs => getV ρ 0 cs) (fun _ cs => .ok (.d (.int (1))) cs)) (consA (fun _ cs => .ok (.d (.int (0))) cs) (consA (fun _ cs => .ok (.d (.int (3))) cs) nilA))))) passS) (tq_b_13_5 W M M'))
noncomputable def tq_b_13_3 (W : Wd) (M M' : Lv) : SF := (seqS (ifS (tst (bin (inT W) (bin (itemT W) (fun ρ cs => getV ρ 0 cs) (fun _ cs => .ok (.d (.int (0))) cs)) (tupE (consA (fun _ cs => .ok (.d (.str "keep")) cs) (consA (fun _ cs => .ok (.d (.str "load")) cs) nilA))))) (retS (callE (M 2) [] (consA (bin (itemT W) (fun ρ cs => getV ρ 0 cs) (fun _ cs => .ok (.d (.int (1))) cs)) (consA (fun _ cs => .ok (.d (.int (0))) cs) (consA (fun _ cs => .ok (.d (.int (99))) cs) nilA))))) passS) (tq_b_13_4 W M M'))
noncomputable def tq_b_13_2 (W : Wd) (M M' : Lv) : SF := (seqS (ifS (tst (bin (inT W) (bin (itemT W) (fun ρ cs => getV ρ 0 cs) (fun _ cs => .ok (.d (.int (0))) cs)) (tupE (consA (fun _ cs => .ok (.d (.str "push")) cs) (consA (fun _ cs => .ok (.d (.str "times")) cs) nilA))))) (retS (callE (M 8) [] (consA (sliceE slcT (fun ρ cs => getV ρ 0 cs) (someO (fun _ cs => .ok (.d (.int (1))) cs)) noO) nilA))) passS) (tq_b_13_3 W M M'))
noncomputable def tq_b_13_1 (W : Wd) (M M' : Lv) : SF := (seqS (ifS (notB (val (callE (M 4) [] (consA (fun ρ cs => getV ρ 0 cs) (consA (bin (itemT W) (fun _ cs => .ok (.kd 0) cs) (bin (itemT W) (fun ρ cs => getV ρ 0 cs) (fun _ cs => .ok (.d (.int (0))) cs))) nilA))))) (retS (fun _ cs => .ok (.d (.bool false)) cs)) passS) (tq_b_13_2 W M M'))
theorem tqe_b_13 {W : Wd} {M M' : Lv} : b_13 W M M' = seqS (ifS (orB (notB (val (un (fun t cs => isiT "tuple" [t] cs) (fun ρ cs => getV ρ 0 cs)))) (orB (tst (bin eqT (fun ρ cs => getV ρ 0 cs) (tupE nilA))) (orB (notB (val (callE (M 3) [] (consA (bin (itemT W) (fun ρ cs => getV ρ 0 cs) (fun _ cs => .ok (.d (.int (0))) cs)) nilA)))) (tst (bin (ninT W) (bin (itemT W) (fun ρ cs => getV ρ 0 cs) (fun _ cs => .ok (.d (.int (0))) cs)) (fun _ cs => .ok (.kd 0) cs)))))) (retS (fun _ cs => .ok (.d (.bool false)) cs)) passS) (tq_b_13_1 W M M') := rfl
theorem tqe_b_13_1 {W : Wd} {M M' : Lv} : tq_b_13_1 W M M' = seqS (ifS (notB (val (callE (M 4) [] (consA (fun ρ cs => getV ρ 0 cs) (consA (bin (itemT W) (fun _ cs => .ok (.kd 0) cs) (bin (itemT W) (fun ρ cs => getV ρ 0 cs) (fun _ cs => .ok (.d (.int (0))) cs))) nilA))))) (retS (fun _ cs => .ok (.d (.bool false)) cs)) passS) (tq_b_13_2 W M M') := rfl
theorem tqe_b_13_2 {W : Wd} {M M' : Lv} : tq_b_13_2 W M M' = seqS (ifS (tst (bin (inT W) (bin (itemT W) (fun ρ cs => getV ρ 0 cs) (fun _ cs => .ok (.d (.int (0))) cs)) (tupE (consA (fun _ cs => .ok (.d (.str "push")) cs) (consA (fun _ cs => .ok (.d (.str "times")) cs) nilA))))) (retS (callE (M 8) [] (consA (sliceE slcT (fun ρ cs => getV ρ 0 cs) (someO (fun _ cs => .ok (.d (.int (1))) cs)) noO) nilA))) passS) (tq_b_13_3 W M M') := rfl
theorem tqe_b_13_3 {W : Wd} {M M' : Lv} : tq_b_13_3 W M M' = seqS (ifS (tst (bin (inT W) (bin (itemT W) (fun ρ cs => getV ρ 0 cs) (fun _ cs => .ok (.d (.int (0))) cs)) (tupE (consA (fun _ cs => .ok (.d (.str "keep")) cs) (consA (fun _ cs => .ok (.d (.str "load")) cs) nilA))))) (retS (callE (M 2) [] (consA (bin (itemT W) (fun ρ cs => getV ρ 0 cs) (fun _ cs => .ok (.d (.int (1))) cs)) (consA (fun _ cs => .ok (.d (.int (0))) cs) (consA (fun _ cs => .ok (.d (.int (99))) cs) nilA))))) passS) (tq_b_13_4 W M M') := rfl
theorem tqe_b_13_4 {W : Wd} {M M' : Lv} : tq_b_13_4 W M M' = seqS (ifS (tst (bin eqT (bin (itemT W) (fun ρ cs => getV ρ 0 cs) (fun _ cs => .ok (.d (.int (0))) cs)) (fun _ cs => .ok (.d (.str "data")) cs))) (retS (callE (M 2) [] (consA (bin (itemT W) (fun ρ cs => getV ρ 0 cs) (fun _ cs => .ok (.d (.int (1))) cs)) (consA (fun _ cs => .ok (.d (.int (0))) cs) (consA (fun _ cs => .ok (.d (.int (3))) cs) nilA))))) passS) (tq_b_13_5 W M M') := rfl
theorem tqe_b_13_5 {W : Wd} {M M' : Lv} : tq_b_13_5 W M M' = (retS (orE (bin (ninT W) (bin (itemT W) (fun ρ cs => getV ρ 0 cs) (fun _ cs => .ok (.d (.int (0))) cs)) (fun _ cs => .ok (.d (.tuple [(.str "jump"), (.str "unless")])) cs)) (callE (M 2) [] (consA (bin (itemT W) (fun ρ cs => getV ρ 0 cs) (fun _ cs => .ok (.d (.int (1))) cs)) (consA (fun _ cs => .ok (.d (.int (0))) cs) (consA (fun _ cs => .ok (.d (.int (3000))) cs) nilA)))))) := rfl
noncomputable def tq_b_23_5 (W : Wd) (M M' : Lv) : SF := (retS (ifE (tst (bin neT (bin (itemT W) (fun ρ cs => getV ρ 0 cs) (fun _ cs => .ok (.d (.int (0))) cs)) (fun _ cs => .ok (.d (.str "jump")) cs))) (bin (itemT W) (fun ρ cs => getV ρ 1 cs) (un negT (fun _ cs => .ok (.d (.int (1))) cs))) (fun _ cs => .ok (.d .none) cs)))
noncomputable def tq_b_23_4 (W : Wd) (M M' : Lv) : SF := (seqS (ifS (tst (bin eqT (bin (itemT W) (fun _ cs => .ok (.kd 1) cs) (bin (itemT W) (fun ρ cs => getV ρ 0 cs) (fun _ cs => .ok (.d (.int (0))) cs))) (fun _ cs => .ok (.d (.int (2))) cs))) (retS (callE (M 22) [] (consA (fun ρ cs => getV ρ 0 cs) (consA (bin (itemT W) (fun ρ cs => getV ρ 1 cs) (un negT (fun _ cs => .ok (.d (.int (2))) cs))) (consA (bin (itemT W) (fun ρ cs => getV ρ 1 cs) (un negT (fun _ cs => .ok (.d (.int (1))) cs))) nilA))))) passS) (tq_b_23_5 W M M'))
noncomputable def tq_b_23_3 (W : Wd) (M M' : Lv) : SF := (seqS (ifS (tst (bin eqT (bin (itemT W) (fun ρ cs => getV ρ 0 cs) (fun _ cs => .ok (.d (.int (0))) cs)) (fun _ cs => .ok (.d (.str "times")) cs))) (retS (callE (M 11) [] (consA (bin (itemT W) (fun ρ cs => getV ρ 1 cs) (un negT (fun _ cs => .ok (.d (.int (1))) cs))) (consA (sliceE slcT (fun ρ cs => getV ρ 0 cs) (someO (fun _ cs => .ok (.d (.int (1))) cs)) noO) nilA)))) passS) (tq_b_23_4 W M M'))
noncomputable def tq_b_23_2 (W : Wd) (M M' : Lv) : SF := (seqS (ifS (tst (bin eqT (bin (itemT W) (fun ρ cs => getV ρ 0 cs) (fun _ cs => .ok (.d (.int (0))) cs)) (fun _ cs => .ok (.d (.str "load")) cs))) (retS (bin (itemT W) (fun ρ cs => getV ρ 2 cs) (bin (itemT W) (fun ρ cs => getV ρ 0 cs) (fun _ cs => .ok (.d (.int (1))) cs)))) passS) (tq_b_23_3 W M M'))
noncomputable def tq_b_23_1 (W : Wd) (M M' : Lv) : SF := (seqS (ifS (tst (bin eqT (bin (itemT W) (fun ρ cs => getV ρ 0 cs) (fun _ cs => .ok (.d (.int (0))) cs)) (fun _ cs => .ok (.d (.str "data")) cs))) (retS (bin (itemT W) (fun ρ cs => getV ρ 3 cs) (bin (itemT W) (fun ρ cs => getV ρ 0 cs) (fun _ cs => .ok (.d (.int (1))) cs)))) passS) (tq_b_23_2 W M M'))
theorem tqe_b_23 {W : Wd} {M M' : Lv} : b_23 W M M' = seqS (ifS (tst (bin eqT (bin (itemT W) (fun ρ cs => getV ρ 0 cs) (fun _ cs => .ok (.d (.int (0))) cs)) (fun _ cs => .ok (.d (.str "push")) cs))) (retS (sliceE slcT (fun ρ cs => getV ρ 0 cs) (someO (fun _ cs => .ok (.d (.int (1))) cs)) noO)) passS) (tq_b_23_1 W M M') := rfl
theorem tqe_b_23_1 {W : Wd} {M M' : Lv} : tq_b_23_1 W M M' = seqS (ifS (tst (bin eqT (bin (itemT W) (fun ρ cs => getV ρ 0 cs) (fun _ cs => .ok (.d (.int (0))) cs)) (fun _ cs => .ok (.d (.str "data")) cs))) (retS (bin (itemT W) (fun ρ cs => getV ρ 3 cs) (bin (itemT W) (fun ρ cs => getV ρ 0 cs) (fun _ cs => .ok (.d (.int (1))) cs)))) passS) (tq_b_23_2 W M M') := rfl
theorem tqe_b_23_2 {W : Wd} {M M' : Lv} : tq_b_23_2 W M M' = seqS (ifS (tst (bin eqT (bin (itemT W) (fun ρ cs => getV ρ 0 cs) (fun _ cs => .ok (.d (.int (0))) cs)) (fun _ cs => .ok (.d (.str "load")) cs))) (retS (bin (itemT W) (fun ρ cs => getV ρ 2 cs) (bin (itemT W) (fun ρ cs => getV ρ 0 cs) (fun _ cs => .ok (.d (.int (1))) cs)))) passS) (tq_b_23_3 W M M') := rfl
theorem tqe_b_23_3 {W : Wd} {M M' : Lv} : tq_b_23_3 W M M' = seqS (ifS (tst (bin eqT (bin (itemT W) (fun ρ cs => getV ρ 0 cs) (fun _ cs => .ok (.d (.int (0))) cs)) (fun _ cs => .ok (.d (.str "times")) cs))) (retS (callE (M 11) [] (consA (bin (itemT W) (fun ρ cs => getV ρ 1 cs) (un negT (fun _ cs => .ok (.d (.int (1))) cs))) (consA (sliceE slcT (fun ρ cs => getV ρ 0 cs) (someO (fun _ cs => .ok (.d (.int (1))) cs)) noO) nilA)))) passS) (tq_b_23_4 W M M') := rfl
theorem tqe_b_23_4 {W : Wd} {M M' : Lv} : tq_b_23_4 W M M' = seqS (ifS (tst (bin eqT (bin (itemT W) (fun _ cs => .ok (.kd 1) cs) (bin (itemT W) (fun ρ cs => getV ρ 0 cs) (fun _ cs => .ok (.d (.int (0))) cs))) (fun _ cs => .ok (.d (.int (2))) cs))) (retS (callE (M 22) [] (consA (fun ρ cs => getV ρ 0 cs) (consA (bin (itemT W) (fun ρ cs => getV ρ 1 cs) (un negT (fun _ cs => .ok (.d (.int (2))) cs))) (consA (bin (itemT W) (fun ρ cs => getV ρ 1 cs) (un negT (fun _ cs => .ok (.d (.int (1))) cs))) nilA))))) passS) (tq_b_23_5 W M M') := rfl
theorem tqe_b_23_5 {W : Wd} {M M' : Lv} : tq_b_23_5 W M M' = (retS (ifE (tst (bin neT (bin (itemT W) (fun ρ cs => getV ρ 0 cs) (fun _ cs => .ok (.d (.int (0))) cs)) (fun _ cs => .ok (.d (.str "jump")) cs))) (bin (itemT W) (fun ρ cs => getV ρ 1 cs) (un negT (fun _ cs => .ok (.d (.int (1))) cs))) (fun _ cs => .ok (.d .none) cs))) := rfl
noncomputable def tq_b_16_4 (W : Wd) (M M' : Lv) : SF := (forS (rng1I (consA (app lenT (consA (fun ρ cs => getV ρ 1 cs) nilA)) nilA)) (.nm 2) (expS (methE 0 "look" (M 17) [] (fun ρ cs => getV ρ 0 cs) (consA (fun ρ cs => getV ρ 2 cs) nilA))))
noncomputable def tq_b_16_3 (W : Wd) (M M' : Lv) : SF := (seqS (fldS W "is_right" (fun ρ cs => getV ρ 0 cs) (fun _ cs => .ok (.d (.bool true)) cs)) (tq_b_16_4 W M M'))
noncomputable def tq_b_16_2 (W : Wd) (M M' : Lv) : SF := (seqS (fldS W "kept" (fun ρ cs => getV ρ 0 cs) (bin addC (lstC (consA dicC nilA)) (lcC (seqI (fun ρ cs => getV ρ 1 cs)) [3] (.nm 3) yesB (fun _ cs => .ok (.d .none) cs)))) (tq_b_16_3 W M M'))
noncomputable def tq_b_16_1 (W : Wd) (M M' : Lv) : SF := (seqS (fldS W "highs" (fun ρ cs => getV ρ 0 cs) (bin addC (lstC (consA (dispC (((fun _ cs => .ok (.d (.int (0))) cs), (fun _ cs => .ok (.d (.bool true)) cs)) :: [])) nilA)) (lcC (seqI (fun ρ cs => getV ρ 1 cs)) [3] (.nm 3) yesB dicC))) (tq_b_16_2 W M M'))
theorem tqe_b_16 {W : Wd} {M M' : Lv} : b_16 W M M' = seqS (fldS W "rows" (fun ρ cs => getV ρ 0 cs) (fun ρ cs => getV ρ 1 cs)) (tq_b_16_1 W M M') := rfl
theorem tqe_b_16_1 {W : Wd} {M M' : Lv} : tq_b_16_1 W M M' = seqS (fldS W "highs" (fun ρ cs => getV ρ 0 cs) (bin addC (lstC (consA (dispC (((fun _ cs => .ok (.d (.int (0))) cs), (fun _ cs => .ok (.d (.bool true)) cs)) :: [])) nilA)) (lcC (seqI (fun ρ cs => getV ρ 1 cs)) [3] (.nm 3) yesB dicC))) (tq_b_16_2 W M M') := rfl
theorem tqe_b_16_2 {W : Wd} {M M' : Lv} : tq_b_16_2 W M M' = seqS (fldS W "kept" (fun ρ cs => getV ρ 0 cs) (bin addC (lstC (consA dicC nilA)) (lcC (seqI (fun ρ cs => getV ρ 1 cs)) [3] (.nm 3) yesB (fun _ cs => .ok (.d .none) cs)))) (tq_b_16_3 W M M') := rfl
theorem tqe_b_16_3 {W : Wd} {M M' : Lv} : tq_b_16_3 W M M' = seqS (fldS W "is_right" (fun ρ cs => getV ρ 0 cs) (fun _ cs => .ok (.d (.bool true)) cs)) (tq_b_16_4 W M M') := rfl
theorem tqe_b_16_4 {W : Wd} {M M' : Lv} : tq_b_16_4 W M M' = (forS (rng1I (consA (app lenT (consA (fun ρ cs => getV ρ 1 cs) nilA)) nilA)) (.nm 2) (expS (methE 0 "look" (M 17) [] (fun ρ cs => getV ρ 0 cs) (consA (fun ρ cs => getV ρ 2 cs) nilA)))) := rfl
noncomputable def tq_b_18_2 (W : Wd) (M M' : Lv) : SF := (asgG (subG (fldE W "kept" (fun ρ cs => getV ρ 0 cs)) (fun ρ cs => getV ρ 1 cs)) (ifE (tst (bin isT (fun ρ cs => getV ρ 5 cs) (fun _ cs => .ok (.d .none) cs))) (app (YH.dictT W) (consA (fun ρ cs => getV ρ 3 cs) nilA)) (dcKK 6 5 3)))
noncomputable def tq_b_18_1 (W : Wd) (M M' : Lv) : SF := (seqS (setS 5 (bin (itemT W) (fldE W "kept" (fun ρ cs => getV ρ 0 cs)) (fun ρ cs => getV ρ 1 cs))) (tq_b_18_2 W M M'))
theorem tqe_b_18 {W : Wd} {M M' : Lv} : b_18 W M M' = seqS (forS (seqI (fun ρ cs => getV ρ 2 cs)) (.nm 4) (asgG (subG (bin (itemT W) (fldE W "highs" (fun ρ cs => getV ρ 0 cs)) (fun ρ cs => getV ρ 1 cs)) (fun ρ cs => getV ρ 4 cs)) (fun _ cs => .ok (.d (.bool true)) cs))) (tq_b_18_1 W M M') := rfl
theorem tqe_b_18_1 {W : Wd} {M M' : Lv} : tq_b_18_1 W M M' = seqS (setS 5 (bin (itemT W) (fldE W "kept" (fun ρ cs => getV ρ 0 cs)) (fun ρ cs => getV ρ 1 cs))) (tq_b_18_2 W M M') := rfl
theorem tqe_b_18_2 {W : Wd} {M M' : Lv} : tq_b_18_2 W M M' = (asgG (subG (fldE W "kept" (fun ρ cs => getV ρ 0 cs)) (fun ρ cs => getV ρ 1 cs)) (ifE (tst (bin isT (fun ρ cs => getV ρ 5 cs) (fun _ cs => .ok (.d .none) cs))) (app (YH.dictT W) (consA (fun ρ cs => getV ρ 3 cs) nilA)) (dcKK 6 5 3))) := rfl
noncomputable def tq_b_22_3 (W : Wd) (M M' : Lv) : SF := (retS (ifE (val (fun ρ cs => getV ρ 3 cs)) (fun _ cs => .ok (.d (.tuple [(.int (1)), (.int (1))])) cs) (fun _ cs => .ok (.d (.tuple [(.int (0)), (.int (1))])) cs)))
noncomputable def tq_b_22_2 (W : Wd) (M M' : Lv) : SF := (seqS (setS 3 (ifE (tst (bin eqT (bin (itemT W) (fun ρ cs => getV ρ 0 cs) (fun _ cs => .ok (.d (.int (0))) cs)) (fun _ cs => .ok (.d (.str "less")) cs))) (callE (M 12) [] (consA (fun ρ cs => getV ρ 1 cs) (consA (fun ρ cs => getV ρ 2 cs) nilA))) (bin eqT (fun ρ cs => getV ρ 1 cs) (fun ρ cs => getV ρ 2 cs)))) (tq_b_22_3 W M M'))
noncomputable def tq_b_22_1 (W : Wd) (M M' : Lv) : SF := (seqS (ifS (tst (bin eqT (bin (itemT W) (fun ρ cs => getV ρ 0 cs) (fun _ cs => .ok (.d (.int (0))) cs)) (fun _ cs => .ok (.d (.str "sub")) cs))) (retS (callE (M 10) [] (consA (fun ρ cs => getV ρ 1 cs) (consA (fun ρ cs => getV ρ 2 cs) nilA)))) passS) (tq_b_22_2 W M M'))
theorem tqe_b_22 {W : Wd} {M M' : Lv} : b_22 W M M' = seqS (ifS (tst (bin eqT (bin (itemT W) (fun ρ cs => getV ρ 0 cs) (fun _ cs => .ok (.d (.int (0))) cs)) (fun _ cs => .ok (.d (.str "add")) cs))) (retS (callE (M 9) [] (consA (fun ρ cs => getV ρ 1 cs) (consA (fun ρ cs => getV ρ 2 cs) nilA)))) passS) (tq_b_22_1 W M M') := rfl
theorem tqe_b_22_1 {W : Wd} {M M' : Lv} : tq_b_22_1 W M M' = seqS (ifS (tst (bin eqT (bin (itemT W) (fun ρ cs => getV ρ 0 cs) (fun _ cs => .ok (.d (.int (0))) cs)) (fun _ cs => .ok (.d (.str "sub")) cs))) (retS (callE (M 10) [] (consA (fun ρ cs => getV ρ 1 cs) (consA (fun ρ cs => getV ρ 2 cs) nilA)))) passS) (tq_b_22_2 W M M') := rfl
theorem tqe_b_22_2 {W : Wd} {M M' : Lv} : tq_b_22_2 W M M' = seqS (setS 3 (ifE (tst (bin eqT (bin (itemT W) (fun ρ cs => getV ρ 0 cs) (fun _ cs => .ok (.d (.int (0))) cs)) (fun _ cs => .ok (.d (.str "less")) cs))) (callE (M 12) [] (consA (fun ρ cs => getV ρ 1 cs) (consA (fun ρ cs => getV ρ 2 cs) nilA))) (bin eqT (fun ρ cs => getV ρ 1 cs) (fun ρ cs => getV ρ 2 cs)))) (tq_b_22_3 W M M') := rfl
theorem tqe_b_22_3 {W : Wd} {M M' : Lv} : tq_b_22_3 W M M' = (retS (ifE (val (fun ρ cs => getV ρ 3 cs)) (fun _ cs => .ok (.d (.tuple [(.int (1)), (.int (1))])) cs) (fun _ cs => .ok (.d (.tuple [(.int (0)), (.int (1))])) cs))) := rfl
end G
end
section
set_option Elab.async false
set_option linter.all false
set_option maxRecDepth 100000
set_option maxHeartbeats 1000000
namespace G
open PySem Y
variable {W : Wd} {k : Nat} {cs : Cs}
theorem set_cell {D : Dw} {n : Nat} (h : cs[n]? = some D.cell) : cs = cs.set n D.cell := by
  apply List.ext_getElem?
  intro i
  by_cases hi : n = i
  · subst hi
    rw [h, List.getElem?_set_self (List.getElem?_eq_some_iff.mp h).1]
  · rw [List.getElem?_set_ne hi]
theorem seq_if_f {t : BF} {a b : SF} {ρ : Rho} {c c1 : Cs} (h : t ρ c = .ok false c1) : seqS (ifS t a passS) b ρ c = b ρ c1 := seq_nx ((ifS_f h).trans rfl)
theorem seq_if_t {t : BF} {a a' b : SF} {ρ : Rho} {c c1 c2 : Cs} {v : T} (h : t ρ c = .ok true c1) (h2 : a ρ c1 = .rt v c2) : seqS (ifS t a a') b ρ c = .rt v c2 := seq_rt ((ifS_t h).trans h2)
/-- the call of the law's maker by itself -/
theorem some_call {F : FF} {ρ : Rho} {e1 e2 e3 : EF} {c : Cs} {s d : Int} {n : Nat} {f : Bool} (h0 : getV ρ 0 c = .ok (.ref n) c) (h1 : e1 ρ c = .ok (.d (.int d)) c) (h2 : e2 ρ c = .ok (.d (.int s)) c) (h3 : e3 ρ c = .ok (.d (.bool f)) c) :
    callE F [] (consA (fun ρ cs => getV ρ 0 cs) (consA e1 (consA e2 (consA e3 nilA)))) ρ c = F [.ref n, .d (.int d), .d (.int s), .d (.bool f)] c :=
  callE_of (consA_of h0 (consA_of h1 (consA_of h2 (consA_of h3 rfl))))
theorem map_d_app {a b : List Rw} : (a ++ b).map Rw.d = a.map Rw.d ++ b.map Rw.d := List.map_append
theorem mok_push {f : Bool} {d : Nat} {p : Fr} (h : Small p) : MOk f d (.push p) := by cases d <;> exact h
theorem mok_data {f : Bool} {d : Nat} {i : Nat} (h : i < 3) : MOk f d (.data i) := by cases d <;> exact h
theorem mok_load {f : Bool} {d : Nat} (h : f = true) : MOk f d .load := by cases d <;> exact h
/-- a leaf drawn -/
theorem leaf_ok {n : Nat} (hn : n < cs.length) (f : Bool) {M' : Lv} {v : Int} (hv : 0 ≤ v ∧ v < 3) (D : Dw) (hD : D.Ok) (dd : T) (s : Nat) : ∃ (M : Mx) (D' : Dw), (∀ d, MOk f d M) ∧ D'.Ok ∧
    tq_b_35_1 W (Tb W (k + 3)) M' [some (.ref n), some dd, some (.d (.int (s : Nat))), some (.d (.bool f)), some (.d (.int v)), none, none, none, none, none] (cs.set n D.cell) = .rt (.d (.list ((M.rows s).map Rw.d))) (cs.set n D'.cell) := by
  by_cases h2 : v < 2
  · obtain ⟨p, D1, sp, o1, e1⟩ := cut_draw (W := W) (k := k + 2) (ρ := [some (.ref n), some dd, some (.d (.int (s : Nat))), some (.d (.bool f)), some (.d (.int v)), none, none, none, none, none]) hn hD (fun _ => rfl)
    have o2 := Dw.next_ok o1 3
    have r2 := D1.val_range (m := 3) (by decide)
    obtain ⟨x, hx, e3⟩ := pullU (W := W) (k := k + 1) (cs := cs) (D := D1.next 3) (xs := [Rw.d (.push p), .tuple [.str "data", .int (D1.val 3)]]) hn o2 ⟨by simp, by simp⟩
    have r3 := (D1.next 3).val_range (m := 2) (by decide)
    have ed : D1.val 3 = ((D1.val 3).toNat : Nat) := by omega
    have hM : ∃ M : Mx, (∀ d, MOk f d M) ∧ (M.rows s).map Rw.d = [x] := by
      have hi : ((D1.next 3).val 2).toNat = 0 ∨ ((D1.next 3).val 2).toNat = 1 := by omega
      have hx' : [Rw.d (.push p), .tuple [.str "data", .int (D1.val 3)]][((D1.next 3).val 2).toNat]? = some x := hx
      rcases hi with hi | hi
      · rw [hi] at hx'
        cases hx'
        exact ⟨.push p, fun d => mok_push sp, rfl⟩
      · rw [hi] at hx'
        cases hx'
        refine ⟨.data (D1.val 3).toNat, fun d => mok_data (by omega), ?_⟩
        simp only [Mx.rows, List.map, Rw.d]
        rw [← ed]
    obtain ⟨M, hM1, hM2⟩ := hM
    refine ⟨M, (D1.next 3).next 2, hM1, Dw.next_ok o2 2, ?_⟩
    rw [hM2, tqe_b_35_1]
    refine seq_if_t (tst_of (bin_of rfl rfl (lt_t h2))) ((seq_nx (set_of e1)).trans (ret_of (lst_of (consA_of ((call2 rfl (lst_of (consA_of (tup_of (consA_of rfl (consA_of (bin_of rfl rfl it0) (consA_of (bin_of rfl rfl it1) rfl))) rfl (by simp)) (consA_of (tup_of (consA_of rfl (consA_of ((call2 rfl rfl).trans (takeU hn o1 (by decide))) rfl)) rfl (by simp)) rfl)) rfl (by simp))).trans e3) rfl) rfl (by simp))))
  · have hv2 : v = 2 := by omega
    subst hv2
    have r1 := D.val_range (m := 2) (by decide)
    cases f with
    | true =>
      refine ⟨.load, D, fun d => mok_load rfl, hD, ?_⟩
      rw [tqe_b_35_1, tqe_b_35_2]
      exact (seq_if_f (tst_of (bin_of rfl rfl (lt_f h2)))).trans (seq_if_t (tst_of (bin_of rfl rfl (eqi_t rfl))) (ret_of ((ifE_t (val_of rfl)).trans (lst_of (consA_of (tup_of (consA_of rfl (consA_of rfl rfl)) rfl (by simp)) rfl) rfl (by simp [Mx.rows])))))
    | false =>
      refine ⟨.push (D.val 2, 1), D.next 2, fun d => mok_push ⟨by simp, by show (0 : Int) < 1; decide, by show (1 : Int) ≤ 5; decide, by show -5 ≤ D.val 2; omega, by show D.val 2 ≤ 5; omega⟩, Dw.next_ok hD 2, ?_⟩
      rw [tqe_b_35_1, tqe_b_35_2]
      exact (seq_if_f (tst_of (bin_of rfl rfl (lt_f h2)))).trans (seq_if_t (tst_of (bin_of rfl rfl (eqi_t rfl))) (ret_of ((ifE_f (val_of rfl)).trans (lst_of (consA_of (tup_of (consA_of rfl (consA_of ((call2 rfl rfl).trans (takeU hn hD (by decide))) (consA_of rfl rfl))) rfl (by simp)) rfl) rfl (by simp [Mx.rows])))))

theorem start35 {n : Nat} {d : Int} {s : Nat} {f : Bool} : startR N_35.length [.ref n, .d (.int d), .d (.int (s : Nat)), .d (.bool f)] = [some (.ref n), some (.d (.int d)), some (.d (.int (s : Nat))), some (.d (.bool f)), none, none, none, none, none, none] := rfl
/-- rows drawn -/
theorem some_ok {n : Nat} (hn : n < cs.length) (f : Bool) : ∀ (d : Nat) (hd : d ≤ 3) (k : Nat) (D : Dw) (hD : D.Ok) (s : Nat), ∃ (M : Mx) (D' : Dw), MOk f d M ∧ D'.Ok ∧
    Tb W (k + d + 4) 35 [.ref n, .d (.int (d : Nat)), .d (.int (s : Nat)), .d (.bool f)] (cs.set n D.cell) = .ok (.d (.list ((M.rows s).map Rw.d))) (cs.set n D'.cell) := by
  intro d
  induction d with
  | zero =>
    intro hd k D hD s
    have r := D.val_range (m := 3) (by decide)
    have o1 := Dw.next_ok hD 3
    obtain ⟨M, D', h1, h2, h3⟩ := leaf_ok (W := W) (k := k) (M' := (tabs W (k + 3)).2) hn f r (D.next 3) o1 (.d (.int (0 : Nat))) s
    refine ⟨M, D', h1 0, h2, ?_⟩
    rw [tb_35, tqe_b_35]
    exact (fn_rt rfl ((seq_nx (set_of ((ifE_f (tst_of (bin_of rfl rfl (gt_f (by decide))))).trans ((call2 rfl rfl).trans (takeU hn hD (by decide)))))).trans h3)).trans (leave_len (by simp))
  | succ d ih =>
    intro hd k D hD s
    have r := D.val_range (m := 9) (by decide)
    have o1 := Dw.next_ok hD 9
    have ih := ih (by omega)
    have sub1 : ∀ c : Cs, subY (.d (.int ((d + 1 : Nat) : Int))) (.d (.int 1)) c = .ok (.d (.int (d : Nat))) c := fun c => subi (by omega)
    have fin : ∀ {M : Mx} {D' : Dw}, tq_b_35_1 W (Tb W (k + (d + 1) + 3)) (tabs W (k + (d + 1) + 3)).2 [some (.ref n), some (.d (.int ((d + 1 : Nat) : Int))), some (.d (.int (s : Nat))), some (.d (.bool f)), some (.d (.int (D.val 9))), none, none, none, none, none] (cs.set n (D.next 9).cell) = .rt (.d (.list ((M.rows s).map Rw.d))) (cs.set n D'.cell) →
        Tb W (k + (d + 1) + 4) 35 [.ref n, .d (.int ((d + 1 : Nat) : Int)), .d (.int (s : Nat)), .d (.bool f)] (cs.set n D.cell) = .ok (.d (.list ((M.rows s).map Rw.d))) (cs.set n D'.cell) := fun {M D'} h => by
      rw [tb_35, tqe_b_35]
      exact (fn_rt rfl ((seq_nx (set_of ((ifE_t (tst_of (bin_of rfl rfl (gt_t (by omega))))).trans ((call2 rfl rfl).trans (takeU hn hD (by decide)))))).trans h)).trans (leave_len (by simp))
    have p4 : 4 ^ (d + 2) ≤ 256 := Nat.pow_le_pow_right (n := 4) (by decide) (show d + 2 ≤ 4 by omega)
    have pe : 4 ^ (d + 2) = 4 * 4 ^ (d + 1) := by rw [Nat.pow_succ, Nat.mul_comm]
    by_cases hv3 : D.val 9 < 3
    · obtain ⟨M, D', h1, h2, h3⟩ := leaf_ok (W := W) (k := k + (d + 1)) (M' := (tabs W (k + (d + 1) + 3)).2) hn f ⟨r.1, hv3⟩ (D.next 9) o1 (.d (.int ((d + 1 : Nat) : Int))) s
      exact ⟨M, D', h1 _, h2, fin h3⟩
    · have s1 : ∀ {c : Cs}, tst (bin (inb fun i j => decide (i < j)) (fun ρ cs => getV ρ 4 cs) (fun _ cs => .ok (.d (.int (2))) cs)) [some (.ref n), some (.d (.int ((d + 1 : Nat) : Int))), some (.d (.int (s : Nat))), some (.d (.bool f)), some (.d (.int (D.val 9))), none, none, none, none, none] c = .ok false c := tst_of (bin_of rfl rfl (lt_f (by omega)))
      have s2 : ∀ {c : Cs}, tst (bin eqT (fun ρ cs => getV ρ 4 cs) (fun _ cs => .ok (.d (.int (2))) cs)) [some (.ref n), some (.d (.int ((d + 1 : Nat) : Int))), some (.d (.int (s : Nat))), some (.d (.bool f)), some (.d (.int (D.val 9))), none, none, none, none, none] c = .ok false c := tst_of (bin_of rfl rfl (eqi_f (by omega)))
      by_cases h3 : D.val 9 = 3
      · obtain ⟨p, D1, sp, o2, e1⟩ := cut_draw (W := W) (k := k + d + 3) (ρ := [some (.ref n), some (.d (.int ((d + 1 : Nat) : Int))), some (.d (.int (s : Nat))), some (.d (.bool f)), some (.d (.int (D.val 9))), none, none, none, none, none]) hn o1 (fun _ => rfl)
        obtain ⟨M, D2, m1, o3, e2⟩ := ih k D1 o2 s
        have l1 := m1.len_le
        refine ⟨.tim M p, D2, ⟨m1, sp⟩, o3, fin ?_⟩
        rw [tqe_b_35_1, tqe_b_35_2, tqe_b_35_3, Mx.rows, map_d_app]
        exact (seq_if_f s1).trans ((seq_if_f s2).trans (seq_if_t (tst_of (bin_of rfl rfl (eqi_t h3))) ((seq_nx (set_of e1)).trans (ret_of (bin_of ((some_call rfl (bin_of rfl rfl (sub1 _)) rfl rfl).trans e2) (lst_of (consA_of (tup_of (consA_of rfl (consA_of (bin_of rfl rfl it0) (consA_of (bin_of rfl rfl it1) rfl))) rfl (by simp)) rfl) rfl (by simp)) (addl (by simp [Mx.rows_len]; omega)))))))
      · have s3 : ∀ {c : Cs}, tst (bin eqT (fun ρ cs => getV ρ 4 cs) (fun _ cs => .ok (.d (.int (3))) cs)) [some (.ref n), some (.d (.int ((d + 1 : Nat) : Int))), some (.d (.int (s : Nat))), some (.d (.bool f)), some (.d (.int (D.val 9))), none, none, none, none, none] c = .ok false c := tst_of (bin_of rfl rfl (eqi_f h3))
        obtain ⟨M, D1, m1, o2, e1⟩ := ih k (D.next 9) o1 s
        have l1 := m1.len_le
        by_cases h4 : D.val 9 = 4
        · refine ⟨.kep M, D1, m1, o2, fin ?_⟩
          rw [tqe_b_35_1, tqe_b_35_2, tqe_b_35_3, tqe_b_35_4, Mx.rows, map_d_app]
          exact (seq_if_f s1).trans ((seq_if_f s2).trans ((seq_if_f s3).trans (seq_if_t (tst_of (bin_of rfl rfl (eqi_t h4))) ((seq_nx (set_of ((some_call rfl (bin_of rfl rfl (sub1 _)) rfl rfl).trans e1))).trans (ret_of (bin_of rfl (lst_of (consA_of (tup_of (consA_of rfl (consA_of rfl rfl)) rfl (by simp)) (consA_of (tup_of (consA_of rfl (consA_of rfl rfl)) rfl (by simp)) (consA_of (tup_of (consA_of rfl (consA_of rfl rfl)) rfl (by simp)) (consA_of (tup_of (consA_of rfl rfl) rfl (by simp)) rfl)))) rfl (by simp)) (addl (by simp [Mx.rows_len]; omega))))))))
        · have s4 : ∀ {c : Cs}, tst (bin eqT (fun ρ cs => getV ρ 4 cs) (fun _ cs => .ok (.d (.int (4))) cs)) [some (.ref n), some (.d (.int ((d + 1 : Nat) : Int))), some (.d (.int (s : Nat))), some (.d (.bool f)), some (.d (.int (D.val 9))), none, none, none, none, none] c = .ok false c := tst_of (bin_of rfl rfl (eqi_f h4))
          by_cases h7 : D.val 9 < 7
          · obtain ⟨M2, D2, m2, o3, e2⟩ := ih k D1 o2 (s + M.len)
            have l2 := m2.len_le
            obtain ⟨x, hx, e3⟩ := pullU (W := W) (k := k + d + 2) (cs := cs) (D := D2) (xs := [.str "add", .str "sub", .str "less", .str "same"]) hn o3 ⟨by simp, by simp⟩
            have r3 := D2.val_range (m := 4) (by decide)
            have hop : ∃ o : Fin 4, x = .str (opS o) := by
              have hx' : [PyData.str "add", .str "sub", .str "less", .str "same"][(D2.val 4).toNat]? = some x := hx
              have hi : (D2.val 4).toNat = 0 ∨ (D2.val 4).toNat = 1 ∨ (D2.val 4).toNat = 2 ∨ (D2.val 4).toNat = 3 := by omega
              rcases hi with hi | hi | hi | hi <;> rw [hi] at hx' <;> cases hx'
              · exact ⟨0, rfl⟩
              · exact ⟨1, rfl⟩
              · exact ⟨2, rfl⟩
              · exact ⟨3, rfl⟩
            obtain ⟨o, rfl⟩ := hop
            refine ⟨.bin o M M2, D2.next 4, ⟨m1, m2⟩, Dw.next_ok o3 4, fin ?_⟩
            rw [tqe_b_35_1, tqe_b_35_2, tqe_b_35_3, tqe_b_35_4, tqe_b_35_5, Mx.rows, map_d_app, map_d_app]
            have e2' : callE (Tb W (k + (d + 1) + 3) 35) [] (consA (fun ρ cs => getV ρ 0 cs) (consA (bin subY (fun ρ cs => getV ρ 1 cs) (fun _ cs => .ok (.d (.int (1))) cs)) (consA (bin addT (fun ρ cs => getV ρ 2 cs) (app lenT (consA (fun ρ cs => getV ρ 5 cs) nilA))) (consA (fun ρ cs => getV ρ 3 cs) nilA)))) [some (.ref n), some (.d (.int ((d + 1 : Nat) : Int))), some (.d (.int (s : Nat))), some (.d (.bool f)), some (.d (.int (D.val 9))), some (.d (.list ((M.rows s).map Rw.d))), none, none, none, none] (cs.set n D1.cell) = .ok (.d (.list ((M2.rows (s + M.len)).map Rw.d))) (cs.set n D2.cell) :=
              (some_call rfl (bin_of rfl rfl (sub1 _)) (bin_of rfl ((app_of (consA_of rfl rfl)).trans (len_list rfl)) (addi (by simp [Mx.rows_len]))) rfl).trans e2
            exact (seq_if_f s1).trans ((seq_if_f s2).trans ((seq_if_f s3).trans ((seq_if_f s4).trans (seq_if_t (tst_of (bin_of rfl rfl (lt_t h7))) ((seq_nx (set_of ((some_call rfl (bin_of rfl rfl (sub1 _)) rfl rfl).trans e1))).trans ((seq_nx (set_of (bin_of rfl e2' (addl (by simp [Mx.rows_len]; omega))))).trans (ret_of (bin_of rfl (lst_of (consA_of (tup_of (consA_of ((call2 rfl (lst_of (consA_of rfl (consA_of rfl (consA_of rfl (consA_of rfl rfl)))) rfl (by simp))).trans e3) rfl) rfl (by simp)) rfl) rfl (by simp)) (addl (by simp [Mx.rows_len]; omega))))))))))
          · have s5 : ∀ {c : Cs}, tst (bin (inb fun i j => decide (i < j)) (fun ρ cs => getV ρ 4 cs) (fun _ cs => .ok (.d (.int (7))) cs)) [some (.ref n), some (.d (.int ((d + 1 : Nat) : Int))), some (.d (.int (s : Nat))), some (.d (.bool f)), some (.d (.int (D.val 9))), none, none, none, none, none] c = .ok false c := tst_of (bin_of rfl rfl (lt_f h7))
            obtain ⟨M2, D2, m2, o3, e2⟩ := ih k D1 o2 (s + M.len + 1)
            have l2 := m2.len_le
            obtain ⟨M3, D3, m3, o4, e3⟩ := ih k D2 o3 (s + M.len + M2.len + 2)
            have l3 := m3.len_le
            refine ⟨.cnd M M2 M3, D3, ⟨m1, m2, m3⟩, o4, fin ?_⟩
            rw [tqe_b_35_1, tqe_b_35_2, tqe_b_35_3, tqe_b_35_4, tqe_b_35_5, tqe_b_35_6, tqe_b_35_7, tqe_b_35_8, tqe_b_35_9, tqe_b_35_10, Mx.rows, map_d_app, map_d_app, map_d_app, map_d_app]
            refine (seq_if_f s1).trans ((seq_if_f s2).trans ((seq_if_f s3).trans ((seq_if_f s4).trans ((seq_if_f s5).trans ((seq_nx (set_of ((some_call rfl (bin_of rfl rfl (sub1 _)) rfl rfl).trans e1))).trans ?_)))))
            refine (seq_nx (set_of ((some_call rfl (bin_of rfl rfl (sub1 _)) (bin_of (bin_of rfl ((app_of (consA_of rfl rfl)).trans (len_list rfl)) (addi rfl)) rfl (addi (by simp [Mx.rows_len]))) rfl).trans e2))).trans ?_
            refine (seq_nx (set_of ((some_call rfl (bin_of rfl rfl (sub1 _)) (bin_of (bin_of (bin_of rfl ((app_of (consA_of rfl rfl)).trans (len_list rfl)) (addi rfl)) ((app_of (consA_of rfl rfl)).trans (len_list rfl)) (addi rfl)) rfl (addi (by simp [Mx.rows_len]))) rfl).trans e3))).trans ?_
            refine (seq_nx (set_of (t := .d (.int ((s + M.len + M2.len + 2 : Nat) : Int))) (bin_of (bin_of (bin_of rfl ((app_of (consA_of rfl rfl)).trans (len_list rfl)) (addi rfl)) ((app_of (consA_of rfl rfl)).trans (len_list rfl)) (addi rfl)) rfl (addi (by simp [Mx.rows_len]))))).trans ?_
            refine ret_of (bin_of (bin_of (bin_of (bin_of rfl (lst_of (consA_of (tup_of (consA_of rfl (consA_of rfl rfl)) rfl (by simp)) rfl) rfl (by simp)) (addl (by simp [Mx.rows_len]; omega))) rfl (addl (by simp [Mx.rows_len]; omega))) (lst_of (consA_of (tup_of (ds := [.str "jump", .int ((s + M.len + M2.len + 2 + M3.len : Nat) : Int)]) (consA_of rfl (consA_of (bin_of rfl ((app_of (consA_of rfl rfl)).trans (len_list rfl)) (addi (by simp [Mx.rows_len]))) rfl)) rfl (by simp)) rfl) rfl (by simp)) (addl (by simp [Mx.rows_len]; omega))) rfl (addl (by simp [Mx.rows_len]; omega)))
end G
end
section
set_option Elab.async false
set_option linter.all false
set_option maxRecDepth 100000
set_option maxHeartbeats 1000000
namespace G
open PySem Y
variable {W : Wd} {k : Nat} {cs : Cs}
theorem fin4 : ∀ o : Fin 4, o = 0 ∨ o = 1 ∨ o = 2 ∨ o = 3 := by decide
/-! the machine by itself -/
abbrev KV := List (L2.Key × T)
def fop (o : Fin 4) (x y : Fr) : Fr := match o with
  | 0 => fplus x y 1
  | 1 => fplus x y (-1)
  | 2 => if fless x y = true then (1, 1) else (0, 1)
  | 3 => if x = y then (1, 1) else (0, 1)
inductive Stp (nums : List Fr) : Rw → Nat → List Fr → KV → Nat → List Fr → KV → Prop
  | push (p : Fr) (at_ : Nat) (st : List Fr) (kv : KV) : st.length < 1000 → Stp nums (.push p) at_ st kv (at_ + 1) (st ++ [p]) kv
  | data (i : Nat) (x : Fr) (at_ : Nat) (st : List Fr) (kv : KV) : st.length < 1000 → nums[i]? = some x → Stp nums (.data i) at_ st kv (at_ + 1) (st ++ [x]) kv
  | load (i : Nat) (x : Fr) (at_ : Nat) (st : List Fr) (kv : KV) : st.length < 1000 → getK kv (.inl (i : Int)) = some (.d (fr x)) → Stp nums (.load i) at_ st kv (at_ + 1) (st ++ [x]) kv
  | keep (i : Nat) (x : Fr) (at_ : Nat) (st : List Fr) (kv : KV) : kv.length < 1000 → Stp nums (.keep i) at_ (st ++ [x]) kv (at_ + 1) st (setK kv (.inl (i : Int)) (.d (fr x)))
  | jump (j : Nat) (at_ : Nat) (st : List Fr) (kv : KV) : Stp nums (.jump j) at_ st kv j st kv
  | unless0 (j : Nat) (x : Fr) (at_ : Nat) (st : List Fr) (kv : KV) : x = (0, 1) → Stp nums (.unless j) at_ (st ++ [x]) kv j st kv
  | unless1 (j : Nat) (x : Fr) (at_ : Nat) (st : List Fr) (kv : KV) : x ≠ (0, 1) → Stp nums (.unless j) at_ (st ++ [x]) kv (at_ + 1) st kv
  | times (p x : Fr) (at_ : Nat) (st : List Fr) (kv : KV) : st.length < 1000 → Good x → Good p → Stp nums (.times p) at_ (st ++ [x]) kv (at_ + 1) (st ++ [ftimes x p]) kv
  | op (o : Fin 4) (x y : Fr) (at_ : Nat) (st : List Fr) (kv : KV) : st.length < 1000 → Good x → Good y → Stp nums (.op o) at_ (st ++ [x, y]) kv (at_ + 1) (st ++ [fop o x y]) kv
/-- the cells of a machine: stack, kept ones -/
abbrev mc (cs : Cs) (st : List Fr) (kv : KV) : Cs := cs ++ [.lst (frs st), .dk kv]
theorem mc0 {st : List Fr} {kv : KV} : (mc cs st kv)[cs.length]? = some (.lst (frs st)) := by simp
theorem mc1 {st : List Fr} {kv : KV} : (mc cs st kv)[cs.length + 1]? = some (.dk kv) := by simp
theorem mc0s {st st' : List Fr} {kv : KV} : (mc cs st kv).set cs.length (.lst (frs st')) = mc cs st' kv := by simp
theorem mc1s {st : List Fr} {kv kv' : KV} : (mc cs st kv).set (cs.length + 1) (.dk kv') = mc cs st kv' := by simp
theorem app_mc {ρ : Rho} {f : EF} {c1 : Cs} {st : List Fr} {kv : KV} {x : Fr} (h0 : ∀ c, getV ρ 2 c = .ok (.ref cs.length) c) (hl : c1[cs.length]?.isSome = true ∧ isLst c1 (.ref cs.length) = true) (h : f ρ c1 = .ok (.d (fr x)) (mc cs st kv)) (hs : st.length < 1000) :
    expS (bmE isLst appendT (fun ρ cs => getV ρ 2 cs) (consA f nilA)) ρ c1 = .nx ρ (mc cs (st ++ [x]) kv) := by
  refine expS_of (t := .d .none) ?_
  unfold bmE
  dsimp only
  rw [h0]
  dsimp only [R.bind]
  rw [if_pos hl.2, consA_of h (rfl : nilA ρ (mc cs st kv) = .ok [] (mc cs st kv))]
  have hz : sizeLine = 16777216 := sizeLine_eq
  dsimp only [R.bind]
  unfold appendT
  simp only [mc0]
  rw [if_pos (by simp; omega)]
  have e : frs st ++ [.d (fr x)] = frs (st ++ [x]) := by simp
  rw [e, mc0s]
theorem isLst_mc {st : List Fr} {kv : KV} : isLst (mc cs st kv) (.ref cs.length) = true := by
  unfold isLst
  simp
theorem app_mc' {ρ : Rho} {f : EF} {st st' : List Fr} {kv : KV} {x : Fr} (h0 : ∀ c, getV ρ 2 c = .ok (.ref cs.length) c) (h : f ρ (mc cs st kv) = .ok (.d (fr x)) (mc cs st' kv)) (hs : st'.length < 1000) :
    expS (bmE isLst appendT (fun ρ cs => getV ρ 2 cs) (consA f nilA)) ρ (mc cs st kv) = .nx ρ (mc cs (st' ++ [x]) kv) := app_mc h0 ⟨by rw [mc0]; rfl, isLst_mc⟩ h hs
theorem pop_mc {ρ : Rho} {st : List Fr} {kv : KV} {x : Fr} (h0 : ∀ c, getV ρ 2 c = .ok (.ref cs.length) c) :
    bmE isLst popT (fun ρ cs => getV ρ 2 cs) nilA ρ (mc cs (st ++ [x]) kv) = .ok (.d (fr x)) (mc cs st kv) := by
  unfold bmE
  dsimp only
  rw [h0]
  dsimp only [R.bind, nilA]
  rw [if_pos isLst_mc]
  unfold popT
  simp only [mc0]
  have e1 : (frs (st ++ [x]))[(frs (st ++ [x])).length - 1]? = some (.d (fr x)) := by simp [frs]
  have e2 : (frs (st ++ [x])).dropLast = frs st := by simp [frs]
  rw [e1, e2, mc0s]
theorem key_mc {i : Nat} {st : List Fr} {kv : KV} {t : T} (h : getK kv (.inl (i : Int)) = some t) : itemT W (.ref (cs.length + 1)) (.d (.int (i : Nat))) (mc cs st kv) = .ok t (mc cs st kv) := by
  have e : asQ (mc cs st kv) (.ref (cs.length + 1)) = none := by simp [asQ, asT, asL]
  unfold itemT
  simp only [e, mc1, keyT, h]
theorem eqs_t {a : Str} : eqT (.d (.str a)) (.d (.str a)) cs = .ok (.d (.bool true)) cs := by rw [eqs, decide_eq_true rfl]
theorem eqs_f {a b : Str} (h : a ≠ b) : eqT (.d (.str a)) (.d (.str b)) cs = .ok (.d (.bool false)) cs := by rw [eqs, decide_eq_false h]
theorem eq_fr {x y : Fr} : eqT (.d (fr x)) (.d (fr y)) cs = .ok (.d (.bool (decide (x = y)))) cs := by
  obtain ⟨a, b⟩ := x
  obtain ⟨c, d⟩ := y
  have l : ∀ a b : Int, (fr (a, b)).canLay0 = true ∧ (fr (a, b)).depth ≤ 64 := fun a b => by simp [fr, PyData.canLay0, PyData.canLayAll0, PyData.depth, PyData.depthAll]
  simp [eqT, eqD, toD, SeqAt.shaped, PyData.eqv, l, PyData.eqvAll]
  by_cases h1 : a = c <;> by_cases h2 : b = d <;> simp [h1, h2]
def Rw.hd : Rw → Str
  | .push _ => "push"
  | .data _ => "data"
  | .load _ => "load"
  | .keep _ => "keep"
  | .jump _ => "jump"
  | .unless _ => "unless"
  | .times _ => "times"
  | .op o => opS o
def Rw.tl : Rw → List PyData
  | .push p => [.int p.1, .int p.2]
  | .data i => [.int i]
  | .load i => [.int i]
  | .keep i => [.int i]
  | .jump i => [.int i]
  | .unless i => [.int i]
  | .times p => [.int p.1, .int p.2]
  | .op _ => []
theorem Rw.d_eq (r : Rw) : r.d = .tuple (.str r.hd :: r.tl) := by cases r <;> rfl
theorem item_nat {xs : List PyData} {i : Nat} {x : PyData} (h : xs[i]? = some x) : itemT W (.d (.tuple xs)) (.d (.int (i : Nat))) cs = .ok (.d x) cs := item_tup (by omega) (by simpa using h)
theorem parS_of {i j : Nat} {f g : EF} {ρ : Rho} {c c1 c2 : Cs} {t u : T} (h : f ρ c = .ok t c1) (h2 : g ρ c1 = .ok u c2) : parS i j (consA f (consA g nilA)) ρ c = .nx ((ρ.set i (some t)).set j (some u)) c2 := by
  unfold parS
  rw [consA_of h (consA_of h2 rfl)]
theorem ifS_e {t : BF} {a b : SF} {ρ : Rho} {c c1 : Cs} {r : RS} (h : t ρ c = .ok false c1) (h2 : b ρ c1 = r) : ifS t a b ρ c = r := (ifS_f h).trans h2
theorem asg_sub {fo fi f : EF} {ρ : Rho} {c c1 c2 c3 c4 : Cs} {t o i : T} (h : f ρ c = .ok t c1) (ho : fo ρ c1 = .ok o c2) (hi : fi ρ c2 = .ok i c3) (hs : setiT o i t c3 = .ok () c4) : asgG (subG fo fi) f ρ c = .nx ρ c4 := by
  unfold asgG
  rw [h]
  dsimp only [R.bind]
  unfold subG
  rw [ho]
  dsimp only [R.bind]
  rw [hi]
  dsimp only [R.bind]
  rw [hs]
theorem seti_mc {st : List Fr} {kv : KV} {i : Nat} {t : T} (h : kv.length < 1000) : setiT (.ref (cs.length + 1)) (.d (.int (i : Nat))) t (mc cs st kv) = .ok () (mc cs st (setK kv (.inl (i : Int)) t)) := by
  have hz : sizeLine = 16777216 := sizeLine_eq
  unfold setiT
  simp only [mc1, keyT]
  rw [if_pos (by omega), mc1s]
theorem in_add : inT W (.d (.str (opS 0))) (.d (.tuple [.str "add", .str "sub"])) cs = .ok (.d (.bool true)) cs := by rfl
theorem in_sub : inT W (.d (.str (opS 1))) (.d (.tuple [.str "add", .str "sub"])) cs = .ok (.d (.bool true)) cs := by rfl
theorem in_less : inT W (.d (.str (opS 2))) (.d (.tuple [.str "add", .str "sub"])) cs = .ok (.d (.bool false)) cs := by rfl
theorem in_same : inT W (.d (.str (opS 3))) (.d (.tuple [.str "add", .str "sub"])) cs = .ok (.d (.bool false)) cs := by rfl
/-! the law's machine goes so -/
abbrev rhoL (R N : T) (n : Nat) (at_ : Nat) (x5 x6 x7 x8 x9 x10 : Option T) : Rho := [some R, some N, some (.ref n), some (.ref (n + 1)), some (.d (.int (at_ : Nat))), x5, x6, x7, x8, x9, x10]
theorem law_step {M' : Lv} {rs : List Rw} {nums : List Fr} {r : Rw} {at_ at' : Nat} {st st' : List Fr} {kv kv' : KV} (hr : rs[at_]? = some r) (h : Stp nums r at_ st kv at' st' kv') (x5 x6 x7 x8 x9 x10 : Option T) :
    ∃ y5 y6 y7 y8 y9 y10, lb_34_0 W (Tb W (k + 3)) M' (rhoL (.d (.tuple (rs.map Rw.d))) (.d (.tuple (nums.map fr))) cs.length at_ x5 x6 x7 x8 x9 x10) (mc cs st kv) = .nx (rhoL (.d (.tuple (rs.map Rw.d))) (.d (.tuple (nums.map fr))) cs.length at' y5 y6 y7 y8 y9 y10) (mc cs st' kv') := by
  have hrd : (rs.map Rw.d)[at_]? = some (.tuple (.str r.hd :: r.tl)) := by rw [List.getElem?_map, hr, ← r.d_eq]; rfl
  have head : lb_34_0 W (Tb W (k + 3)) M' (rhoL (.d (.tuple (rs.map Rw.d))) (.d (.tuple (nums.map fr))) cs.length at_ x5 x6 x7 x8 x9 x10) (mc cs st kv) =
      tq_lb_34_0_2 W (Tb W (k + 3)) M' (rhoL (.d (.tuple (rs.map Rw.d))) (.d (.tuple (nums.map fr))) cs.length (at_ + 1) (some (.d (.str r.hd))) (some (.d (.tuple (.str r.hd :: r.tl)))) x7 x8 x9 x10) (mc cs st kv) := by
    rw [tqe_lb_34_0, tqe_lb_34_0_1]
    refine (seq_nx (parS_of (bin_of rfl rfl (item_nat hrd)) (bin_of rfl rfl (addi (r := ((at_ + 1 : Nat) : Int)) (by omega))))).trans ?_
    exact seq_nx (set_of (bin_of rfl rfl it0))
  rw [head, tqe_lb_34_0_2]
  cases h with
  | push p _ _ _ hl =>
    refine ⟨_, _, _, _, _, _, (ifS_t (tst_of (bin_of rfl rfl eqs_t))).trans (app_mc' (fun _ => rfl) (tup_of (consA_of (bin_of rfl rfl it1) (consA_of (bin_of rfl rfl it2) rfl)) rfl (by simp)) hl)⟩
  | data i x _ _ _ hl hx =>
    have hxd : (nums.map fr)[i]? = some (fr x) := by rw [List.getElem?_map, hx]; rfl
    refine ⟨_, _, _, _, _, _, ifS_e (tst_of (bin_of rfl rfl (eqs_f (by dsimp only [Rw.hd, opS]; decide +kernel)))) ((ifS_t (tst_of (bin_of rfl rfl eqs_t))).trans (app_mc' (fun _ => rfl) (bin_of rfl (bin_of rfl rfl it1) (item_nat hxd)) hl))⟩
  | load i x _ _ _ hl hx =>
    refine ⟨_, _, _, _, _, _, ifS_e (tst_of (bin_of rfl rfl (eqs_f (by dsimp only [Rw.hd, opS]; decide +kernel)))) (ifS_e (tst_of (bin_of rfl rfl (eqs_f (by dsimp only [Rw.hd, opS]; decide +kernel)))) ((ifS_t (tst_of (bin_of rfl rfl eqs_t))).trans (app_mc' (fun _ => rfl) (bin_of rfl (bin_of rfl rfl it1) (key_mc hx)) hl)))⟩
  | keep i x _ _ _ hl =>
    refine ⟨_, _, _, _, _, _, ifS_e (tst_of (bin_of rfl rfl (eqs_f (by dsimp only [Rw.hd, opS]; decide +kernel)))) (ifS_e (tst_of (bin_of rfl rfl (eqs_f (by dsimp only [Rw.hd, opS]; decide +kernel)))) (ifS_e (tst_of (bin_of rfl rfl (eqs_f (by dsimp only [Rw.hd, opS]; decide +kernel)))) ((ifS_t (tst_of (bin_of rfl rfl eqs_t))).trans (asg_sub (pop_mc (fun _ => rfl)) rfl (bin_of rfl rfl it1) (seti_mc hl)))))⟩
  | jump j =>
    refine ⟨_, _, _, _, _, _, ifS_e (tst_of (bin_of rfl rfl (eqs_f (by dsimp only [Rw.hd, opS]; decide +kernel)))) (ifS_e (tst_of (bin_of rfl rfl (eqs_f (by dsimp only [Rw.hd, opS]; decide +kernel)))) (ifS_e (tst_of (bin_of rfl rfl (eqs_f (by dsimp only [Rw.hd, opS]; decide +kernel)))) (ifS_e (tst_of (bin_of rfl rfl (eqs_f (by dsimp only [Rw.hd, opS]; decide +kernel)))) ((ifS_t (tst_of (bin_of rfl rfl eqs_t))).trans (set_of (bin_of rfl rfl it1))))))⟩
  | unless0 j x _ _ _ hx =>
    have hx : x = (0, 1) := hx
    refine ⟨_, _, _, _, _, _, ifS_e (tst_of (bin_of rfl rfl (eqs_f (by dsimp only [Rw.hd, opS]; decide +kernel)))) (ifS_e (tst_of (bin_of rfl rfl (eqs_f (by dsimp only [Rw.hd, opS]; decide +kernel)))) (ifS_e (tst_of (bin_of rfl rfl (eqs_f (by dsimp only [Rw.hd, opS]; decide +kernel)))) (ifS_e (tst_of (bin_of rfl rfl (eqs_f (by dsimp only [Rw.hd, opS]; decide +kernel)))) (ifS_e (tst_of (bin_of rfl rfl (eqs_f (by dsimp only [Rw.hd, opS]; decide +kernel)))) ((ifS_t (tst_of (bin_of rfl rfl eqs_t))).trans (set_of ((ifE_t (tst_of (bin_of (pop_mc (fun _ => rfl)) (tup_of (consA_of rfl (consA_of rfl rfl)) rfl (by simp)) ((eq_fr (y := (0, 1))).trans (by rw [decide_eq_true hx]))))).trans (bin_of rfl rfl it1))))))))⟩
  | unless1 j x _ _ _ hx =>
    refine ⟨_, _, _, _, _, _, ifS_e (tst_of (bin_of rfl rfl (eqs_f (by dsimp only [Rw.hd, opS]; decide +kernel)))) (ifS_e (tst_of (bin_of rfl rfl (eqs_f (by dsimp only [Rw.hd, opS]; decide +kernel)))) (ifS_e (tst_of (bin_of rfl rfl (eqs_f (by dsimp only [Rw.hd, opS]; decide +kernel)))) (ifS_e (tst_of (bin_of rfl rfl (eqs_f (by dsimp only [Rw.hd, opS]; decide +kernel)))) (ifS_e (tst_of (bin_of rfl rfl (eqs_f (by dsimp only [Rw.hd, opS]; decide +kernel)))) ((ifS_t (tst_of (bin_of rfl rfl eqs_t))).trans (set_of ((ifE_f (tst_of (bin_of (pop_mc (fun _ => rfl)) (tup_of (consA_of rfl (consA_of rfl rfl)) rfl (by simp)) ((eq_fr (y := (0, 1))).trans (by rw [decide_eq_false hx]))))).trans rfl)))))))⟩
  | times p x _ _ _ hl gx gp =>
    refine ⟨_, _, _, _, _, _, ifS_e (tst_of (bin_of rfl rfl (eqs_f (by dsimp only [Rw.hd, opS]; decide +kernel)))) (ifS_e (tst_of (bin_of rfl rfl (eqs_f (by dsimp only [Rw.hd, opS]; decide +kernel)))) (ifS_e (tst_of (bin_of rfl rfl (eqs_f (by dsimp only [Rw.hd, opS]; decide +kernel)))) (ifS_e (tst_of (bin_of rfl rfl (eqs_f (by dsimp only [Rw.hd, opS]; decide +kernel)))) (ifS_e (tst_of (bin_of rfl rfl (eqs_f (by dsimp only [Rw.hd, opS]; decide +kernel)))) (ifS_e (tst_of (bin_of rfl rfl (eqs_f (by dsimp only [Rw.hd, opS]; decide +kernel)))) ((ifS_t (tst_of (bin_of rfl rfl eqs_t))).trans (app_mc' (fun _ => rfl) ((callE_of (consA_of (pop_mc (fun _ => rfl)) (consA_of (tup_of (ds := [.int p.1, .int p.2]) (consA_of (bin_of rfl rfl it1) (consA_of (bin_of rfl rfl it2) rfl)) rfl (by simp)) rfl))).trans (law_times_ok gx gp)) hl)))))))⟩
  | op o x y _ st0 _ hl gx gy =>
    rw [show st0 ++ [x, y] = st0 ++ [x] ++ [y] by simp]
    rcases fin4 o with rfl | rfl | rfl | rfl
    · refine ⟨_, _, _, _, _, _, ifS_e (tst_of (bin_of rfl rfl (eqs_f (by dsimp only [Rw.hd, opS]; decide +kernel)))) (ifS_e (tst_of (bin_of rfl rfl (eqs_f (by dsimp only [Rw.hd, opS]; decide +kernel)))) (ifS_e (tst_of (bin_of rfl rfl (eqs_f (by dsimp only [Rw.hd, opS]; decide +kernel)))) (ifS_e (tst_of (bin_of rfl rfl (eqs_f (by dsimp only [Rw.hd, opS]; decide +kernel)))) (ifS_e (tst_of (bin_of rfl rfl (eqs_f (by dsimp only [Rw.hd, opS]; decide +kernel)))) (ifS_e (tst_of (bin_of rfl rfl (eqs_f (by dsimp only [Rw.hd, opS]; decide +kernel)))) (ifS_e (tst_of (bin_of rfl rfl (eqs_f (by dsimp only [Rw.hd, opS]; decide +kernel)))) ((seq_nx (set_of (pop_mc (fun _ => rfl)))).trans ((seq_nx (set_of (pop_mc (fun _ => rfl)))).trans ((seq_nx (set_of ((callE_of (consA_of rfl (consA_of rfl (consA_of ((ifE_t (tst_of (bin_of rfl rfl eqs_t))).trans rfl) rfl)))).trans (law_plus_ok (by decide) gx gy)))).trans ((seq_nx (set_of ((ifE_f (tst_of (bin_of rfl rfl (eqs_f (by dsimp only [Rw.hd, opS]; decide +kernel))))).trans (bin_of rfl rfl eq_fr)))).trans (app_mc' (fun _ => rfl) ((ifE_t (tst_of (bin_of rfl (tup_of (consA_of rfl (consA_of rfl rfl)) rfl (by simp)) in_add))).trans rfl) hl)))))))))))⟩
    · refine ⟨_, _, _, _, _, _, ifS_e (tst_of (bin_of rfl rfl (eqs_f (by dsimp only [Rw.hd, opS]; decide +kernel)))) (ifS_e (tst_of (bin_of rfl rfl (eqs_f (by dsimp only [Rw.hd, opS]; decide +kernel)))) (ifS_e (tst_of (bin_of rfl rfl (eqs_f (by dsimp only [Rw.hd, opS]; decide +kernel)))) (ifS_e (tst_of (bin_of rfl rfl (eqs_f (by dsimp only [Rw.hd, opS]; decide +kernel)))) (ifS_e (tst_of (bin_of rfl rfl (eqs_f (by dsimp only [Rw.hd, opS]; decide +kernel)))) (ifS_e (tst_of (bin_of rfl rfl (eqs_f (by dsimp only [Rw.hd, opS]; decide +kernel)))) (ifS_e (tst_of (bin_of rfl rfl (eqs_f (by dsimp only [Rw.hd, opS]; decide +kernel)))) ((seq_nx (set_of (pop_mc (fun _ => rfl)))).trans ((seq_nx (set_of (pop_mc (fun _ => rfl)))).trans ((seq_nx (set_of ((callE_of (consA_of rfl (consA_of rfl (consA_of ((ifE_f (tst_of (bin_of rfl rfl (eqs_f (by dsimp only [Rw.hd, opS]; decide +kernel))))).trans rfl) rfl)))).trans (law_plus_ok (by decide) gx gy)))).trans ((seq_nx (set_of ((ifE_f (tst_of (bin_of rfl rfl (eqs_f (by dsimp only [Rw.hd, opS]; decide +kernel))))).trans (bin_of rfl rfl eq_fr)))).trans (app_mc' (fun _ => rfl) ((ifE_t (tst_of (bin_of rfl (tup_of (consA_of rfl (consA_of rfl rfl)) rfl (by simp)) in_sub))).trans rfl) hl)))))))))))⟩
    · have e3 : intT [.d (.bool (fless x y))] (mc cs st0 kv) = .ok (.d (.int (fop 2 x y).1)) (mc cs st0 kv) := by unfold fop; dsimp only; cases fless x y <;> rfl
      have e4 : (fop 2 x y).2 = 1 := by unfold fop; dsimp only; cases fless x y <;> rfl
      refine ⟨_, _, _, _, _, _, ifS_e (tst_of (bin_of rfl rfl (eqs_f (by dsimp only [Rw.hd, opS]; decide +kernel)))) (ifS_e (tst_of (bin_of rfl rfl (eqs_f (by dsimp only [Rw.hd, opS]; decide +kernel)))) (ifS_e (tst_of (bin_of rfl rfl (eqs_f (by dsimp only [Rw.hd, opS]; decide +kernel)))) (ifS_e (tst_of (bin_of rfl rfl (eqs_f (by dsimp only [Rw.hd, opS]; decide +kernel)))) (ifS_e (tst_of (bin_of rfl rfl (eqs_f (by dsimp only [Rw.hd, opS]; decide +kernel)))) (ifS_e (tst_of (bin_of rfl rfl (eqs_f (by dsimp only [Rw.hd, opS]; decide +kernel)))) (ifS_e (tst_of (bin_of rfl rfl (eqs_f (by dsimp only [Rw.hd, opS]; decide +kernel)))) ((seq_nx (set_of (pop_mc (fun _ => rfl)))).trans ((seq_nx (set_of (pop_mc (fun _ => rfl)))).trans ((seq_nx (set_of ((callE_of (consA_of rfl (consA_of rfl (consA_of ((ifE_f (tst_of (bin_of rfl rfl (eqs_f (by dsimp only [Rw.hd, opS]; decide +kernel))))).trans rfl) rfl)))).trans (law_plus_ok (by decide) gx gy)))).trans ((seq_nx (set_of ((ifE_t (tst_of (bin_of rfl rfl eqs_t))).trans ((callE_of (consA_of rfl (consA_of rfl rfl))).trans (law_less_ok gx gy))))).trans (app_mc' (fun _ => rfl) ((ifE_f (tst_of (bin_of rfl (tup_of (consA_of rfl (consA_of rfl rfl)) rfl (by simp)) in_less))).trans (tup_of (ds := [.int (fop 2 x y).1, .int (fop 2 x y).2]) (consA_of ((app_of (consA_of rfl rfl)).trans e3) (consA_of rfl rfl)) (by rw [e4]; rfl) (by simp))) hl)))))))))))⟩
    · have e3 : intT [.d (.bool (decide (x = y)))] (mc cs st0 kv) = .ok (.d (.int (fop 3 x y).1)) (mc cs st0 kv) := by unfold fop; dsimp only; by_cases h : x = y <;> simp [h, intT]
      have e4 : (fop 3 x y).2 = 1 := by unfold fop; dsimp only; by_cases h : x = y <;> simp [h]
      refine ⟨_, _, _, _, _, _, ifS_e (tst_of (bin_of rfl rfl (eqs_f (by dsimp only [Rw.hd, opS]; decide +kernel)))) (ifS_e (tst_of (bin_of rfl rfl (eqs_f (by dsimp only [Rw.hd, opS]; decide +kernel)))) (ifS_e (tst_of (bin_of rfl rfl (eqs_f (by dsimp only [Rw.hd, opS]; decide +kernel)))) (ifS_e (tst_of (bin_of rfl rfl (eqs_f (by dsimp only [Rw.hd, opS]; decide +kernel)))) (ifS_e (tst_of (bin_of rfl rfl (eqs_f (by dsimp only [Rw.hd, opS]; decide +kernel)))) (ifS_e (tst_of (bin_of rfl rfl (eqs_f (by dsimp only [Rw.hd, opS]; decide +kernel)))) (ifS_e (tst_of (bin_of rfl rfl (eqs_f (by dsimp only [Rw.hd, opS]; decide +kernel)))) ((seq_nx (set_of (pop_mc (fun _ => rfl)))).trans ((seq_nx (set_of (pop_mc (fun _ => rfl)))).trans ((seq_nx (set_of ((callE_of (consA_of rfl (consA_of rfl (consA_of ((ifE_f (tst_of (bin_of rfl rfl (eqs_f (by dsimp only [Rw.hd, opS]; decide +kernel))))).trans rfl) rfl)))).trans (law_plus_ok (by decide) gx gy)))).trans ((seq_nx (set_of ((ifE_f (tst_of (bin_of rfl rfl (eqs_f (by dsimp only [Rw.hd, opS]; decide +kernel))))).trans (bin_of rfl rfl eq_fr)))).trans (app_mc' (fun _ => rfl) ((ifE_f (tst_of (bin_of rfl (tup_of (consA_of rfl (consA_of rfl rfl)) rfl (by simp)) in_same))).trans (tup_of (ds := [.int (fop 3 x y).1, .int (fop 3 x y).2]) (consA_of ((app_of (consA_of rfl rfl)).trans e3) (consA_of rfl rfl)) (by rw [e4]; rfl) (by simp))) hl)))))))))))⟩
end G
end
section
set_option Elab.async false
set_option linter.all false
set_option maxRecDepth 100000
set_option maxHeartbeats 1000000
namespace G
open PySem Y
variable {W : Wd} {k : Nat} {cs : Cs}
/-! the program's machine -/
def Rw.ln : Rw → Nat
  | .push _ => 3
  | .data _ => 2
  | .load _ => 2
  | .keep _ => 2
  | .jump _ => 2
  | .unless _ => 2
  | .times _ => 3
  | .op _ => 1
def Rw.takes : Rw → Nat
  | .push _ => 0
  | .data _ => 0
  | .load _ => 0
  | .keep _ => 1
  | .jump _ => 0
  | .unless _ => 1
  | .times _ => 1
  | .op _ => 2
def Rw.leaves : Rw → Nat
  | .push _ => 1
  | .data _ => 1
  | .load _ => 1
  | .keep _ => 0
  | .jump _ => 0
  | .unless _ => 0
  | .times _ => 1
  | .op _ => 1
/-- what the module's dicts tell -/
structure KD (W : Wd) : Prop where
  ln : ∀ (r : Rw) (cs : Cs), itemT W (.kd 0) (.d (.str r.hd)) cs = .ok (.d (.int (r.ln : Nat))) cs
  tk : ∀ (r : Rw) (cs : Cs), itemT W (.kd 1) (.d (.str r.hd)) cs = .ok (.d (.int (r.takes : Nat))) cs
  lv : ∀ (r : Rw) (cs : Cs), itemT W (.kd 2) (.d (.str r.hd)) cs = .ok (.d (.int (r.leaves : Nat))) cs
  ni : ∀ (r : Rw) (cs : Cs), ninT W (.d (.str r.hd)) (.kd 0) cs = .ok (.d (.bool false)) cs
theorem sl1 {f : EF} {ρ : Rho} {c : Cs} {a b d : PyData} (h : f ρ c = .ok (.d (.tuple [a, b, d])) c) : sliceE slcT f (someO (fun _ cs => .ok (.d (.int (1))) cs)) noO ρ c = .ok (.d (.tuple [b, d])) c := by
  unfold sliceE
  rw [h]
  rfl
theorem last1 {st : List Fr} {kv : KV} {x : Fr} : itemT W (.ref cs.length) (.d (.int (-1))) (mc cs (st ++ [x]) kv) = .ok (.d (fr x)) (mc cs (st ++ [x]) kv) := by
  have e : asQ (mc cs (st ++ [x]) kv) (.ref cs.length) = some (frs st ++ [.d (fr x)]) := by simp [asQ, asT, asL]
  have e2 : L2.atI (frs st ++ [T.d (fr x)]) (-1) = some (.d (fr x)) := by
    unfold L2.atI L2.ixN
    have e3 : ((frs st ++ [T.d (fr x)]).length : Int) = (st.length : Int) + 1 := by simp
    rw [if_neg (by omega), if_pos (by omega)]
    have e4 : (-1 + ((frs st ++ [T.d (fr x)]).length : Int)).toNat = (frs st).length := by rw [e3]; simp [frs]; omega
    simp only [e4]
    simp
  unfold itemT
  simp only [e, e2]
theorem last2 {st : List Fr} {kv : KV} {x y : Fr} : itemT W (.ref cs.length) (.d (.int (-2))) (mc cs (st ++ [x, y]) kv) = .ok (.d (fr x)) (mc cs (st ++ [x, y]) kv) := by
  have e : asQ (mc cs (st ++ [x, y]) kv) (.ref cs.length) = some (frs st ++ [.d (fr x), .d (fr y)]) := by simp [asQ, asT, asL]
  have e2 : L2.atI (frs st ++ [T.d (fr x), T.d (fr y)]) (-2) = some (.d (fr x)) := by
    unfold L2.atI L2.ixN
    have e3 : ((frs st ++ [T.d (fr x), T.d (fr y)]).length : Int) = (st.length : Int) + 2 := by simp
    rw [if_neg (by omega), if_pos (by omega)]
    have e4 : (-2 + ((frs st ++ [T.d (fr x), T.d (fr y)]).length : Int)).toNat = (frs st).length := by rw [e3]; simp [frs]; omega
    simp only [e4]
    simp
  unfold itemT
  simp only [e, e2]
theorem neg_of {n : Int} {ρ : Rho} {c : Cs} : un negT (fun _ cs => .ok (.d (.int n)) cs) ρ c = .ok (.d (.int (-n))) c := rfl
theorem two_ok (o : Fin 4) {x y : Fr} (gx : Good x) (gy : Good y) : Tb W (k + 3) 22 [.d (.tuple [.str (opS o)]), .d (fr x), .d (fr y)] cs = .ok (.d (fr (fop o x y))) cs := by
  rw [tb_22, tqe_b_22]
  rcases fin4 o with rfl | rfl | rfl | rfl
  · exact (fn_rt rfl (seq_if_t (tst_of (bin_of (bin_of rfl rfl it0) rfl eqs_t)) (ret_of ((callE_of (consA_of rfl (consA_of rfl rfl))).trans (plus_ok gx gy))))).trans leave_same
  · rw [tqe_b_22_1]
    exact (fn_rt rfl ((seq_if_f (tst_of (bin_of (bin_of rfl rfl it0) rfl (eqs_f (by dsimp only [Rw.hd, opS]; decide +kernel))))).trans (seq_if_t (tst_of (bin_of (bin_of rfl rfl it0) rfl eqs_t)) (ret_of ((callE_of (consA_of rfl (consA_of rfl rfl))).trans (less_by_ok gx gy)))))).trans leave_same
  · rw [tqe_b_22_1, tqe_b_22_2, tqe_b_22_3]
    refine (fn_rt rfl ((seq_if_f (tst_of (bin_of (bin_of rfl rfl it0) rfl (eqs_f (by dsimp only [Rw.hd, opS]; decide +kernel))))).trans ((seq_if_f (tst_of (bin_of (bin_of rfl rfl it0) rfl (eqs_f (by dsimp only [Rw.hd, opS]; decide +kernel))))).trans ((seq_nx (set_of ((ifE_t (tst_of (bin_of (bin_of rfl rfl it0) rfl eqs_t))).trans ((callE_of (consA_of rfl (consA_of rfl rfl))).trans (is_less_ok gx gy))))).trans (ret_of (t := .d (fr (fop 2 x y))) ?_))))).trans leave_same
    unfold fop
    dsimp only
    cases hb : fless x y with
    | true => exact (ifE_t (val_of rfl)).trans (by rfl)
    | false => exact (ifE_f (val_of rfl)).trans (by rfl)
  · rw [tqe_b_22_1, tqe_b_22_2, tqe_b_22_3]
    refine (fn_rt rfl ((seq_if_f (tst_of (bin_of (bin_of rfl rfl it0) rfl (eqs_f (by dsimp only [Rw.hd, opS]; decide +kernel))))).trans ((seq_if_f (tst_of (bin_of (bin_of rfl rfl it0) rfl (eqs_f (by dsimp only [Rw.hd, opS]; decide +kernel))))).trans ((seq_nx (set_of ((ifE_f (tst_of (bin_of (bin_of rfl rfl it0) rfl (eqs_f (by dsimp only [Rw.hd, opS]; decide +kernel))))).trans (bin_of rfl rfl eq_fr)))).trans (ret_of (t := .d (fr (fop 3 x y))) ?_))))).trans leave_same
    unfold fop
    dsimp only
    cases hb : decide (x = y) with
    | true => exact (ifE_t (val_of rfl)).trans (by rw [if_pos (of_decide_eq_true hb)])
    | false => exact (ifE_f (val_of rfl)).trans (by rw [if_neg (of_decide_eq_false hb)])
def wrt (nums : List Fr) : Rw → List Fr → KV → T → Prop := fun r st kv w => match r with
  | .push p => w = .d (fr p)
  | .data i => ∃ x, nums[i]? = some x ∧ w = .d (fr x)
  | .load i => ∃ x, getK kv (.inl (i : Int)) = some (.d (fr x)) ∧ w = .d (fr x)
  | .keep _ => ∃ st0 x, st = st0 ++ [x] ∧ w = .d (fr x)
  | .jump _ => w = .d .none
  | .unless _ => ∃ st0 x, st = st0 ++ [x] ∧ w = .d (fr x)
  | .times p => ∃ st0 x, st = st0 ++ [x] ∧ Good x ∧ Good p ∧ w = .d (fr (ftimes x p))
  | .op o => ∃ st0 x y, st = st0 ++ [x, y] ∧ Good x ∧ Good y ∧ w = .d (fr (fop o x y))
theorem ne_t {a b : Int} : True := trivial
theorem nes_t {a b : Str} (h : a ≠ b) : neT (.d (.str a)) (.d (.str b)) cs = .ok (.d (.bool true)) cs := by
  unfold neT eqD
  simp [h]
theorem nes_f {a : Str} : neT (.d (.str a)) (.d (.str a)) cs = .ok (.d (.bool false)) cs := by
  unfold neT eqD
  simp
theorem left_ok (hW : KD W) {nums : List Fr} {r : Rw} {st : List Fr} {kv : KV} {w : T} (h : wrt nums r st kv w) :
    Tb W (k + 4) 23 [.d r.d, .ref cs.length, .ref (cs.length + 1), .d (.tuple (nums.map fr))] (mc cs st kv) = .ok w (mc cs st kv) := by
  rw [tb_23, r.d_eq]
  have lv : ∀ x : PyData, leaveT (mc cs st kv) (.ok (.d x) (mc cs st kv)) = .ok (.d x) (mc cs st kv) := fun x => leave_same
  cases r with
  | push p =>
    cases h
    rw [tqe_b_23]
    exact (fn_rt rfl (seq_if_t (tst_of (bin_of (bin_of rfl rfl it0) rfl eqs_t)) (ret_of (sl1 rfl)))).trans (lv _)
  | data i =>
    obtain ⟨x, hx, rfl⟩ := h
    have hxd : (nums.map fr)[i]? = some (fr x) := by rw [List.getElem?_map, hx]; rfl
    rw [tqe_b_23, tqe_b_23_1]
    exact (fn_rt rfl ((seq_if_f (tst_of (bin_of (bin_of rfl rfl it0) rfl (eqs_f (by dsimp only [Rw.hd, opS]; decide +kernel))))).trans (seq_if_t (tst_of (bin_of (bin_of rfl rfl it0) rfl eqs_t)) (ret_of (bin_of rfl (bin_of rfl rfl it1) (item_nat hxd)))))).trans (lv _)
  | load i =>
    obtain ⟨x, hx, rfl⟩ := h
    rw [tqe_b_23, tqe_b_23_1, tqe_b_23_2]
    exact (fn_rt rfl ((seq_if_f (tst_of (bin_of (bin_of rfl rfl it0) rfl (eqs_f (by dsimp only [Rw.hd, opS]; decide +kernel))))).trans ((seq_if_f (tst_of (bin_of (bin_of rfl rfl it0) rfl (eqs_f (by dsimp only [Rw.hd, opS]; decide +kernel))))).trans (seq_if_t (tst_of (bin_of (bin_of rfl rfl it0) rfl eqs_t)) (ret_of (bin_of rfl (bin_of rfl rfl it1) (key_mc hx))))))).trans (lv _)
  | «keep» i =>
    obtain ⟨st0, x, rfl, rfl⟩ := h
    rw [tqe_b_23, tqe_b_23_1, tqe_b_23_2, tqe_b_23_3, tqe_b_23_4, tqe_b_23_5]
    exact (fn_rt rfl ((seq_if_f (tst_of (bin_of (bin_of rfl rfl it0) rfl (eqs_f (by dsimp only [Rw.hd, opS]; decide +kernel))))).trans ((seq_if_f (tst_of (bin_of (bin_of rfl rfl it0) rfl (eqs_f (by dsimp only [Rw.hd, opS]; decide +kernel))))).trans ((seq_if_f (tst_of (bin_of (bin_of rfl rfl it0) rfl (eqs_f (by dsimp only [Rw.hd, opS]; decide +kernel))))).trans ((seq_if_f (tst_of (bin_of (bin_of rfl rfl it0) rfl (eqs_f (by dsimp only [Rw.hd, opS]; decide +kernel))))).trans ((seq_if_f (tst_of (bin_of (bin_of rfl (bin_of rfl rfl it0) (hW.tk (.keep i) _)) rfl (eqi_f (by simp [Rw.takes]))))).trans (ret_of ((ifE_t (tst_of (bin_of (bin_of rfl rfl it0) rfl (nes_t (by dsimp only [Rw.hd, opS]; decide +kernel))))).trans (bin_of rfl neg_of last1))))))))).trans (lv _)
  | «unless» i =>
    obtain ⟨st0, x, rfl, rfl⟩ := h
    rw [tqe_b_23, tqe_b_23_1, tqe_b_23_2, tqe_b_23_3, tqe_b_23_4, tqe_b_23_5]
    exact (fn_rt rfl ((seq_if_f (tst_of (bin_of (bin_of rfl rfl it0) rfl (eqs_f (by dsimp only [Rw.hd, opS]; decide +kernel))))).trans ((seq_if_f (tst_of (bin_of (bin_of rfl rfl it0) rfl (eqs_f (by dsimp only [Rw.hd, opS]; decide +kernel))))).trans ((seq_if_f (tst_of (bin_of (bin_of rfl rfl it0) rfl (eqs_f (by dsimp only [Rw.hd, opS]; decide +kernel))))).trans ((seq_if_f (tst_of (bin_of (bin_of rfl rfl it0) rfl (eqs_f (by dsimp only [Rw.hd, opS]; decide +kernel))))).trans ((seq_if_f (tst_of (bin_of (bin_of rfl (bin_of rfl rfl it0) (hW.tk (.unless i) _)) rfl (eqi_f (by simp [Rw.takes]))))).trans (ret_of ((ifE_t (tst_of (bin_of (bin_of rfl rfl it0) rfl (nes_t (by dsimp only [Rw.hd, opS]; decide +kernel))))).trans (bin_of rfl neg_of last1))))))))).trans (lv _)
  | jump i =>
    cases h
    rw [tqe_b_23, tqe_b_23_1, tqe_b_23_2, tqe_b_23_3, tqe_b_23_4, tqe_b_23_5]
    exact (fn_rt rfl ((seq_if_f (tst_of (bin_of (bin_of rfl rfl it0) rfl (eqs_f (by dsimp only [Rw.hd, opS]; decide +kernel))))).trans ((seq_if_f (tst_of (bin_of (bin_of rfl rfl it0) rfl (eqs_f (by dsimp only [Rw.hd, opS]; decide +kernel))))).trans ((seq_if_f (tst_of (bin_of (bin_of rfl rfl it0) rfl (eqs_f (by dsimp only [Rw.hd, opS]; decide +kernel))))).trans ((seq_if_f (tst_of (bin_of (bin_of rfl rfl it0) rfl (eqs_f (by dsimp only [Rw.hd, opS]; decide +kernel))))).trans ((seq_if_f (tst_of (bin_of (bin_of rfl (bin_of rfl rfl it0) (hW.tk (.jump i) _)) rfl (eqi_f (by simp [Rw.takes]))))).trans (ret_of ((ifE_f (tst_of (bin_of (bin_of rfl rfl it0) rfl nes_f))).trans rfl)))))))).trans (lv _)
  | times p =>
    obtain ⟨st0, x, rfl, gx, gp, rfl⟩ := h
    rw [tqe_b_23, tqe_b_23_1, tqe_b_23_2, tqe_b_23_3]
    exact (fn_rt rfl ((seq_if_f (tst_of (bin_of (bin_of rfl rfl it0) rfl (eqs_f (by dsimp only [Rw.hd, opS]; decide +kernel))))).trans ((seq_if_f (tst_of (bin_of (bin_of rfl rfl it0) rfl (eqs_f (by dsimp only [Rw.hd, opS]; decide +kernel))))).trans ((seq_if_f (tst_of (bin_of (bin_of rfl rfl it0) rfl (eqs_f (by dsimp only [Rw.hd, opS]; decide +kernel))))).trans (seq_if_t (tst_of (bin_of (bin_of rfl rfl it0) rfl eqs_t)) (ret_of ((callE_of (consA_of (bin_of rfl neg_of last1) (consA_of (sl1 rfl) rfl))).trans (times_ok gx gp)))))))).trans (lv _)
  | op o =>
    obtain ⟨st0, x, y, rfl, gx, gy, rfl⟩ := h
    have h2 : ∀ b : Str, (∀ o : Fin 4, opS o ≠ b) → (Rw.op o).hd ≠ b := fun b h => h o
    rw [tqe_b_23, tqe_b_23_1, tqe_b_23_2, tqe_b_23_3, tqe_b_23_4]
    have e1 : itemT W (.ref cs.length) (.d (.int (-1))) (mc cs (st0 ++ [x, y]) kv) = .ok (.d (fr y)) (mc cs (st0 ++ [x, y]) kv) := by
      have := last1 (W := W) (cs := cs) (st := st0 ++ [x]) (kv := kv) (x := y)
      rw [List.append_assoc] at this
      exact this
    exact (fn_rt rfl ((seq_if_f (tst_of (bin_of (bin_of rfl rfl it0) rfl (eqs_f (h2 _ (by decide +kernel)))))).trans ((seq_if_f (tst_of (bin_of (bin_of rfl rfl it0) rfl (eqs_f (h2 _ (by decide +kernel)))))).trans ((seq_if_f (tst_of (bin_of (bin_of rfl rfl it0) rfl (eqs_f (h2 _ (by decide +kernel)))))).trans ((seq_if_f (tst_of (bin_of (bin_of rfl rfl it0) rfl (eqs_f (h2 _ (by decide +kernel)))))).trans (seq_if_t (tst_of (bin_of (bin_of rfl (bin_of rfl rfl it0) (hW.tk (.op o) _)) rfl (eqi_t rfl))) (ret_of ((callE_of (consA_of rfl (consA_of (bin_of rfl neg_of last2) (consA_of (bin_of rfl neg_of e1) rfl)))).trans (two_ok o gx gy))))))))).trans (lv _)
end G
end
section
set_option Elab.async false
set_option linter.all false
set_option maxRecDepth 100000
set_option maxHeartbeats 1000000
namespace G
open PySem Y
variable {W : Wd} {k : Nat} {cs : Cs}
theorem orE_t {f g : EF} {ρ : Rho} {c c1 : Cs} (h : f ρ c = .ok (.d (.bool true)) c1) : orE f g ρ c = .ok (.d (.bool true)) c1 := by
  unfold orE
  rw [h]
  rfl
theorem orE_f {f g : EF} {ρ : Rho} {c c1 : Cs} (h : f ρ c = .ok (.d (.bool false)) c1) : orE f g ρ c = g ρ c1 := by
  unfold orE
  rw [h]
  rfl
theorem andE_t {f g : EF} {ρ : Rho} {c c1 : Cs} (h : f ρ c = .ok (.d (.bool true)) c1) : andE f g ρ c = g ρ c1 := by
  unfold andE
  rw [h]
  rfl
theorem andE_f {f g : EF} {ρ : Rho} {c c1 : Cs} (h : f ρ c = .ok (.d (.bool false)) c1) : andE f g ρ c = .ok (.d (.bool false)) c1 := by
  unfold andE
  rw [h]
  rfl
theorem forL_nil {keep : Cs → Prop} {p : Pat} {b : SF} {ρ : Rho} {c : Cs} (h : keep c) : forL keep p b [] ρ c = .nx ρ c := by
  unfold forL
  rw [if_pos h]
theorem forL_one {keep : Cs → Prop} {i : Nat} {b : SF} {t : T} {ts : List T} {ρ ρ2 : Rho} {c c2 : Cs} (h : keep c) (hb : b (ρ.set i (some t)) c = .nx ρ2 c2) : forL keep (.nm i) b (t :: ts) ρ c = forL keep (.nm i) b ts ρ2 c2 := by
  rw [forL, if_pos h]
  unfold asgP
  dsimp only
  rw [hb]
theorem e62 : (2 : Int) ^ 62 = 4611686018427387904 := by decide +kernel
theorem hj62 {n : Nat} (hn : n < 1000) : -4611686018427387904 ≤ ((n : Nat) : Int) ∧ ((n : Nat) : Int) < 4611686018427387904 := ⟨by omega, by omega⟩
theorem rng1_of {g : AF} {ρ : Rho} {c c1 : Cs} {j : Int} (h : g ρ c = .ok [.d (.int j)] c1) (hj : -4611686018427387904 ≤ j ∧ j < 4611686018427387904) : rng1I g ρ c = .ok (rngL 0 j, fun _ => True) c1 := by
  unfold rng1I
  rw [h]
  simp only [R.bind_ok]
  rw [e62, if_pos hj]
theorem forS_of {f : IF} {p : Pat} {b : SF} {ρ : Rho} {c c1 : Cs} {ts : List T} {keep : Cs → Prop} (h : f ρ c = .ok (ts, keep) c1) : forS f p b ρ c = forL keep p b ts ρ c1 := by
  unfold forS
  rw [h]
abbrev rhoR (R N : T) (n : Nat) (at_ : Nat) (x5 x6 x7 x8 : Option T) : Rho := [some R, some N, some (.ref n), some (.ref (n + 1)), some (.d (.int (at_ : Nat))), x5, x6, x7, x8]
theorem pops_ok (hW : KD W) {r : Rw} {R N : T} {at_ : Nat} {x6 x7 x8 : Option T} {st0 : List Fr} {kv : KV} : ∀ {xs : List Fr}, xs.length = r.takes → ∃ y7, forS (rng1I (consA (bin (itemT W) (fun _ cs => .ok (.kd 1) cs) (bin (itemT W) (fun ρ cs => getV ρ 5 cs) (fun _ cs => .ok (.d (.int (0))) cs))) nilA)) (.nm 7) (expS (bmE isLst popT (fun ρ cs => getV ρ 2 cs) nilA)) (rhoR R N cs.length at_ (some (.d (.tuple (.str r.hd :: r.tl)))) x6 x7 x8) (mc cs (st0 ++ xs) kv) =
    .nx (rhoR R N cs.length at_ (some (.d (.tuple (.str r.hd :: r.tl)))) x6 y7 x8) (mc cs st0 kv) := by
  intro xs hx
  have ht : r.takes < 1000 := by cases r <;> simp [Rw.takes]
  have h0 : rng1I (consA (bin (itemT W) (fun _ cs => .ok (.kd 1) cs) (bin (itemT W) (fun ρ cs => getV ρ 5 cs) (fun _ cs => .ok (.d (.int (0))) cs))) nilA) (rhoR R N cs.length at_ (some (.d (.tuple (.str r.hd :: r.tl)))) x6 x7 x8) (mc cs (st0 ++ xs) kv) = .ok (rngL 0 (r.takes : Nat), fun _ => True) (mc cs (st0 ++ xs) kv) :=
    rng1_of (consA_of (bin_of rfl (bin_of rfl rfl it0) (hW.tk r _)) rfl) (hj62 ht)
  rw [forS_of h0, ← hx]
  match xs, hx with
  | [], _ => exact ⟨_, (forL_nil trivial).trans (by rw [List.append_nil])⟩
  | [x], _ => exact ⟨_, (forL_one (t := .d (.int 0)) (ts := []) trivial (expS_of (pop_mc (fun _ => rfl)))).trans (forL_nil trivial)⟩
  | [x, y], _ =>
    have e : st0 ++ [x, y] = st0 ++ [x] ++ [y] := by simp
    rw [e]
    exact ⟨_, (forL_one (t := .d (.int 0)) (ts := [.d (.int 1)]) trivial (expS_of (pop_mc (fun _ => rfl)))).trans ((forL_one trivial (expS_of (pop_mc (fun _ => rfl)))).trans (forL_nil trivial))⟩
  | _ :: _ :: _ :: _, h => exact absurd h (by cases r <;> simp [Rw.takes])
theorem run_core (hW : KD W) {M' : Lv} {rs : List Rw} {nums : List Fr} {r : Rw} {at_ : Nat} {st0 xs : List Fr} {kv : KV} {w : T} (hr : rs[at_]? = some r) (hw : wrt nums r (st0 ++ xs) kv w) (hx : xs.length = r.takes) (x5 x6 x7 x8 : Option T) :
    ∃ y7, lb_24_1 W (Tb W (k + 4)) M' (rhoR (.d (.tuple (rs.map Rw.d))) (.d (.tuple (nums.map fr))) cs.length at_ x5 x6 x7 x8) (mc cs (st0 ++ xs) kv) =
      tq_lb_24_1_3 W (Tb W (k + 4)) M' (rhoR (.d (.tuple (rs.map Rw.d))) (.d (.tuple (nums.map fr))) cs.length at_ (some (.d (.tuple (.str r.hd :: r.tl)))) (some w) y7 x8) (mc cs st0 kv) := by
  have hrd : (rs.map Rw.d)[at_]? = some (.tuple (.str r.hd :: r.tl)) := by rw [List.getElem?_map, hr, ← r.d_eq]; rfl
  have hl := left_ok (k := k) (cs := cs) hW hw
  rw [r.d_eq] at hl
  obtain ⟨y7, hp⟩ := pops_ok (cs := cs) hW (r := r) (R := .d (.tuple (rs.map Rw.d))) (N := .d (.tuple (nums.map fr))) (at_ := at_) (x6 := some w) (x7 := x7) (x8 := x8) (st0 := st0) (kv := kv) hx
  refine ⟨y7, ?_⟩
  rw [tqe_lb_24_1, tqe_lb_24_1_1, tqe_lb_24_1_2]
  exact (seq_nx (set_of (bin_of rfl rfl (item_nat hrd)))).trans ((seq_nx (set_of ((callE_of (consA_of rfl (consA_of rfl (consA_of rfl (consA_of rfl rfl))))).trans hl))).trans (seq_nx hp))
theorem run_step (hW : KD W) {M' : Lv} {rs : List Rw} {nums : List Fr} {r : Rw} {at_ at' : Nat} {st st' : List Fr} {kv kv' : KV} (hr : rs[at_]? = some r) (h : Stp nums r at_ st kv at' st' kv') (x5 x6 x7 x8 : Option T) :
    ∃ y5 y6 y7 y8, lb_24_1 W (Tb W (k + 4)) M' (rhoR (.d (.tuple (rs.map Rw.d))) (.d (.tuple (nums.map fr))) cs.length at_ x5 x6 x7 x8) (mc cs st kv) = .nx (rhoR (.d (.tuple (rs.map Rw.d))) (.d (.tuple (nums.map fr))) cs.length at' y5 y6 y7 y8) (mc cs st' kv') := by
  cases h with
  | push p _ _ _ hl =>
    obtain ⟨y7, e⟩ := run_core (k := k) (cs := cs) hW (M' := M') (kv := kv) (st0 := st) (xs := []) hr (w := .d (fr p)) (by rw [List.append_nil]; exact rfl) rfl x5 x6 x7 x8
    rw [List.append_nil] at e
    rw [e, tqe_lb_24_1_3, tqe_lb_24_1_4, tqe_lb_24_1_5, tqe_lb_24_1_6]
    exact ⟨_, _, _, _, (seq_if_f (tst_of (bin_of (bin_of rfl rfl it0) rfl (eqs_f (by dsimp only [Rw.hd]; decide +kernel))))).trans ((seq_nx ((ifS_t (tst_of (bin_of (bin_of rfl (bin_of rfl rfl it0) (hW.lv (.push p) _)) rfl (eqi_t (by simp [Rw.leaves]))))).trans (app_mc' (fun _ => rfl) rfl hl))).trans ((seq_nx (set_of ((orE_f (bin_of (bin_of rfl rfl it0) rfl (eqs_f (by dsimp only [Rw.hd]; decide +kernel)))).trans (andE_f (bin_of (bin_of rfl rfl it0) rfl (eqs_f (by dsimp only [Rw.hd]; decide +kernel))))))).trans (set_of ((ifE_f (val_of rfl)).trans (bin_of rfl rfl (addi (r := ((at_ + 1 : Nat) : Int)) (by omega)))))))⟩
  | data i x _ _ _ hl hx =>
    obtain ⟨y7, e⟩ := run_core (k := k) (cs := cs) hW (M' := M') (kv := kv) (st0 := st) (xs := []) hr (w := .d (fr x)) ⟨x, hx, rfl⟩ rfl x5 x6 x7 x8
    rw [List.append_nil] at e
    rw [e, tqe_lb_24_1_3, tqe_lb_24_1_4, tqe_lb_24_1_5, tqe_lb_24_1_6]
    exact ⟨_, _, _, _, (seq_if_f (tst_of (bin_of (bin_of rfl rfl it0) rfl (eqs_f (by dsimp only [Rw.hd]; decide +kernel))))).trans ((seq_nx ((ifS_t (tst_of (bin_of (bin_of rfl (bin_of rfl rfl it0) (hW.lv (.data i) _)) rfl (eqi_t (by simp [Rw.leaves]))))).trans (app_mc' (fun _ => rfl) rfl hl))).trans ((seq_nx (set_of ((orE_f (bin_of (bin_of rfl rfl it0) rfl (eqs_f (by dsimp only [Rw.hd]; decide +kernel)))).trans (andE_f (bin_of (bin_of rfl rfl it0) rfl (eqs_f (by dsimp only [Rw.hd]; decide +kernel))))))).trans (set_of ((ifE_f (val_of rfl)).trans (bin_of rfl rfl (addi (r := ((at_ + 1 : Nat) : Int)) (by omega)))))))⟩
  | load i x _ _ _ hl hx =>
    obtain ⟨y7, e⟩ := run_core (k := k) (cs := cs) hW (M' := M') (kv := kv) (st0 := st) (xs := []) hr (w := .d (fr x)) ⟨x, hx, rfl⟩ rfl x5 x6 x7 x8
    rw [List.append_nil] at e
    rw [e, tqe_lb_24_1_3, tqe_lb_24_1_4, tqe_lb_24_1_5, tqe_lb_24_1_6]
    exact ⟨_, _, _, _, (seq_if_f (tst_of (bin_of (bin_of rfl rfl it0) rfl (eqs_f (by dsimp only [Rw.hd]; decide +kernel))))).trans ((seq_nx ((ifS_t (tst_of (bin_of (bin_of rfl (bin_of rfl rfl it0) (hW.lv (.load i) _)) rfl (eqi_t (by simp [Rw.leaves]))))).trans (app_mc' (fun _ => rfl) rfl hl))).trans ((seq_nx (set_of ((orE_f (bin_of (bin_of rfl rfl it0) rfl (eqs_f (by dsimp only [Rw.hd]; decide +kernel)))).trans (andE_f (bin_of (bin_of rfl rfl it0) rfl (eqs_f (by dsimp only [Rw.hd]; decide +kernel))))))).trans (set_of ((ifE_f (val_of rfl)).trans (bin_of rfl rfl (addi (r := ((at_ + 1 : Nat) : Int)) (by omega)))))))⟩
  | keep i x _ _ _ hl =>
    obtain ⟨y7, e⟩ := run_core (k := k) (cs := cs) hW (M' := M') (kv := kv) (st0 := st') (xs := [x]) hr (w := .d (fr x)) ⟨_, x, rfl, rfl⟩ rfl x5 x6 x7 x8
    rw [e, tqe_lb_24_1_3, tqe_lb_24_1_4, tqe_lb_24_1_5, tqe_lb_24_1_6]
    exact ⟨_, _, _, _, (seq_nx ((ifS_t (tst_of (bin_of (bin_of rfl rfl it0) rfl eqs_t))).trans (asg_sub rfl rfl (bin_of rfl rfl it1) (seti_mc hl)))).trans ((seq_if_f (tst_of (bin_of (bin_of rfl (bin_of rfl rfl it0) (hW.lv (.keep i) _)) rfl (eqi_f (by simp [Rw.leaves]))))).trans ((seq_nx (set_of ((orE_f (bin_of (bin_of rfl rfl it0) rfl (eqs_f (by dsimp only [Rw.hd]; decide +kernel)))).trans (andE_f (bin_of (bin_of rfl rfl it0) rfl (eqs_f (by dsimp only [Rw.hd]; decide +kernel))))))).trans (set_of ((ifE_f (val_of rfl)).trans (bin_of rfl rfl (addi (r := ((at_ + 1 : Nat) : Int)) (by omega)))))))⟩
  | jump j =>
    obtain ⟨y7, e⟩ := run_core (k := k) (cs := cs) hW (M' := M') (kv := kv) (st0 := st) (xs := []) hr (w := .d .none) rfl rfl x5 x6 x7 x8
    rw [List.append_nil] at e
    rw [e, tqe_lb_24_1_3, tqe_lb_24_1_4, tqe_lb_24_1_5, tqe_lb_24_1_6]
    exact ⟨_, _, _, _, (seq_if_f (tst_of (bin_of (bin_of rfl rfl it0) rfl (eqs_f (by dsimp only [Rw.hd]; decide +kernel))))).trans ((seq_if_f (tst_of (bin_of (bin_of rfl (bin_of rfl rfl it0) (hW.lv (.jump at') _)) rfl (eqi_f (by simp [Rw.leaves]))))).trans ((seq_nx (set_of (orE_t (bin_of (bin_of rfl rfl it0) rfl eqs_t)))).trans (set_of ((ifE_t (val_of rfl)).trans (bin_of rfl rfl it1)))))⟩
  | unless0 j x _ _ _ hx =>
    have hx : x = (0, 1) := hx
    obtain ⟨y7, e⟩ := run_core (k := k) (cs := cs) hW (M' := M') (kv := kv) (st0 := st') (xs := [x]) hr (w := .d (fr x)) ⟨_, x, rfl, rfl⟩ rfl x5 x6 x7 x8
    rw [e, tqe_lb_24_1_3, tqe_lb_24_1_4, tqe_lb_24_1_5, tqe_lb_24_1_6]
    exact ⟨_, _, _, _, (seq_if_f (tst_of (bin_of (bin_of rfl rfl it0) rfl (eqs_f (by dsimp only [Rw.hd]; decide +kernel))))).trans ((seq_if_f (tst_of (bin_of (bin_of rfl (bin_of rfl rfl it0) (hW.lv (.unless at') _)) rfl (eqi_f (by simp [Rw.leaves]))))).trans ((seq_nx (set_of ((orE_f (bin_of (bin_of rfl rfl it0) rfl (eqs_f (by dsimp only [Rw.hd]; decide +kernel)))).trans ((andE_t (bin_of (bin_of rfl rfl it0) rfl eqs_t)).trans (bin_of rfl rfl ((eq_fr (y := (0, 1))).trans (by rw [decide_eq_true hx]))))))).trans (set_of ((ifE_t (val_of rfl)).trans (bin_of rfl rfl it1)))))⟩
  | unless1 j x _ _ _ hx =>
    have hx : x ≠ (0, 1) := hx
    obtain ⟨y7, e⟩ := run_core (k := k) (cs := cs) hW (M' := M') (kv := kv) (st0 := st') (xs := [x]) hr (w := .d (fr x)) ⟨_, x, rfl, rfl⟩ rfl x5 x6 x7 x8
    rw [e, tqe_lb_24_1_3, tqe_lb_24_1_4, tqe_lb_24_1_5, tqe_lb_24_1_6]
    exact ⟨_, _, _, _, (seq_if_f (tst_of (bin_of (bin_of rfl rfl it0) rfl (eqs_f (by dsimp only [Rw.hd]; decide +kernel))))).trans ((seq_if_f (tst_of (bin_of (bin_of rfl (bin_of rfl rfl it0) (hW.lv (.unless j) _)) rfl (eqi_f (by simp [Rw.leaves]))))).trans ((seq_nx (set_of ((orE_f (bin_of (bin_of rfl rfl it0) rfl (eqs_f (by dsimp only [Rw.hd]; decide +kernel)))).trans ((andE_t (bin_of (bin_of rfl rfl it0) rfl eqs_t)).trans (bin_of rfl rfl ((eq_fr (y := (0, 1))).trans (by rw [decide_eq_false hx]))))))).trans (set_of ((ifE_f (val_of rfl)).trans (bin_of rfl rfl (addi (r := ((at_ + 1 : Nat) : Int)) (by omega)))))))⟩
  | times p x _ st0 _ hl gx gp =>
    obtain ⟨y7, e⟩ := run_core (k := k) (cs := cs) hW (M' := M') (kv := kv) (st0 := st0) (xs := [x]) hr (w := .d (fr (ftimes x p))) ⟨_, x, rfl, gx, gp, rfl⟩ rfl x5 x6 x7 x8
    rw [e, tqe_lb_24_1_3, tqe_lb_24_1_4, tqe_lb_24_1_5, tqe_lb_24_1_6]
    exact ⟨_, _, _, _, (seq_if_f (tst_of (bin_of (bin_of rfl rfl it0) rfl (eqs_f (by dsimp only [Rw.hd]; decide +kernel))))).trans ((seq_nx ((ifS_t (tst_of (bin_of (bin_of rfl (bin_of rfl rfl it0) (hW.lv (.times p) _)) rfl (eqi_t (by simp [Rw.leaves]))))).trans (app_mc' (fun _ => rfl) rfl hl))).trans ((seq_nx (set_of ((orE_f (bin_of (bin_of rfl rfl it0) rfl (eqs_f (by dsimp only [Rw.hd]; decide +kernel)))).trans (andE_f (bin_of (bin_of rfl rfl it0) rfl (eqs_f (by dsimp only [Rw.hd]; decide +kernel))))))).trans (set_of ((ifE_f (val_of rfl)).trans (bin_of rfl rfl (addi (r := ((at_ + 1 : Nat) : Int)) (by omega)))))))⟩
  | op o x y _ st0 _ hl gx gy =>
    have h2 : ∀ b : Str, (∀ o : Fin 4, opS o ≠ b) → (Rw.op o).hd ≠ b := fun b h => h o
    obtain ⟨y7, e⟩ := run_core (k := k) (cs := cs) hW (M' := M') (kv := kv) (st0 := st0) (xs := [x, y]) hr (w := .d (fr (fop o x y))) ⟨_, x, y, rfl, gx, gy, rfl⟩ rfl x5 x6 x7 x8
    rw [e, tqe_lb_24_1_3, tqe_lb_24_1_4, tqe_lb_24_1_5, tqe_lb_24_1_6]
    exact ⟨_, _, _, _, (seq_if_f (tst_of (bin_of (bin_of rfl rfl it0) rfl (eqs_f (h2 _ (by decide +kernel)))))).trans ((seq_nx ((ifS_t (tst_of (bin_of (bin_of rfl (bin_of rfl rfl it0) (hW.lv (.op o) _)) rfl (eqi_t (by simp [Rw.leaves]))))).trans (app_mc' (fun _ => rfl) rfl hl))).trans ((seq_nx (set_of ((orE_f (bin_of (bin_of rfl rfl it0) rfl (eqs_f (h2 _ (by decide +kernel))))).trans (andE_f (bin_of (bin_of rfl rfl it0) rfl (eqs_f (h2 _ (by decide +kernel)))))))).trans (set_of ((ifE_f (val_of rfl)).trans (bin_of rfl rfl (addi (r := ((at_ + 1 : Nat) : Int)) (by omega)))))))⟩
end G
end
section
set_option Elab.async false
set_option linter.all false
set_option maxRecDepth 100000
set_option maxHeartbeats 1000000
namespace G
open PySem Y
variable {W : Wd} {k : Nat} {cs : Cs}
/-! many steps -/
inductive Sts (nums : List Fr) (rs : List Rw) : Nat → List Fr → KV → Nat → List Fr → KV → Prop
  | nil (at_ : Nat) (st : List Fr) (kv : KV) : Sts nums rs at_ st kv at_ st kv
  | cons {r : Rw} {at_ a1 a2 : Nat} {st s1 s2 : List Fr} {kv k1 k2 : KV} : rs[at_]? = some r → Stp nums r at_ st kv a1 s1 k1 → Sts nums rs a1 s1 k1 a2 s2 k2 → Sts nums rs at_ st kv a2 s2 k2
theorem Sts.trans {nums : List Fr} {rs : List Rw} {a0 a1 a2 : Nat} {s0 s1 s2 : List Fr} {k0 k1 k2 : KV} (h : Sts nums rs a0 s0 k0 a1 s1 k1) : Sts nums rs a1 s1 k1 a2 s2 k2 → Sts nums rs a0 s0 k0 a2 s2 k2 := by
  induction h with
  | nil => exact id
  | cons h1 h2 _ ih => exact fun h => .cons h1 h2 (ih h)
theorem len_tup {ds : List PyData} {n : Int} (h : (ds.length : Int) = n) : lenT [.d (.tuple ds)] cs = .ok (.d (.int n)) cs := by
  rw [← h]
  simp [lenT, asQ, asT]
theorem lt34 {M M' : Lv} {rs : List Rw} {N : T} {n at_ : Nat} {x5 x6 x7 x8 x9 x10 : Option T} {c : Cs} : lt_34_0 W M M' (rhoL (.d (.tuple (rs.map Rw.d))) N n at_ x5 x6 x7 x8 x9 x10) c = .ok (decide (at_ < rs.length)) c := by
  unfold lt_34_0
  refine tst_of (bin_of rfl ((app_of (consA_of rfl rfl)).trans (len_tup (n := rs.length) (by simp))) ?_)
  simp [inb]
theorem lt24 {M M' : Lv} {rs : List Rw} {N : T} {n at_ : Nat} {x5 x6 x7 x8 : Option T} {c : Cs} : lt_24_1 W M M' (rhoR (.d (.tuple (rs.map Rw.d))) N n at_ x5 x6 x7 x8) c = .ok (decide (at_ < rs.length)) c := by
  unfold lt_24_1
  refine tst_of (bin_of rfl ((app_of (consA_of rfl rfl)).trans (len_tup (n := rs.length) (by simp))) ?_)
  simp [inb]
theorem law_loop {M' : Lv} {rs : List Rw} {nums : List Fr} {at_ a2 : Nat} {st s2 : List Fr} {kv k2 : KV} (h : Sts nums rs at_ st kv a2 s2 k2) (he : a2 = rs.length) : ∀ x5 x6 x7 x8 x9 x10 : Option T,
    ∃ n y5 y6 y7 y8 y9 y10, whileN (lt_34_0 W (Tb W (k + 3)) M') (lb_34_0 W (Tb W (k + 3)) M') n (rhoL (.d (.tuple (rs.map Rw.d))) (.d (.tuple (nums.map fr))) cs.length at_ x5 x6 x7 x8 x9 x10) (mc cs st kv) = .nx (rhoL (.d (.tuple (rs.map Rw.d))) (.d (.tuple (nums.map fr))) cs.length a2 y5 y6 y7 y8 y9 y10) (mc cs s2 k2) := by
  induction h with
  | nil at_ st kv =>
    intro x5 x6 x7 x8 x9 x10
    refine ⟨1, x5, x6, x7, x8, x9, x10, ?_⟩
    rw [whileN, lt34]
    dsimp only
    rw [decide_eq_false (by omega), if_neg (by decide)]
  | cons hr hs _ ih =>
    intro x5 x6 x7 x8 x9 x10
    obtain ⟨y5, y6, y7, y8, y9, y10, e1⟩ := law_step (W := W) (k := k) (cs := cs) (M' := M') hr hs x5 x6 x7 x8 x9 x10
    obtain ⟨n, z5, z6, z7, z8, z9, z10, e2⟩ := ih he y5 y6 y7 y8 y9 y10
    refine ⟨n + 1, z5, z6, z7, z8, z9, z10, ?_⟩
    rw [whileN, lt34]
    dsimp only
    rw [decide_eq_true (List.getElem?_eq_some_iff.mp hr).1, if_pos rfl, e1]
    exact e2
theorem run_loop (hW : KD W) {M' : Lv} {rs : List Rw} {nums : List Fr} {at_ a2 : Nat} {st s2 : List Fr} {kv k2 : KV} (h : Sts nums rs at_ st kv a2 s2 k2) (he : a2 = rs.length) : ∀ x5 x6 x7 x8 : Option T,
    ∃ n y5 y6 y7 y8, whileN (lt_24_1 W (Tb W (k + 4)) M') (lb_24_1 W (Tb W (k + 4)) M') n (rhoR (.d (.tuple (rs.map Rw.d))) (.d (.tuple (nums.map fr))) cs.length at_ x5 x6 x7 x8) (mc cs st kv) = .nx (rhoR (.d (.tuple (rs.map Rw.d))) (.d (.tuple (nums.map fr))) cs.length a2 y5 y6 y7 y8) (mc cs s2 k2) := by
  induction h with
  | nil at_ st kv =>
    intro x5 x6 x7 x8
    refine ⟨1, x5, x6, x7, x8, ?_⟩
    rw [whileN, lt24]
    dsimp only
    rw [decide_eq_false (by omega), if_neg (by decide)]
  | cons hr hs _ ih =>
    intro x5 x6 x7 x8
    obtain ⟨y5, y6, y7, y8, e1⟩ := run_step (W := W) (k := k) (cs := cs) hW (M' := M') hr hs x5 x6 x7 x8
    obtain ⟨n, z5, z6, z7, z8, e2⟩ := ih he y5 y6 y7 y8
    refine ⟨n + 1, z5, z6, z7, z8, ?_⟩
    rw [whileN, lt24]
    dsimp only
    rw [decide_eq_true (List.getElem?_eq_some_iff.mp hr).1, if_pos rfl, e1]
    exact e2
theorem par3_of {i j l : Nat} {f g h : EF} {ρ : Rho} {c c1 c2 c3 : Cs} {t u w : T} (h1 : f ρ c = .ok t c1) (h2 : g ρ c1 = .ok u c2) (h3 : h ρ c2 = .ok w c3) : par3S i j l (consA f (consA g (consA h nilA))) ρ c = .nx (((ρ.set i (some t)).set j (some u)).set l (some w)) c3 := by
  unfold par3S
  rw [consA_of h1 (consA_of h2 (consA_of h3 rfl))]
theorem lstC_nil {ρ : Rho} {c : Cs} : lstC nilA ρ c = .ok (.ref c.length) (c ++ [.lst []]) := by
  unfold lstC nilA
  simp [sizeLine_eq]
theorem dic2 {ρ : Rho} : dicC ρ (cs ++ [.lst []]) = .ok (.ref (cs.length + 1)) (mc cs [] []) := by
  unfold dicC
  simp
theorem machine_ok {rs : List Rw} {nums : List Fr} {v : Fr} {kv : KV} (h : Sts nums rs 0 [] [] rs.length [v] kv) : Tb W (k + 4) 34 [.d (.tuple (rs.map Rw.d)), .d (.tuple (nums.map fr))] cs = .ok (.d (.list [fr v])) cs := by
  obtain ⟨n, y5, y6, y7, y8, y9, y10, e⟩ := law_loop (W := W) (k := k) (cs := cs) (M' := (tabs W (k + 3)).2) h rfl none none none none none none
  have ew := whileS_of e (by intro h; cases h)
  rw [tb_34, bq_34]
  have e1 : frzE (fun ρ cs => getV ρ 2 cs) (rhoL (.d (.tuple (rs.map Rw.d))) (.d (.tuple (nums.map fr))) cs.length rs.length y5 y6 y7 y8 y9 y10) (mc cs [v] kv) = .ok (.d (.list [fr v])) (cs ++ [.dead, .dk kv]) := by
    have e2 : getV (rhoL (.d (.tuple (rs.map Rw.d))) (.d (.tuple (nums.map fr))) cs.length rs.length y5 y6 y7 y8 y9 y10) 2 (mc cs [v] kv) = .ok (.ref cs.length) (mc cs [v] kv) := rfl
    unfold frzE
    dsimp only
    rw [e2]
    dsimp only [R.bind]
    unfold frzT
    simp only [mc0]
    simp [frs, allD]
  exact (fn_rt rfl ((seq_nx (par3_of lstC_nil dic2 rfl)).trans ((seq_nx ew).trans (ret_of e1)))).trans leave_cut
theorem run_by_ok (hW : KD W) {rs : List Rw} {nums : List Fr} {v : Fr} {kv : KV} (h : Sts nums rs 0 [] [] rs.length [v] kv) : Tb W (k + 5) 24 [.d (.tuple (rs.map Rw.d)), .d (.tuple (nums.map fr))] cs = .ok (.d (fr v)) cs := by
  obtain ⟨n, y5, y6, y7, y8, e⟩ := run_loop (W := W) (k := k) (cs := cs) hW (M' := (tabs W (k + 4)).2) h rfl none none none none
  have ew := whileS_of e (by intro h; cases h)
  rw [tb_24, bq_24]
  exact (fn_rt rfl ((seq_nx (par3_of lstC_nil dic2 rfl)).trans ((seq_nx ew).trans (ret_of (bin_of rfl neg_of (last1 (st := []))))))).trans leave_cut
/-! what rows made of draws do -/
structure Gd (B : Nat) (p : Fr) : Prop where
  n : p.1.natAbs ≤ B
  d : p.2.natAbs ≤ B
  pos : 0 < p.2
theorem Gd.mono {B C : Nat} {p : Fr} (h : Gd B p) (hc : B ≤ C) : Gd C p := ⟨Nat.le_trans h.n hc, Nat.le_trans h.d hc, h.pos⟩
theorem Gd.good {p : Fr} (h : Gd 50000000 p) : Good p := by
  obtain ⟨h1, h2, h3⟩ := h
  exact ⟨h3, by omega, by omega, by omega⟩
theorem gd_low {a b : Int} {B : Nat} (ha : a.natAbs ≤ B) (hb : b.natAbs ≤ B) (h0 : 0 < b) : Gd B (low a b) := by
  have g0 := gcd_pos (a := a) h0
  have g1 := gcd_le (a := a) h0
  refine ⟨Nat.le_trans (Int.natAbs_ediv_le_natAbs _ _) ha, Nat.le_trans (Int.natAbs_ediv_le_natAbs _ _) hb, ?_⟩
  show 0 < b / _
  have : 1 ≤ b / (Nat.gcd a.natAbs b.natAbs : Int) := (Int.le_ediv_iff_mul_le g0).mpr (by omega)
  omega
theorem gd_plus {p q : Fr} {B : Nat} {t : Int} (ht : t.natAbs = 1) (hp : Gd B p) (hq : Gd B q) : Gd (2 * B * B) (fplus p q t) := by
  have m1 : (p.1 * q.2).natAbs ≤ B * B := by rw [Int.natAbs_mul]; exact Nat.mul_le_mul hp.n hq.d
  have m2 : (t * q.1 * p.2).natAbs ≤ B * B := by rw [Int.natAbs_mul, Int.natAbs_mul, ht, Nat.one_mul]; exact Nat.mul_le_mul hq.n hp.d
  have m3 : (p.2 * q.2).natAbs ≤ B * B := by rw [Int.natAbs_mul]; exact Nat.mul_le_mul hp.d hq.d
  have e : 2 * B * B = B * B + B * B := by rw [Nat.mul_assoc, Nat.two_mul]
  refine gd_low ?_ ?_ (Int.mul_pos hp.pos hq.pos)
  · have := Int.natAbs_add_le (p.1 * q.2) (t * q.1 * p.2)
    omega
  · omega
theorem gd_times {p q : Fr} {B : Nat} (hp : Gd B p) (hq : Gd B q) : Gd (2 * B * B) (ftimes p q) := by
  have m1 : (p.1 * q.1).natAbs ≤ B * B := by rw [Int.natAbs_mul]; exact Nat.mul_le_mul hp.n hq.n
  have m3 : (p.2 * q.2).natAbs ≤ B * B := by rw [Int.natAbs_mul]; exact Nat.mul_le_mul hp.d hq.d
  have e : 2 * B * B = B * B + B * B := by rw [Nat.mul_assoc, Nat.two_mul]
  exact gd_low (by omega) (by omega) (Int.mul_pos hp.pos hq.pos)
def bd : Nat → Nat
  | 0 => 5
  | d + 1 => 2 * bd d * bd d
theorem bd_pos : ∀ d, 5 ≤ bd d
  | 0 => Nat.le_refl _
  | d + 1 => by
    have h := bd_pos d
    have : 5 * 5 ≤ bd d * bd d := Nat.mul_le_mul h h
    unfold bd
    rw [Nat.mul_assoc]
    omega
theorem bd_up (d : Nat) : bd d ≤ bd (d + 1) := by
  have h := bd_pos d
  have : bd d * 1 ≤ bd d * bd d := Nat.mul_le_mul (Nat.le_refl _) (by omega)
  show bd d ≤ 2 * bd d * bd d
  rw [Nat.mul_assoc]
  omega
theorem bd_le {d : Nat} (h : d ≤ 3) : bd d ≤ 50000000 := by
  have : ∀ d : Fin 4, bd d.val ≤ 50000000 := by decide +kernel
  exact this ⟨d, by omega⟩
theorem gd_small {p : Fr} (h : Small p) : Gd 5 p := ⟨by omega, by omega, h.2.1⟩
theorem gd_fop {x y : Fr} {B : Nat} (hB : 5 ≤ B) (o : Fin 4) (hx : Gd B x) (hy : Gd B y) : Gd (2 * B * B) (fop o x y) := by
  have h1 : ∀ a : Int, a.natAbs ≤ 1 → Gd (2 * B * B) (a, 1) := fun a ha => by
    have : 5 * 5 ≤ B * B := Nat.mul_le_mul hB hB
    exact ⟨by show a.natAbs ≤ _; rw [Nat.mul_assoc]; omega, by show (1 : Int).natAbs ≤ _; rw [Nat.mul_assoc]; omega, by show (0 : Int) < 1; decide⟩
  rcases fin4 o with rfl | rfl | rfl | rfl
  · exact gd_plus rfl hx hy
  · exact gd_plus rfl hx hy
  · show Gd _ (if fless x y = true then (1, 1) else (0, 1))
    split <;> exact h1 _ (by decide)
  · show Gd _ (if x = y then (1, 1) else (0, 1))
    split <;> exact h1 _ (by decide)
def Mx.ev (nums : List Fr) : Mx → Fr
  | .push p => p
  | .data i => (nums[i]?).getD (0, 1)
  | .load => (5, 2)
  | .tim a p => ftimes (a.ev nums) p
  | .kep a => fop 0 (a.ev nums) (a.ev nums)
  | .bin o a b => fop o (a.ev nums) (b.ev nums)
  | .cnd a b c => if a.ev nums = (0, 1) then c.ev nums else b.ev nums
structure Nm (nums : List Fr) : Prop where
  len : nums.length = 3
  sm : ∀ p ∈ nums, Small p
theorem Nm.get {nums : List Fr} (h : Nm nums) {i : Nat} (hi : i < 3) : ∃ x, nums[i]? = some x ∧ Small x := by
  have hl : i < nums.length := by rw [h.len]; exact hi
  exact ⟨nums[i], List.getElem?_eq_getElem hl, h.sm _ (List.getElem_mem hl)⟩
theorem gd_ev {nums : List Fr} {f : Bool} (hn : Nm nums) : ∀ {d : Nat} {M : Mx}, MOk f d M → Gd (bd d) (M.ev nums)
  | d, .push p, h => by
    have h : Small p := by cases d <;> exact h
    exact (gd_small h).mono (bd_pos d)
  | d, .data i, h => by
    have h : i < 3 := by cases d <;> exact h
    obtain ⟨x, e, sx⟩ := hn.get h
    have : (Mx.data i).ev nums = x := by simp [Mx.ev, e]
    rw [this]
    exact (gd_small sx).mono (bd_pos d)
  | d, .load, _ => by
    have := bd_pos d
    exact ⟨by show (5 : Int).natAbs ≤ _; exact this, by show (2 : Int).natAbs ≤ _; exact Nat.le_trans (by decide) this, by show (0 : Int) < 2; decide⟩
  | d + 1, .tim a p, h => gd_times (gd_ev hn h.1) ((gd_small h.2).mono (bd_pos d))
  | d + 1, .kep a, h => gd_fop (bd_pos d) 0 (gd_ev (d := d) hn h) (gd_ev (d := d) hn h)
  | d + 1, .bin o a b, h => gd_fop (bd_pos d) o (gd_ev hn h.1) (gd_ev hn h.2)
  | d + 1, .cnd a b c, h => by
    show Gd _ (if a.ev nums = (0, 1) then c.ev nums else b.ev nums)
    split
    · exact (gd_ev hn h.2.2).mono (bd_up d)
    · exact (gd_ev hn h.2.1).mono (bd_up d)
end G
end
section
set_option Elab.async false
set_option linter.all false
set_option maxRecDepth 100000
set_option maxHeartbeats 1000000
namespace G
open PySem Y
/-! dicts of cells -/
section
variable {κ β : Type} [DecidableEq κ]
theorem getK_nil {k : κ} : getK ([] : List (κ × β)) k = none := rfl
theorem getK_cons {a k : κ} {x : β} {l : List (κ × β)} : getK ((a, x) :: l) k = if a = k then some x else getK l k := by
  unfold getK
  rw [List.find?_cons]
  by_cases h : a = k
  · simp [h]
  · simp [h]
theorem getK_map_ne {k k' : κ} {v : β} (h : k ≠ k') : ∀ l : List (κ × β), getK (l.map fun kv => if kv.1 = k then (kv.1, v) else kv) k' = getK l k'
  | [] => rfl
  | (a, x) :: l => by
    rw [List.map_cons, getK_cons]
    by_cases e : a = k
    · subst e
      rw [if_pos rfl, getK_cons, if_neg h, if_neg h, getK_map_ne h l]
    · rw [if_neg e, getK_cons, getK_map_ne h l]
theorem getK_app_ne {k k' : κ} {v : β} (h : k ≠ k') : ∀ l : List (κ × β), getK (l ++ [(k, v)]) k' = getK l k'
  | [] => by rw [List.nil_append, getK_cons, if_neg h]
  | (a, x) :: l => by rw [List.cons_append, getK_cons, getK_cons, getK_app_ne h l]
theorem getK_map_self {k : κ} {v : β} : ∀ l : List (κ × β), (l.any fun kv => decide (kv.1 = k)) = true → getK (l.map fun kv => if kv.1 = k then (kv.1, v) else kv) k = some v
  | [], h => by cases h
  | (a, x) :: l, h => by
    rw [List.map_cons]
    by_cases e : a = k
    · subst e
      rw [if_pos rfl, getK_cons, if_pos rfl]
    · rw [if_neg e, getK_cons, if_neg e]
      refine getK_map_self l ?_
      rw [List.any_cons] at h
      simpa [e] using h
theorem getK_app_self {k : κ} {v : β} : ∀ l : List (κ × β), ¬ (l.any fun kv => decide (kv.1 = k)) = true → getK (l ++ [(k, v)]) k = some v
  | [], _ => by rw [List.nil_append, getK_cons, if_pos rfl]
  | (a, x) :: l, h => by
    rw [List.any_cons] at h
    have e : a ≠ k := fun e => h (by simp [e])
    rw [List.cons_append, getK_cons, if_neg e]
    exact getK_app_self l (by simpa [e] using h)
theorem getK_set_self {k : κ} {v : β} {l : List (κ × β)} : getK (setK l k v) k = some v := by
  unfold setK
  split
  · exact getK_map_self l (by assumption)
  · exact getK_app_self l (by assumption)
theorem getK_set_ne {k k' : κ} {v : β} {l : List (κ × β)} (h : k ≠ k') : getK (setK l k v) k' = getK l k' := by
  unfold setK
  split
  · exact getK_map_ne h l
  · exact getK_app_ne h l
end
/-! a part of the rows -/
def Seg (rs : List Rw) (s : Nat) (l : List Rw) : Prop := ∀ (i : Nat) (r : Rw), l[i]? = some r → rs[s + i]? = some r
theorem Seg.left {rs : List Rw} {s : Nat} {a b : List Rw} (h : Seg rs s (a ++ b)) : Seg rs s a := fun i r e => h i r (by rw [List.getElem?_append_left (List.getElem?_eq_some_iff.mp e).1]; exact e)
theorem Seg.right {rs : List Rw} {s n : Nat} {a b : List Rw} (h : Seg rs s (a ++ b)) (hn : a.length = n) : Seg rs (s + n) b := fun i r e => by
  have := h (a.length + i) r (by rw [List.getElem?_append_right (by omega)]; simpa using e)
  rw [← hn, Nat.add_assoc]
  exact this
theorem Seg.hd {rs : List Rw} {s : Nat} {r : Rw} {l : List Rw} (h : Seg rs s (r :: l)) : rs[s]? = some r := h 0 r rfl
theorem Seg.tl {rs : List Rw} {s : Nat} {r : Rw} {l : List Rw} (h : Seg rs s (r :: l)) : Seg rs (s + 1) l := fun i x e => by
  have := h (i + 1) x (by simpa using e)
  rw [Nat.add_assoc, Nat.add_comm 1]
  exact this
theorem Sts.one {nums : List Fr} {rs : List Rw} {r : Rw} {a0 a1 : Nat} {s0 s1 : List Fr} {k0 k1 : KV} (h : rs[a0]? = some r) (hs : Stp nums r a0 s0 k0 a1 s1 k1) : Sts nums rs a0 s0 k0 a1 s1 k1 := .cons h hs (.nil _ _ _)
abbrev k7 : L2.Key := .inl 7
abbrev k3 : L2.Key := .inl 3
abbrev v7 : T := .d (fr (5, 2))
theorem run_M {nums : List Fr} {rs : List Rw} {f : Bool} (hn : Nm nums) : ∀ {d : Nat} {M : Mx}, MOk f d M → d ≤ 3 → ∀ (s : Nat) (st : List Fr) (kv : KV), Seg rs s (M.rows s) → st.length + M.len < 900 → kv.length + M.len < 900 → (f = true → getK kv k7 = some v7) →
    ∃ kv', Sts nums rs s st kv (s + M.len) (st ++ [M.ev nums]) kv' ∧ (f = true → getK kv' k7 = some v7) ∧ kv'.length ≤ kv.length + M.len
  | d, .push p, h, hd, s, st, kv, hs, h1, h2, h3 => ⟨kv, .one hs.hd (.push p s st kv (by omega)), h3, by omega⟩
  | d, .data i, h, hd, s, st, kv, hs, h1, h2, h3 => by
    have h : i < 3 := by cases d <;> exact h
    obtain ⟨x, e, sx⟩ := hn.get h
    have ev : (Mx.data i).ev nums = x := by simp [Mx.ev, e]
    rw [ev]
    exact ⟨kv, .one hs.hd (.data i x s st kv (by omega) e), h3, by omega⟩
  | d, .load, h, hd, s, st, kv, hs, h1, h2, h3 => by
    have h : f = true := by cases d <;> exact h
    exact ⟨kv, .one hs.hd (.load 7 (5, 2) s st kv (by omega) (h3 h)), h3, by omega⟩
  | d + 1, .tim a p, h, hd, s, st, kv, hs, h1, h2, h3 => by
    have ga := ((gd_ev hn h.1).mono (bd_le (show d ≤ 3 by omega))).good
    have gp := ((gd_small h.2).mono (show 5 ≤ 50000000 by decide)).good
    unfold Mx.rows at hs
    unfold Mx.len at h1 h2 ⊢
    obtain ⟨k1, e1, q1, l1⟩ := run_M hn h.1 (by omega) s st kv hs.left (by omega) (by omega) h3
    refine ⟨k1, e1.trans (.one (hs.right (a.rows_len s)).hd ?_), q1, by omega⟩
    exact .times p _ _ st k1 (by omega) ga gp
  | d + 1, .kep a, h, hd, s, st, kv, hs, h1, h2, h3 => by
    have ga := ((gd_ev (d := d) (M := a) hn h).mono (bd_le (show d ≤ 3 by omega))).good
    unfold Mx.rows at hs
    unfold Mx.len at h1 h2 ⊢
    obtain ⟨k1, e1, q1, l1⟩ := run_M (d := d) (M := a) hn h (by omega) s st kv hs.left (by omega) (by omega) h3
    have s1 := hs.right (a.rows_len s)
    have lk := setK_len k1 k3 (T.d (fr (a.ev nums)))
    have gk : getK (setK k1 k3 (T.d (fr (a.ev nums)))) k3 = some (.d (fr (a.ev nums))) := getK_set_self
    refine ⟨setK k1 k3 (.d (fr (a.ev nums))), e1.trans ?_, fun hf => by rw [getK_set_ne (by decide)]; exact q1 hf, by omega⟩
    refine .cons s1.hd (.keep 3 _ _ st k1 (by omega)) (.cons s1.tl.hd (.load 3 _ _ st _ (by omega) gk) (.cons s1.tl.tl.hd (.load 3 _ _ _ _ (by simp; omega) gk) ?_))
    refine .one s1.tl.tl.tl.hd ?_
    rw [List.append_assoc]
    exact .op 0 _ _ _ st _ (by omega) ga ga
  | d + 1, .bin o a b, h, hd, s, st, kv, hs, h1, h2, h3 => by
    have ga := ((gd_ev hn h.1).mono (bd_le (show d ≤ 3 by omega))).good
    have gb := ((gd_ev hn h.2).mono (bd_le (show d ≤ 3 by omega))).good
    have pa := a.len_pos
    unfold Mx.rows at hs
    unfold Mx.len at h1 h2 ⊢
    obtain ⟨k1, e1, q1, l1⟩ := run_M hn h.1 (by omega) s st kv hs.left.left (by omega) (by omega) h3
    obtain ⟨k2, e2, q2, l2⟩ := run_M hn h.2 (by omega) (s + a.len) (st ++ [a.ev nums]) k1 (hs.left.right (a.rows_len s)) (by simp; omega) (by omega) q1
    have s3 := hs.right (n := a.len + b.len) (by rw [List.length_append, a.rows_len, b.rows_len])
    refine ⟨k2, e1.trans (e2.trans ?_), q2, by omega⟩
    rw [List.append_assoc]
    have e3 : s + a.len + b.len = s + (a.len + b.len) := by omega
    rw [e3]
    exact .one s3.hd (.op o _ _ _ st _ (by omega) ga gb)
  | d + 1, .cnd a b c, h, hd, s, st, kv, hs, h1, h2, h3 => by
    unfold Mx.rows at hs
    unfold Mx.len at h1 h2 ⊢
    have pa := a.len_pos
    obtain ⟨k1, e1, q1, l1⟩ := run_M hn h.1 (by omega) s st kv hs.left.left.left.left (by omega) (by omega) h3
    have su := (hs.left.left.left.right (a.rows_len s)).hd
    have sb := hs.left.left.right (n := a.len + 1) (by rw [List.length_append, a.rows_len]; rfl)
    have sj := (hs.left.right (n := a.len + 1 + b.len) (by rw [List.length_append, List.length_append, a.rows_len, b.rows_len]; rfl)).hd
    have sc := hs.right (n := a.len + 1 + b.len + 1) (by rw [List.length_append, List.length_append, List.length_append, a.rows_len, b.rows_len]; rfl)
    by_cases hz : a.ev nums = (0, 1)
    · have ev : (Mx.cnd a b c).ev nums = c.ev nums := if_pos hz
      have e4 : s + (a.len + 1 + b.len + 1) = s + a.len + b.len + 2 := by omega
      rw [e4] at sc
      obtain ⟨k2, e2, q2, l2⟩ := run_M hn h.2.2 (by omega) (s + a.len + b.len + 2) st k1 sc (by omega) (by omega) q1
      refine ⟨k2, e1.trans (.cons su (.unless0 _ _ _ st k1 hz) ?_), q2, by omega⟩
      rw [ev]
      have e5 : s + (a.len + b.len + c.len + 2) = s + a.len + b.len + 2 + c.len := by omega
      rw [e5]
      exact e2
    · have ev : (Mx.cnd a b c).ev nums = b.ev nums := if_neg hz
      have e4 : s + (a.len + 1) = s + a.len + 1 := by omega
      rw [e4] at sb
      obtain ⟨k2, e2, q2, l2⟩ := run_M hn h.2.1 (by omega) (s + a.len + 1) st k1 sb (by omega) (by omega) q1
      refine ⟨k2, e1.trans (.cons su (.unless1 _ _ _ st k1 hz) (e2.trans ?_)), q2, by omega⟩
      rw [ev]
      have e5 : s + (a.len + b.len + c.len + 2) = s + a.len + b.len + 2 + c.len := by omega
      have e6 : s + a.len + 1 + b.len = s + (a.len + 1 + b.len) := by omega
      rw [e5, e6]
      exact .one sj (.jump _ _ _ _)
/-- the drawn rows, whole -/
def whole (f : Bool) (M : Mx) : List Rw := if f = true then [.push (5, 2), .keep 7] ++ M.rows 2 else M.rows 0
theorem run_whole {nums : List Fr} {f : Bool} {M : Mx} (hn : Nm nums) (h : MOk f 3 M) : ∃ kv, Sts nums (whole f M) 0 [] [] (whole f M).length [M.ev nums] kv := by
  have hl := h.len_le
  have hl2 : M.len + 2 ≤ 256 := hl
  cases f with
  | true =>
    have sg : Seg (whole true M) 2 (M.rows 2) := fun i r e => by
      show ([Rw.push (5, 2), .keep 7] ++ M.rows 2)[2 + i]? = some r
      rw [List.getElem?_append_right (by simp)]
      simpa using e
    obtain ⟨kv, e, _, _⟩ := run_M hn h (Nat.le_refl _) 2 [] (setK [] k7 v7) sg (by simp; omega) (by simp [setK]; omega) (fun _ => getK_set_self)
    have el : (whole true M).length = 2 + M.len := by
      show ([Rw.push (5, 2), .keep 7] ++ M.rows 2).length = _
      rw [List.length_append, M.rows_len]
      rfl
    rw [el]
    exact ⟨kv, .cons (r := .push (5, 2)) rfl (.push (5, 2) 0 [] [] (by simp)) (.cons (r := .keep 7) rfl (.keep 7 (5, 2) 1 [] [] (by simp)) e)⟩
  | false =>
    have sg : Seg (whole false M) 0 (M.rows 0) := fun i r e => by
      show (M.rows 0)[0 + i]? = some r
      rw [Nat.zero_add]
      exact e
    obtain ⟨kv, e, _, _⟩ := run_M hn h (Nat.le_refl _) 0 [] [] sg (by simp; omega) (by simp; omega) (fun q => by cases q)
    have el : (whole false M).length = 0 + M.len := by
      show (M.rows 0).length = _
      rw [M.rows_len, Nat.zero_add]
    rw [el]
    exact ⟨kv, e⟩
end G
end
section
set_option Elab.async false
set_option linter.all false
set_option maxRecDepth 100000
set_option maxHeartbeats 1000000
namespace G
open PySem Y
variable {W : Wd} {k : Nat} {cs : Cs}
/-! rows that the machine can run, each by itself -/
def RO (L at_ : Nat) : Rw → Prop
  | .push p => Small p
  | .data i => i < 3
  | .load i => i ≤ 99
  | .keep i => i ≤ 99
  | .jump j => at_ < j ∧ j ≤ L
  | .unless j => at_ < j ∧ j ≤ L
  | .times p => Small p
  | .op _ => True
theorem RO.mono {L L' a : Nat} {r : Rw} (h : RO L a r) (hl : L ≤ L') : RO L' a r := by
  cases r with
  | jump j => exact ⟨h.1, Nat.le_trans h.2 hl⟩
  | «unless» j => exact ⟨h.1, Nat.le_trans h.2 hl⟩
  | _ => exact h
def ROs (L s : Nat) (l : List Rw) : Prop := ∀ (i : Nat) (r : Rw), l[i]? = some r → RO L (s + i) r
theorem ROs.nil {L s : Nat} : ROs L s [] := fun i r h => by simp at h
theorem ROs.cons {L s : Nat} {r : Rw} {l : List Rw} (h : RO L s r) (hl : ROs L (s + 1) l) : ROs L s (r :: l) := fun i x e => by
  cases i with
  | zero =>
    have : r = x := by simpa using e
    subst this
    exact h
  | succ i =>
    have := hl i x (by simpa using e)
    rw [Nat.add_assoc, Nat.add_comm 1] at this
    exact this
theorem ROs.app {L s n : Nat} {a b : List Rw} (ha : ROs L s a) (hn : a.length = n) (hb : ROs L (s + n) b) : ROs L s (a ++ b) := fun i x e => by
  by_cases h : i < a.length
  · exact ha i x (by rw [List.getElem?_append_left h] at e; exact e)
  · rw [List.getElem?_append_right (by omega)] at e
    have := hb _ x e
    have e2 : s + n + (i - a.length) = s + i := by omega
    rw [e2] at this
    exact this
theorem ROs.mono {L L' s : Nat} {l : List Rw} (h : ROs L s l) (hl : L ≤ L') : ROs L' s l := fun i r e => (h i r e).mono hl
theorem len_tim {a : Mx} {p : Fr} : (Mx.tim a p).len = a.len + 1 := rfl
theorem len_kep {a : Mx} : (Mx.kep a).len = a.len + 4 := rfl
theorem len_bin {o : Fin 4} {a b : Mx} : (Mx.bin o a b).len = a.len + b.len + 1 := rfl
theorem len_cnd {a b c : Mx} : (Mx.cnd a b c).len = a.len + b.len + c.len + 2 := rfl
theorem ro_M {f : Bool} : ∀ {d : Nat} {M : Mx}, MOk f d M → ∀ s : Nat, ROs (s + M.len) s (M.rows s)
  | d, .push p, h, s => .cons (show Small p by cases d <;> exact h) .nil
  | d, .data i, h, s => .cons (show i < 3 by cases d <;> exact h) .nil
  | d, .load, h, s => .cons (show 7 ≤ 99 by decide) .nil
  | d + 1, .tim a p, h, s => ((ro_M h.1 s).mono (by simp only [len_tim, len_kep, len_bin, len_cnd]; omega)).app (a.rows_len s) (.cons h.2 .nil)
  | d + 1, .kep a, h, s => ((ro_M (d := d) (M := a) h s).mono (by simp only [len_tim, len_kep, len_bin, len_cnd]; omega)).app (a.rows_len s) (.cons (show 3 ≤ 99 by decide) (.cons (show 3 ≤ 99 by decide) (.cons (show 3 ≤ 99 by decide) (.cons trivial .nil))))
  | d + 1, .bin o a b, h, s => by
    refine ((((ro_M h.1 s).mono ?_).app (a.rows_len s) ((ro_M h.2 (s + a.len)).mono ?_)).app (n := a.len + b.len) (by rw [List.length_append, a.rows_len, b.rows_len]) (.cons trivial .nil)) <;> simp only [len_tim, len_kep, len_bin, len_cnd] <;> omega
  | d + 1, .cnd a b c, h, s => by
    have pa := a.len_pos
    have pc := c.len_pos
    have hb := (ro_M h.2.1 (s + a.len + 1)).mono (L' := s + (Mx.cnd a b c).len) (by simp only [len_tim, len_kep, len_bin, len_cnd]; omega)
    have hc := (ro_M h.2.2 (s + a.len + b.len + 2)).mono (L' := s + (Mx.cnd a b c).len) (by simp only [len_tim, len_kep, len_bin, len_cnd]; omega)
    have e1 : s + a.len + 1 = s + (a.len + 1) := by omega
    have e2 : s + a.len + b.len + 2 = s + (a.len + 1 + b.len + 1) := by omega
    have hb' : ROs (s + (Mx.cnd a b c).len) (s + (a.len + 1)) (b.rows (s + a.len + 1)) := by rw [← e1]; exact hb
    have hc' : ROs (s + (Mx.cnd a b c).len) (s + (a.len + 1 + b.len + 1)) (c.rows (s + a.len + b.len + 2)) := by rw [← e2]; exact hc
    refine ((((((ro_M h.1 s).mono ?_).app (a.rows_len s) (.cons ?_ .nil)).app (n := a.len + 1) (by rw [List.length_append, a.rows_len]; rfl) hb').app (n := a.len + 1 + b.len) (by rw [List.length_append, List.length_append, a.rows_len, b.rows_len]; rfl) (.cons ?_ .nil)).app (n := a.len + 1 + b.len + 1) (by rw [List.length_append, List.length_append, List.length_append, a.rows_len, b.rows_len]; rfl) hc')
    · simp only [len_tim, len_kep, len_bin, len_cnd]; omega
    · exact ⟨by omega, by simp only [len_tim, len_kep, len_bin, len_cnd]; omega⟩
    · exact ⟨by omega, by simp only [len_tim, len_kep, len_bin, len_cnd]; omega⟩
theorem whole_len {f : Bool} {M : Mx} : (whole f M).length = (if f = true then 2 else 0) + M.len := by
  cases f with
  | true =>
    show ([Rw.push (5, 2), .keep 7] ++ M.rows 2).length = _
    rw [List.length_append, M.rows_len]
    rfl
  | false =>
    show (M.rows 0).length = _
    rw [M.rows_len]
    simp
theorem ro_whole {f : Bool} {M : Mx} (h : MOk f 3 M) : ROs (whole f M).length 0 (whole f M) := by
  rw [whole_len]
  cases f with
  | true => exact ROs.app (n := 2) (.cons (show Small (5, 2) by decide) (.cons (show 7 ≤ 99 by decide) .nil)) rfl (ro_M h 2)
  | false =>
    show ROs (0 + M.len) 0 (M.rows 0)
    exact ro_M h 0
theorem orB_f {f g : BF} {ρ : Rho} {c c1 : Cs} (h : f ρ c = .ok false c1) : orB f g ρ c = g ρ c1 := by
  unfold orB
  rw [h]
  rfl
theorem notB_of {f : BF} {ρ : Rho} {c c1 : Cs} {b : Bool} (h : f ρ c = .ok b c1) : notB f ρ c = .ok (!b) c1 := by
  unfold notB
  rw [h]
  rfl
theorem un_of {op : T → Cs → Y.R T} {f : EF} {ρ : Rho} {c c1 : Cs} {t : T} (h : f ρ c = .ok t c1) : un op f ρ c = op t c1 := by
  unfold un
  rw [h]
  rfl
theorem isi_tup {ds : List PyData} : isiT "tuple" [.d (.tuple ds)] cs = .ok (.d (.bool true)) cs := by simp [isiT, tyT, kit_tt]

theorem lay_s : (PyData.str "push").canLay0 = true ∧ (PyData.str "data").canLay0 = true ∧ (PyData.str "load").canLay0 = true ∧ (PyData.str "keep").canLay0 = true ∧ (PyData.str "jump").canLay0 = true ∧ (PyData.str "unless").canLay0 = true ∧ (PyData.str "times").canLay0 = true ∧ (PyData.str "add").canLay0 = true ∧ (PyData.str "sub").canLay0 = true ∧ (PyData.str "less").canLay0 = true ∧ (PyData.str "same").canLay0 = true := by decide +kernel
theorem lay_hd (r : Rw) : (PyData.str r.hd).canLay0 = true := by
  obtain ⟨a, b, c, d, e, f, g, h, i, j, l⟩ := lay_s
  cases r with
  | op o => rcases fin4 o with rfl | rfl | rfl | rfl <;> assumption
  | _ => assumption
theorem shaped_row (r : Rw) : SeqAt.shaped (.tuple (.str r.hd :: r.tl)) = true := by
  have := lay_hd r
  cases r <;> simp [SeqAt.shaped, Rw.tl, PyData.canLay0, PyData.canLayAll0, PyData.depth, PyData.depthAll] <;> (simp only [PyData.canLay0] at this; exact this)
theorem eq_nil (r : Rw) : eqT (.d (.tuple (.str r.hd :: r.tl))) (.d (.tuple [])) cs = .ok (.d (.bool false)) cs := by
  have h := shaped_row r
  have h2 : SeqAt.shaped (.tuple []) = true := by decide +kernel
  have h3 : PyData.eqv (.tuple (.str r.hd :: r.tl)) (.tuple []) = false := by simp [PyData.eqv, PyData.eqvAll]
  unfold eqT eqD
  simp only [toD, h, h2, h3, and_self, if_true]
theorem Rw.ln_eq (r : Rw) : r.ln = r.tl.length + 1 := by cases r <;> rfl
/-- behind the first two questions -/
theorem row_head (hW : KD W) {r : Rw} {M' : Lv} : b_13 W (Tb W (k + 3)) M' [some (.d (.tuple (.str r.hd :: r.tl)))] cs = tq_b_13_2 W (Tb W (k + 3)) M' [some (.d (.tuple (.str r.hd :: r.tl)))] cs := by
  rw [tqe_b_13, tqe_b_13_1]
  have hi : un (fun t cs => isiT "tuple" [t] cs) (fun ρ cs => getV ρ 0 cs) [some (.d (.tuple (.str r.hd :: r.tl)))] cs = .ok (.d (.bool true)) cs := isi_tup (ds := .str r.hd :: r.tl)
  refine Eq.trans (seq_if_f (c1 := cs) ?_) ?_
  · refine (orB_f (notB_of (val_of hi))).trans ?_
    refine (orB_f (tst_of (bin_of rfl (tup_of (ds := []) rfl rfl (by simp)) (eq_nil r)))).trans ?_
    refine (orB_f (notB_of (val_of ((callE_of (consA_of (bin_of rfl rfl it0) rfl)).trans (is_string_str _))))).trans ?_
    exact tst_of (bin_of (bin_of rfl rfl it0) rfl (hW.ni r _))
  refine seq_if_f (notB_of (b := true) (val_of ((callE_of (consA_of rfl (consA_of (bin_of rfl (bin_of rfl rfl it0) (hW.ln r _)) rfl))).trans ((is_tuple_of_tup _ _).trans ?_))))
  rw [r.ln_eq]
  simp
theorem inp_push : inT W (.d (.str "push")) (.d (.tuple [.str "push", .str "times"])) cs = .ok (.d (.bool true)) cs := by rfl
theorem ink_push : inT W (.d (.str "push")) (.d (.tuple [.str "keep", .str "load"])) cs = .ok (.d (.bool false)) cs := by rfl
theorem inj_push : ninT W (.d (.str "push")) (.d (.tuple [.str "jump", .str "unless"])) cs = .ok (.d (.bool true)) cs := by rfl
theorem inp_data : inT W (.d (.str "data")) (.d (.tuple [.str "push", .str "times"])) cs = .ok (.d (.bool false)) cs := by rfl
theorem ink_data : inT W (.d (.str "data")) (.d (.tuple [.str "keep", .str "load"])) cs = .ok (.d (.bool false)) cs := by rfl
theorem inj_data : ninT W (.d (.str "data")) (.d (.tuple [.str "jump", .str "unless"])) cs = .ok (.d (.bool true)) cs := by rfl
theorem inp_load : inT W (.d (.str "load")) (.d (.tuple [.str "push", .str "times"])) cs = .ok (.d (.bool false)) cs := by rfl
theorem ink_load : inT W (.d (.str "load")) (.d (.tuple [.str "keep", .str "load"])) cs = .ok (.d (.bool true)) cs := by rfl
theorem inj_load : ninT W (.d (.str "load")) (.d (.tuple [.str "jump", .str "unless"])) cs = .ok (.d (.bool true)) cs := by rfl
theorem inp_keep : inT W (.d (.str "keep")) (.d (.tuple [.str "push", .str "times"])) cs = .ok (.d (.bool false)) cs := by rfl
theorem ink_keep : inT W (.d (.str "keep")) (.d (.tuple [.str "keep", .str "load"])) cs = .ok (.d (.bool true)) cs := by rfl
theorem inj_keep : ninT W (.d (.str "keep")) (.d (.tuple [.str "jump", .str "unless"])) cs = .ok (.d (.bool true)) cs := by rfl
theorem inp_jump : inT W (.d (.str "jump")) (.d (.tuple [.str "push", .str "times"])) cs = .ok (.d (.bool false)) cs := by rfl
theorem ink_jump : inT W (.d (.str "jump")) (.d (.tuple [.str "keep", .str "load"])) cs = .ok (.d (.bool false)) cs := by rfl
theorem inj_jump : ninT W (.d (.str "jump")) (.d (.tuple [.str "jump", .str "unless"])) cs = .ok (.d (.bool false)) cs := by rfl
theorem inp_unless : inT W (.d (.str "unless")) (.d (.tuple [.str "push", .str "times"])) cs = .ok (.d (.bool false)) cs := by rfl
theorem ink_unless : inT W (.d (.str "unless")) (.d (.tuple [.str "keep", .str "load"])) cs = .ok (.d (.bool false)) cs := by rfl
theorem inj_unless : ninT W (.d (.str "unless")) (.d (.tuple [.str "jump", .str "unless"])) cs = .ok (.d (.bool false)) cs := by rfl
theorem inp_times : inT W (.d (.str "times")) (.d (.tuple [.str "push", .str "times"])) cs = .ok (.d (.bool true)) cs := by rfl
theorem ink_times : inT W (.d (.str "times")) (.d (.tuple [.str "keep", .str "load"])) cs = .ok (.d (.bool false)) cs := by rfl
theorem inj_times : ninT W (.d (.str "times")) (.d (.tuple [.str "jump", .str "unless"])) cs = .ok (.d (.bool true)) cs := by rfl
theorem inp_o0 : inT W (.d (.str (opS 0))) (.d (.tuple [.str "push", .str "times"])) cs = .ok (.d (.bool false)) cs := by rfl
theorem ink_o0 : inT W (.d (.str (opS 0))) (.d (.tuple [.str "keep", .str "load"])) cs = .ok (.d (.bool false)) cs := by rfl
theorem inj_o0 : ninT W (.d (.str (opS 0))) (.d (.tuple [.str "jump", .str "unless"])) cs = .ok (.d (.bool true)) cs := by rfl
theorem inp_o1 : inT W (.d (.str (opS 1))) (.d (.tuple [.str "push", .str "times"])) cs = .ok (.d (.bool false)) cs := by rfl
theorem ink_o1 : inT W (.d (.str (opS 1))) (.d (.tuple [.str "keep", .str "load"])) cs = .ok (.d (.bool false)) cs := by rfl
theorem inj_o1 : ninT W (.d (.str (opS 1))) (.d (.tuple [.str "jump", .str "unless"])) cs = .ok (.d (.bool true)) cs := by rfl
theorem inp_o2 : inT W (.d (.str (opS 2))) (.d (.tuple [.str "push", .str "times"])) cs = .ok (.d (.bool false)) cs := by rfl
theorem ink_o2 : inT W (.d (.str (opS 2))) (.d (.tuple [.str "keep", .str "load"])) cs = .ok (.d (.bool false)) cs := by rfl
theorem inj_o2 : ninT W (.d (.str (opS 2))) (.d (.tuple [.str "jump", .str "unless"])) cs = .ok (.d (.bool true)) cs := by rfl
theorem inp_o3 : inT W (.d (.str (opS 3))) (.d (.tuple [.str "push", .str "times"])) cs = .ok (.d (.bool false)) cs := by rfl
theorem ink_o3 : inT W (.d (.str (opS 3))) (.d (.tuple [.str "keep", .str "load"])) cs = .ok (.d (.bool false)) cs := by rfl
theorem inj_o3 : ninT W (.d (.str (opS 3))) (.d (.tuple [.str "jump", .str "unless"])) cs = .ok (.d (.bool true)) cs := by rfl
theorem code_row (hW : KD W) {r : Rw} {L a : Nat} (hL : L ≤ 3000) (h : RO L a r) : Tb W (k + 4) 13 [.d r.d] cs = .ok (.d (.bool true)) cs := by
  rw [tb_13, r.d_eq]
  have fin : ∀ {x : PyData}, tq_b_13_2 W (Tb W (k + 3)) (tabs W (k + 3)).2 [some (.d (.tuple (.str r.hd :: r.tl)))] cs = .rt (.d x) cs → fnF N_13.length ps_13.length (b_13 W (Tb W (k + 3)) (tabs W (k + 3)).2) [.d (.tuple (.str r.hd :: r.tl))] cs = .ok (.d x) cs := fun {x} e => (fn_rt rfl ((row_head (k := k) hW).trans e)).trans leave_same
  have isf : ∀ {p : Fr}, Small p → Tb W (k + 3) 8 [.d (fr p)] cs = .ok (.d (.bool true)) cs := fun {p} hp => (is_fraction_ok hp.2.1).trans (by rw [decide_eq_true hp.1])
  refine fin ?_
  rw [tqe_b_13_2]
  cases r with
  | push p => exact seq_if_t (tst_of (bin_of (bin_of rfl rfl it0) (tup_of (consA_of rfl (consA_of rfl rfl)) rfl (by simp)) inp_push)) (ret_of ((callE_of (consA_of (sl1 rfl) rfl)).trans (isf h)))
  | times p => exact seq_if_t (tst_of (bin_of (bin_of rfl rfl it0) (tup_of (consA_of rfl (consA_of rfl rfl)) rfl (by simp)) inp_times)) (ret_of ((callE_of (consA_of (sl1 rfl) rfl)).trans (isf h)))
  | keep i =>
    have h : i ≤ 99 := h
    rw [tqe_b_13_3]
    exact (seq_if_f (tst_of (bin_of (bin_of rfl rfl it0) (tup_of (consA_of rfl (consA_of rfl rfl)) rfl (by simp)) inp_keep))).trans (seq_if_t (tst_of (bin_of (bin_of rfl rfl it0) (tup_of (consA_of rfl (consA_of rfl rfl)) rfl (by simp)) ink_keep)) (ret_of ((callE_of (consA_of (bin_of rfl rfl it1) (consA_of rfl (consA_of rfl rfl)))).trans ((is_between_int _ _ _).trans (by rw [decide_eq_true ⟨by omega, by omega⟩])))))
  | load i =>
    have h : i ≤ 99 := h
    rw [tqe_b_13_3]
    exact (seq_if_f (tst_of (bin_of (bin_of rfl rfl it0) (tup_of (consA_of rfl (consA_of rfl rfl)) rfl (by simp)) inp_load))).trans (seq_if_t (tst_of (bin_of (bin_of rfl rfl it0) (tup_of (consA_of rfl (consA_of rfl rfl)) rfl (by simp)) ink_load)) (ret_of ((callE_of (consA_of (bin_of rfl rfl it1) (consA_of rfl (consA_of rfl rfl)))).trans ((is_between_int _ _ _).trans (by rw [decide_eq_true ⟨by omega, by omega⟩])))))
  | data i =>
    have h : i < 3 := h
    rw [tqe_b_13_3, tqe_b_13_4]
    exact (seq_if_f (tst_of (bin_of (bin_of rfl rfl it0) (tup_of (consA_of rfl (consA_of rfl rfl)) rfl (by simp)) inp_data))).trans ((seq_if_f (tst_of (bin_of (bin_of rfl rfl it0) (tup_of (consA_of rfl (consA_of rfl rfl)) rfl (by simp)) ink_data))).trans (seq_if_t (tst_of (bin_of (bin_of rfl rfl it0) rfl eqs_t)) (ret_of ((callE_of (consA_of (bin_of rfl rfl it1) (consA_of rfl (consA_of rfl rfl)))).trans ((is_between_int _ _ _).trans (by rw [decide_eq_true ⟨by omega, by omega⟩]))))))
  | jump j =>
    have h : a < j ∧ j ≤ L := h
    rw [tqe_b_13_3, tqe_b_13_4, tqe_b_13_5]
    exact (seq_if_f (tst_of (bin_of (bin_of rfl rfl it0) (tup_of (consA_of rfl (consA_of rfl rfl)) rfl (by simp)) inp_jump))).trans ((seq_if_f (tst_of (bin_of (bin_of rfl rfl it0) (tup_of (consA_of rfl (consA_of rfl rfl)) rfl (by simp)) ink_jump))).trans ((seq_if_f (tst_of (bin_of (bin_of rfl rfl it0) rfl (eqs_f (by dsimp only [Rw.hd, opS]; decide +kernel))))).trans (ret_of ((orE_f (bin_of (bin_of rfl rfl it0) rfl inj_jump)).trans ((callE_of (consA_of (bin_of rfl rfl it1) (consA_of rfl (consA_of rfl rfl)))).trans ((is_between_int _ _ _).trans (by rw [decide_eq_true ⟨by omega, by omega⟩])))))))
  | «unless» j =>
    have h : a < j ∧ j ≤ L := h
    rw [tqe_b_13_3, tqe_b_13_4, tqe_b_13_5]
    exact (seq_if_f (tst_of (bin_of (bin_of rfl rfl it0) (tup_of (consA_of rfl (consA_of rfl rfl)) rfl (by simp)) inp_unless))).trans ((seq_if_f (tst_of (bin_of (bin_of rfl rfl it0) (tup_of (consA_of rfl (consA_of rfl rfl)) rfl (by simp)) ink_unless))).trans ((seq_if_f (tst_of (bin_of (bin_of rfl rfl it0) rfl (eqs_f (by dsimp only [Rw.hd, opS]; decide +kernel))))).trans (ret_of ((orE_f (bin_of (bin_of rfl rfl it0) rfl inj_unless)).trans ((callE_of (consA_of (bin_of rfl rfl it1) (consA_of rfl (consA_of rfl rfl)))).trans ((is_between_int _ _ _).trans (by rw [decide_eq_true ⟨by omega, by omega⟩])))))))
  | op o =>
    rw [tqe_b_13_3, tqe_b_13_4, tqe_b_13_5]
    rcases fin4 o with rfl | rfl | rfl | rfl
    · exact (seq_if_f (tst_of (bin_of (bin_of rfl rfl it0) (tup_of (consA_of rfl (consA_of rfl rfl)) rfl (by simp)) inp_o0))).trans ((seq_if_f (tst_of (bin_of (bin_of rfl rfl it0) (tup_of (consA_of rfl (consA_of rfl rfl)) rfl (by simp)) ink_o0))).trans ((seq_if_f (tst_of (bin_of (bin_of rfl rfl it0) rfl (eqs_f (by dsimp only [Rw.hd, opS]; decide +kernel))))).trans (ret_of (orE_t (bin_of (bin_of rfl rfl it0) rfl inj_o0)))))
    · exact (seq_if_f (tst_of (bin_of (bin_of rfl rfl it0) (tup_of (consA_of rfl (consA_of rfl rfl)) rfl (by simp)) inp_o1))).trans ((seq_if_f (tst_of (bin_of (bin_of rfl rfl it0) (tup_of (consA_of rfl (consA_of rfl rfl)) rfl (by simp)) ink_o1))).trans ((seq_if_f (tst_of (bin_of (bin_of rfl rfl it0) rfl (eqs_f (by dsimp only [Rw.hd, opS]; decide +kernel))))).trans (ret_of (orE_t (bin_of (bin_of rfl rfl it0) rfl inj_o1)))))
    · exact (seq_if_f (tst_of (bin_of (bin_of rfl rfl it0) (tup_of (consA_of rfl (consA_of rfl rfl)) rfl (by simp)) inp_o2))).trans ((seq_if_f (tst_of (bin_of (bin_of rfl rfl it0) (tup_of (consA_of rfl (consA_of rfl rfl)) rfl (by simp)) ink_o2))).trans ((seq_if_f (tst_of (bin_of (bin_of rfl rfl it0) rfl (eqs_f (by dsimp only [Rw.hd, opS]; decide +kernel))))).trans (ret_of (orE_t (bin_of (bin_of rfl rfl it0) rfl inj_o2)))))
    · exact (seq_if_f (tst_of (bin_of (bin_of rfl rfl it0) (tup_of (consA_of rfl (consA_of rfl rfl)) rfl (by simp)) inp_o3))).trans ((seq_if_f (tst_of (bin_of (bin_of rfl rfl it0) (tup_of (consA_of rfl (consA_of rfl rfl)) rfl (by simp)) ink_o3))).trans ((seq_if_f (tst_of (bin_of (bin_of rfl rfl it0) rfl (eqs_f (by dsimp only [Rw.hd, opS]; decide +kernel))))).trans (ret_of (orE_t (bin_of (bin_of rfl rfl it0) rfl inj_o3)))))
end G
end
section
set_option Elab.async false
set_option linter.all false
set_option maxRecDepth 100000
set_option maxHeartbeats 1000000
namespace G
open PySem Y
variable {W : Wd} {k : Nat} {cs : Cs}
/-! all rows -/
theorem lam_row (hW : KD W) {r : Rw} {L a : Nat} {t : T} (hL : L ≤ 3000) (h : RO L a r) : Tb W (k + 5) 500 [.d r.d, t] cs = .ok (.d (.bool true)) cs := by
  rw [tb_500]
  unfold lamF
  rw [if_pos (show ([T.d r.d, t] : List T).length = psL_0.length from rfl)]
  have e : bL_0 W (Tb W (k + 4)) (tabs W (k + 4)).2 (startR NL_0.length [.d r.d, t]) cs = .ok (.d (.bool true)) cs := (callE_of (consA_of rfl rfl)).trans (code_row hW hL h)
  rw [e]
  exact leave_same
theorem callL_of {is : List Nat} {tab : Nat → FF} {i j : Nat} {g : AF} {ρ : Rho} {c c1 : Cs} {ts : List T} (h : getV ρ i c = .ok (.clo j []) c) (hj : j ∈ is) (hg : g ρ c = .ok ts c1) : callL is tab i g ρ c = tab j ts c1 := by
  unfold callL
  rw [h]
  dsimp only [R.bind]
  rw [hg]
  dsimp only [R.bind]
  rw [if_pos hj]
theorem sl_to {f g : EF} {ρ : Rho} {c : Cs} {ds : List PyData} {i : Int} (h : f ρ c = .ok (.d (.tuple ds)) c) (hg : g ρ c = .ok (.d (.int i)) c) : ∃ es, sliceE slcT f noO (someO g) ρ c = .ok (.d (.tuple es)) c := by
  refine ⟨cutL ds none (some i), ?_⟩
  unfold sliceE
  rw [h]
  dsimp only [R.bind, noO]
  unfold someO
  rw [hg]
  rfl
theorem enum_of {g : AF} {ρ : Rho} {c c1 : Cs} {ds : List PyData} (h : g ρ c = .ok [.d (.tuple ds)] c1) : enumI g ρ c = .ok (enumL 0 ds, fun _ => True) c1 := by
  have e : ∀ l : List PyData, allD (l.map T.d) = some l := fun l => by
    induction l with
    | nil => rfl
    | cons x l ih => simp [allD, ih]
  unfold enumI
  rw [h]
  simp only [R.bind_ok, asQ, asT, e]
  rfl
/-- no row is wrong -/
theorem first_loop (hW : KD W) {L : Nat} (hL : L ≤ 3000) {M' : Lv} {v : T} {ds : List PyData} : ∀ (rs : List Rw) (s : Nat), ROs L s rs → ∀ x2 x3 : Option T, ∃ y2 y3, forL (fun _ => True) (.tp [(.nm 2), (.nm 3)]) (lb_6_0 W (Tb W (k + 5)) M') (enumL s (rs.map Rw.d)) [some (.d (.tuple ds)), some (.clo 0 []), x2, x3] cs = .nx [some (.d (.tuple ds)), some (.clo 0 []), y2, y3] cs
  | [], s, _, x2, x3 => ⟨x2, x3, forL_nil trivial⟩
  | r :: rs, s, h, x2, x3 => by
    have h0 : RO L s r := h 0 r rfl
    have ht : ROs L (s + 1) rs := fun i x e => by
      have := h (i + 1) x (by simpa using e)
      rw [Nat.add_assoc, Nat.add_comm 1]
      exact this
    obtain ⟨y2, y3, e⟩ := first_loop hW hL (M' := M') (v := v) rs (s + 1) ht (some (.d (.int (s : Nat)))) (some (.d r.d))
    refine ⟨y2, y3, ?_⟩
    have eb : lb_6_0 W (Tb W (k + 5)) M' [some (.d (.tuple ds)), some (.clo 0 []), some (.d (.int (s : Nat))), some (.d r.d)] cs = .nx [some (.d (.tuple ds)), some (.clo 0 []), some (.d (.int (s : Nat))), some (.d r.d)] cs := by
      obtain ⟨es, e1⟩ := sl_to (f := fun ρ cs => getV ρ 0 cs) (g := fun ρ cs => getV ρ 2 cs) (ρ := [some (.d (.tuple ds)), some (.clo 0 []), some (.d (.int (s : Nat))), some (.d r.d)]) (c := cs) rfl rfl
      have eg : consA (fun ρ cs => getV ρ 3 cs) (consA (sliceE slcT (fun ρ cs => getV ρ 0 cs) noO (someO (fun ρ cs => getV ρ 2 cs))) nilA) [some (.d (.tuple ds)), some (.clo 0 []), some (.d (.int (s : Nat))), some (.d r.d)] cs = .ok [.d r.d, .d (.tuple es)] cs := consA_of rfl (consA_of e1 rfl)
      unfold lb_6_0
      exact (ifS_f (notB_of (b := true) (val_of ((callL_of (is := [0]) rfl List.mem_cons_self eg).trans (lam_row hW hL h0))))).trans rfl
    rw [List.map_cons, enumL, forL, if_pos trivial]
    have ea : asgP (.tp [(.nm 2), (.nm 3)]) (.d (.tuple [.int (s : Nat), r.d])) cs [some (.d (.tuple ds)), some (.clo 0 []), x2, x3] = some [some (.d (.tuple ds)), some (.clo 0 []), some (.d (.int (s : Nat))), some (.d r.d)] := rfl
    rw [ea]
    dsimp only
    rw [eb]
    exact e
theorem first_ok (hW : KD W) {rs : List Rw} {L : Nat} (hL : L ≤ 3000) (h : ROs L 0 rs) : Tb W (k + 6) 6 [.d (.tuple (rs.map Rw.d)), .clo 0 []] cs = .ok (.d .none) cs := by
  rw [tb_6, bq_6]
  obtain ⟨y2, y3, e⟩ := first_loop (k := k) (cs := cs) hW hL (M' := (tabs W (k + 5)).2) (v := .d .none) (ds := rs.map Rw.d) rs 0 h none none
  exact (fn_rt rfl ((seq_nx ((forS_of (enum_of (consA_of rfl rfl))).trans e)).trans (ret_of rfl))).trans leave_same
/-! all([..]) of what is so -/
theorem lcL_trues {keep : Cs → Prop} {p : Pat} {tt : BF} {e : EF} {ρ : Rho} {c : Cs} (hk : keep c) : ∀ {ts : List T}, (∀ t ∈ ts, ∃ ρ1, asgP p t c ρ = some ρ1 ∧ (tt ρ1 c = .ok false c ∨ (tt ρ1 c = .ok true c ∧ e ρ1 c = .ok (.d (.bool true)) c))) → ∃ n, lcL keep p tt e ρ ts c = .ok (List.replicate n (.d (.bool true))) c
  | [], _ => ⟨0, by rw [lcL, if_pos hk]; rfl⟩
  | t :: ts, h => by
    obtain ⟨n, e1⟩ := lcL_trues hk (ts := ts) fun t ht => h t (List.mem_cons_of_mem _ ht)
    obtain ⟨ρ1, h1, h2⟩ := h t List.mem_cons_self
    rcases h2 with h2 | ⟨h2, h3⟩
    · refine ⟨n, ?_⟩
      rw [lcL, if_pos hk, h1]
      simp only [h2, R.bind_ok, Bool.false_eq_true, if_false]
      exact e1
    · refine ⟨n + 1, ?_⟩
      rw [lcL, if_pos hk, h1]
      simp only [h2, R.bind_ok, if_true, h3, e1]
      rfl
theorem trues_data : ∀ n : Nat, allD (List.replicate n (T.d (.bool true))) = some (List.replicate n (.bool true))
  | 0 => rfl
  | n + 1 => by rw [List.replicate_succ, List.replicate_succ]; simp [allD, trues_data n]
theorem trues_all : ∀ n : Nat, boolsOf (List.replicate n (T.d (.bool true))) = some (List.replicate n true)
  | 0 => rfl
  | n + 1 => by rw [List.replicate_succ, List.replicate_succ]; simp [boolsOf, trues_all n]
theorem all_trues {f : IF} {vs : List Nat} {p : Pat} {tt : BF} {e : EF} {ρ : Rho} {c c1 : Cs} {ts : List T} {keep : Cs → Prop} (hf : f ρ c = .ok (ts, keep) c1) (hl : ts.length ≤ 3000) (hk : keep c1) (h : ∀ t ∈ ts, ∃ ρ1, asgP p t c1 (wipeR ρ vs) = some ρ1 ∧ (tt ρ1 c1 = .ok false c1 ∨ (tt ρ1 c1 = .ok true c1 ∧ e ρ1 c1 = .ok (.d (.bool true)) c1))) :
    app allT (consA (lcE f vs p tt e) nilA) ρ c = .ok (.d (.bool true)) c1 := by
  obtain ⟨n, e1⟩ := lcL_trues (keep := keep) (p := p) (tt := tt) (e := e) (ρ := wipeR ρ vs) hk h
  have hz : sizeLine = 16777216 := sizeLine_eq
  have e2 : lcE f vs p tt e ρ c = .ok (.d (.list (List.replicate n (.bool true)))) c1 := by
    unfold lcE lcA
    rw [hf]
    simp only [R.bind_ok]
    rw [if_pos (by omega), e1]
    simp only [R.bind_ok, trues_data]
  refine (app_of (consA_of e2 rfl)).trans ?_
  unfold allT listB
  have e3 : asL c1 (.d (.list (List.replicate n (.bool true)))) = some (List.replicate n (.d (.bool true))) := by
    show some ((List.replicate n (PyData.bool true)).map T.d) = _
    rw [List.map_replicate]
  dsimp only
  rw [e3]
  dsimp only
  rw [trues_all]
  simp
theorem mem_enum : ∀ {l : List PyData} {s : Nat} {t : T}, t ∈ enumL s l → ∃ i x, l[i]? = some x ∧ t = .d (.tuple [.int ((s + i : Nat) : Int), x])
  | [], s, t, h => by cases h
  | d :: ds, s, t, h => by
    rw [enumL] at h
    rcases List.mem_cons.mp h with h | h
    · exact ⟨0, d, rfl, h⟩
    · obtain ⟨i, x, h1, h2⟩ := mem_enum h
      refine ⟨i + 1, x, by simpa using h1, ?_⟩
      rw [h2]
      have : s + 1 + i = s + (i + 1) := by omega
      rw [this]
theorem chn_t {op op' : T → T → Cs → Y.R T} {f g h : EF} {ρ : Rho} {c c1 c2 c3 c4 : Cs} {t u w : T} {r : Y.R T} (h1 : f ρ c = .ok t c1) (h2 : g ρ c1 = .ok u c2) (h3 : op t u c2 = .ok (.d (.bool true)) c3) (h4 : h ρ c3 = .ok w c4) (h5 : op' u w c4 = r) : chn op op' f g h ρ c = r := by
  unfold chn
  rw [h1]
  dsimp only [R.bind]
  rw [h2]
  dsimp only [R.bind]
  rw [h3]
  dsimp only [R.bind]
  rw [h4]
  exact h5
theorem le_t {a b : Int} (h : a ≤ b) : inb (fun i j => decide (i ≤ j)) (.d (.int a)) (.d (.int b)) cs = .ok (.d (.bool true)) cs := by simp [inb, h]
theorem inj_or (r : Rw) : (∃ j, r = .jump j) ∨ (∃ j, r = .unless j) ∨ ninT W (.d (.str r.hd)) (.d (.tuple [.str "jump", .str "unless"])) cs = .ok (.d (.bool true)) cs := by
  cases r with
  | jump j => exact .inl ⟨j, rfl⟩
  | «unless» j => exact .inr (.inl ⟨j, rfl⟩)
  | push => exact .inr (.inr inj_push)
  | data => exact .inr (.inr inj_data)
  | load => exact .inr (.inr inj_load)
  | keep => exact .inr (.inr inj_keep)
  | times => exact .inr (.inr inj_times)
  | op o => rcases fin4 o with rfl | rfl | rfl | rfl <;> first | exact .inr (.inr inj_o0) | exact .inr (.inr inj_o1) | exact .inr (.inr inj_o2) | exact .inr (.inr inj_o3)
theorem lead_ok {rs : List Rw} (hl : rs.length ≤ 3000) (h : ROs rs.length 0 rs) : Tb W (k + 1) 14 [.d (.tuple (rs.map Rw.d))] cs = .ok (.d (.bool true)) cs := by
  rw [tb_14]
  unfold b_14
  refine (fn_rt rfl (ret_of (all_trues (enum_of (consA_of rfl rfl)) (by rw [enumL_len]; simpa using hl) trivial fun t ht => ?_))).trans leave_same
  obtain ⟨i, x, h1, rfl⟩ := mem_enum ht
  rw [List.getElem?_map] at h1
  obtain ⟨r, hr, rfl⟩ := Option.map_eq_some_iff.mp h1
  have ro := h i r hr
  rw [Nat.zero_add] at ro ⊢
  refine ⟨[some (.d (.tuple (rs.map Rw.d))), some (.d (.int (i : Nat))), some (.d r.d)], rfl, .inr ⟨rfl, ?_⟩⟩
  rcases inj_or (W := W) (cs := cs) r with ⟨j, rfl⟩ | ⟨j, rfl⟩ | hj
  · have ro : i < j ∧ j ≤ rs.length := ro
    exact (orE_f (bin_of (bin_of rfl rfl it0) rfl inj_jump)).trans (chn_t rfl (bin_of rfl rfl it1) (lt_t (by omega)) ((app_of (consA_of rfl rfl)).trans (len_tup (n := rs.length) (by simp))) (le_t (by omega)))
  · have ro : i < j ∧ j ≤ rs.length := ro
    exact (orE_f (bin_of (bin_of rfl rfl it0) rfl inj_unless)).trans (chn_t rfl (bin_of rfl rfl it1) (lt_t (by omega)) ((app_of (consA_of rfl rfl)).trans (len_tup (n := rs.length) (by simp))) (le_t (by omega)))
  · rw [r.d_eq]
    exact orE_t (bin_of (bin_of rfl rfl it0) rfl hj)
theorem seqI_tup {f : EF} {ρ : Rho} {c c1 : Cs} {ds : List PyData} (h : f ρ c = .ok (.d (.tuple ds)) c1) : seqI f ρ c = .ok (ds.map T.d, keepOf c1 (.d (.tuple ds))) c1 := by
  unfold seqI
  rw [h]
  rfl
theorem data_or (r : Rw) : (∃ i, r = .data i) ∨ r.hd ≠ ("data" : Str) := by
  cases r with
  | data i => exact .inl ⟨i, rfl⟩
  | op o => rcases fin4 o with rfl | rfl | rfl | rfl <;> exact .inr (by dsimp only [Rw.hd, opS]; decide +kernel)
  | _ => exact .inr (by dsimp only [Rw.hd]; decide +kernel)
theorem numbers_ok {rs : List Rw} {nums : List Fr} {L : Nat} (hl : rs.length ≤ 3000) (h : ROs L 0 rs) (hn : Nm nums) : Tb W (k + 4) 21 [.d (.tuple (rs.map Rw.d)), .d (.tuple (nums.map fr))] cs = .ok (.d (.bool true)) cs := by
  rw [tb_21]
  unfold b_21
  have hi : un (fun t cs => isiT "tuple" [t] cs) (fun ρ cs => getV ρ 1 cs) (startR N_21.length [.d (.tuple (rs.map Rw.d)), .d (.tuple (nums.map fr))]) cs = .ok (.d (.bool true)) cs := isi_tup (ds := nums.map fr)
  have hl3 := hn.len
  refine (fn_rt rfl ((seq_if_f ((orB_f (notB_of (b := true) (val_of hi))).trans (notB_of (b := true) (val_of (all_trues (seqI_tup (ds := nums.map fr) rfl) (by simp; omega) trivial fun t ht => ?_))))).trans (ret_of (all_trues (seqI_tup (ds := rs.map Rw.d) rfl) (by simpa using hl) trivial fun t ht => ?_)))).trans leave_same
  · obtain ⟨d, hd, rfl⟩ := List.mem_map.mp ht
    obtain ⟨p, hp, rfl⟩ := List.mem_map.mp hd
    have sp := hn.sm p hp
    refine ⟨_, rfl, .inr ⟨rfl, ?_⟩⟩
    exact (callE_of (consA_of rfl rfl)).trans ((is_fraction_ok sp.2.1).trans (by rw [decide_eq_true sp.1]))
  · obtain ⟨d, hd, rfl⟩ := List.mem_map.mp ht
    obtain ⟨r, hr, rfl⟩ := List.mem_map.mp hd
    obtain ⟨i, hi⟩ := List.getElem?_of_mem hr
    have ro := h i r hi
    refine ⟨_, rfl, ?_⟩
    rcases data_or r with ⟨j, rfl⟩ | hne
    · have ro : j < 3 := ro
      exact .inr ⟨tst_of (bin_of (bin_of rfl rfl it0) rfl eqs_t), bin_of (bin_of rfl rfl it1) ((app_of (consA_of rfl rfl)).trans (len_tup (n := 3) (by simp [hl3]))) (lt_t (by omega))⟩
    · refine .inl (tst_of (bin_of (bin_of rfl rfl ?_) rfl (eqs_f hne)))
      rw [r.d_eq]
      exact it0
end G
end
section
set_option Elab.async false
set_option linter.all false
set_option maxRecDepth 100000
set_option maxHeartbeats 1000000
namespace G
open PySem Y
/-! which ways lead to a row: heights and kept cells, by themselves -/
abbrev Ab := Nat → Option (Nat × KV)
def meet (had later : KV) : KV := dcAcc later (had.map (·.1)) []
def lead1 (A : Ab) (to v : Nat) (later : KV) : Ab := fun j => if j = to then (match A to with
  | none => some (v, later)
  | some (_, had) => some (v, meet had later)) else A j
def laterOf (r : Rw) (kd : KV) : KV := match r with
  | .keep i => setK kd (.inl (i : Int)) (.d (.bool true))
  | _ => kd
def nexts (r : Rw) (at_ : Nat) : List Nat := match r with
  | .jump j => [j]
  | .unless j => [at_ + 1, j]
  | _ => [at_ + 1]
def leads (A : Ab) (v : Nat) (later : KV) : List Nat → Ab
  | [] => A
  | to :: tos => leads (lead1 A to v later) v later tos
/-- a row can be looked at -/
structure Lk (rs : List Rw) (at_ : Nat) (r : Rw) (v : Nat) (kd : KV) (A : Ab) : Prop where
  row : rs[at_]? = some r
  cur : A at_ = some (v, kd)
  tk : r.takes ≤ v
  ld : ∀ i, r = .load i → (getK kd (.inl (i : Int))).isSome = true
  nx : ∀ to ∈ nexts r at_, at_ < to ∧ to ≤ rs.length
  cm : ∀ to ∈ nexts r at_, ∀ v' kd', A to = some (v', kd') → v' = v - r.takes + r.leaves
  sz : ∀ j v' kd', A j = some (v', kd') → kd'.length ≤ j
def lookA (r : Rw) (at_ v : Nat) (kd : KV) (A : Ab) : Ab := leads A (v - r.takes + r.leaves) (laterOf r kd) (nexts r at_)
inductive Lks (rs : List Rw) : Nat → Nat → Ab → Ab → Prop
  | nil (s : Nat) (A : Ab) : Lks rs s s A A
  | cons {s e : Nat} {r : Rw} {v : Nat} {kd : KV} {A A' : Ab} : Lk rs s r v kd A → Lks rs (s + 1) e (lookA r s v kd A) A' → Lks rs s e A A'
theorem Lks.trans {rs : List Rw} {s m e : Nat} {A B C : Ab} (h : Lks rs s m A B) : Lks rs m e B C → Lks rs s e A C := by
  induction h with
  | nil => exact id
  | cons h1 _ ih => exact fun h => .cons h1 (ih h)
def Sz (A : Ab) : Prop := ∀ j v kd, A j = some (v, kd) → kd.length ≤ j
theorem acc_len {ls : KV} : ∀ (ks : List L2.Key) (acc : KV), (dcAcc ls ks acc).length ≤ acc.length + ks.length
  | [], acc => by simp [dcAcc]
  | k :: ks, acc => by
    rw [dcAcc_cons]
    have h := acc_len (ls := ls) ks (if (getK ls k).isSome then setK acc k (.d (.bool true)) else acc)
    have h2 := setK_len acc k (T.d (.bool true))
    generalize hg : (if (getK ls k).isSome then setK acc k (T.d (.bool true)) else acc) = a2 at h ⊢
    have h3 : a2.length ≤ acc.length + 1 := by
      rw [← hg]
      split <;> omega
    simp only [List.length_cons]
    omega
theorem meet_len (had later : KV) : (meet had later).length ≤ had.length := by
  have := acc_len (ls := later) (had.map (·.1)) []
  simpa [meet] using this
theorem acc_has {ls : KV} {k : L2.Key} : ∀ (ks : List L2.Key) (acc : KV), ((getK acc k).isSome = true ∨ (k ∈ ks ∧ (getK ls k).isSome = true)) → (getK (dcAcc ls ks acc) k).isSome = true
  | [], acc, h => by
    rcases h with h | ⟨h, _⟩
    · exact h
    · cases h
  | x :: ks, acc, h => by
    rw [dcAcc_cons]
    refine acc_has ks _ ?_
    by_cases hx : (getK ls x).isSome = true
    · rw [if_pos hx]
      by_cases e : x = k
      · subst e
        left
        rw [getK_set_self]
        rfl
      · rcases h with h | ⟨h, h2⟩
        · left
          rw [getK_set_ne e]
          exact h
        · right
          rcases List.mem_cons.mp h with h | h
          · exact absurd h.symm e
          · exact ⟨h, h2⟩
    · rw [if_neg hx]
      rcases h with h | ⟨h, h2⟩
      · exact .inl h
      · rcases List.mem_cons.mp h with h | h
        · rw [← h] at hx
          exact absurd h2 hx
        · exact .inr ⟨h, h2⟩
theorem has_mem {k : L2.Key} : ∀ {l : KV}, (getK l k).isSome = true → k ∈ l.map (·.1)
  | [], h => by cases h
  | (a, x) :: l, h => by
    rw [getK_cons] at h
    by_cases e : a = k
    · rw [List.map_cons, e]
      exact List.mem_cons_self
    · rw [if_neg e] at h
      exact List.mem_cons_of_mem _ (has_mem h)
theorem meet_has {k : L2.Key} {had later : KV} (h1 : (getK had k).isSome = true) (h2 : (getK later k).isSome = true) : (getK (meet had later) k).isSome = true := acc_has _ _ (.inr ⟨has_mem h1, h2⟩)
theorem lead1_same {A : Ab} {to v : Nat} {later : KV} : lead1 A to v later to = some (v, match A to with
    | none => later
    | some (_, had) => meet had later) := by
  unfold lead1
  rw [if_pos rfl]
  cases A to with
  | none => rfl
  | some p => rfl
theorem lead1_ne {A : Ab} {to v j : Nat} {later : KV} (h : j ≠ to) : lead1 A to v later j = A j := by
  unfold lead1
  rw [if_neg h]
theorem lead1_sz {A : Ab} {to v : Nat} {later : KV} (h : Sz A) (hl : later.length ≤ to) : Sz (lead1 A to v later) := fun j w kd e => by
  by_cases hj : j = to
  · subst hj
    rw [lead1_same] at e
    injection e with e
    injection e with e1 e2
    rw [← e2]
    cases q : A j with
    | none => exact hl
    | some p =>
      obtain ⟨w', had⟩ := p
      exact Nat.le_trans (meet_len had later) (h j w' had q)
  · rw [lead1_ne hj] at e
    exact h j w kd e
theorem later_len (r : Rw) (kd : KV) : (laterOf r kd).length ≤ kd.length + 1 := by
  cases r with
  | keep i => exact setK_len kd _ _
  | _ => exact Nat.le_succ _
/-- one look that leads to the next row alone -/
theorem look_one {rs : List Rw} {s v : Nat} {r : Rw} {kd : KV} {A : Ab} (hr : rs[s]? = some r) (hc : A s = some (v, kd)) (ht : r.takes ≤ v) (hl : ∀ i, r = .load i → (getK kd (.inl (i : Int))).isSome = true) (hn : nexts r s = [s + 1]) (hs : s + 1 ≤ rs.length)
    (hm : ∀ v' kd', A (s + 1) = some (v', kd') → v' = v - r.takes + r.leaves) (hz : Sz A) : Lk rs s r v kd A ∧ lookA r s v kd A = lead1 A (s + 1) (v - r.takes + r.leaves) (laterOf r kd) ∧ Sz (lookA r s v kd A) := by
  have e : lookA r s v kd A = lead1 A (s + 1) (v - r.takes + r.leaves) (laterOf r kd) := by
    unfold lookA
    rw [hn]
    rfl
  refine ⟨⟨hr, hc, ht, hl, fun to h => ?_, fun to h => ?_, hz⟩, e, ?_⟩
  · rw [hn] at h
    cases List.mem_singleton.mp h
    exact ⟨by omega, hs⟩
  · rw [hn] at h
    cases List.mem_singleton.mp h
    exact hm
  · rw [e]
    refine lead1_sz hz ?_
    have := later_len r kd
    have := hz _ _ _ hc
    omega
structure Post (f : Bool) (s e v : Nat) (A A' : Ab) : Prop where
  kd : ∃ kd, A' e = some (v + 1, kd) ∧ (f = true → (getK kd k7).isSome = true)
  fr : ∀ j, j ≤ s ∨ e < j → A' j = A j
  sz : Sz A'
structure Pre (f : Bool) (s e v : Nat) (A : Ab) : Prop where
  kd : ∃ kd, A s = some (v, kd) ∧ (f = true → (getK kd k7).isSome = true)
  md : ∀ j, s < j → j < e → A j = none
  en : ∀ v' kd, A e = some (v', kd) → v' = v + 1 ∧ (f = true → (getK kd k7).isSome = true)
  sz : Sz A
/-- a row that leads to the next one alone, at the end of a part -/
theorem look_last {rs : List Rw} {f : Bool} {s v w : Nat} {r : Rw} {kd : KV} {A : Ab} (hr : rs[s]? = some r) (hc : A s = some (v, kd)) (ht : r.takes ≤ v) (hl : ∀ i, r = .load i → (getK kd (.inl (i : Int))).isSome = true) (hn : nexts r s = [s + 1]) (hs : s + 1 ≤ rs.length)
    (hw : v - r.takes + r.leaves = w) (hm : ∀ v' kd', A (s + 1) = some (v', kd') → v' = w ∧ (f = true → (getK kd' k7).isSome = true)) (hz : Sz A) (h7 : f = true → (getK (laterOf r kd) k7).isSome = true) :
    ∃ A', Lks rs s (s + 1) A A' ∧ (∃ kd', A' (s + 1) = some (w, kd') ∧ (f = true → (getK kd' k7).isSome = true) ∧ (A (s + 1) = none → kd' = laterOf r kd)) ∧ (∀ j, j ≠ s + 1 → A' j = A j) ∧ Sz A' := by
  obtain ⟨h1, h2, h3⟩ := look_one hr hc ht hl hn hs (fun v' kd' e => by rw [hw]; exact (hm v' kd' e).1) hz
  refine ⟨_, .cons h1 (.nil _ _), ?_, fun j hj => ?_, h3⟩
  · rw [h2, lead1_same, hw]
    cases q : A (s + 1) with
    | none => exact ⟨_, rfl, h7, fun _ => rfl⟩
    | some p =>
      obtain ⟨v', had⟩ := p
      exact ⟨_, rfl, fun hf => meet_has ((hm v' had q).2 hf) (h7 hf), fun h => by cases h⟩
  · rw [h2, lead1_ne hj]
theorem look_M {rs : List Rw} {f : Bool} : ∀ {d : Nat} {M : Mx}, MOk f d M → ∀ (s v : Nat) (A : Ab), Seg rs s (M.rows s) → s + M.len ≤ rs.length → Pre f s (s + M.len) v A → ∃ A', Lks rs s (s + M.len) A A' ∧ Post f s (s + M.len) v A A'
  | d, .push p, h, s, v, A, hs, hb, hp => by
    obtain ⟨kd, hc, h7⟩ := hp.kd
    obtain ⟨A', l, ⟨kd', e1, e2, _⟩, e3, e4⟩ := look_last (f := f) (w := v + 1) hs.hd hc (Nat.zero_le _) (fun i e => by cases e) rfl hb rfl hp.en hp.sz h7
    exact ⟨A', l, ⟨kd', e1, e2⟩, fun j hj => e3 j (by unfold Mx.len at hj; omega), e4⟩
  | d, .data i, h, s, v, A, hs, hb, hp => by
    obtain ⟨kd, hc, h7⟩ := hp.kd
    obtain ⟨A', l, ⟨kd', e1, e2, _⟩, e3, e4⟩ := look_last (f := f) (w := v + 1) hs.hd hc (Nat.zero_le _) (fun i e => by cases e) rfl hb rfl hp.en hp.sz h7
    exact ⟨A', l, ⟨kd', e1, e2⟩, fun j hj => e3 j (by unfold Mx.len at hj; omega), e4⟩
  | d, .load, h, s, v, A, hs, hb, hp => by
    have hf : f = true := by cases d <;> exact h
    obtain ⟨kd, hc, h7⟩ := hp.kd
    obtain ⟨A', l, ⟨kd', e1, e2, _⟩, e3, e4⟩ := look_last (f := f) (w := v + 1) hs.hd hc (Nat.zero_le _) (fun i e => by cases e; exact h7 hf) rfl hb rfl hp.en hp.sz h7
    exact ⟨A', l, ⟨kd', e1, e2⟩, fun j hj => e3 j (by unfold Mx.len at hj; omega), e4⟩
  | d + 1, .tim a p, h, s, v, A, hs, hb, hp => by
    have pa := a.len_pos
    unfold Mx.rows at hs
    have hlen : (Mx.tim a p).len = a.len + 1 := rfl
    rw [hlen] at hb hp ⊢
    obtain ⟨A1, l1, q1⟩ := look_M h.1 s v A hs.left (by omega) ⟨hp.kd, fun j h1 h2 => hp.md j h1 (by omega), fun v' kd e => (by rw [hp.md _ (by omega) (by omega)] at e; cases e), hp.sz⟩
    obtain ⟨kd, hc, h7⟩ := q1.kd
    obtain ⟨A2, l2, ⟨kd', e1, e2, _⟩, e3, e4⟩ := look_last (f := f) (w := v + 1) (hs.right (a.rows_len s)).hd hc (by simp [Rw.takes]) (fun i e => by cases e) rfl (by omega) (by simp [Rw.takes, Rw.leaves]) (fun v' kd' e => hp.en v' kd' (by rw [← q1.fr _ (by omega)]; exact e)) q1.sz h7
    exact ⟨A2, l1.trans l2, ⟨kd', e1, e2⟩, fun j hj => (by rw [e3 j (by omega), q1.fr j (by omega)]), e4⟩
  | d + 1, .kep a, h, s, v, A, hs, hb, hp => by
    have pa := a.len_pos
    unfold Mx.rows at hs
    have hlen : (Mx.kep a).len = a.len + 4 := rfl
    rw [hlen] at hb hp ⊢
    obtain ⟨A1, l1, q1⟩ := look_M (d := d) (M := a) h s v A hs.left (by omega) ⟨hp.kd, fun j h1 h2 => hp.md j h1 (by omega), fun v' kd e => (by rw [hp.md _ (by omega) (by omega)] at e; cases e), hp.sz⟩
    obtain ⟨kd, hc, h7⟩ := q1.kd
    have s1 := hs.right (a.rows_len s)
    have n1 : A1 (s + a.len + 1) = none := by rw [q1.fr _ (by omega)]; exact hp.md _ (by omega) (by omega)
    obtain ⟨A2, l2, ⟨k2, e21, e22, e23⟩, f2, z2⟩ := look_last (f := f) (w := v) s1.hd hc (by simp [Rw.takes]) (fun i e => by cases e) rfl (by omega) (by simp [Rw.takes, Rw.leaves]) (fun v' kd' e => by rw [n1] at e; cases e) q1.sz (fun hf => by
      show (getK (setK kd k3 _) k7).isSome = true
      rw [getK_set_ne (by decide)]; exact h7 hf)
    have hk2 : k2 = setK kd k3 (.d (.bool true)) := e23 n1
    have l3 : (getK k2 k3).isSome = true := by rw [hk2, getK_set_self]; rfl
    have n2 : A2 (s + a.len + 1 + 1) = none := by rw [f2 _ (by omega), q1.fr _ (by omega)]; exact hp.md _ (by omega) (by omega)
    obtain ⟨A3, l3', ⟨k4, e31, e32, e33⟩, f3, z3⟩ := look_last (f := f) (w := v + 1) s1.tl.hd e21 (by simp [Rw.takes]) (fun i e => by cases e; exact l3) rfl (by omega) (by simp [Rw.takes, Rw.leaves]) (fun v' kd' e => by rw [n2] at e; cases e) z2 e22
    have hk4 : k4 = k2 := e33 n2
    subst hk4
    have n3 : A3 (s + a.len + 1 + 1 + 1) = none := by rw [f3 _ (by omega), f2 _ (by omega), q1.fr _ (by omega)]; exact hp.md _ (by omega) (by omega)
    obtain ⟨A4, l4, ⟨k5, e41, e42, e43⟩, f4, z4⟩ := look_last (f := f) (w := v + 2) s1.tl.tl.hd e31 (by simp [Rw.takes]) (fun i e => by cases e; exact l3) rfl (by omega) (by simp [Rw.takes, Rw.leaves]) (fun v' kd' e => by rw [n3] at e; cases e) z3 e32
    obtain ⟨A5, l5, ⟨k6, e51, e52, e53⟩, f5, z5⟩ := look_last (f := f) (w := v + 1) s1.tl.tl.tl.hd e41 (by simp [Rw.takes]) (fun i e => by cases e) rfl (by omega) (by simp [Rw.takes, Rw.leaves]) (fun v' kd' e => hp.en v' kd' (by
      have e0 : s + (a.len + 4) = s + a.len + 1 + 1 + 1 + 1 := by omega
      rw [e0, ← q1.fr _ (by omega), ← f2 _ (by omega), ← f3 _ (by omega), ← f4 _ (by omega)]; exact e)) z4 e42
    have e0 : s + (a.len + 4) = s + a.len + 1 + 1 + 1 + 1 := by omega
    rw [e0]
    exact ⟨A5, l1.trans (l2.trans (l3'.trans (l4.trans l5))), ⟨k6, e51, e52⟩, fun j hj => (by rw [f5 j (by omega), f4 j (by omega), f3 j (by omega), f2 j (by omega), q1.fr j (by omega)]), z5⟩
  | d + 1, .bin o a b, h, s, v, A, hs, hb, hp => by
    have pa := a.len_pos
    have pb := b.len_pos
    unfold Mx.rows at hs
    have hlen : (Mx.bin o a b).len = a.len + b.len + 1 := rfl
    rw [hlen] at hb hp ⊢
    obtain ⟨A1, l1, q1⟩ := look_M h.1 s v A hs.left.left (by omega) ⟨hp.kd, fun j h1 h2 => hp.md j h1 (by omega), fun v' kd e => (by rw [hp.md _ (by omega) (by omega)] at e; cases e), hp.sz⟩
    obtain ⟨A2, l2, q2⟩ := look_M h.2 (s + a.len) (v + 1) A1 (hs.left.right (a.rows_len s)) (by omega) ⟨q1.kd, fun j h1 h2 => by rw [q1.fr _ (by omega)]; exact hp.md j (by omega) (by omega), fun v' kd e => (by rw [q1.fr _ (by omega), hp.md _ (by omega) (by omega)] at e; cases e), q1.sz⟩
    obtain ⟨kd, hc, h7⟩ := q2.kd
    have s3 := hs.right (n := a.len + b.len) (by rw [List.length_append, a.rows_len, b.rows_len])
    rw [← Nat.add_assoc] at s3
    have tk : (Rw.op o).takes ≤ v + 1 + 1 := by simp [Rw.takes]
    obtain ⟨A3, l3, ⟨kd', e1, e2, _⟩, e3, e4⟩ := look_last (f := f) (w := v + 1) s3.hd hc tk (fun i e => by cases e) rfl (by omega) (by simp [Rw.takes, Rw.leaves]) (fun v' kd' e => hp.en v' kd' (by
      have e0 : s + (a.len + b.len + 1) = s + a.len + b.len + 1 := by omega
      rw [e0, ← q1.fr _ (by omega), ← q2.fr _ (by omega)]; exact e)) q2.sz h7
    have e0 : s + (a.len + b.len + 1) = s + a.len + b.len + 1 := by omega
    rw [e0]
    exact ⟨A3, l1.trans (l2.trans l3), ⟨kd', e1, e2⟩, fun j hj => (by rw [e3 j (by omega), q2.fr j (by omega), q1.fr j (by omega)]), e4⟩
  | d + 1, .cnd a b c, h, s, v, A, hs, hb, hp => by
    have pa := a.len_pos
    have pb := b.len_pos
    have pc := c.len_pos
    unfold Mx.rows at hs
    have hlen : (Mx.cnd a b c).len = a.len + b.len + c.len + 2 := rfl
    rw [hlen] at hb hp ⊢
    obtain ⟨A1, l1, q1⟩ := look_M h.1 s v A hs.left.left.left.left (by omega) ⟨hp.kd, fun j h1 h2 => hp.md j h1 (by omega), fun v' kd e => (by rw [hp.md _ (by omega) (by omega)] at e; cases e), hp.sz⟩
    obtain ⟨kd, hc, h7⟩ := q1.kd
    have su := (hs.left.left.left.right (a.rows_len s)).hd
    have sb := hs.left.left.right (n := a.len + 1) (by rw [List.length_append, a.rows_len]; rfl)
    have sj := (hs.left.right (n := a.len + 1 + b.len) (by rw [List.length_append, List.length_append, a.rows_len, b.rows_len]; rfl)).hd
    have sc := hs.right (n := a.len + 1 + b.len + 1) (by rw [List.length_append, List.length_append, List.length_append, a.rows_len, b.rows_len]; rfl)
    have n1 : A1 (s + a.len + 1) = none := by rw [q1.fr _ (by omega)]; exact hp.md _ (by omega) (by omega)
    have n2 : A1 (s + a.len + b.len + 2) = none := by rw [q1.fr _ (by omega)]; exact hp.md _ (by omega) (by omega)
    -- unless
    have zk := q1.sz _ _ _ hc
    have nxu : ∀ to ∈ nexts (.unless (s + a.len + b.len + 2)) (s + a.len), s + a.len < to ∧ to ≤ rs.length := fun to ht => by
      rcases List.mem_cons.mp ht with rfl | ht
      · exact ⟨by omega, by omega⟩
      · cases List.mem_singleton.mp ht
        exact ⟨by omega, by omega⟩
    have cmu : ∀ to ∈ nexts (.unless (s + a.len + b.len + 2)) (s + a.len), ∀ v' kd', A1 to = some (v', kd') → v' = v + 1 - (Rw.unless (s + a.len + b.len + 2)).takes + (Rw.unless (s + a.len + b.len + 2)).leaves := fun to ht v' kd' e => by
      rcases List.mem_cons.mp ht with rfl | ht
      · rw [n1] at e; cases e
      · cases List.mem_singleton.mp ht
        rw [n2] at e; cases e
    have lk : Lk rs (s + a.len) (.unless (s + a.len + b.len + 2)) (v + 1) kd A1 := ⟨su, hc, (by simp [Rw.takes]), (fun i e => by cases e), nxu, cmu, q1.sz⟩
    generalize hA2 : lookA (.unless (s + a.len + b.len + 2)) (s + a.len) (v + 1) kd A1 = A2
    have e2 : A2 = lead1 (lead1 A1 (s + a.len + 1) v kd) (s + a.len + b.len + 2) v kd := by rw [← hA2]; rfl
    have z2 : Sz A2 := by rw [e2]; exact lead1_sz (lead1_sz q1.sz (by omega)) (by omega)
    have a21 : A2 (s + a.len + 1) = some (v, kd) := by rw [e2, lead1_ne (by omega), lead1_same, n1]
    have a22 : A2 (s + a.len + b.len + 2) = some (v, kd) := by rw [e2, lead1_same, lead1_ne (by omega), n2]
    have f2 : ∀ j, j ≠ s + a.len + 1 → j ≠ s + a.len + b.len + 2 → A2 j = A1 j := fun j h1 h2 => by rw [e2, lead1_ne h2, lead1_ne h1]
    -- b
    have e4 : s + (a.len + 1) = s + a.len + 1 := by omega
    rw [e4] at sb
    obtain ⟨A3, l3, q3⟩ := look_M h.2.1 (s + a.len + 1) v A2 sb (by omega) ⟨⟨kd, a21, h7⟩, fun j h1 h2 => by rw [f2 _ (by omega) (by omega), q1.fr _ (by omega)]; exact hp.md j (by omega) (by omega), fun v' kd e => (by rw [f2 _ (by omega) (by omega), q1.fr _ (by omega), hp.md _ (by omega) (by omega)] at e; cases e), z2⟩
    obtain ⟨kb, hcb, hb7⟩ := q3.kd
    -- jump
    have e5 : s + (a.len + 1 + b.len) = s + a.len + 1 + b.len := by omega
    rw [e5] at sj
    have en3 : A3 (s + a.len + b.len + 2 + c.len) = A (s + a.len + b.len + 2 + c.len) := by rw [q3.fr _ (by omega), f2 _ (by omega) (by omega), q1.fr _ (by omega)]
    have e6 : s + (a.len + b.len + c.len + 2) = s + a.len + b.len + 2 + c.len := by omega
    have zb := q3.sz _ _ _ hcb
    have nxj : ∀ to ∈ nexts (.jump (s + a.len + b.len + 2 + c.len)) (s + a.len + 1 + b.len), s + a.len + 1 + b.len < to ∧ to ≤ rs.length := fun to ht => by
      cases List.mem_singleton.mp ht
      exact ⟨by omega, by omega⟩
    have cmj : ∀ to ∈ nexts (.jump (s + a.len + b.len + 2 + c.len)) (s + a.len + 1 + b.len), ∀ v' kd', A3 to = some (v', kd') → v' = v + 1 - (Rw.jump (s + a.len + b.len + 2 + c.len)).takes + (Rw.jump (s + a.len + b.len + 2 + c.len)).leaves := fun to ht v' kd' e => by
      cases List.mem_singleton.mp ht
      rw [en3] at e
      rw [← e6] at e
      have := (hp.en v' kd' e).1
      simp [Rw.takes, Rw.leaves, this]
    have lj : Lk rs (s + a.len + 1 + b.len) (.jump (s + a.len + b.len + 2 + c.len)) (v + 1) kb A3 := ⟨sj, hcb, (by simp [Rw.takes]), (fun i e => by cases e), nxj, cmj, q3.sz⟩
    generalize hA4 : lookA (.jump (s + a.len + b.len + 2 + c.len)) (s + a.len + 1 + b.len) (v + 1) kb A3 = A4
    have e7 : A4 = lead1 A3 (s + a.len + b.len + 2 + c.len) (v + 1) kb := by rw [← hA4]; rfl
    have z4 : Sz A4 := by rw [e7]; exact lead1_sz q3.sz (by omega)
    have a4e : ∃ k4, A4 (s + a.len + b.len + 2 + c.len) = some (v + 1, k4) ∧ (f = true → (getK k4 k7).isSome = true) := by
      rw [e7, lead1_same]
      cases q : A3 (s + a.len + b.len + 2 + c.len) with
      | none => exact ⟨_, rfl, hb7⟩
      | some p =>
        obtain ⟨v', had⟩ := p
        rw [en3, ← e6] at q
        exact ⟨_, rfl, fun hf => meet_has ((hp.en v' had q).2 hf) (hb7 hf)⟩
    have f4 : ∀ j, j ≠ s + a.len + b.len + 2 + c.len → A4 j = A3 j := fun j h1 => by rw [e7, lead1_ne h1]
    -- c
    have e8 : s + (a.len + 1 + b.len + 1) = s + a.len + b.len + 2 := by omega
    rw [e8] at sc
    have c0 : A4 (s + a.len + b.len + 2) = some (v, kd) := by rw [f4 _ (by omega), q3.fr _ (by omega)]; exact a22
    obtain ⟨k4, a4e1, a4e2⟩ := a4e
    obtain ⟨A5, l5, q5⟩ := look_M h.2.2 (s + a.len + b.len + 2) v A4 sc (by omega) ⟨⟨kd, c0, h7⟩, fun j h1 h2 => by rw [f4 _ (by omega), q3.fr _ (by omega), f2 _ (by omega) (by omega), q1.fr _ (by omega)]; exact hp.md j (by omega) (by omega), fun v' kd' e => (by rw [a4e1] at e; cases e; exact ⟨rfl, a4e2⟩), z4⟩
    rw [e6]
    have e9 : s + a.len + 1 + b.len + 1 = s + a.len + b.len + 2 := by omega
    refine ⟨A5, l1.trans (.cons lk ?_), q5.kd, fun j hj => ?_, q5.sz⟩
    · rw [hA2]
      refine l3.trans (.cons lj ?_)
      rw [hA4, e9]
      exact l5
    · rw [q5.fr j (by omega), f4 j (by omega), q3.fr j (by omega), f2 j (by omega) (by omega), q1.fr j (by omega)]
def A0 : Ab := fun j => if j = 0 then some (0, []) else none
theorem look_whole {f : Bool} {M : Mx} (h : MOk f 3 M) : ∃ A' kd, Lks (whole f M) 0 (whole f M).length A0 A' ∧ A' (whole f M).length = some (1, kd) := by
  have z0 : Sz A0 := fun j v kd e => by
    unfold A0 at e
    split at e
    · cases e; exact Nat.zero_le _
    · cases e
  have pm := M.len_pos
  have wl := whole_len (f := f) (M := M)
  cases f with
  | false =>
    rw [if_neg (by decide), Nat.zero_add] at wl
    obtain ⟨A', l, q⟩ := look_M (rs := whole false M) h 0 0 A0 (fun i r e => by
      show (M.rows 0)[0 + i]? = some r
      rw [Nat.zero_add]
      exact e) (by omega) ⟨⟨[], rfl, fun q => by cases q⟩, fun j h1 _ => by unfold A0; rw [if_neg (by omega)], fun v' kd e => (by unfold A0 at e; rw [if_neg (by omega)] at e; cases e), z0⟩
    obtain ⟨kd, e1, _⟩ := q.kd
    rw [Nat.zero_add] at l e1
    rw [wl]
    exact ⟨A', kd, l, e1⟩
  | true =>
    rw [if_pos rfl] at wl
    have n1 : A0 1 = none := rfl
    obtain ⟨A1, l1, ⟨k1, e1, _, e3⟩, f1, z1⟩ := look_last (rs := whole true M) (f := false) (s := 0) (r := .push (5, 2)) (A := A0) (kd := []) (v := 0) (w := 1) rfl rfl (by simp [Rw.takes]) (fun i e => by cases e) rfl (by omega) (by simp [Rw.takes, Rw.leaves]) (fun v' kd' e => by cases e) z0 (fun q => by cases q)
    have n2 : A1 (1 + 1) = none := by rw [f1 _ (by omega)]; rfl
    obtain ⟨A2, l2, ⟨k2, e21, _, e23⟩, f2, z2⟩ := look_last (rs := whole true M) (f := false) (s := 1) (r := .keep 7) (A := A1) (kd := k1) (v := 1) (w := 0) rfl e1 (by simp [Rw.takes]) (fun i e => by cases e) rfl (by omega) (by simp [Rw.takes, Rw.leaves]) (fun v' kd' e => by rw [n2] at e; cases e) z1 (fun q => by cases q)
    have hk2 : k2 = setK k1 k7 (.d (.bool true)) := e23 n2
    obtain ⟨A3, l3, q3⟩ := look_M (rs := whole true M) h 2 0 A2 (fun i r e => by
      show ([Rw.push (5, 2), .keep 7] ++ M.rows 2)[2 + i]? = some r
      rw [List.getElem?_append_right (by simp)]
      simpa using e) (by omega) ⟨⟨k2, e21, fun _ => by rw [hk2, getK_set_self]; rfl⟩, fun j h1 _ => by rw [f2 _ (by omega), f1 _ (by omega)]; unfold A0; rw [if_neg (by omega)], fun v' kd e => (by rw [f2 _ (by omega), f1 _ (by omega)] at e; unfold A0 at e; rw [if_neg (by omega)] at e; cases e), z2⟩
    obtain ⟨kd, e31, _⟩ := q3.kd
    rw [wl]
    exact ⟨A3, kd, l1.trans (l2.trans l3), e31⟩
end G
end
section
set_option Elab.async false
set_option linter.all false
set_option maxRecDepth 100000
set_option maxHeartbeats 1000000
namespace G
open PySem Y
variable {W : Wd} {k : Nat} {cs : Cs}
/-! the ways, in cells -/
structure KW (W : Wd) : Prop where
  rows : W.okf 0 "rows" = true
  highs : W.okf 0 "highs" = true
  kept : W.okf 0 "kept" = true
  right : W.okf 0 "is_right" = true
def selfF (rs : List Rw) (h q : Nat) : List (Str × T) := [("rows", .d (.tuple (rs.map Rw.d))), ("highs", .ref h), ("kept", .ref q), ("is_right", .d (.bool true))]
def hiD : Option (Nat × KV) → KV
  | none => []
  | some (v, _) => [(.inl (v : Int), .d (.bool true))]
def kpD (c : Cs) (hs : List Nat) (t : T) : Option (Nat × KV) → Prop
  | none => t = .d .none
  | some (_, kd) => ∃ b, t = .ref b ∧ c[b]? = some (.dk kd) ∧ b ∉ hs
structure WI (base c : Cs) (a h q : Nat) (hs : List Nat) (ks : List T) (rs : List Rw) (A : Ab) : Prop where
  pre : ∀ i, i < base.length → c[i]? = base[i]?
  ga : base.length ≤ a
  gq : base.length ≤ q
  gx : ∀ x ∈ hs, base.length ≤ x
  hq : h ≠ q
  nd : hs.Nodup
  hl : hs.length = rs.length + 1
  kl : ks.length = rs.length + 1
  self : c[a]? = some (.ins 0 (selfF rs h q))
  ch : c[h]? = some (.lst (hs.map .ref))
  cq : c[q]? = some (.lst ks)
  cx : ∀ (j x : Nat), hs[j]? = some x → c[x]? = some (.dk (hiD (A j)))
  ck : ∀ (j : Nat) (t : T), ks[j]? = some t → kpD c hs t (A j)
theorem lt_of_some {α : Type} {l : List α} {i : Nat} {x : α} (h : l[i]? = some x) : i < l.length := (List.getElem?_eq_some_iff.mp h).1
section
variable {base c : Cs} {a h q : Nat} {hs : List Nat} {ks : List T} {rs : List Rw} {A : Ab}
theorem WI.xlt (w : WI base c a h q hs ks rs A) {x : Nat} (hx : x ∈ hs) : x < c.length := by
  obtain ⟨j, hj⟩ := List.getElem?_of_mem hx
  exact lt_of_some (w.cx j x hj)
theorem WI.blt (w : WI base c a h q hs ks rs A) {b : Nat} (hb : T.ref b ∈ ks) : b < c.length := by
  obtain ⟨j, hj⟩ := List.getElem?_of_mem hb
  have := w.ck j _ hj
  cases e : A j with
  | none => rw [e] at this; cases this
  | some p =>
    rw [e] at this
    obtain ⟨b', e1, e2, _⟩ := this
    cases e1
    exact lt_of_some e2
theorem WI.grow (w : WI base c a h q hs ks rs A) {c' : Cs} (hc : ∀ i, i < c.length → c'[i]? = c[i]?) : WI base c' a h q hs ks rs A where
  pre := fun i hi => (hc i (Nat.lt_of_lt_of_le hi (Nat.le_trans w.ga (Nat.le_of_lt (lt_of_some w.self))))).trans (w.pre i hi)
  ga := w.ga
  gq := w.gq
  gx := w.gx
  hq := w.hq
  nd := w.nd
  hl := w.hl
  kl := w.kl
  self := (hc a (lt_of_some w.self)).trans w.self
  ch := (hc h (lt_of_some w.ch)).trans w.ch
  cq := (hc q (lt_of_some w.cq)).trans w.cq
  cx := fun j x e => (hc x (lt_of_some (w.cx j x e))).trans (w.cx j x e)
  ck := fun j t e => by
    have := w.ck j t e
    cases e2 : A j with
    | none => rw [e2] at this; exact this
    | some p =>
      rw [e2] at this
      obtain ⟨b, e3, e4, e5⟩ := this
      exact ⟨b, e3, (hc b (lt_of_some e4)).trans e4, e5⟩
/-- cells of a call's own cut off -/
theorem WI.cut (w : WI base c a h q hs ks rs A) {n : Nat} (hn : n ≤ c.length) (ha : a < n) (hh : h < n) (hq : q < n) (hx : ∀ x ∈ hs, x < n) (hb : ∀ b, T.ref b ∈ ks → b < n) : WI base (c.take n) a h q hs ks rs A := by
  have g : ∀ i, i < n → (c.take n)[i]? = c[i]? := fun i hi => List.getElem?_take_of_lt hi
  refine ⟨fun i hi => (g i (Nat.lt_of_lt_of_le hi (Nat.le_trans w.ga (Nat.le_of_lt ha)))).trans (w.pre i hi), w.ga, w.gq, w.gx, w.hq, w.nd, w.hl, w.kl, (g a ha).trans w.self, (g h hh).trans w.ch, (g q hq).trans w.cq, fun j x e => (g x (hx x (List.mem_of_getElem? e))).trans (w.cx j x e), fun j t e => ?_⟩
  have := w.ck j t e
  cases e2 : A j with
  | none => rw [e2] at this; exact this
  | some p =>
    rw [e2] at this
    obtain ⟨b, e3, e4, e5⟩ := this
    subst e3
    exact ⟨b, rfl, (g b (hb b (List.mem_of_getElem? e))).trans e4, e5⟩
theorem WI.leave (w0 : WI base cs a h q hs ks rs A) {c : Cs} {ks1 : List T} {A1 : Ab} (w : WI base c a h q hs ks1 rs A1) (hl : cs.length ≤ c.length) (x : PyData) : ∃ c', leaveT cs (.ok (.d x) c) = .ok (.d x) c' ∧ WI base c' a h q hs ks1 rs A1 ∧ (∀ i, i < cs.length → c'[i]? = c[i]?) ∧ cs.length ≤ c'.length := by
  unfold leaveT
  dsimp only
  by_cases hc : isData (T.d x) = true ∧ (c.take cs.length = cs ∨ (c.take cs.length).all (ltC cs.length) = true)
  · rw [if_pos hc]
    refine ⟨_, rfl, w.cut hl (lt_of_some w0.self) (lt_of_some w0.ch) (lt_of_some w0.cq) (fun x hx => w0.xlt hx) (fun b hb => ?_), fun i hi => List.getElem?_take_of_lt hi, by simp; omega⟩
    have hq := lt_of_some w0.cq
    rcases hc.2 with e | e
    · have e1 : (c.take cs.length)[q]? = some (.lst ks1) := (List.getElem?_take_of_lt hq).trans w.cq
      rw [e, w0.cq] at e1
      cases e1
      exact w0.blt hb
    · have e1 : Cell.lst ks1 ∈ c.take cs.length := List.mem_of_getElem? ((List.getElem?_take_of_lt hq).trans w.cq)
      have e2 := List.all_eq_true.mp e _ e1
      have e3 := List.all_eq_true.mp (show ks1.all (ltT cs.length) = true from e2) _ hb
      exact of_decide_eq_true e3
  · rw [if_neg hc]
    exact ⟨_, rfl, w, fun _ _ => rfl, hl⟩
theorem fld_of {f : Str} {t : T} {fo : EF} {ρ : Rho} {c1 : Cs} (h0 : fo ρ c = .ok (.ref a) c1) (hs : c1[a]? = some (.ins 0 (selfF rs h q))) (hl : (selfF rs h q).lookup f = some t) (hk : W.okf 0 f = true) : fldE W f fo ρ c = .ok t c1 := by
  unfold fldE
  rw [h0]
  dsimp only [R.bind]
  unfold fldT
  simp only [hs, hl, hk, if_true]
theorem lk_highs : (selfF rs h q).lookup ("highs" : Str) = some (.ref h) := by rfl
theorem lk_kept : (selfF rs h q).lookup ("kept" : Str) = some (.ref q) := by rfl
theorem lk_right : (selfF rs h q).lookup ("is_right" : Str) = some (.d (.bool true)) := by rfl
theorem lk_look : (selfF rs h q).lookup ("look" : Str) = none := by rfl
theorem lk_lead : (selfF rs h q).lookup ("lead" : Str) = none := by rfl
theorem WI.frows (hw : KW W) (w : WI base c a h q hs ks rs A) {ρ : Rho} (h0 : getV ρ 0 c = .ok (.ref a) c) : fldE W "rows" (fun ρ cs => getV ρ 0 cs) ρ c = .ok (.d (.tuple (rs.map Rw.d))) c := fld_of h0 w.self rfl hw.rows
theorem WI.fhighs (hw : KW W) (w : WI base c a h q hs ks rs A) {ρ : Rho} (h0 : getV ρ 0 c = .ok (.ref a) c) : fldE W "highs" (fun ρ cs => getV ρ 0 cs) ρ c = .ok (.ref h) c := fld_of h0 w.self lk_highs hw.highs
theorem WI.fkept (hw : KW W) (w : WI base c a h q hs ks rs A) {ρ : Rho} (h0 : getV ρ 0 c = .ok (.ref a) c) : fldE W "kept" (fun ρ cs => getV ρ 0 cs) ρ c = .ok (.ref q) c := fld_of h0 w.self lk_kept hw.kept
end
theorem item_cell {n i : Nat} {xs : List T} {t : T} (h : cs[n]? = some (.lst xs)) (hi : xs[i]? = some t) : itemT W (.ref n) (.d (.int (i : Nat))) cs = .ok t cs := by
  have e : asQ cs (.ref n) = some xs := by simp [asQ, asT, asL, h]
  have e2 : L2.atI xs (i : Int) = some t := atI_at (by omega) (by simpa using hi)
  unfold itemT
  simp only [e, e2]
theorem seti_dk {n : Nat} {kv : KV} {key : Int} {t : T} (h : cs[n]? = some (.dk kv)) (hl : kv.length < 1000) : setiT (.ref n) (.d (.int key)) t cs = .ok () (cs.set n (.dk (setK kv (.inl key) t))) := by
  have hz : sizeLine = 16777216 := sizeLine_eq
  unfold setiT
  simp only [h, keyT]
  rw [if_pos (by omega)]
theorem seti_lst {n i : Nat} {xs : List T} {t : T} (h : cs[n]? = some (.lst xs)) (hi : i < xs.length) : setiT (.ref n) (.d (.int (i : Nat))) t cs = .ok () (cs.set n (.lst (xs.set i t))) := by
  have e : L2.ixN xs.length (i : Int) = some i := by
    unfold L2.ixN
    rw [if_pos (by omega), if_pos (by omega)]
    simp
  unfold setiT
  simp only [h, e]
theorem hi_set {o : Option (Nat × KV)} {v : Nat} {l : KV} (h : ∀ v' kd, o = some (v', kd) → v' = v) : setK (hiD o) (.inl (v : Int)) (.d (.bool true)) = hiD (some (v, l)) := by
  cases o with
  | none => rfl
  | some p =>
    obtain ⟨v', kd⟩ := p
    have := h v' kd rfl
    subst this
    simp [hiD, setK]
theorem dict_ref {n : Nat} {kv : KV} (h : cs[n]? = some (.dk kv)) : YH.dictT W [.ref n] cs = .ok (.ref cs.length) (cs ++ [.dk kv]) := by
  unfold YH.dictT
  simp only [h]
theorem dcKK_of {v i j n m : Nat} {ρ : Rho} {ks ls : KV} (hi : getV ρ i cs = .ok (.ref n) cs) (hj : getV ρ j cs = .ok (.ref m) cs) (hn : cs[n]? = some (.dk ks)) (hm : cs[m]? = some (.dk ls)) (hne : n ≠ m) (hl : ks.length ≤ 1000) (hv : v < ρ.length) : dcKK v i j ρ cs = .ok (.ref cs.length) (cs ++ [.dk (meet ks ls)]) := by
  unfold dcKK
  rw [hi]
  dsimp only [R.bind]
  rw [hj]
  dsimp only [R.bind]
  simp only [hn, hm]
  rw [if_pos ⟨hne, hl, hv⟩]
  rfl
section
variable {base c : Cs} {a h q : Nat} {hs : List Nat} {ks : List T} {rs : List Rw} {A : Ab}
/-- one way noted -/
theorem lead_step (hw : KW W) (w : WI base c a h q hs ks rs A) (hz : Sz A) (hr : rs.length ≤ 900) {to v L : Nat} {later : KV} (ht : to ≤ rs.length) (hL : c[L]? = some (.dk later)) (hLh : L ∉ hs) (hLk : T.ref L ∉ ks) (hcm : ∀ v' kd', A to = some (v', kd') → v' = v) :
    ∃ c' ks', Tb W (k + 1) 18 [.ref a, .d (.int (to : Nat)), .d (.list [.int (v : Nat)]), .ref L] c = .ok (.d .none) c' ∧ WI base c' a h q hs ks' rs (lead1 A to v later) ∧ c'[L]? = some (.dk later) ∧ T.ref L ∉ ks' ∧ c.length ≤ c'.length := by
  obtain ⟨x, hx⟩ : ∃ x, hs[to]? = some x := ⟨hs[to]'(by rw [w.hl]; omega), List.getElem?_eq_getElem _⟩
  obtain ⟨t, hkt⟩ : ∃ t, ks[to]? = some t := ⟨ks[to]'(by rw [w.kl]; omega), List.getElem?_eq_getElem _⟩
  have hcx := w.cx to x hx
  have xm : x ∈ hs := List.mem_of_getElem? hx
  have xa : x ≠ a := fun e => by rw [e, w.self] at hcx; cases hcx
  have xh : x ≠ h := fun e => by rw [e, w.ch] at hcx; cases hcx
  have xq : x ≠ q := fun e => by rw [e, w.cq] at hcx; cases hcx
  have xL : x ≠ L := fun e => hLh (e ▸ xm)
  have Lq : L ≠ q := fun e => by rw [e, w.cq] at hL; cases hL
  have qa : q ≠ a := fun e => by have := w.cq; rw [e, w.self] at this; cases this
  have ltx := lt_of_some hcx
  have ltq := lt_of_some w.cq
  have ltL := lt_of_some hL
  -- the first write
  generalize hc1 : c.set x (.dk (hiD (some (v, later)))) = c1
  have g1 : ∀ i, i ≠ x → c1[i]? = c[i]? := fun i hi => by rw [← hc1, List.getElem?_set_ne (Ne.symm hi)]
  have g1x : c1[x]? = some (.dk (hiD (some (v, later)))) := by rw [← hc1, List.getElem?_set_self ltx]
  have l1 : c1.length = c.length := by rw [← hc1, List.length_set]
  have self1 : c1[a]? = some (.ins 0 (selfF rs h q)) := (g1 a (Ne.symm xa)).trans w.self
  have hil : (hiD (A to)).length < 1000 := by
    cases A to with
    | none => simp [hiD]
    | some p => simp [hiD]
  have e1 : ∀ x4 x5 x6 : Option T, lb_18_0 W (Tb W k) (tabs W k).2 [some (.ref a), some (.d (.int (to : Nat))), some (.d (.list [.int (v : Nat)])), some (.ref L), some (.d (.int (v : Nat))), x5, x6] c = .nx [some (.ref a), some (.d (.int (to : Nat))), some (.d (.list [.int (v : Nat)])), some (.ref L), some (.d (.int (v : Nat))), x5, x6] c1 := fun x4 x5 x6 => by
    unfold lb_18_0
    refine asg_sub rfl (bin_of (w.fhighs hw rfl) rfl (item_cell w.ch (by rw [List.getElem?_map, hx]; rfl))) rfl ?_
    rw [seti_dk hcx hil, hi_set (l := later) hcm, hc1]
  -- the new dict
  obtain ⟨kd', hnew, hA'⟩ : ∃ kd', (ifE (tst (bin isT (fun ρ cs => getV ρ 5 cs) (fun _ cs => .ok (.d .none) cs))) (app (YH.dictT W) (consA (fun ρ cs => getV ρ 3 cs) nilA)) (dcKK 6 5 3)) [some (.ref a), some (.d (.int (to : Nat))), some (.d (.list [.int (v : Nat)])), some (.ref L), some (.d (.int (v : Nat))), some t, none] c1 = .ok (.ref c1.length) (c1 ++ [.dk kd']) ∧ lead1 A to v later to = some (v, kd') := by
    have hkd := w.ck to t hkt
    cases e : A to with
    | none =>
      rw [e] at hkd
      have hkd : t = .d .none := hkd
      subst hkd
      refine ⟨later, ?_, by rw [lead1_same, e]⟩
      exact (ifE_t (tst_of (bin_of rfl rfl rfl))).trans ((app_of (consA_of rfl rfl)).trans (dict_ref ((g1 L (Ne.symm xL)).trans hL)))
    | some p =>
      obtain ⟨v', had⟩ := p
      rw [e] at hkd
      obtain ⟨b, rfl, hb, hbh⟩ := hkd
      have bx : b ≠ x := fun e => hbh (e ▸ xm)
      have bL : b ≠ L := fun e => hLk (by rw [← e]; exact List.mem_of_getElem? hkt)
      refine ⟨meet had later, ?_, by rw [lead1_same, e]⟩
      have hsz := hz to v' had e
      exact (ifE_f (tst_of (bin_of rfl rfl rfl))).trans (dcKK_of rfl rfl ((g1 b bx).trans hb) ((g1 L (Ne.symm xL)).trans hL) bL (by omega) (by simp))
  generalize hc2 : (c1 ++ [Cell.dk kd']).set q (.lst (ks.set to (.ref c1.length))) = c2
  have hqa : (c1 ++ [Cell.dk kd'])[q]? = some (.lst ks) := by
    rw [List.getElem?_append_left (by omega), g1 q (Ne.symm xq)]
    exact w.cq
  have g2 : ∀ i, i < c.length → i ≠ q → c2[i]? = c1[i]? := fun i hi hn => by
    rw [← hc2, List.getElem?_set_ne (Ne.symm hn), List.getElem?_append_left (by omega)]
  have g2q : c2[q]? = some (.lst (ks.set to (.ref c.length))) := by
    rw [← hc2, List.getElem?_set_self (by simp; omega), l1]
  have g2n : c2[c.length]? = some (.dk kd') := by
    rw [← hc2, List.getElem?_set_ne (by omega), ← l1, List.getElem?_append_right (Nat.le_refl _)]
    simp
  have l2 : c2.length = c.length + 1 := by rw [← hc2]; simp [l1]
  have e2 : b_18 W (Tb W k) (tabs W k).2 (startR N_18.length [.ref a, .d (.int (to : Nat)), .d (.list [.int (v : Nat)]), .ref L]) c = .nx [some (.ref a), some (.d (.int (to : Nat))), some (.d (.list [.int (v : Nat)])), some (.ref L), some (.d (.int (v : Nat))), some t, none] c2 := by
    rw [bq_18]
    refine (seq_nx ((forS_of (ts := [.d (.int (v : Nat))]) (keep := fun _ => True) (c1 := c) rfl).trans ((forL_one trivial (e1 none none none)).trans (forL_nil trivial)))).trans ?_
    refine (seq_nx (set_of (bin_of (fld_of (c1 := c1) (t := .ref q) rfl self1 lk_kept hw.kept) rfl (item_cell ((g1 q (Ne.symm xq)).trans w.cq) hkt)))).trans ?_
    refine asg_sub hnew (fld_of (c1 := c1 ++ [Cell.dk kd']) (t := .ref q) rfl (by rw [List.getElem?_append_left (by have := lt_of_some self1; omega)]; exact self1) lk_kept hw.kept) rfl ?_
    rw [seti_lst hqa (lt_of_some hkt), hc2]
  have w2 : WI base c2 a h q hs (ks.set to (.ref c.length)) rs (lead1 A to v later) := by
    refine ⟨fun i hi => ?_, w.ga, w.gq, w.gx, w.hq, w.nd, w.hl, by rw [List.length_set]; exact w.kl, ?_, ?_, g2q, fun j y hy => ?_, fun j u hu => ?_⟩
    · have hi2 : i < c.length := Nat.lt_of_lt_of_le hi (Nat.le_trans w.ga (Nat.le_of_lt (lt_of_some w.self)))
      have := w.gq
      have := w.gx x xm
      rw [g2 i hi2 (by omega), g1 i (by omega)]
      exact w.pre i hi
    · rw [g2 a (lt_of_some w.self) (Ne.symm qa), g1 a (Ne.symm xa)]
      exact w.self
    · rw [g2 h (lt_of_some w.ch) w.hq, g1 h (Ne.symm xh)]
      exact w.ch
    · have ym : y ∈ hs := List.mem_of_getElem? hy
      have yq : y ≠ q := fun e => by have := w.cx j y hy; rw [e, w.cq] at this; cases this
      rw [g2 y (w.xlt ym) yq]
      by_cases hj : j = to
      · subst hj
        rw [hx] at hy
        cases hy
        rw [hA']
        exact g1x
      · have yx : y ≠ x := fun e => by
          subst e
          obtain ⟨i1, j1⟩ := List.getElem?_eq_some_iff.mp hy
          obtain ⟨i2, j2⟩ := List.getElem?_eq_some_iff.mp hx
          exact hj ((List.getElem_inj w.nd).mp (j1.trans j2.symm))
        rw [lead1_ne hj, g1 y yx]
        exact w.cx j y hy
    · by_cases hj : j = to
      · subst hj
        rw [List.getElem?_set_self (lt_of_some hkt)] at hu
        cases hu
        rw [hA']
        exact ⟨c.length, rfl, g2n, fun hm => by have := w.xlt hm; omega⟩
      · rw [List.getElem?_set_ne (Ne.symm hj)] at hu
        have hk0 := w.ck j u hu
        rw [lead1_ne hj]
        cases e : A j with
        | none => rw [e] at hk0; exact hk0
        | some p =>
          rw [e] at hk0
          obtain ⟨b, rfl, hb, hbh⟩ := hk0
          have bx : b ≠ x := fun e => hbh (e ▸ xm)
          have bq : b ≠ q := fun e => by rw [e, w.cq] at hb; cases hb
          exact ⟨b, rfl, by rw [g2 b (lt_of_some hb) bq, g1 b bx]; exact hb, hbh⟩
  obtain ⟨c3, h3, w3, g3, l3⟩ := w.leave w2 (by omega) .none
  refine ⟨c3, _, ?_, w3, ?_, fun hm => ?_, l3⟩
  · rw [tb_18]
    exact (fn_nx rfl e2).trans h3
  · rw [g3 L ltL, g2 L ltL Lq, g1 L (Ne.symm xL)]
    exact hL
  · rcases List.mem_or_eq_of_mem_set hm with hm | hm
    · exact hLk hm
    · cases hm
      omega
end
end G
end
section
set_option Elab.async false
set_option linter.all false
set_option maxRecDepth 100000
set_option maxHeartbeats 1000000
namespace G
open PySem Y
variable {W : Wd} {k : Nat} {cs : Cs}
abbrev intl (l : List Nat) : List PyData := l.map fun (n : Nat) => .int (n : Int)
theorem next_ok {rs : List Rw} {r : Rw} {at_ : Nat} (hr : rs[at_]? = some r) : Tb W (k + 1) 15 [.d (.tuple (rs.map Rw.d)), .d (.int (at_ : Nat))] cs = .ok (.d (.list (intl (nexts r at_)))) cs := by
  have hrd : (rs.map Rw.d)[at_]? = some (.tuple (.str r.hd :: r.tl)) := by rw [List.getElem?_map, hr, ← r.d_eq]; rfl
  rw [tb_15]
  unfold b_15
  have h1 : setS 2 (bin (itemT W) (fun ρ cs => getV ρ 0 cs) (fun ρ cs => getV ρ 1 cs)) (startR N_15.length [.d (.tuple (rs.map Rw.d)), .d (.int (at_ : Nat))]) cs = .nx [some (.d (.tuple (rs.map Rw.d))), some (.d (.int (at_ : Nat))), some (.d (.tuple (.str r.hd :: r.tl)))] cs := set_of (bin_of rfl rfl (item_nat hrd))
  have oth : r.hd ≠ ("jump" : Str) → r.hd ≠ ("unless" : Str) → nexts r at_ = [at_ + 1] → fnF N_15.length ps_15.length (seqS (setS 2 (bin (itemT W) (fun ρ cs => getV ρ 0 cs) (fun ρ cs => getV ρ 1 cs))) (seqS (ifS (tst (bin eqT (bin (itemT W) (fun ρ cs => getV ρ 2 cs) (fun _ cs => .ok (.d (.int (0))) cs)) (fun _ cs => .ok (.d (.str "jump")) cs))) (retS (lstE (consA (bin (itemT W) (fun ρ cs => getV ρ 2 cs) (fun _ cs => .ok (.d (.int (1))) cs)) nilA))) passS) (retS (ifE (tst (bin eqT (bin (itemT W) (fun ρ cs => getV ρ 2 cs) (fun _ cs => .ok (.d (.int (0))) cs)) (fun _ cs => .ok (.d (.str "unless")) cs))) (lstE (consA (bin addT (fun ρ cs => getV ρ 1 cs) (fun _ cs => .ok (.d (.int (1))) cs)) (consA (bin (itemT W) (fun ρ cs => getV ρ 2 cs) (fun _ cs => .ok (.d (.int (1))) cs)) nilA))) (lstE (consA (bin addT (fun ρ cs => getV ρ 1 cs) (fun _ cs => .ok (.d (.int (1))) cs)) nilA)))))) [.d (.tuple (rs.map Rw.d)), .d (.int (at_ : Nat))] cs = .ok (.d (.list (intl (nexts r at_)))) cs := fun n1 n2 e => by
    rw [e]
    exact (fn_rt rfl ((seq_nx h1).trans ((seq_if_f (tst_of (bin_of (bin_of rfl rfl it0) rfl (eqs_f n1)))).trans (ret_of ((ifE_f (tst_of (bin_of (bin_of rfl rfl it0) rfl (eqs_f n2)))).trans (lst_of (consA_of (bin_of rfl rfl (addi (r := ((at_ + 1 : Nat) : Int)) (by omega))) rfl) rfl (by simp [nexts]))))))).trans leave_same
  cases r with
  | jump j => exact (fn_rt rfl ((seq_nx h1).trans (seq_if_t (tst_of (bin_of (bin_of rfl rfl it0) rfl eqs_t)) (ret_of (lst_of (consA_of (bin_of rfl rfl it1) rfl) rfl (by simp [nexts])))))).trans leave_same
  | «unless» j => exact (fn_rt rfl ((seq_nx h1).trans ((seq_if_f (tst_of (bin_of (bin_of rfl rfl it0) rfl (eqs_f (by dsimp only [Rw.hd]; decide +kernel))))).trans (ret_of ((ifE_t (tst_of (bin_of (bin_of rfl rfl it0) rfl eqs_t))).trans (lst_of (consA_of (bin_of rfl rfl (addi (r := ((at_ + 1 : Nat) : Int)) (by omega))) (consA_of (bin_of rfl rfl it1) rfl)) rfl (by simp [nexts]))))))).trans leave_same
  | op o => rcases fin4 o with rfl | rfl | rfl | rfl <;> exact oth (by dsimp only [Rw.hd, opS]; decide +kernel) (by dsimp only [Rw.hd, opS]; decide +kernel) rfl
  | _ => exact oth (by dsimp only [Rw.hd]; decide +kernel) (by dsimp only [Rw.hd]; decide +kernel) rfl
theorem sort_ref {n v : Nat} {t : T} (h : cs[n]? = some (.dk [(.inl (v : Int), t)])) : sortDT [.ref n] cs = .ok (.d (.list [.int (v : Nat)])) cs := by
  unfold sortDT
  simp only [h]
theorem min_ref {n v : Nat} {t : T} (h : cs[n]? = some (.dk [(.inl (v : Int), t)])) : minDT [.ref n] cs = .ok (.d (.int (v : Nat))) cs := by
  unfold minDT
  simp only [h]
theorem methE_of {ci : Nat} {m : Str} {F : FF} {fo : EF} {g : AF} {ρ : Rho} {c c1 c2 : Cs} {n : Nat} {fs : List (Str × T)} {ts : List T} (h : fo ρ c = .ok (.ref n) c1) (hc : c1[n]? = some (.ins ci fs)) (hl : fs.lookup m = none) (hg : g ρ c1 = .ok ts c2) : methE ci m F [] fo g ρ c = F (.ref n :: ts) c2 := by
  unfold methE
  rw [h]
  dsimp only [R.bind]
  simp only [hc, hl, and_self, if_true]
  rw [hg]
  dsimp only [R.bind]
  rw [List.append_nil]
theorem seqI_lst {f : EF} {ρ : Rho} {c c1 : Cs} {ds : List PyData} (h : f ρ c = .ok (.d (.list ds)) c1) : seqI f ρ c = .ok (ds.map T.d, keepOf c1 (.d (.list ds))) c1 := by
  unfold seqI
  rw [h]
  rfl
theorem lcE_one {f : IF} {vs : List Nat} {i : Nat} {e : EF} {ρ : Rho} {c c1 : Cs} {t : T} {d : PyData} {keep : Cs → Prop} (hf : f ρ c = .ok ([t], keep) c1) (hk : keep c1) (he : e ((wipeR ρ vs).set i (some t)) c1 = .ok (.d d) c1) : lcE f vs (.nm i) yesB e ρ c = .ok (.d (.list [d])) c1 := by
  have y : ∀ (ρ : Rho) (cs : Cs), yesB ρ cs = .ok true cs := fun _ _ => rfl
  have hz : sizeLine = 16777216 := sizeLine_eq
  unfold lcE lcA
  rw [hf]
  simp only [R.bind_ok]
  rw [if_pos (by simp; omega), lcL, if_pos hk]
  simp only [asgP, y, R.bind_ok, if_true, he]
  rw [lcL, if_pos hk]
  rfl
section
variable {base c : Cs} {a h q : Nat} {hs : List Nat} {ks : List T} {rs : List Rw} {A : Ab}
theorem leads_loop (hW : KD W) (hw : KW W) (hr : rs.length ≤ 900) {M' : Lv} {at_ v x L b : Nat} {r : Rw} {kd later : KV} (hx : hs[at_]? = some x) (htk : r.takes ≤ v) : ∀ (tos : List Nat) (c : Cs) (ks : List T) (A : Ab), WI base c a h q hs ks rs A → Sz A → A at_ = some (v, kd) → (∀ to ∈ tos, at_ < to ∧ to ≤ rs.length) → (∀ to ∈ tos, later.length ≤ to) → c[L]? = some (.dk later) → L ∉ hs → T.ref L ∉ ks →
    (∀ to ∈ tos, ∀ v' kd', A to = some (v', kd') → v' = v - r.takes + r.leaves) → ∀ x4 x7 : Option T,
    ∃ c' ks' y4, forL (fun _ => True) (.nm 4) (lb_17_0 W (Tb W (k + 2)) M') ((intl tos).map T.d) [some (.ref a), some (.d (.int (at_ : Nat))), some (.ref b), some (.ref L), x4, some (.d (.tuple (.str r.hd :: r.tl))), some (.ref x), x7] c = .nx [some (.ref a), some (.d (.int (at_ : Nat))), some (.ref b), some (.ref L), y4, some (.d (.tuple (.str r.hd :: r.tl))), some (.ref x), x7] c' ∧ WI base c' a h q hs ks' rs (leads A (v - r.takes + r.leaves) later tos) ∧ Sz (leads A (v - r.takes + r.leaves) later tos) ∧ c.length ≤ c'.length
  | [], c, ks, A, w, hz, _, _, _, _, _, _, _, x4, x7 => ⟨c, ks, x4, forL_nil trivial, w, hz, Nat.le_refl _⟩
  | to :: tos, c, ks, A, w, hz, hc, hn, hln, hL, hLh, hLk, hcm, x4, x7 => by
    obtain ⟨n1, n2⟩ := hn to List.mem_cons_self
    have hcx := w.cx at_ x hx
    rw [hc] at hcx
    obtain ⟨c1, ks1, e1, w1, L1, k1, n3⟩ := lead_step (W := W) (k := k + 1) hw w hz hr (to := to) (v := v - r.takes + r.leaves) n2 hL hLh hLk (hcm to List.mem_cons_self)
    have hz1 := lead1_sz (v := v - r.takes + r.leaves) hz (hln to List.mem_cons_self)
    have hc1 : lead1 A to (v - r.takes + r.leaves) later at_ = some (v, kd) := by rw [lead1_ne (by omega)]; exact hc
    have hcm1 : ∀ to' ∈ tos, ∀ v' kd', lead1 A to (v - r.takes + r.leaves) later to' = some (v', kd') → v' = v - r.takes + r.leaves := fun to' ht v' kd' e => by
      by_cases q : to' = to
      · subst q
        rw [lead1_same] at e
        cases e
        rfl
      · rw [lead1_ne q] at e
        exact hcm to' (List.mem_cons_of_mem _ ht) v' kd' e
    obtain ⟨c2, ks2, y4, e2, w2, z2, n4⟩ := leads_loop hW hw hr (M' := M') (b := b) hx htk tos c1 ks1 (lead1 A to (v - r.takes + r.leaves) later) w1 hz1 hc1 (fun t ht => hn t (List.mem_cons_of_mem _ ht)) (fun t ht => hln t (List.mem_cons_of_mem _ ht)) L1 hLh k1 hcm1 (some (.d (.int (to : Nat)))) x7
    refine ⟨c2, ks2, y4, ?_, w2, z2, by omega⟩
    have eb : lb_17_0 W (Tb W (k + 2)) M' [some (.ref a), some (.d (.int (at_ : Nat))), some (.ref b), some (.ref L), some (.d (.int (to : Nat))), some (.d (.tuple (.str r.hd :: r.tl))), some (.ref x), x7] c = .nx [some (.ref a), some (.d (.int (at_ : Nat))), some (.ref b), some (.ref L), some (.d (.int (to : Nat))), some (.d (.tuple (.str r.hd :: r.tl))), some (.ref x), x7] c1 := by
      have el : lcE (seqI (app sortDT (consA (fun ρ cs => getV ρ 6 cs) nilA))) [7] (.nm 7) yesB (bin addT (bin subY (fun ρ cs => getV ρ 7 cs) (bin (itemT W) (fun _ cs => .ok (.kd 1) cs) (bin (itemT W) (fun ρ cs => getV ρ 5 cs) (fun _ cs => .ok (.d (.int (0))) cs)))) (bin (itemT W) (fun _ cs => .ok (.kd 2) cs) (bin (itemT W) (fun ρ cs => getV ρ 5 cs) (fun _ cs => .ok (.d (.int (0))) cs)))) [some (.ref a), some (.d (.int (at_ : Nat))), some (.ref b), some (.ref L), some (.d (.int (to : Nat))), some (.d (.tuple (.str r.hd :: r.tl))), some (.ref x), x7] c = .ok (.d (.list [.int ((v - r.takes + r.leaves : Nat) : Int)])) c :=
        lcE_one (t := .d (.int (v : Nat))) (seqI_lst ((app_of (consA_of rfl rfl)).trans (sort_ref hcx))) trivial (bin_of (bin_of rfl (bin_of rfl (bin_of rfl rfl it0) (hW.tk r _)) (subi rfl)) (bin_of rfl (bin_of rfl rfl it0) (hW.lv r _)) (addi (by omega)))
      have eg : consA (fun ρ cs => getV ρ 4 cs) (consA (lcE (seqI (app sortDT (consA (fun ρ cs => getV ρ 6 cs) nilA))) [7] (.nm 7) yesB (bin addT (bin subY (fun ρ cs => getV ρ 7 cs) (bin (itemT W) (fun _ cs => .ok (.kd 1) cs) (bin (itemT W) (fun ρ cs => getV ρ 5 cs) (fun _ cs => .ok (.d (.int (0))) cs)))) (bin (itemT W) (fun _ cs => .ok (.kd 2) cs) (bin (itemT W) (fun ρ cs => getV ρ 5 cs) (fun _ cs => .ok (.d (.int (0))) cs))))) (consA (fun ρ cs => getV ρ 3 cs) nilA)) [some (.ref a), some (.d (.int (at_ : Nat))), some (.ref b), some (.ref L), some (.d (.int (to : Nat))), some (.d (.tuple (.str r.hd :: r.tl))), some (.ref x), x7] c = .ok [.d (.int (to : Nat)), .d (.list [.int ((v - r.takes + r.leaves : Nat) : Int)]), .ref L] c := consA_of rfl (consA_of el (consA_of rfl rfl))
      unfold lb_17_0
      exact expS_of ((methE_of (fo := fun ρ cs => getV ρ 0 cs) rfl w.self lk_lead eg).trans e1)
    exact (forL_one (i := 4) trivial eb).trans e2
theorem eqDN_f {n m : Nat} {k1 k2 : KV} (h1 : cs[n]? = some (.dk k1)) (h2 : cs[m]? = some (.dk k2)) (hn : k1.length ≠ k2.length) : eqDN (.ref n) (.ref m) cs = .ok (.d (.bool false)) cs := by
  unfold eqDN
  simp only [h1, h2]
  rw [if_pos hn]
theorem nin_ref {n : Nat} {i : Nat} {kv : KV} (h : cs[n]? = some (.dk kv)) (hk : (getK kv (.inl (i : Int))).isSome = true) : ninT W (.d (.int (i : Nat))) (.ref n) cs = .ok (.d (.bool false)) cs := by
  have e : inB W cs (.d (.int (i : Nat))) (.ref n) = some true := by
    unfold inB
    have e1 : itemsD cs (.ref n) = none := by simp [itemsD, toD, asL, h]
    simp only [e1, h, keyT, hk]
  unfold ninT
  rw [e]
  rfl
theorem andB_f {f g : BF} {ρ : Rho} {c c1 : Cs} (h : f ρ c = .ok false c1) : andB f g ρ c = .ok false c1 := by
  unfold andB
  rw [h]
  rfl
theorem andB_t {f g : BF} {ρ : Rho} {c c1 : Cs} (h : f ρ c = .ok true c1) : andB f g ρ c = g ρ c1 := by
  unfold andB
  rw [h]
  rfl
theorem load_or (r : Rw) : (∃ i, r = .load i) ∨ r.hd ≠ ("load" : Str) := by
  cases r with
  | load i => exact .inl ⟨i, rfl⟩
  | op o => rcases fin4 o with rfl | rfl | rfl | rfl <;> exact .inr (by dsimp only [Rw.hd, opS]; decide +kernel)
  | _ => exact .inr (by dsimp only [Rw.hd]; decide +kernel)
theorem keep_or (r : Rw) : (∃ i, r = .keep i) ∨ (r.hd ≠ ("keep" : Str) ∧ ∀ kd, laterOf r kd = kd) := by
  cases r with
  | keep i => exact .inl ⟨i, rfl⟩
  | op o => rcases fin4 o with rfl | rfl | rfl | rfl <;> exact .inr ⟨by dsimp only [Rw.hd, opS]; decide +kernel, fun _ => rfl⟩
  | _ => exact .inr ⟨by dsimp only [Rw.hd]; decide +kernel, fun _ => rfl⟩
theorem app_get {x : Cell} {i : Nat} (h : i < cs.length) : (cs ++ [x])[i]? = cs[i]? := List.getElem?_append_left h
theorem app_end {x : Cell} : (cs ++ [x])[cs.length]? = some x := by
  rw [List.getElem?_append_right (Nat.le_refl _)]
  simp
theorem app_set {x y : Cell} : (cs ++ [x]).set cs.length y = cs ++ [y] := by simp
/-- one row looked at -/
theorem look_step (hW : KD W) (hw : KW W) (w : WI base c a h q hs ks rs A) (hr : rs.length ≤ 900) {at_ v : Nat} {r : Rw} {kd : KV} (hk : Lk rs at_ r v kd A) : ∃ c' ks', Tb W (k + 3) 17 [.ref a, .d (.int (at_ : Nat))] c = .ok (.d .none) c' ∧ WI base c' a h q hs ks' rs (lookA r at_ v kd A) := by
  have hat : at_ < rs.length := lt_of_some hk.row
  have hrd : (rs.map Rw.d)[at_]? = some (.tuple (.str r.hd :: r.tl)) := by rw [List.getElem?_map, hk.row, ← r.d_eq]; rfl
  obtain ⟨x, hx⟩ : ∃ x, hs[at_]? = some x := ⟨hs[at_]'(by rw [w.hl]; omega), List.getElem?_eq_getElem _⟩
  obtain ⟨t, hkt⟩ : ∃ t, ks[at_]? = some t := ⟨ks[at_]'(by rw [w.kl]; omega), List.getElem?_eq_getElem _⟩
  have hcx := w.cx at_ x hx
  have hkd := w.ck at_ t hkt
  rw [hk.cur] at hcx hkd
  obtain ⟨b, rfl, hb, hbh⟩ := hkd
  have xm : x ∈ hs := List.mem_of_getElem? hx
  have kl := hk.sz at_ v kd hk.cur
  generalize hc1 : c ++ [Cell.dk []] = c1
  have g1 : ∀ i, i < c.length → c1[i]? = c[i]? := fun i hi => by rw [← hc1]; exact app_get hi
  have l1 : c1.length = c.length + 1 := by rw [← hc1]; simp
  have w1 : WI base c1 a h q hs ks rs A := w.grow g1
  have hcx1 : c1[x]? = some (.dk [(.inl (v : Int), .d (.bool true))]) := (g1 x (lt_of_some hcx)).trans hcx
  have hb1 : c1[b]? = some (.dk kd) := (g1 b (lt_of_some hb)).trans hb
  have dic1 : ∀ ρ : Rho, dicC ρ c = .ok (.ref c.length) c1 := fun ρ => by unfold dicC; rw [hc1]
  have he1 : c1[c.length]? = some (.dk []) := by rw [← hc1]; exact app_end
  -- later
  generalize hc2 : c1 ++ [Cell.dk (laterOf r kd)] = c2
  have g2 : ∀ i, i < c1.length → c2[i]? = c1[i]? := fun i hi => by rw [← hc2]; exact app_get hi
  have w2 : WI base c2 a h q hs ks rs A := w1.grow g2
  have hL2 : c2[c1.length]? = some (.dk (laterOf r kd)) := by rw [← hc2]; exact app_end
  have hLh : c1.length ∉ hs := fun hm => by have := w1.xlt hm; omega
  have hLk : T.ref c1.length ∉ ks := fun hm => by have := w1.blt hm; omega
  have ll := later_len r kd
  obtain ⟨c3, ks3, y4, e3, w3, z3, n3⟩ := leads_loop (W := W) (k := k) hW hw hr (M' := (tabs W (k + 2)).2) (b := b) hx hk.tk (nexts r at_) c2 ks A w2 hk.sz hk.cur hk.nx (fun to ht => by have := (hk.nx to ht).1; omega) hL2 hLh hLk hk.cm none none
  have es : b_17 W (Tb W (k + 2)) (tabs W (k + 2)).2 (startR N_17.length [.ref a, .d (.int (at_ : Nat))]) c = .nx [some (.ref a), some (.d (.int (at_ : Nat))), some (.ref b), some (.ref c1.length), y4, some (.d (.tuple (.str r.hd :: r.tl))), some (.ref x), none] c3 := by
    rw [bq_17]
    refine (seq_nx (parS_of (bin_of (w.frows hw rfl) rfl (item_nat hrd)) (bin_of (w.fhighs hw rfl) rfl (item_cell w.ch (by rw [List.getElem?_map, hx]; rfl))))).trans ?_
    refine Eq.trans (seq_nx ((ifS_f (tst_of (bin_of rfl (dic1 _) (eqDN_f hcx1 he1 (by simp))))).trans rfl)) ?_
    refine (seq_nx (set_of (bin_of (w1.fkept hw rfl) rfl (item_cell w1.cq hkt)))).trans ?_
    refine Eq.trans (seq_if_f (c1 := c1) ?_) ?_
    · refine (orB_f (tst_of (bin_of ((app_of (consA_of rfl rfl)).trans (min_ref hcx1)) (bin_of rfl (bin_of rfl rfl it0) (hW.tk r _)) (lt_f (by have := hk.tk; omega))))).trans ?_
      rcases load_or r with ⟨i, rfl⟩ | hne
      · exact (andB_t (tst_of (bin_of (bin_of rfl rfl it0) rfl eqs_t))).trans (tst_of (bin_of (bin_of rfl rfl it1) rfl (nin_ref hb1 (hk.ld i rfl))))
      · exact andB_f (tst_of (bin_of (bin_of rfl rfl it0) rfl (eqs_f hne)))
    refine (seq_nx (set_of ((app_of (consA_of rfl rfl)).trans (dict_ref hb1)))).trans ?_
    refine Eq.trans (seq_nx (ρ1 := [some (.ref a), some (.d (.int (at_ : Nat))), some (.ref b), some (.ref c1.length), none, some (.d (.tuple (.str r.hd :: r.tl))), some (.ref x), none]) (c1 := c2) ?_) ?_
    · rcases keep_or r with ⟨i, rfl⟩ | ⟨hne, hla⟩
      · refine (ifS_t (tst_of (bin_of (bin_of rfl rfl it0) rfl eqs_t))).trans (asg_sub rfl rfl (bin_of rfl rfl it1) ?_)
        rw [seti_dk (app_end) (by omega), app_set]
        exact congrArg (R.ok ()) hc2
      · refine (ifS_f (tst_of (bin_of (bin_of rfl rfl it0) rfl (eqs_f hne)))).trans ?_
        rw [← hc2, hla]
        rfl
    refine (forS_of (keep := fun _ => True) (ts := (intl (nexts r at_)).map T.d) (seqI_lst ((callE_of (consA_of (w2.frows hw rfl) (consA_of rfl rfl))).trans (next_ok hk.row)))).trans e3
  obtain ⟨c4, h4, w4, _, _⟩ := w.leave w3 (by
    have h6 : c.length ≤ c2.length := by rw [← hc2]; simp; omega
    omega) .none
  refine ⟨c4, ks3, ?_, w4⟩
  rw [tb_17]
  exact (fn_nx rfl es).trans h4
end
end G
end
section
set_option Elab.async false
set_option linter.all false
set_option maxRecDepth 100000
set_option maxHeartbeats 1000000
namespace G
open PySem Y
variable {W : Wd} {k : Nat} {cs : Cs}
section
variable {base c : Cs} {a h q : Nat} {hs : List Nat} {ks : List T} {rs : List Rw} {A : Ab}
def rngF (s n : Nat) : List T := (List.range' s n).map fun i => T.d (.int (i : Nat))
theorem rngF_cons {s n : Nat} : rngF s (n + 1) = .d (.int (s : Nat)) :: rngF (s + 1) n := by simp [rngF, List.range'_succ]
theorem rng_F (n : Nat) : rngL 0 (n : Nat) = rngF 0 n := by
  unfold rngL rngF
  rw [List.range_eq_range']
  simp
theorem init_loop (hW : KD W) (hw : KW W) (hr : rs.length ≤ 900) {M' : Lv} {s e : Nat} {A A' : Ab} (hk : Lks rs s e A A') (he : e = rs.length) : ∀ (c : Cs) (ks : List T), WI base c a h q hs ks rs A → ∀ x2 : Option T, ∃ c' ks' y2,
    forL (fun _ => True) (.nm 2) (lb_16_0 W (Tb W (k + 3)) M') (rngF s (e - s)) [some (.ref a), some (.d (.tuple (rs.map Rw.d))), x2, none] c = .nx [some (.ref a), some (.d (.tuple (rs.map Rw.d))), y2, none] c' ∧ WI base c' a h q hs ks' rs A' := by
  induction hk with
  | nil s A =>
    intro c ks w x2
    refine ⟨c, ks, x2, ?_, w⟩
    rw [Nat.sub_self]
    exact forL_nil trivial
  | @cons s e r v kd A A' h1 h2 ih =>
    intro c ks w x2
    have hs := lt_of_some h1.row
    obtain ⟨c1, ks1, e1, w1⟩ := look_step (W := W) (k := k) hW hw w hr h1
    obtain ⟨c2, ks2, y2, e2, w2⟩ := ih he c1 ks1 w1 (some (.d (.int (s : Nat))))
    refine ⟨c2, ks2, y2, ?_, w2⟩
    have en : e - s = (e - (s + 1)) + 1 := by omega
    rw [en, rngF_cons]
    have eb : lb_16_0 W (Tb W (k + 3)) M' [some (.ref a), some (.d (.tuple (rs.map Rw.d))), some (.d (.int (s : Nat))), none] c = .nx [some (.ref a), some (.d (.tuple (rs.map Rw.d))), some (.d (.int (s : Nat))), none] c1 := by
      unfold lb_16_0
      exact expS_of ((methE_of (fo := fun ρ cs => getV ρ 0 cs) (g := consA (fun ρ cs => getV ρ 2 cs) nilA) rfl w.self lk_look (consA_of rfl rfl)).trans e1)
    exact (forL_one (i := 2) trivial eb).trans e2
theorem lc_dicts {ρ : Rho} : ∀ (ts : List T) (c : Cs), lcL (fun _ => True) (.nm 3) yesB dicC ρ ts c = .ok ((List.range' c.length ts.length).map .ref) (c ++ List.replicate ts.length (.dk []))
  | [], c => by rw [lcL, if_pos trivial]; simp
  | t :: ts, c => by
    have y : ∀ (ρ : Rho) (cs : Cs), yesB ρ cs = .ok true cs := fun _ _ => rfl
    rw [lcL, if_pos trivial]
    simp only [asgP, y, R.bind_ok, if_true, dicC, lc_dicts ts (c ++ [.dk []])]
    simp [List.range'_succ, List.replicate_succ]
theorem lc_nones {ρ : Rho} : ∀ (ts : List T) (c : Cs), lcL (fun _ => True) (.nm 3) yesB (fun _ cs => .ok (.d .none) cs) ρ ts c = .ok (List.replicate ts.length (.d .none)) c
  | [], c => by rw [lcL, if_pos trivial]; simp
  | t :: ts, c => by
    have y : ∀ (ρ : Rho) (cs : Cs), yesB ρ cs = .ok true cs := fun _ _ => rfl
    rw [lcL, if_pos trivial]
    simp only [asgP, y, R.bind_ok, if_true, lc_nones ts c]
    simp [List.replicate_succ]
theorem lcC_of {f : IF} {vs : List Nat} {p : Pat} {tt : BF} {e : EF} {ρ : Rho} {c c1 c2 : Cs} {ts xs : List T} {keep : Cs → Prop} (hf : f ρ c = .ok (ts, keep) c1) (hl : ts.length ≤ 3000) (h : lcL keep p tt e (wipeR ρ vs) ts c1 = .ok xs c2) : lcC f vs p tt e ρ c = .ok (.ref c2.length) (c2 ++ [.lst xs]) := by
  have hz : sizeLine = 16777216 := sizeLine_eq
  unfold lcC lcA
  rw [hf]
  simp only [R.bind_ok]
  rw [if_pos (by omega), h]
  rfl
theorem lstC_one {f : EF} {ρ : Rho} {c c1 : Cs} {t : T} (h : f ρ c = .ok t c1) : lstC (consA f nilA) ρ c = .ok (.ref c1.length) (c1 ++ [.lst [t]]) := by
  have hz : sizeLine = 16777216 := sizeLine_eq
  unfold lstC
  rw [consA_of h rfl]
  simp only [R.bind_ok]
  rw [if_pos (by simp; omega)]
theorem addC_of {n m : Nat} {xs ys : List T} (h1 : cs[n]? = some (.lst xs)) (h2 : cs[m]? = some (.lst ys)) (hl : (xs ++ ys).length ≤ 3000) : addC (.ref n) (.ref m) cs = .ok (.ref cs.length) (cs ++ [.lst (xs ++ ys)]) := by
  have hz : sizeLine = 16777216 := sizeLine_eq
  have e1 : asM cs (.ref n) = some xs := by simp [asM, h1]
  have e2 : asM cs (.ref m) = some ys := by simp [asM, h2]
  unfold addC
  simp only [e1, e2]
  rw [if_pos (by omega)]
theorem fldS_of {f : Str} {fo fv : EF} {ρ : Rho} {c c1 : Cs} {a : Nat} {v : T} {fs : List (Str × T)} (hv : fv ρ c = .ok v c1) (ho : fo ρ c1 = .ok (.ref a) c1) (hc : c1[a]? = some (.ins 0 fs)) (hk : W.okf 0 f = true) (hl : fs.length < 1000) : fldS W f fo fv ρ c = .nx ρ (c1.set a (.ins 0 (putT f v fs))) := by
  unfold fldS
  rw [hv]
  dsimp only [R.bind]
  rw [ho]
  dsimp only [R.bind]
  unfold putfT
  simp only [hc]
  rw [if_pos ⟨hk, hl⟩]
theorem disp0 {ρ : Rho} {c : Cs} : dispC (((fun _ cs => .ok (.d (.int (0))) cs), (fun _ cs => .ok (.d (.bool true)) cs)) :: []) ρ c = .ok (.ref c.length) (c ++ [.dk [(.inl 0, .d (.bool true))]]) := rfl
theorem get_l {l m : Cs} {i : Nat} (h : i < l.length) : (l ++ m)[i]? = l[i]? := List.getElem?_append_left h
theorem get_set {l : Cs} {i j : Nat} {x : Cell} (h : i ≠ j) : (l.set j x)[i]? = l[i]? := List.getElem?_set_ne (Ne.symm h)
/-- the ways begun -/
theorem init_cells (hw : KW W) {M M' : Lv} (hr : rs.length ≤ 900) : ∃ c h q hs ks, b_16 W M M' [some (.ref base.length), some (.d (.tuple (rs.map Rw.d))), none, none] (base ++ [.ins 0 []]) = forS (rng1I (consA (app lenT (consA (fun ρ cs => getV ρ 1 cs) nilA)) nilA)) (.nm 2) (lb_16_0 W M M') [some (.ref base.length), some (.d (.tuple (rs.map Rw.d))), none, none] c ∧ WI base c base.length h q hs ks rs A0 := by
  have rows : seqI (fun ρ cs => getV ρ 1 cs) [some (.ref base.length), some (.d (.tuple (rs.map Rw.d))), none, none] = fun c => .ok ((rs.map Rw.d).map T.d, fun _ => True) c := by
    funext c
    exact seqI_tup rfl
  have rl : ((rs.map Rw.d).map T.d).length = rs.length := by simp
  generalize hρ : ([some (.ref base.length), some (.d (.tuple (rs.map Rw.d))), none, none] : Rho) = ρ at rows
  have v0 : ∀ c, getV ρ 0 c = .ok (.ref base.length) c := fun c => by rw [← hρ]; rfl
  have v1 : ∀ c, getV ρ 1 c = .ok (.d (.tuple (rs.map Rw.d))) c := fun c => by rw [← hρ]; rfl
  -- rows
  generalize hc1 : (base ++ [Cell.ins 0 [("rows", .d (.tuple (rs.map Rw.d)))]]) = c1
  have l1 : c1.length = base.length + 1 := by rw [← hc1]; simp
  have s1 : fldS W "rows" (fun ρ cs => getV ρ 0 cs) (fun ρ cs => getV ρ 1 cs) ρ (base ++ [.ins 0 []]) = .nx ρ c1 := by
    refine (fldS_of (v1 _) (v0 _) app_end hw.rows (by simp)).trans ?_
    rw [app_set, ← hc1]
    rfl
  have a1 : c1[base.length]? = some (.ins 0 [("rows", .d (.tuple (rs.map Rw.d)))]) := by rw [← hc1]; exact app_end
  have p1 : ∀ i, i < base.length → c1[i]? = base[i]? := fun i hi => by rw [← hc1]; exact get_l hi
  -- highs
  generalize hcB : (c1 ++ [Cell.dk [(.inl 0, .d (.bool true))]]) ++ [Cell.lst [.ref c1.length]] = cB
  have lB : cB.length = c1.length + 2 := by rw [← hcB]; simp
  have B0 : cB[c1.length]? = some (.dk [(.inl 0, .d (.bool true))]) := by rw [← hcB, get_l (by simp), app_end]
  have B1 : cB[c1.length + 1]? = some (.lst [.ref c1.length]) := by
    rw [← hcB]
    have := app_end (cs := c1 ++ [Cell.dk [(.inl 0, .d (.bool true))]]) (x := Cell.lst [.ref c1.length])
    simpa using this
  have Bp : ∀ i, i < c1.length → cB[i]? = c1[i]? := fun i hi => by rw [← hcB, get_l (by simp; omega), get_l hi]
  generalize hcC : cB ++ List.replicate rs.length (Cell.dk []) = cC
  have lC : cC.length = cB.length + rs.length := by rw [← hcC]; simp
  have Cp : ∀ i, i < cB.length → cC[i]? = cB[i]? := fun i hi => by rw [← hcC, get_l hi]
  have C0 : ∀ i, i < rs.length → cC[cB.length + i]? = some (.dk []) := fun i hi => by
    rw [← hcC, List.getElem?_append_right (by omega), Nat.add_sub_cancel_left, List.getElem?_replicate, if_pos hi]
  generalize hcD : cC ++ [Cell.lst ((List.range' cB.length rs.length).map .ref)] = cD
  have lD : cD.length = cC.length + 1 := by rw [← hcD]; simp
  have Dp : ∀ i, i < cC.length → cD[i]? = cC[i]? := fun i hi => by rw [← hcD, get_l hi]
  have D0 : cD[cC.length]? = some (.lst ((List.range' cB.length rs.length).map .ref)) := by rw [← hcD]; exact app_end
  generalize hhs : c1.length :: List.range' cB.length rs.length = hs
  have hsr : [T.ref c1.length] ++ (List.range' cB.length rs.length).map T.ref = hs.map T.ref := by rw [← hhs]; rfl
  have hsl : hs.length = rs.length + 1 := by rw [← hhs]; simp
  generalize hcE : cD ++ [Cell.lst (hs.map .ref)] = cE
  have lE : cE.length = cD.length + 1 := by rw [← hcE]; simp
  have Ep : ∀ i, i < cD.length → cE[i]? = cD[i]? := fun i hi => by rw [← hcE, get_l hi]
  have E0 : cE[cD.length]? = some (.lst (hs.map .ref)) := by rw [← hcE]; exact app_end
  have aE : cE[base.length]? = some (.ins 0 [("rows", .d (.tuple (rs.map Rw.d)))]) := by rw [Ep _ (by omega), Dp _ (by omega), Cp _ (by omega), Bp _ (by omega), a1]
  have ev2 : bin addC (lstC (consA (dispC (((fun _ cs => .ok (.d (.int (0))) cs), (fun _ cs => .ok (.d (.bool true)) cs)) :: [])) nilA)) (lcC (seqI (fun ρ cs => getV ρ 1 cs)) [3] (.nm 3) yesB dicC) ρ c1 = .ok (.ref cD.length) cE := by
    have q1 : lstC (consA (dispC (((fun _ cs => .ok (.d (.int (0))) cs), (fun _ cs => .ok (.d (.bool true)) cs)) :: [])) nilA) ρ c1 = .ok (.ref (c1.length + 1)) cB := by
      have := lstC_one (disp0 (ρ := ρ) (c := c1))
      rw [hcB] at this
      rw [this]
      simp
    have q2 : lcC (seqI (fun ρ cs => getV ρ 1 cs)) [3] (.nm 3) yesB dicC ρ cB = .ok (.ref cC.length) cD := by
      have := lcC_of (f := seqI (fun ρ cs => getV ρ 1 cs)) (vs := [3]) (p := .nm 3) (tt := yesB) (e := dicC) (ρ := ρ) (congrFun rows cB) (by rw [rl]; omega) (lc_dicts _ _)
      rw [rl, hcC, hcD] at this
      exact this
    refine bin_of q1 q2 ?_
    rw [addC_of (xs := [.ref c1.length]) (by rw [Dp _ (by omega), Cp _ (by omega)]; exact B1) D0 (by simp; omega), hsr, hcE]
  generalize hc2 : cE.set base.length (.ins 0 [("rows", .d (.tuple (rs.map Rw.d))), ("highs", .ref cD.length)]) = c2
  have l2 : c2.length = cE.length := by rw [← hc2]; simp
  have p2 : ∀ i, i ≠ base.length → c2[i]? = cE[i]? := fun i hi => by rw [← hc2, get_set hi]
  have a2 : c2[base.length]? = some (.ins 0 [("rows", .d (.tuple (rs.map Rw.d))), ("highs", .ref cD.length)]) := by rw [← hc2, List.getElem?_set_self (by omega)]
  have s2 : fldS W "highs" (fun ρ cs => getV ρ 0 cs) (bin addC (lstC (consA (dispC (((fun _ cs => .ok (.d (.int (0))) cs), (fun _ cs => .ok (.d (.bool true)) cs)) :: [])) nilA)) (lcC (seqI (fun ρ cs => getV ρ 1 cs)) [3] (.nm 3) yesB dicC)) ρ c1 = .nx ρ c2 := by
    refine (fldS_of ev2 (v0 _) aE hw.highs (by simp)).trans ?_
    rw [← hc2]
    rfl
  -- kept
  generalize hcF : (c2 ++ [Cell.dk []]) ++ [Cell.lst [.ref c2.length]] = cF
  have lF : cF.length = c2.length + 2 := by rw [← hcF]; simp
  have F0 : cF[c2.length]? = some (.dk []) := by rw [← hcF, get_l (by simp), app_end]
  have F1 : cF[c2.length + 1]? = some (.lst [.ref c2.length]) := by
    rw [← hcF]
    have := app_end (cs := c2 ++ [Cell.dk []]) (x := Cell.lst [.ref c2.length])
    simpa using this
  have Fp : ∀ i, i < c2.length → cF[i]? = c2[i]? := fun i hi => by rw [← hcF, get_l (by simp; omega), get_l hi]
  generalize hcG : cF ++ [Cell.lst (List.replicate rs.length (T.d .none))] = cG
  have lG : cG.length = cF.length + 1 := by rw [← hcG]; simp
  have Gp : ∀ i, i < cF.length → cG[i]? = cF[i]? := fun i hi => by rw [← hcG, get_l hi]
  have G0 : cG[cF.length]? = some (.lst (List.replicate rs.length (T.d .none))) := by rw [← hcG]; exact app_end
  generalize hks : T.ref c2.length :: List.replicate rs.length (T.d .none) = ks
  generalize hcH : cG ++ [Cell.lst ks] = cH
  have lH : cH.length = cG.length + 1 := by rw [← hcH]; simp
  have Hp : ∀ i, i < cG.length → cH[i]? = cG[i]? := fun i hi => by rw [← hcH, get_l hi]
  have H0 : cH[cG.length]? = some (.lst ks) := by rw [← hcH]; exact app_end
  have ev3 : bin addC (lstC (consA dicC nilA)) (lcC (seqI (fun ρ cs => getV ρ 1 cs)) [3] (.nm 3) yesB (fun _ cs => .ok (.d .none) cs)) ρ c2 = .ok (.ref cG.length) cH := by
    have q1 : lstC (consA dicC nilA) ρ c2 = .ok (.ref (c2.length + 1)) cF := by
      have := lstC_one (ρ := ρ) (f := dicC) (c := c2) rfl
      rw [hcF] at this
      rw [this]
      simp
    have q2 : lcC (seqI (fun ρ cs => getV ρ 1 cs)) [3] (.nm 3) yesB (fun _ cs => .ok (.d .none) cs) ρ cF = .ok (.ref cF.length) cG := by
      have := lcC_of (f := seqI (fun ρ cs => getV ρ 1 cs)) (vs := [3]) (p := .nm 3) (tt := yesB) (e := fun _ cs => .ok (.d .none) cs) (ρ := ρ) (congrFun rows cF) (by rw [rl]; omega) (lc_nones _ _)
      rw [rl, hcG] at this
      exact this
    refine bin_of q1 q2 ?_
    rw [addC_of (xs := [.ref c2.length]) (by rw [Gp _ (by omega)]; exact F1) G0 (by simp; omega)]
    show R.ok _ (cG ++ [Cell.lst (T.ref c2.length :: List.replicate rs.length (T.d .none))]) = _
    rw [hks, hcH]
  have aH : cH[base.length]? = some (.ins 0 [("rows", .d (.tuple (rs.map Rw.d))), ("highs", .ref cD.length)]) := by rw [Hp _ (by omega), Gp _ (by omega), Fp _ (by omega), a2]
  generalize hc3 : cH.set base.length (.ins 0 [("rows", .d (.tuple (rs.map Rw.d))), ("highs", .ref cD.length), ("kept", .ref cG.length)]) = c3
  have l3 : c3.length = cH.length := by rw [← hc3]; simp
  have p3 : ∀ i, i ≠ base.length → c3[i]? = cH[i]? := fun i hi => by rw [← hc3, get_set hi]
  have a3 : c3[base.length]? = some (.ins 0 [("rows", .d (.tuple (rs.map Rw.d))), ("highs", .ref cD.length), ("kept", .ref cG.length)]) := by rw [← hc3, List.getElem?_set_self (by omega)]
  have s3 : fldS W "kept" (fun ρ cs => getV ρ 0 cs) (bin addC (lstC (consA dicC nilA)) (lcC (seqI (fun ρ cs => getV ρ 1 cs)) [3] (.nm 3) yesB (fun _ cs => .ok (.d .none) cs))) ρ c2 = .nx ρ c3 := by
    refine (fldS_of ev3 (v0 _) aH hw.kept (by simp)).trans ?_
    rw [← hc3]
    rfl
  generalize hc4 : c3.set base.length (.ins 0 (selfF rs cD.length cG.length)) = c4
  have p4 : ∀ i, i ≠ base.length → c4[i]? = c3[i]? := fun i hi => by rw [← hc4, get_set hi]
  have a4 : c4[base.length]? = some (.ins 0 (selfF rs cD.length cG.length)) := by rw [← hc4, List.getElem?_set_self (by omega)]
  have s4 : fldS W "is_right" (fun ρ cs => getV ρ 0 cs) (fun _ cs => .ok (.d (.bool true)) cs) ρ c3 = .nx ρ c4 := by
    refine (fldS_of rfl (v0 _) a3 hw.right (by simp)).trans ?_
    rw [← hc4]
    rfl
  have low : ∀ i, i ≠ base.length → i < cE.length → c4[i]? = cE[i]? := fun i h1 h2 => by rw [p4 i h1, p3 i h1, Hp i (by omega), Gp i (by omega), Fp i (by omega), p2 i h1]
  refine ⟨c4, cD.length, cG.length, hs, ks, ?_, ?_⟩
  · rw [bq_16]
    exact (seq_nx s1).trans ((seq_nx s2).trans ((seq_nx s3).trans (seq_nx s4)))
  · have xs : ∀ x ∈ hs, c1.length ≤ x ∧ x < cC.length := fun x hx => by
      rw [← hhs] at hx
      rcases List.mem_cons.mp hx with rfl | hx
      · omega
      · have := List.mem_range'_1.mp hx
        omega
    refine ⟨fun i hi => ?_, Nat.le_refl _, by omega, fun x hx => by have := xs x hx; omega, by omega, ?_, hsl, by rw [← hks]; simp, a4, ?_, ?_, fun j x hx => ?_, fun j t ht => ?_⟩
    · rw [low i (by omega) (by omega), Ep i (by omega), Dp i (by omega), Cp i (by omega), Bp i (by omega), p1 i hi]
    · rw [← hhs, List.nodup_cons]
      exact ⟨fun hm => by have := List.mem_range'_1.mp hm; omega, List.nodup_range'⟩
    · rw [low _ (by omega) (by omega), E0]
    · rw [p4 _ (by omega), p3 _ (by omega), H0]
    · have hm := xs x (List.mem_of_getElem? hx)
      rw [low x (by omega) (by omega), Ep x (by omega), Dp x (by omega)]
      rw [← hhs] at hx
      cases j with
      | zero =>
        have : c1.length = x := by simpa using hx
        subst this
        rw [Cp _ (by omega)]
        exact B0
      | succ j =>
        have hx : (List.range' cB.length rs.length)[j]? = some x := by simpa using hx
        have hj : j < rs.length := by have := lt_of_some hx; simpa using this
        rw [List.getElem?_range' hj] at hx
        have : x = cB.length + j := by have := Option.some.inj hx; omega
        subst this
        exact C0 j hj
    · rw [← hks] at ht
      cases j with
      | zero =>
        have : T.ref c2.length = t := by simpa using ht
        subst this
        exact ⟨c2.length, rfl, by rw [p4 _ (by omega), p3 _ (by omega), Hp _ (by omega), Gp _ (by omega)]; exact F0, fun hm => by have := xs _ hm; omega⟩
      | succ j =>
        have ht : (List.replicate rs.length (T.d .none))[j]? = some t := by simpa using ht
        exact List.eq_of_mem_replicate (List.mem_of_getElem? ht)
end
end G
end
section
set_option Elab.async false
set_option linter.all false
set_option maxRecDepth 100000
set_option maxHeartbeats 1000000
namespace G
open PySem Y
variable {W : Wd} {k : Nat} {cs : Cs}
section
variable {rs : List Rw} {f : Bool} {M : Mx}
theorem init_leave {base c : Cs} {h q : Nat} {hs : List Nat} {ks : List T} {A : Ab} (w : WI base c base.length h q hs ks rs A) (x : PyData) : leaveT (base ++ [.ins 0 []]) (.ok (.d x) c) = .ok (.d x) c := by
  unfold leaveT
  dsimp only
  rw [if_neg]
  rintro ⟨_, e | e⟩
  · have h1 : (c.take (base ++ [Cell.ins 0 []]).length)[base.length]? = c[base.length]? := List.getElem?_take_of_lt (by simp)
    rw [e, w.self, app_end] at h1
    cases h1
  · have h1 : (c.take (base ++ [Cell.ins 0 []]).length)[base.length]? = some (.ins 0 (selfF rs h q)) := (List.getElem?_take_of_lt (by simp)).trans w.self
    have h2 := List.all_eq_true.mp e _ (List.mem_of_getElem? h1)
    have h3 : (selfF rs h q).all (fun p => ltT (base ++ [Cell.ins 0 []]).length p.2) = true := h2
    have h4 := List.all_eq_true.mp h3 ("kept", .ref q) (by unfold selfF; simp)
    have h5 : q < (base ++ [Cell.ins 0 []]).length := of_decide_eq_true h4
    have h6 : q < base.length + 1 := by simpa using h5
    have := w.gq
    have hq : q = base.length := by omega
    have := w.cq
    rw [hq, w.self] at this
    cases this
theorem item_m1 {n : Nat} {xs : List T} {t : T} (h : cs[n]? = some (.lst xs)) (hi : xs[xs.length - 1]? = some t) : itemT W (.ref n) (.d (.int (-1))) cs = .ok t cs := by
  have hl := lt_of_some hi
  have e : asQ cs (.ref n) = some xs := by simp [asQ, asT, asL, h]
  have e2 : L2.atI xs (-1) = some t := by
    unfold L2.atI L2.ixN
    rw [if_neg (by omega), if_pos (by omega)]
    have e4 : (-1 + (xs.length : Int)).toNat = xs.length - 1 := by omega
    simp only [e4]
    exact hi
  unfold itemT
  simp only [e, e2]
theorem eq_l1 : eqT (.d (.list [.int ((1 : Nat) : Int)])) (.d (.list [.int 1])) cs = .ok (.d (.bool true)) cs := by
  have h : SeqAt.shaped (.list [.int 1]) = true := by decide +kernel
  have h2 : PyData.eqv (.list [.int 1]) (.list [.int 1]) = true := by decide +kernel
  show eqT (.d (.list [.int 1])) (.d (.list [.int 1])) cs = _
  unfold eqT eqD
  simp only [toD, h, h2, and_self, if_true]
theorem stands_ok (hW : KD W) (hw : KW W) (h : MOk f 3 M) : Tb W (k + 6) 19 [.d (.tuple ((whole f M).map Rw.d))] cs = .ok (.d (.bool true)) cs := by
  have hl := h.len_le
  have hl2 : M.len + 2 ≤ 256 := hl
  have wl := whole_len (f := f) (M := M)
  have hr : (whole f M).length ≤ 900 := by
    rw [wl]
    split <;> omega
  obtain ⟨A', kd, lks, hA⟩ := look_whole h
  generalize hrs : whole f M = rs at hr lks hA ⊢
  obtain ⟨c0, h0, q0, hs, ks, e0, w0⟩ := init_cells (W := W) (base := cs) (rs := rs) hw (M := Tb W (k + 3)) (M' := (tabs W (k + 3)).2) hr
  obtain ⟨c1, ks1, y2, e1, w1⟩ := init_loop (W := W) (k := k) hW hw hr (M' := (tabs W (k + 3)).2) lks rfl c0 ks w0 none
  have ei : Tb W (k + 4) 16 [.ref cs.length, .d (.tuple (rs.map Rw.d))] (cs ++ [.ins 0 []]) = .ok (.d .none) c1 := by
    rw [tb_16]
    refine (fn_nx (ρ := [some (.ref cs.length), some (.d (.tuple (rs.map Rw.d))), y2, none]) (c1 := c1) rfl ?_).trans (init_leave w1 .none)
    refine Eq.trans e0 ?_
    refine (forS_of (rng1_of (j := (rs.length : Nat)) (consA_of ((app_of (consA_of rfl rfl)).trans (len_tup (by simp))) rfl) (hj62 (by omega)))).trans ?_
    rw [rng_F]
    exact e1
  have em : makeE 0 ((tabs W (k + 5)).2 16) [] (consA (fun ρ cs => getV ρ 0 cs) nilA) (startR N_19.length [.d (.tuple (rs.map Rw.d))]) cs = .ok (.ref cs.length) c1 := by
    rw [tab2]
    unfold makeE
    rw [consA_of (t := .d (.tuple (rs.map Rw.d))) (ts := []) rfl rfl]
    simp only [R.bind_ok, List.append_nil]
    rw [ei]
    rfl
  have hx : ∃ x, hs[rs.length]? = some x := ⟨hs[rs.length]'(by rw [w1.hl]; omega), List.getElem?_eq_getElem _⟩
  obtain ⟨x, hx⟩ := hx
  have cx := w1.cx rs.length x hx
  rw [hA] at cx
  have hx2 : (hs.map T.ref)[(hs.map T.ref).length - 1]? = some (.ref x) := by
    rw [List.length_map, w1.hl, Nat.add_sub_cancel, List.getElem?_map, hx]
    rfl
  rw [tb_19]
  have es : b_19 W (Tb W (k + 5)) (tabs W (k + 5)).2 (startR N_19.length [.d (.tuple (rs.map Rw.d))]) cs = .rt (.d (.bool true)) c1 := by
    unfold b_19
    refine (seq_nx (set_of em)).trans (ret_of ?_)
    refine (andE_t (fld_of (c1 := c1) (t := .d (.bool true)) rfl w1.self lk_right hw.right)).trans ?_
    exact bin_of ((app_of (consA_of (bin_of (fld_of (c1 := c1) (t := .ref h0) rfl w1.self lk_highs hw.highs) neg_of (item_m1 w1.ch hx2)) rfl)).trans (sort_ref (v := 1) cx)) (lst_of (consA_of rfl rfl) rfl (by simp)) eq_l1
  refine (fn_rt rfl es).trans ?_
  have hcut : c1.take cs.length = cs := by
    apply List.ext_getElem?
    intro i
    by_cases hi : i < cs.length
    · rw [List.getElem?_take_of_lt hi]
      exact w1.pre i hi
    · rw [List.getElem?_eq_none (by simp; omega), List.getElem?_eq_none (by omega)]
  unfold leaveT
  dsimp only
  rw [hcut]
  simp [isData]
theorem is_code_ok (hW : KD W) (hw : KW W) (h : MOk f 3 M) : Tb W (k + 7) 20 [.d (.tuple ((whole f M).map Rw.d))] cs = .ok (.d (.bool true)) cs := by
  have hl := h.len_le
  have hl2 : M.len + 2 ≤ 256 := hl
  have wl := whole_len (f := f) (M := M)
  have hr : (whole f M).length ≤ 900 := by
    rw [wl]
    split <;> omega
  have ro := ro_whole h
  have r1 : Tb W (k + 6) 5 [.d (.tuple ((whole f M).map Rw.d)), .d (.int 0), .d (.int 3000)] cs = .ok (.d (.bool true)) cs := by
    rw [is_row_tup, decide_eq_true]
    simp
    omega
  rw [tb_20]
  unfold b_20
  refine (fn_rt rfl ((seq_if_f ((orB_f (notB_of (b := true) (val_of ((callE_of (consA_of rfl (consA_of rfl (consA_of rfl rfl)))).trans r1)))).trans (tst_of (bin_of ((callE_of (consA_of rfl (consA_of rfl rfl))).trans (first_ok (k := k) hW (by omega) ro)) rfl rfl)))).trans (ret_of ((andE_t ((callE_of (consA_of rfl rfl)).trans (lead_ok (by omega) ro))).trans ((callE_of (consA_of rfl rfl)).trans (stands_ok hW hw h)))))).trans leave_same
theorem check_ok (hW : KD W) (hw : KW W) (h : MOk f 3 M) : Tb W (k + 8) 25 [.d (.tuple ((whole f M).map Rw.d))] cs = .ok (.d .none) cs := by
  rw [tb_25]
  unfold b_25
  exact (fn_nx rfl ((ifS_f (notB_of (b := true) (val_of ((callE_of (consA_of rfl rfl)).trans (is_code_ok hW hw h))))).trans rfl)).trans leave_same
theorem run_ok (hW : KD W) (hw : KW W) (h : MOk f 3 M) {nums : List Fr} (hn : Nm nums) : Tb W (k + 9) 26 [.d (.tuple ((whole f M).map Rw.d)), .d (.tuple (nums.map fr))] cs = .ok (.d (fr (M.ev nums))) cs := by
  have hl := h.len_le
  have hl2 : M.len + 2 ≤ 256 := hl
  have wl := whole_len (f := f) (M := M)
  have hr : (whole f M).length ≤ 900 := by
    rw [wl]
    split <;> omega
  obtain ⟨kv, sts⟩ := run_whole hn h
  rw [tb_26]
  unfold b_26
  exact (fn_rt rfl ((seq_nx (expS_of ((callE_of (consA_of rfl rfl)).trans (check_ok hW hw h)))).trans ((seq_nx ((ifS_f (notB_of (b := true) (val_of ((callE_of (consA_of rfl (consA_of rfl rfl))).trans (numbers_ok (by omega) (ro_whole h) hn))))).trans rfl)).trans (ret_of ((callE_of (consA_of rfl (consA_of rfl rfl))).trans (run_by_ok hW sts)))))).trans leave_same
end
end G
end
section
set_option Elab.async false
set_option linter.all false
set_option maxRecDepth 100000
set_option maxHeartbeats 1000000
namespace G
open PySem Y
variable {W : Wd} {k : Nat} {cs : Cs}
/-! texts of data -/
theorem len_app (a b : Str) : (a ++ b).length = a.length + b.length := Array.size_append
theorem join_le (sep : Str) : ∀ ts : List Str, (Str.join sep ts).length ≤ (ts.map (·.length)).sum + sep.length * ts.length
  | [] => by simp [Str.join]; decide
  | [x] => by simp [Str.join]
  | x :: y :: r => by
    have h := join_le sep (y :: r)
    have e : Str.join sep (x :: y :: r) = x ++ sep ++ Str.join sep (y :: r) := rfl
    rw [e, len_app, len_app]
    simp only [List.map_cons, List.sum_cons, List.length_cons] at h ⊢
    have h2 : sep.length * (r.length + 1 + 1) = sep.length * (r.length + 1) + sep.length := by rw [Nat.mul_add, Nat.mul_one]
    omega
theorem tup_len (xs : List PyData) : (PyData.shown (.tuple xs)).length ≤ ((PyData.shownAll xs).map (·.length)).sum + 2 * (PyData.shownAll xs).length + 4 := by
  have e : PyData.shown (.tuple xs) = tupleText (PyData.shownAll xs) := by simp only [PyData.shown]
  rw [e]
  unfold tupleText
  rw [len_app, len_app]
  have h0 := join_le (", " : Str) (PyData.shownAll xs)
  have h1 : (Str.ofString "(").length = 1 := rfl
  have h2 : (Str.ofString ", ").length = 2 := rfl
  have h3 : (Str.ofString (if ((PyData.shownAll xs).length == 1) = true then ",)" else ")")).length ≤ 2 := by split <;> decide +kernel
  rw [h2] at h0
  omega
theorem from_len : ∀ (ts : List Str) (i : Nat) (acc : Str), (textFrom i acc ts).length ≤ acc.length + (ts.map (·.length)).sum + 2 * ts.length
  | [], i, acc => by simp [textFrom]
  | t :: ts, i, acc => by
    have h := from_len ts (i + 1) (acc ++ (if i > 0 then ", " else "" : String) ++ t)
    have h2 : (Str.ofString (if i > 0 then ", " else "" : String)).length ≤ 2 := by split <;> decide +kernel
    have e : textFrom i acc (t :: ts) = textFrom (i + 1) (acc ++ (if i > 0 then ", " else "" : String) ++ t) ts := rfl
    rw [e]
    have : (acc ++ Str.ofString (if i > 0 then ", " else "" : String) ++ t).length ≤ acc.length + 2 + t.length := by
      rw [len_app, len_app]
      omega
    simp only [List.map_cons, List.sum_cons, List.length_cons]
    omega
theorem list_len (xs : List PyData) : (PyData.shown (.list xs)).length ≤ ((PyData.shownAll xs).map (·.length)).sum + 2 * (PyData.shownAll xs).length + 4 := by
  have e : PyData.shown (.list xs) = listText (PyData.shownAll xs) := by simp only [PyData.shown]
  rw [e]
  unfold listText
  rw [len_app]
  have := from_len (PyData.shownAll xs) 0 "["
  have h1 : (Str.ofString "[").length = 1 := rfl
  have h3 : (Str.ofString "]").length = 1 := rfl
  omega
theorem str_len (s : String) : (Str.ofString s).length = s.toList.length := by
  rw [Str.ofString_eq_toList]
  show ((s.toList.map Char.toNat).toArray).size = _
  simp
theorem nat_len {n : Nat} (h : n < 10 ^ 18) : (toString n).toList.length ≤ 18 := by
  show (Nat.repr n).toList.length ≤ 18
  rw [Nat.toList_repr]
  exact (Nat.length_toDigits_le_iff (by decide) (by decide)).mpr h
theorem int_len {i : Int} (h : i.natAbs < 10 ^ 18) : (PyData.shown (.int i)).length ≤ 20 := by
  have e : PyData.shown (.int i) = Str.ofString (toString i) := by simp only [PyData.shown]
  rw [e, str_len]
  cases i with
  | ofNat n =>
    have : (toString (Int.ofNat n)).toList.length ≤ 18 := nat_len h
    omega
  | negSucc n =>
    have e2 : toString (Int.negSucc n) = "-" ++ toString (n + 1) := rfl
    have := nat_len (n := n + 1) h
    rw [e2, String.toList_append, List.length_append]
    have e3 : ("-" : String).toList.length = 1 := by decide
    omega
def Few2 (d : PyData) (n : Nat) : Prop := d.showable = true ∧ d.hasDict = false ∧ d.shown.length ≤ n
theorem few_int {i : Int} (h : i.natAbs ≤ 50000000) : Few2 (.int i) 20 := by
  refine ⟨?_, rfl, int_len (by omega)⟩
  have e : PyData.showable (.int i) = decide (i.natAbs.log2 < 1920) := by simp only [PyData.showable]
  rw [e]
  refine decide_eq_true ?_
  by_cases h0 : i.natAbs = 0
  · rw [h0]; decide
  · have : i.natAbs.log2 < 26 := (Nat.log2_lt h0).mpr (by omega)
    omega
theorem few_fr {p : Fr} (h : Gd 50000000 p) : Few2 (fr p) 60 := by
  have h1 := few_int h.n
  have h2 := few_int h.d
  have a := h1.1
  have b := h2.1
  simp only [PyData.showable] at a b
  refine ⟨by simp only [fr, PyData.showable, PyData.showableAll, a, b]; rfl, by simp [fr, PyData.hasDict, PyData.hasDictAll], ?_⟩
  show (PyData.shown (.tuple [.int p.1, .int p.2])).length ≤ 60
  have := tup_len [.int p.1, .int p.2]
  simp [PyData.shownAll] at this
  have := h1.2.2
  have := h2.2.2
  omega
theorem repr_two {p : Fr} (h : Gd 50000000 p) : reprT [.d (.list [fr p, fr p])] cs = .ok (.d (.str (PyData.shown (.list [fr p, fr p])))) cs := by
  have f := few_fr h
  have hz : sizeLine = 16777216 := sizeLine_eq
  unfold reprT
  simp only [toD]
  rw [if_pos]
  refine ⟨rfl, by rw [PyData.showable, PyData.showableAll, PyData.showableAll, PyData.showableAll, f.1]; rfl, by simp [fr, PyData.hasDict, PyData.hasDictAll], by simp [fr, PyData.depth, PyData.depthAll], ?_⟩
  have := list_len [fr p, fr p]
  simp [PyData.shownAll] at this
  have := f.2.2
  omega
end G
end
section
set_option Elab.async false
set_option linter.all false
set_option maxRecDepth 100000
set_option maxHeartbeats 1000000
namespace G
open PySem Y
variable {W : Wd} {k : Nat} {cs : Cs}
/-! the law's bag -/
theorem bin_add {f g : EF} {ρ : Rho} {c c1 c2 : Cs} {x y : Int} (h1 : f ρ c = .ok (.d (.int x)) c1) (h2 : g ρ c1 = .ok (.d (.int y)) c2) : bin addT f g ρ c = .ok (.d (.int (x + y))) c2 := bin_of h1 h2 rfl
theorem bin_mul {f g : EF} {ρ : Rho} {c c1 c2 : Cs} {x y : Int} (h1 : f ρ c = .ok (.d (.int x)) c1) (h2 : g ρ c1 = .ok (.d (.int y)) c2) (hm : mulOk x y = true) : bin mulA f g ρ c = .ok (.d (.int (x * y))) c2 := bin_of h1 h2 (by unfold mulA; exact if_pos hm)
theorem bin_mod {f g : EF} {ρ : Rho} {c c1 c2 : Cs} {x y : Int} (h1 : f ρ c = .ok (.d (.int x)) c1) (h2 : g ρ c1 = .ok (.d (.int y)) c2) (hm : 0 < y) : bin modT f g ρ c = .ok (.d (.int (x % y))) c2 := bin_of h1 h2 (by unfold modT iniC; exact if_pos (decide_eq_true hm))
theorem app_int {f : EF} {ρ : Rho} {c c1 : Cs} {x : Int} (h1 : f ρ c = .ok (.d (.int x)) c1) : app intT (consA f nilA) ρ c = .ok (.d (.int x)) c1 := (app_of (consA_of h1 rfl)).trans rfl
theorem app_abs {f : EF} {ρ : Rho} {c c1 : Cs} {x : Int} (h1 : f ρ c = .ok (.d (.int x)) c1) : app absT (consA f nilA) ρ c = .ok (.d (.int (if x < 0 then -x else x))) c1 := (app_of (consA_of h1 rfl)).trans rfl
theorem app_len {f : EF} {ρ : Rho} {c c1 : Cs} {ns : List Int} (h1 : f ρ c = .ok (.scr ns) c1) : app lenT (consA f nilA) ρ c = .ok (.d (.int ns.length)) c1 := (app_of (consA_of h1 rfl)).trans (by simp [lenT, asQ, asT, asL])
theorem bin_pow {f g : EF} {ρ : Rho} {c c1 c2 : Cs} {x y : Int} (h1 : f ρ c = .ok (.d (.int x)) c1) (h2 : g ρ c1 = .ok (.d (.int y)) c2) (hm : 0 ≤ y ∧ y ≤ 1000000 ∧ x.natAbs < 2 ^ 64) : bin powT f g ρ c = .ok (.d (.int (x ^ y.toNat))) c2 := bin_of h1 h2 (by unfold powT iniC; exact if_pos (decide_eq_true hm))
theorem tst_b {f g : EF} {o : Int → Int → Bool} {ρ : Rho} {c c1 c2 : Cs} {x y : Int} (h1 : f ρ c = .ok (.d (.int x)) c1) (h2 : g ρ c1 = .ok (.d (.int y)) c2) : tst (bin (inb o) f g) ρ c = .ok (o x y) c2 := by
  unfold tst
  rw [bin_of (op := inb o) h1 h2 rfl]
  rfl
theorem ifE_of {t : BF} {f g : EF} {ρ : Rho} {c c1 : Cs} {b : Bool} (h : t ρ c = .ok b c1) : ifE t f g ρ c = if b = true then f ρ c1 else g ρ c1 := by
  unfold ifE
  rw [h]
  rfl
theorem orB_of {f g : BF} {ρ : Rho} {c : Cs} {a b : Bool} (h : f ρ c = .ok a c) (h2 : g ρ c = .ok b c) : orB f g ρ c = .ok (a || b) c := by
  unfold orB
  rw [h]
  cases a with
  | true => rfl
  | false => exact h2
theorem allD_ints : ∀ ns : List Int, allD (ns.map fun i => T.d (.int i)) = some (ns.map PyData.int)
  | [] => rfl
  | i :: ns => by
    have := allD_ints ns
    simp only [List.map_cons, allD, this]
theorem seed_loop {M M' : Lv} {ns : List Int} {i : Int} : ∀ (xs : List Int) (s : Int) (r3 : Option T), ∃ s' r3', forL (fun _ => True) (.nm 3) (lb_27_0 W M M') (xs.map fun i => T.d (.int i)) [some (.scr ns), some (.d (.int i)), some (.d (.int s)), r3, none, none] cs = .nx [some (.scr ns), some (.d (.int i)), some (.d (.int s')), r3', none, none] cs
  | [], s, r3 => ⟨s, r3, by rw [List.map_nil]; exact forL_nil trivial⟩
  | x :: xs, s, r3 => by
    have b : lb_27_0 W M M' [some (.scr ns), some (.d (.int i)), some (.d (.int s)), some (.d (.int x)), none, none] cs = .nx [some (.scr ns), some (.d (.int i)), some (.d (.int ((s * 48271 + x % 2147483629 + 23) % 2147483647))), some (.d (.int x)), none, none] cs := by
      unfold lb_27_0
      exact set_of (bin_mod (c1 := cs) (c2 := cs) (app_int (bin_add (c1 := cs) (c2 := cs) (bin_add (c1 := cs) (c2 := cs) (bin_mul (c1 := cs) (c2 := cs) rfl rfl (mulOk_r (by decide))) (bin_mod (c1 := cs) (c2 := cs) (app_int rfl) rfl (by decide))) rfl)) rfl (by decide))
    obtain ⟨s', r3', h2⟩ := seed_loop (M := M) (M' := M') (ns := ns) (i := i) xs ((s * 48271 + x % 2147483629 + 23) % 2147483647) (some (.d (.int x)))
    refine ⟨s', r3', ?_⟩
    rw [List.map_cons]
    exact (forL_one (i := 3) trivial b).trans h2
abbrev t64 : Int := (10 : Int) ^ (64 : Int).toNat
theorem p1 : mulOk t64 t64 = true := by decide +kernel
theorem p2 : mulOk (t64 * t64) t64 = true := by decide +kernel
theorem p3 : mulOk (t64 * t64 * t64) t64 = true := by decide +kernel
theorem p4 : mulOk (t64 * t64 * t64 * t64) t64 = true := by decide +kernel
theorem p5 : mulOk (t64 * t64 * t64 * t64 * t64) t64 = true := by decide +kernel
theorem p6 : (0 : Int) < t64 * t64 * t64 * t64 * t64 * t64 := by decide +kernel
theorem leave_ref {n : Nat} {c : Cs} : leaveT cs (.ok (.ref n) c) = .ok (.ref n) c := by
  unfold leaveT
  simp [isData]
theorem lstC_three {f g h : EF} {ρ : Rho} {c c1 c2 c3 : Cs} {t u w : T} (h1 : f ρ c = .ok t c1) (h2 : g ρ c1 = .ok u c2) (h3 : h ρ c2 = .ok w c3) : lstC (consA f (consA g (consA h nilA))) ρ c = .ok (.ref c3.length) (c3 ++ [.lst [t, u, w]]) := by
  have hz : sizeLine = 16777216 := sizeLine_eq
  unfold lstC
  rw [consA_of h1 (consA_of h2 (consA_of h3 rfl))]
  simp only [R.bind_ok]
  rw [if_pos (by simp; omega)]
theorem bag_ok {ns : List Int} {i : Nat} : ∃ D : Dw, D.Ok ∧ Tb W (k + 1) 27 [.scr ns, .d (.int (i : Nat))] cs = .ok (.ref cs.length) (cs ++ [D.cell]) := by
  rw [tb_27, bq_27]
  have e0 : startR N_27.length [.scr ns, .d (.int (i : Int))] = [some (.scr ns), some (.d (.int i)), none, none, none, none] := rfl
  have e1 : setS 2 (bin addT (fun _ cs => .ok (.d (.int (52027))) cs) (bin mulA (fun _ cs => .ok (.d (.int (8009))) cs) (fun ρ cs => getV ρ 1 cs))) [some (.scr ns), some (.d (.int i)), none, none, none, none] cs = .nx [some (.scr ns), some (.d (.int i)), some (.d (.int (52027 + 8009 * i))), none, none, none] cs :=
    set_of (bin_add (c1 := cs) (c2 := cs) rfl (bin_mul (c1 := cs) (c2 := cs) rfl rfl (mulOk_l (by decide))))
  have q : seqI (sliceE slcT (fun ρ cs => getV ρ 0 cs) noO (someO (fun _ cs => .ok (.d (.int (16))) cs))) [some (.scr ns), some (.d (.int i)), some (.d (.int (52027 + 8009 * i))), none, none, none] cs = .ok ((cutL ns none (some 16)).map fun i => T.d (.int i), fun _ => True) cs := by
    have g : cutL (ns.map fun i => T.d (.int i)) none (some 16) = (cutL ns none (some 16)).map fun i => T.d (.int i) := by
      simp [cutL, List.map_drop, List.map_take]
    have e : sliceE slcT (fun ρ cs => getV ρ 0 cs) noO (someO (fun _ cs => .ok (.d (.int (16))) cs)) [some (.scr ns), some (.d (.int i)), some (.d (.int (52027 + 8009 * i))), none, none, none] cs = .ok (.d (.list ((cutL ns none (some 16)).map PyData.int))) cs := by
      show slcT cs (.scr ns) none (some 16) = _
      simp only [slcT, asL, g, allD_ints]
    unfold seqI
    rw [e]
    simp [asQ, asT, asL]
    rfl
  obtain ⟨s1, r3, e2⟩ := seed_loop (W := W) (cs := cs) (M := Tb W k) (M' := (tabs W k).2) (ns := ns) (i := i) (cutL ns none (some 16)) (52027 + 8009 * i) none
  have e3 : ∃ v : Int, ifE (tst (bin (inb fun i j => decide (i < j)) (fun ρ cs => getV ρ 1 cs) (app lenT (consA (fun ρ cs => getV ρ 0 cs) nilA)))) (app intT (consA (bin (itemT W) (fun ρ cs => getV ρ 0 cs) (fun ρ cs => getV ρ 1 cs)) nilA)) (fun _ cs => .ok (.d (.int (0))) cs) [some (.scr ns), some (.d (.int i)), some (.d (.int s1)), r3, none, none] cs = .ok (.d (.int v)) cs := by
    have t := tst_b (o := fun i j => decide (i < j)) (f := fun ρ cs => getV ρ 1 cs) (g := app lenT (consA (fun ρ cs => getV ρ 0 cs) nilA)) (ρ := [some (.scr ns), some (.d (.int i)), some (.d (.int s1)), r3, none, none]) (c := cs) (c1 := cs) (c2 := cs) (x := i) (y := ns.length) rfl (app_len rfl)
    by_cases h : i < ns.length
    · refine ⟨ns[i], (ifE_of t).trans ?_⟩
      rw [decide_eq_true (by omega), if_pos rfl]
      refine app_int (bin_of (t := .scr ns) (u := .d (.int i)) (c1 := cs) (c2 := cs) rfl rfl ?_)
      have g : L2.atI (ns.map fun i => T.d (.int i)) i = some (.d (.int ns[i])) := atI_at (by omega) (by simp [h])
      simp only [itemT, asQ, asT, asL, g]
    · refine ⟨0, (ifE_of t).trans ?_⟩
      rw [decide_eq_false (by omega), if_neg (by decide)]
  obtain ⟨v, e3⟩ := e3
  have e4 : setS 2 (bin modT (app intT (consA (bin addT (bin addT (bin mulA (fun ρ cs => getV ρ 2 cs) (fun _ cs => .ok (.d (.int (31))) cs)) (bin mulA (bin modT (app intT (consA (fun ρ cs => getV ρ 4 cs) nilA)) (fun _ cs => .ok (.d (.int (2147483629))) cs)) (fun _ cs => .ok (.d (.int (17))) cs))) (fun _ cs => .ok (.d (.int (3))) cs)) nilA)) (fun _ cs => .ok (.d (.int (2147483647))) cs)) [some (.scr ns), some (.d (.int i)), some (.d (.int s1)), r3, some (.d (.int v)), none] cs = .nx [some (.scr ns), some (.d (.int i)), some (.d (.int ((s1 * 31 + v % 2147483629 * 17 + 3) % 2147483647))), r3, some (.d (.int v)), none] cs :=
    set_of (bin_mod (c1 := cs) (c2 := cs) (app_int (bin_add (c1 := cs) (c2 := cs) (bin_add (c1 := cs) (c2 := cs) (bin_mul (c1 := cs) (c2 := cs) rfl rfl (mulOk_r (by decide))) (bin_mul (c1 := cs) (c2 := cs) (bin_mod (c1 := cs) (c2 := cs) (app_int rfl) rfl (by decide)) rfl (mulOk_r (by decide)))) rfl)) rfl (by decide))
  generalize hs : (s1 * 31 + v % 2147483629 * 17 + 3) % 2147483647 = s at e4
  have hsr : 0 ≤ s ∧ s < 2147483647 := by rw [← hs]; exact ⟨Int.emod_nonneg _ (by decide), Int.emod_lt_of_pos _ (by decide)⟩
  have pw : ∀ ρ : Rho, bin powT (fun _ cs => .ok (.d (.int (10))) cs) (fun _ cs => .ok (.d (.int (64))) cs) ρ cs = .ok (.d (.int t64)) cs := fun ρ => bin_pow (c1 := cs) (c2 := cs) rfl rfl (by decide)
  have e5 : ∀ ρ : Rho, bin mulA (bin mulA (bin mulA (bin mulA (bin mulA (bin powT (fun _ cs => .ok (.d (.int (10))) cs) (fun _ cs => .ok (.d (.int (64))) cs)) (bin powT (fun _ cs => .ok (.d (.int (10))) cs) (fun _ cs => .ok (.d (.int (64))) cs))) (bin powT (fun _ cs => .ok (.d (.int (10))) cs) (fun _ cs => .ok (.d (.int (64))) cs))) (bin powT (fun _ cs => .ok (.d (.int (10))) cs) (fun _ cs => .ok (.d (.int (64))) cs))) (bin powT (fun _ cs => .ok (.d (.int (10))) cs) (fun _ cs => .ok (.d (.int (64))) cs))) (bin powT (fun _ cs => .ok (.d (.int (10))) cs) (fun _ cs => .ok (.d (.int (64))) cs)) ρ cs = .ok (.d (.int (t64 * t64 * t64 * t64 * t64 * t64))) cs := fun ρ =>
    bin_mul (bin_mul (bin_mul (bin_mul (bin_mul (pw _) (pw _) p1) (pw _) p2) (pw _) p3) (pw _) p4) (pw _) p5
  have hw := p6
  generalize t64 * t64 * t64 * t64 * t64 * t64 = w at e5 hw
  have e6 : ∃ f : Int, ifE (orB (tst (bin (inb fun i j => decide (i < j)) (fun ρ cs => getV ρ 4 cs) (fun _ cs => .ok (.d (.int (0))) cs))) (tst (bin (inb fun i j => decide (j ≤ i)) (fun ρ cs => getV ρ 4 cs) (bin powT (fun _ cs => .ok (.d (.int (10))) cs) (fun _ cs => .ok (.d (.int (15))) cs))))) (bin modT (app intT (consA (app absT (consA (fun ρ cs => getV ρ 4 cs) nilA)) nilA)) (fun ρ cs => getV ρ 5 cs)) (fun _ cs => .ok (.d (.int (0))) cs) [some (.scr ns), some (.d (.int i)), some (.d (.int s)), r3, some (.d (.int v)), some (.d (.int w))] cs = .ok (.d (.int f)) cs := by
    have t1 := tst_b (o := fun i j => decide (i < j)) (f := fun ρ cs => getV ρ 4 cs) (g := fun _ cs => .ok (.d (.int (0))) cs) (ρ := [some (.scr ns), some (.d (.int i)), some (.d (.int s)), r3, some (.d (.int v)), some (.d (.int w))]) (c := cs) (c1 := cs) (c2 := cs) (x := v) (y := 0) rfl rfl
    have t2 := tst_b (o := fun i j => decide (j ≤ i)) (f := fun ρ cs => getV ρ 4 cs) (ρ := [some (.scr ns), some (.d (.int i)), some (.d (.int s)), r3, some (.d (.int v)), some (.d (.int w))]) (c := cs) (c1 := cs) (x := v) rfl (bin_pow (f := fun _ cs => .ok (.d (.int (10))) cs) (g := fun _ cs => .ok (.d (.int (15))) cs) (c1 := cs) (c2 := cs) (x := 10) (y := 15) rfl rfl (by decide))
    have t := orB_of t1 t2
    cases hb : (decide (v < 0) || decide ((10 : Int) ^ (15 : Int).toNat ≤ v)) with
    | true => exact ⟨(if v < 0 then -v else v) % w, (ifE_of t).trans (by rw [hb, if_pos rfl]; exact bin_mod (c2 := cs) (app_int (app_abs rfl)) rfl hw)⟩
    | false => exact ⟨0, (ifE_of t).trans (by rw [hb, if_neg (by decide)])⟩
  obtain ⟨f, e6⟩ := e6
  have hz : sizeLine = 16777216 := sizeLine_eq
  refine ⟨⟨f, s, 0⟩, hsr, ?_⟩
  refine (fn_rt rfl (t := .ref cs.length) (c1 := cs ++ [Cell.lst [.d (.int f), .d (.int s), .d (.int 0)]]) ?_).trans leave_ref
  rw [e0]
  refine (seq_nx e1).trans ((seq_nx ((forS_of q).trans e2)).trans ((seq_nx (set_of e3)).trans ((seq_nx e4).trans ((seq_nx (set_of (e5 _))).trans (ret_of ?_)))))
  exact lstC_three e6 rfl rfl
end G
end
section
set_option Elab.async false
set_option linter.all false
set_option maxRecDepth 100000
set_option maxHeartbeats 1000000
namespace G
open PySem Y
variable {W : Wd} {k : Nat} {cs : Cs}
theorem tup_list {ds : List PyData} : tupleT [.d (.list ds)] cs = .ok (.d (.tuple ds)) cs := by
  have e : ∀ l : List PyData, allD (l.map T.d) = some l := fun l => by
    induction l with
    | nil => rfl
    | cons x l ih => simp [allD, ih]
  unfold tupleT
  simp only [asL, e]
theorem lcL_one {i : Nat} {e : EF} {ρ : Rho} {t x : T} {ts xs : List T} {c2 c : Cs} (h : e (ρ.set i (some t)) cs = .ok x c2) (h2 : lcL (fun _ => True) (.nm i) yesB e ρ ts c2 = .ok xs c) : lcL (fun _ => True) (.nm i) yesB e ρ (t :: ts) cs = .ok (x :: xs) c := by
  rw [lcL, if_pos trivial]
  have y : ∀ (ρ : Rho) (cs : Cs), yesB ρ cs = .ok true cs := fun _ _ => rfl
  simp only [asgP, y, R.bind_ok, if_true, h, h2]
theorem lcL_nil {p : Pat} {tt : BF} {e : EF} {ρ : Rho} : lcL (fun _ => True) p tt e ρ [] cs = .ok [] cs := by rw [lcL, if_pos trivial]
theorem lcE_of {f : IF} {vs : List Nat} {p : Pat} {tt : BF} {e : EF} {ρ : Rho} {c c1 c2 : Cs} {ts xs : List T} {ds : List PyData} {keep : Cs → Prop} (hf : f ρ c = .ok (ts, keep) c1) (hl : ts.length ≤ 3000) (h : lcL keep p tt e (wipeR ρ vs) ts c1 = .ok xs c2) (hd : allD xs = some ds) : lcE f vs p tt e ρ c = .ok (.d (.list ds)) c2 := by
  have hz : sizeLine = 16777216 := sizeLine_eq
  unfold lcE lcA
  rw [hf]
  simp only [R.bind_ok]
  rw [if_pos (by omega), h]
  simp only [R.bind_ok, hd]
def frontD (f : Bool) : List PyData := if f = true then [(Rw.push (5, 2)).d, (Rw.keep 7).d] else []
theorem front_ne (f : Bool) : neT (.d (.list (frontD f))) (.d (.list [])) cs = .ok (.d (.bool f)) cs := by
  have h0 : SeqAt.shaped (.list []) = true := by decide +kernel
  have h1 : ∀ f : Bool, SeqAt.shaped (.list (frontD f)) = true := by decide +kernel
  have h2 : ∀ f : Bool, PyData.eqv (.list (frontD f)) (.list []) = !f := by decide +kernel
  unfold neT eqD
  simp only [toD, h0, h1, h2, and_self, if_true, Bool.not_not]
theorem front_len (f : Bool) : (frontD f).length = if f = true then 2 else 0 := by cases f <;> rfl
theorem whole_d (f : Bool) (M : Mx) : frontD f ++ (M.rows (if f = true then 2 else 0)).map Rw.d = (whole f M).map Rw.d := by
  cases f with
  | true => rfl
  | false => rfl
theorem callKE_two {F : FF} {g : AF} {ρ : Rho} {c c1 : Cs} {t u : T} (h : g ρ c = .ok [t, u] c1) : callKE 2 [1, 0] F g ρ c = F [u, t] c1 := by
  unfold callKE
  rw [h]
  rfl
theorem nei_f {a b : Int} (h : a = b) : neT (.d (.int a)) (.d (.int b)) cs = .ok (.d (.bool false)) cs := by simp [neT, eqD, h]
/-- one machine drawn is right -/
theorem right_ok (hW : KD W) (hw : KW W) {n : Nat} (hn : n < cs.length) (D : Dw) (hD : D.Ok) : ∃ D' : Dw, D'.Ok ∧ Tb W (k + 10) 36 [.ref n] (cs.set n D.cell) = .ok (.d (.bool true)) (cs.set n D'.cell) := by
  have r := D.val_range (m := 2) (by decide)
  have o1 := Dw.next_ok hD 2
  -- front
  obtain ⟨f, e1⟩ : ∃ f : Bool, ifE (tst (bin eqT (callE (Tb W (k + 9) 28) [] (consA (fun ρ cs => getV ρ 0 cs) (consA (fun _ cs => .ok (.d (.int (2))) cs) nilA))) (fun _ cs => .ok (.d (.int (0))) cs))) (lstE (consA (tupE (consA (fun _ cs => .ok (.d (.str "push")) cs) (consA (fun _ cs => .ok (.d (.int (5))) cs) (consA (fun _ cs => .ok (.d (.int (2))) cs) nilA)))) (consA (tupE (consA (fun _ cs => .ok (.d (.str "keep")) cs) (consA (fun _ cs => .ok (.d (.int (7))) cs) nilA))) nilA))) (lstE nilA) [some (.ref n), none, none, none, none, none] (cs.set n D.cell) = .ok (.d (.list (frontD f))) (cs.set n (D.next 2).cell) := by
    have ec : callE (Tb W (k + 9) 28) [] (consA (fun ρ cs => getV ρ 0 cs) (consA (fun _ cs => .ok (.d (.int (2))) cs) nilA)) [some (.ref n), none, none, none, none, none] (cs.set n D.cell) = .ok (.d (.int (D.val 2))) (cs.set n (D.next 2).cell) := (call2 rfl rfl).trans (takeU hn hD (by decide))
    by_cases hv : D.val 2 = 0
    · exact ⟨true, (ifE_t (tst_of (bin_of ec rfl (eqi_t hv)))).trans (lst_of (consA_of (tup_of (consA_of rfl (consA_of rfl (consA_of rfl rfl))) rfl (by simp)) (consA_of (tup_of (consA_of rfl (consA_of rfl rfl)) rfl (by simp)) rfl)) rfl (by decide))⟩
    · exact ⟨false, (ifE_f (tst_of (bin_of ec rfl (eqi_f hv)))).trans (lst_of rfl rfl (by decide))⟩
  -- rows
  obtain ⟨M, D2, m1, o2, e2⟩ := some_ok (W := W) (cs := cs) hn f 3 (Nat.le_refl _) (k + 2) (D.next 2) o1 (if f = true then 2 else 0)
  have e2 : Tb W (k + 9) 35 [.ref n, .d (.int 3), .d (.int ((if f = true then 2 else 0 : Nat) : Int)), .d (.bool f)] (cs.set n (D.next 2).cell) = .ok (.d (.list ((M.rows (if f = true then 2 else 0)).map Rw.d))) (cs.set n D2.cell) := e2
  have hl := m1.len_le
  have hl2 : M.len + 2 ≤ 256 := hl
  have e3 : app tupleT (consA (bin addT (fun ρ cs => getV ρ 1 cs) (callE (Tb W (k + 9) 35) [] (consA (fun ρ cs => getV ρ 0 cs) (consA (fun _ cs => .ok (.d (.int (3))) cs) (consA (app lenT (consA (fun ρ cs => getV ρ 1 cs) nilA)) (consA (bin neT (fun ρ cs => getV ρ 1 cs) (lstE nilA)) nilA)))))) nilA) [some (.ref n), some (.d (.list (frontD f))), none, none, none, none] (cs.set n (D.next 2).cell) = .ok (.d (.tuple ((whole f M).map Rw.d))) (cs.set n D2.cell) := by
    refine (app_of (consA_of (bin_of rfl ((some_call rfl rfl ((app_of (consA_of rfl rfl)).trans (len_list (by rw [front_len]))) (bin_of rfl (lst_of (ds := []) rfl rfl (by simp)) (front_ne f))).trans e2) (addl ?_)) rfl)).trans ?_
    · rw [List.length_append, front_len, List.length_map, M.rows_len]
      split <;> omega
    · rw [whole_d]
      exact tup_list
  -- numbers
  obtain ⟨p1, D3, s1, o3, c1⟩ := cut_draw (W := W) (k := k + 8) (ρ := [some (.ref n), some (.d (.list (frontD f))), some (.d (.tuple ((whole f M).map Rw.d))), none, none, some (.d (.int 0))]) hn o2 (fun _ => rfl)
  obtain ⟨p2, D4, s2, o4, c2⟩ := cut_draw (W := W) (k := k + 8) (ρ := [some (.ref n), some (.d (.list (frontD f))), some (.d (.tuple ((whole f M).map Rw.d))), none, none, some (.d (.int 1))]) hn o3 (fun _ => rfl)
  obtain ⟨p3, D5, s3, o5, c3⟩ := cut_draw (W := W) (k := k + 8) (ρ := [some (.ref n), some (.d (.list (frontD f))), some (.d (.tuple ((whole f M).map Rw.d))), none, none, some (.d (.int 2))]) hn o4 (fun _ => rfl)
  have hnm : Nm [p1, p2, p3] := ⟨rfl, fun p hp => by
    rcases List.mem_cons.mp hp with rfl | hp
    · exact s1
    · rcases List.mem_cons.mp hp with rfl | hp
      · exact s2
      · cases List.mem_singleton.mp hp
        exact s3⟩
  have e4 : app tupleT (consA (lcE (rng1I (consA (fun _ cs => .ok (.d (.int (3))) cs) nilA)) [5] (.nm 5) yesB (callE (Tb W (k + 9) 30) [] (consA (bin subY (callE (Tb W (k + 9) 28) [] (consA (fun ρ cs => getV ρ 0 cs) (consA (fun _ cs => .ok (.d (.int (9))) cs) nilA))) (fun _ cs => .ok (.d (.int (4))) cs)) (consA (bin addT (fun _ cs => .ok (.d (.int (1))) cs) (callE (Tb W (k + 9) 28) [] (consA (fun ρ cs => getV ρ 0 cs) (consA (fun _ cs => .ok (.d (.int (3))) cs) nilA)))) nilA)))) nilA) [some (.ref n), some (.d (.list (frontD f))), some (.d (.tuple ((whole f M).map Rw.d))), none, none, none] (cs.set n D2.cell) = .ok (.d (.tuple ([p1, p2, p3].map fr))) (cs.set n D5.cell) := by
    have er : rng1I (consA (fun _ cs => .ok (.d (.int (3))) cs) nilA) [some (.ref n), some (.d (.list (frontD f))), some (.d (.tuple ((whole f M).map Rw.d))), none, none, none] (cs.set n D2.cell) = .ok ([.d (.int 0), .d (.int 1), .d (.int 2)], fun _ => True) (cs.set n D2.cell) := rng1_of (j := 3) rfl (by decide)
    exact (app_of (consA_of (lcE_of (ds := [p1, p2, p3].map fr) er (by simp) (lcL_one c1 (lcL_one c2 (lcL_one c3 lcL_nil))) rfl) rfl)).trans tup_list
  -- due
  obtain ⟨kv, sts⟩ := run_whole hnm m1
  have e5 : Tb W (k + 9) 34 [.d (.tuple ((whole f M).map Rw.d)), .d (.tuple ([p1, p2, p3].map fr))] (cs.set n D5.cell) = .ok (.d (.list [fr (M.ev [p1, p2, p3])])) (cs.set n D5.cell) := machine_ok (k := k + 5) sts
  have e6 : Tb W (k + 9) 26 [.d (.tuple ((whole f M).map Rw.d)), .d (.tuple ([p1, p2, p3].map fr))] (cs.set n D5.cell) = .ok (.d (fr (M.ev [p1, p2, p3]))) (cs.set n D5.cell) := run_ok hW hw m1 hnm
  have gd : Gd 50000000 (M.ev [p1, p2, p3]) := (gd_ev hnm m1).mono (bd_le (Nat.le_refl _))
  refine ⟨D5, o5, ?_⟩
  rw [tb_36, tqe_b_36, tqe_b_36_1, tqe_b_36_2, tqe_b_36_3, tqe_b_36_4, tqe_b_36_5]
  refine (fn_rt rfl ((seq_nx (set_of e1)).trans ((seq_nx (set_of e3)).trans ((seq_nx (set_of e4)).trans ((seq_nx (set_of ((callE_of (consA_of rfl (consA_of rfl rfl))).trans e5))).trans ((seq_if_f (tst_of (bin_of ((app_of (consA_of rfl rfl)).trans (len_list (n := 1) rfl)) rfl (nei_f rfl)))).trans (ret_of ?_))))))).trans (leave_len (by simp))
  refine bin_of ((app_of (consA_of (lst_of (consA_of ((callE_of (consA_of rfl (consA_of rfl rfl))).trans e6) (consA_of ((callKE_two (consA_of rfl (consA_of rfl rfl))).trans e6) rfl)) rfl (by simp)) rfl)).trans (repr_two gd)) ((app_of (consA_of (lst_of (consA_of (bin_of rfl rfl (item_list (by decide) rfl)) (consA_of (bin_of rfl rfl (item_list (by decide) rfl)) rfl)) rfl (by simp)) rfl)).trans (repr_two gd)) eqs_t
theorem rights (hW : KD W) (hw : KW W) {n : Nat} (hn : n < cs.length) {x0 x1 : Option T} : ∀ (ts : List T) (D : Dw), D.Ok → ∃ D' : Dw, D'.Ok ∧ lcL (fun _ => True) (.nm 3) yesB (callE (Tb W (k + 10) 36) [] (consA (fun ρ cs => getV ρ 2 cs) nilA)) [x0, x1, some (.ref n), none] ts (cs.set n D.cell) = .ok (List.replicate ts.length (.d (.bool true))) (cs.set n D'.cell)
  | [], D, hD => ⟨D, hD, lcL_nil⟩
  | t :: ts, D, hD => by
    obtain ⟨D1, o1, e1⟩ := right_ok (W := W) (k := k) (cs := cs) hW hw hn D hD
    obtain ⟨D2, o2, e2⟩ := rights hW hw hn (x0 := x0) (x1 := x1) ts D1 o1
    exact ⟨D2, o2, lcL_one ((callE_of (consA_of rfl rfl)).trans e1) e2⟩
theorem laps (hW : KD W) (hw : KW W) {M' : Lv} {ns : List Int} : ∀ (ts : List T), (∀ t ∈ ts, ∃ i : Nat, t = .d (.int (i : Int))) → ∀ (c : Cs) (x1 x2 : Option T), ∃ c' y1 y2, forL (fun _ => True) (.nm 1) (lb_37_0 W (Tb W (k + 10)) M') ts [some (.scr ns), x1, x2, none] c = .nx [some (.scr ns), y1, y2, none] c'
  | [], _, c, x1, x2 => ⟨c, x1, x2, forL_nil trivial⟩
  | t :: ts, ht, c, x1, x2 => by
    obtain ⟨i, rfl⟩ := ht t List.mem_cons_self
    obtain ⟨D, oD, e1⟩ := bag_ok (W := W) (k := k + 9) (cs := c) (ns := ns) (i := i)
    have hn : c.length < (c ++ [D.cell]).length := by simp
    have hset : c ++ [D.cell] = (c ++ [D.cell]).set c.length D.cell := set_cell app_end
    obtain ⟨D2, _, e2⟩ := rights (W := W) (k := k) (cs := c ++ [D.cell]) hW hw hn (x0 := some (.scr ns)) (x1 := some (.d (.int (i : Int)))) (rngL 0 8) D oD
    rw [← hset] at e2
    obtain ⟨c', y1, y2, e3⟩ := laps hW hw (M' := M') (ns := ns) ts (fun t h => ht t (List.mem_cons_of_mem _ h)) ((c ++ [D.cell]).set c.length D2.cell) (some (.d (.int (i : Int)))) (some (.ref c.length))
    refine ⟨c', y1, y2, ?_⟩
    have el : lcE (rng1I (consA (fun _ cs => .ok (.d (.int (8))) cs) nilA)) [3] (.nm 3) yesB (callE (Tb W (k + 10) 36) [] (consA (fun ρ cs => getV ρ 2 cs) nilA)) [some (.scr ns), some (.d (.int (i : Int))), some (.ref c.length), none] (c ++ [D.cell]) = .ok (.d (.list (List.replicate (rngL 0 8).length (.bool true)))) ((c ++ [D.cell]).set c.length D2.cell) :=
      lcE_of (rng1_of (j := 8) rfl (by decide)) (by decide) e2 (trues_data _)
    have ea : app allT (consA (lcE (rng1I (consA (fun _ cs => .ok (.d (.int (8))) cs) nilA)) [3] (.nm 3) yesB (callE (Tb W (k + 10) 36) [] (consA (fun ρ cs => getV ρ 2 cs) nilA))) nilA) [some (.scr ns), some (.d (.int (i : Int))), some (.ref c.length), none] (c ++ [D.cell]) = .ok (.d (.bool true)) ((c ++ [D.cell]).set c.length D2.cell) := by
      refine (app_of (consA_of el rfl)).trans ?_
      unfold allT listB
      have e5 : asL ((c ++ [D.cell]).set c.length D2.cell) (.d (.list (List.replicate (rngL 0 8).length (.bool true)))) = some (List.replicate (rngL 0 8).length (.d (.bool true))) := by
        show some ((List.replicate (rngL 0 8).length (PyData.bool true)).map T.d) = _
        rw [List.map_replicate]
      dsimp only
      rw [e5]
      dsimp only
      rw [trues_all]
      simp
    have eb : lb_37_0 W (Tb W (k + 10)) M' [some (.scr ns), some (.d (.int (i : Int))), x2, none] c = .nx [some (.scr ns), some (.d (.int (i : Int))), some (.ref c.length), none] ((c ++ [D.cell]).set c.length D2.cell) := by
      unfold lb_37_0
      exact (seq_nx (set_of ((callE_of (consA_of rfl (consA_of rfl rfl))).trans e1))).trans ((ifS_f (notB_of (b := true) (val_of ea))).trans rfl)
    exact (forL_one (i := 1) trivial eb).trans e3
theorem rng_nat {j : Int} : ∀ t ∈ rngL 0 j, ∃ i : Nat, t = .d (.int (i : Int)) := fun t ht => by
  unfold rngL at ht
  obtain ⟨i, hi, rfl⟩ := List.mem_map.mp ht
  exact ⟨i, by rw [Int.zero_add]⟩
theorem law_ok (hW : KD W) (hw : KW W) {M' : Lv} {ns : List Int} (hl : ns.length ≤ 63) : ∃ c, fnF N_37.length ps_37.length (b_37 W (Tb W (k + 10)) M') [.scr ns] [] = .ok (.d (.bool true)) c := by
  have e1 : app max2T (consA (fun _ cs => .ok (.d (.int (2))) cs) (consA (app min2T (consA (app lenT (consA (fun ρ cs => getV ρ 0 cs) nilA)) (consA (fun _ cs => .ok (.d (.int (3))) cs) nilA))) nilA)) [some (.scr ns), none, none, none] [] = .ok (.d (.int (if (if (3 : Int) < ns.length then 3 else (ns.length : Int)) > 2 then (if (3 : Int) < ns.length then 3 else (ns.length : Int)) else 2))) [] :=
    (app_of (consA_of rfl (consA_of ((app_of (consA_of (app_len rfl) (consA_of rfl rfl))).trans rfl) rfl))).trans rfl
  generalize hj : (if (if (3 : Int) < ns.length then 3 else (ns.length : Int)) > 2 then (if (3 : Int) < ns.length then 3 else (ns.length : Int)) else 2) = j at e1
  have hj2 : 0 ≤ j ∧ j ≤ 3 := by
    subst hj
    split <;> split at * <;> omega
  obtain ⟨c, y1, y2, e2⟩ := laps (W := W) (k := k) hW hw (M' := M') (ns := ns) (rngL 0 j) rng_nat [] none none
  refine ⟨c.take 0, (fn_rt rfl (t := .d (.bool true)) (c1 := c) ?_).trans ?_⟩
  · rw [bq_37]
    exact (seq_nx ((forS_of (rng1_of (consA_of e1 rfl) ⟨by omega, by omega⟩)).trans e2)).trans (ret_of rfl)
  · unfold leaveT
    simp [isData]
end G
end
section
set_option Elab.async false
set_option linter.all false
set_option maxRecDepth 100000
set_option maxHeartbeats 1000000
namespace G
open PySem Y
variable {K : PySem.W.Frag}
theorem kd_wk : KD (WK K) where
  ln := fun r cs => by
    cases r with
    | op o => rcases fin4 o with rfl | rfl | rfl | rfl <;> rfl
    | _ => rfl
  tk := fun r cs => by
    cases r with
    | op o => rcases fin4 o with rfl | rfl | rfl | rfl <;> rfl
    | _ => rfl
  lv := fun r cs => by
    cases r with
    | op o => rcases fin4 o with rfl | rfl | rfl | rfl <;> rfl
    | _ => rfl
  ni := fun r cs => by
    cases r with
    | op o => rcases fin4 o with rfl | rfl | rfl | rfl <;> rfl
    | _ => rfl
theorem kw_wk : KW (WK K) := ⟨by rfl, by rfl, by rfl, by rfl⟩
theorem plain : Plain := fun K ns hl => law_ok (k := 30) kd_wk kw_wk hl
end G
theorem PySem.Challenge.cw_scaletongue_k59_whole_machines_with_jump_holds : PySem.Challenge.rw_scaletongue_k59_whole_machines_with_jump.Holds := by
  exact k59_of G.plain
end
