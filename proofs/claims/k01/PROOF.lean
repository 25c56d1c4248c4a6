import PyProof.Rows.All
import Wide.All
import OpenK.AllK
import Wide.FinOn
import HandS.ForMost
import HandS.Lambda
import HandS.ExcInit
import HandS.Flow
import HandS.TupAny
import HandS.Gcd
import HandS.Wide
import HandS.WideBits
import HandS.Deep
import HandS.CallLocal
import HandS.DictComp
import HandS.Star
import HandS.More
import PyProof.Rows.InDataRows
import HandS.IsInst
import HandS.Defaults
import HandS.RaiseMore
import HandS.NoneIn
import HandS.Style
import HandS.Walk
import HandS.Zip
import KE.GoesEnum
import HandS.Words
import HandS.HeadEnd
import HandS.Small
import HandS.TupLen
import PyProof.ReprReads
import PyProof.ReprRoads
import PyProof.AutoSeq1
import PyProof.AutoIntG7
import PyProof.TwoTypesSub
import PyProof.StrOps2
import HandS.Text
import HandS.HeadHook1
import HandS.HeadHook2
import HandS.HeadHook3
import HandS.HeadHook4
import KE.KDictOf
import HandS.Head1
import HandS.Head2
import HandS.ExcValue
import HandS.TupSets
import HandS.Iter
import HandS.EndTab
import HandS.EndBits
import HandS.NestedK
import KE.KNestM
import HandS.Nested
import KE.KExcSuper
import HandS.ExcField
import KE.KExcIs
import HandS.ExcIs
import HandS.HotCalls
import HandS.ExcInitHot
import HandS.ExcCtx
import PyProof.CallFns
import PyProof.IsRules
import PySem.Challenge.RW_scaletongue_k01_errors_each_of_its_own
import KE.KStateDown
import HandS.Head0
import HandS.Head3
section
set_option Elab.async false
set_option linter.all false
set_option maxRecDepth 100000
set_option maxHeartbeats 1000000
/-! Y: values as data and cells; what an expression, a statement means. -/
namespace Y
open PySem PySem.Spec L2

inductive T where
  | d (x : PyData)
  | scr (ns : List Int)
  | ref (n : Nat)
  | kd (i : Nat)
  | fn (i : Nat)
  | met (n m : Nat)
  | clo (i : Nat) (vs : List T)
  | exc (a : Addr) (ci : Nat) (d : Option Addr)

inductive Cell where
  | lst (xs : List T)
  | dk (kvs : List (Key × T))
  | dt (kvs : List (List Key × T))
  | ins (c : Nat) (fs : List (Str × T))
  | exn (c : Nat) (fs : List (Str × T))
  | dead

abbrev Cs := List Cell
abbrev Rho := List (Option T)

inductive R (α : Type) where
  | ok (a : α) (cs : Cs)
  | stuck
def R.bind {α β : Type} (r : R α) (k : α → Cs → R β) : R β := match r with
  | .ok a cs => k a cs
  | .stuck => .stuck
@[simp] theorem R.bind_ok {α β : Type} (a : α) (cs : Cs) (k : α → Cs → R β) : (R.ok a cs).bind k = k a cs := rfl
@[simp] theorem R.bind_stuck {α β : Type} (k : α → Cs → R β) : (R.stuck).bind k = .stuck := rfl
theorem R.bind_inv {α β : Type} {r : R α} {k : α → Cs → R β} {b : β} {c : Cs} (h : r.bind k = .ok b c) : ∃ a c1, r = .ok a c1 ∧ k a c1 = .ok b c := by
  cases r with
  | ok a c1 => exact ⟨a, c1, rfl, h⟩
  | stuck => cases h

/-- a lambda's words -/
structure Lam where
  qual : Str
  params : Arguments
  body : Expr
  scope : Scope
/-- the object of a lambda that captures nothing, its code at c -/
def LmO (L : Lam) (c f : Addr) : HO := .ext fun h => ∃ (pm ctv : Value), h.get? f = some (PySem.W.kla_obj "<lambda>" L.qual L.params L.body L.scope [] pm c ctv)
/-- the program's addresses -/
structure Wd where
  fad : Nat → Addr
  cad : Nat → Addr
  kad : Nat → Addr
  kdv : Nat → List (Str × T)
  okf : Nat → Str → Bool
  tbs : List (Addr × Str)
  lam : Nat → Lam

/-! data in the part that stays: lists are our own -/
mutual
inductive Dz (K : PySem.W.Frag) (Z : Hp) : V → PyData → Prop
  | non : Dz K Z .non .none
  | bl (b : Bool) : Dz K Z (.bl b) (.bool b)
  | int (i : Int) : Dz K Z (.int i) (.int i)
  | str (x : Str) : Dz K Z (.str x) (.str x)
  | lst {a : Addr} {xs : List V} {ds : List PyData} : Z a = some (.lst xs) → DzAll K Z xs ds → Dz K Z (.ref a) (.list ds)
  | tup {a : Addr} {xs : List V} {ds : List PyData} : SqT K Z a xs → DzAll K Z xs ds → Dz K Z (.ref a) (.tuple ds)
  | edc {a : Addr} : Z a = some (.dK []) → Dz K Z (.ref a) (.dict [])
inductive DzAll (K : PySem.W.Frag) (Z : Hp) : List V → List PyData → Prop
  | nil : DzAll K Z [] []
  | cons {v : V} {vs : List V} {d : PyData} {ds : List PyData} : Dz K Z v d → DzAll K Z vs ds → DzAll K Z (v :: vs) (d :: ds)
end
theorem SqL.zmono {K : PySem.W.Frag} {Z Z' : Hp} (hz : ∀ a o, Z a = some o → Z' a = some o) {a : Addr} {xs : List V} (h : SqL K Z a xs) : SqL K Z' a xs := by
  rcases h with h | h
  · refine .inl ?_
    rcases h with h | ⟨o, h⟩
    · exact .inl (hz _ _ h)
    · exact .inr ⟨o, hz _ _ h⟩
  · exact .inr h
theorem SqT.zmono {K : PySem.W.Frag} {Z Z' : Hp} (hz : ∀ a o, Z a = some o → Z' a = some o) {a : Addr} {xs : List V} (h : SqT K Z a xs) : SqT K Z' a xs := by
  rcases h with h | h
  · refine .inl ?_
    rcases h with h | ⟨o, h⟩
    · exact .inl (hz _ _ h)
    · exact .inr ⟨o, hz _ _ h⟩
  · exact .inr h
mutual
theorem Dz.dp {K : PySem.W.Frag} {Z Z' : Hp} (hz : ∀ a o, Z a = some o → Z' a = some o) : ∀ (d : PyData) (v : V), d.hasDict = false → Dz K Z v d → Dp K Z' v d
  | .none, _, _, h => by cases h; exact .non
  | .bool _, _, _, h => by cases h; exact .bl _
  | .int _, _, _, h => by cases h; exact .int _
  | .str _, _, _, h => by cases h; exact .str _
  | .list ds, _, e, h => by
    cases h with
    | lst hs ha => exact .lst (SqL.of (hz _ _ hs)) (DzAll.dp hz ds _ (by simpa only [PyData.hasDict] using e) ha)
  | .tuple ds, _, e, h => by
    cases h with
    | tup hs ha => exact .tup (SqT.zmono hz hs) (DzAll.dp hz ds _ (by simpa only [PyData.hasDict] using e) ha)
  | .dict _, _, e, _ => by simp [PyData.hasDict] at e
theorem DzAll.dp {K : PySem.W.Frag} {Z Z' : Hp} (hz : ∀ a o, Z a = some o → Z' a = some o) : ∀ (ds : List PyData) (vs : List V), PyData.hasDictAll ds = false → DzAll K Z vs ds → DpAll K Z' vs ds
  | [], _, _, h => by cases h; exact .nil
  | d :: ds, _, e, h => by
    rw [PyData.hasDictAll, Bool.or_eq_false_iff] at e
    cases h with
    | cons h1 h2 => exact .cons (Dz.dp hz d _ e.1 h1) (DzAll.dp hz ds _ e.2 h2)
end

/-- a table of code objects, all of them told: it is written, but nothing else -/
def TabZ (Z H : Hp) (P : Addr) (q : Str) : Prop := Z P = none ∧ ∃ ps : Array Value, H P = some (.tbl ps) ∧ TriplesOk ps.toList ∧ ∀ (pos : Pos) (cv : Value), PySem.codeAmong pos ps.toList = some cv → ∃ c, cv = .ref c ∧ Z c = some (LamX.CodeO c q)
section
variable (W : Wd) (K : PySem.W.Frag)
inductive Rep (φ : List Addr) (Z : Hp) : T → V → Prop
  | d {x : PyData} {v : V} : Dz K Z v x → Rep φ Z (.d x) v
  | scr {ns : List Int} {a : Addr} : SqL K Z a (ns.map V.int) → Rep φ Z (.scr ns) (.ref a)
  | ref {n : Nat} {a : Addr} : φ[n]? = some a → Rep φ Z (.ref n) (.ref a)
  | kd (i : Nat) : Rep φ Z (.kd i) (.ref (W.kad i))
  | fn (i : Nat) : Rep φ Z (.fn i) (.ref (W.fad i))
  | met {n m : Nat} {a p : Addr} : φ[n]? = some a → Z p = some (.met (W.fad m) a) → Rep φ Z (.met n m) (.ref p)
  | clo {i : Nat} {f c : Addr} : Z f = some (LmO (W.lam i) c f) → Z c = some (LamX.CodeO c (W.lam i).qual) → Rep φ Z (.clo i []) (.ref f)
  | exc {a : Addr} {ci : Nat} {d : Option Addr} : (∀ dd, d = some dd → ∃ fs, Z dd = some (.xd fs)) → Rep φ Z (.exc a ci d) (.ref a)
abbrev Reps (φ : List Addr) (Z : Hp) : List T → List V → Prop := Paired (Rep W K φ Z)
abbrev RepKV {κ : Type} (φ : List Addr) (Z : Hp) : List (κ × T) → List (κ × V) → Prop := Paired fun p q => p.1 = q.1 ∧ Rep W K φ Z p.2 q.2

def CellAt (φ : List Addr) (Z H : Hp) (a : Addr) : Cell → Prop
  | .lst xs => Z a = none ∧ ∃ vs, H a = some (.lst vs) ∧ Reps W K φ Z xs vs
  | .dk kvs => Z a = none ∧ ∃ vs, H a = some (.dK vs) ∧ RepKV W K φ Z kvs vs
  | .dt kvs => Z a = none ∧ ∃ vs, H a = some (.dT vs) ∧ RepKV W K φ Z kvs vs
  | .ins c fs => Z a = none ∧ ∃ dx vs, H a = some (.ins (W.cad c) dx vs) ∧ RepKV W K φ Z fs vs
  | .exn c fs => ∃ od vs, Z a = some (exo a (W.cad c) od) ∧ (match od with | none => fs = [] ∧ vs = [] | some d => Z d = some (exd d vs)) ∧ RepKV W K φ Z fs vs
  | .dead => True

structure Sim (φ : List Addr) (Z : Hp) (cs : Cs) (H : Hp) : Prop where
  sub : ∀ a o, Z a = some o → H a = some o
  len : φ.length = cs.length
  nd : φ.Nodup
  there : ∀ a ∈ φ, ∃ o, H a = some o
  cell : ∀ (n : Nat) c a, cs[n]? = some c → φ[n]? = some a → CellAt W K φ Z H a c
  tb : ∀ p ∈ W.tbs, TabZ Z H p.1 p.2
end

/-- how the state has moved on -/
structure Ext (φ : List Addr) (Z H : Hp) (φ' : List Addr) (Z' H' : Hp) : Prop where
  pre : φ <+: φ'
  zsub : ∀ a o, Z a = some o → Z' a = some o
  znew : ∀ a o, Z' a = some o → Z a = some o ∨ H a = none ∨ a ∈ φ
  frame : ∀ a o, H a = some o → a ∉ φ → H' a = some o ∨ ∃ ps ps', o = .tbl ps ∧ H' a = some (.tbl ps')
  fresh : ∀ a ∈ φ', a ∈ φ ∨ H a = none

theorem Ext.refl (φ : List Addr) (Z H : Hp) : Ext φ Z H φ Z H :=
  ⟨List.prefix_refl _, fun _ _ h => h, fun _ _ h => .inl h, fun _ _ h _ => .inl h, fun _ h => .inl h⟩
theorem Ext.fr {φ φ' : List Addr} {Z H Z' H' : Hp} (x : Ext φ Z H φ' Z' H') {a : Addr} {o : HO} (h : H a = some o) (ha : a ∉ φ) (hn : ∀ ps, o ≠ .tbl ps) : H' a = some o := by
  rcases x.frame a o h ha with q | ⟨ps, _, e, _⟩
  · exact q
  · exact absurd e (hn ps)
theorem Ext.dom {φ φ' : List Addr} {Z H Z' H' : Hp} (x : Ext φ Z H φ' Z' H') {a : Addr} {o : HO} (h : H a = some o) (ha : a ∉ φ) : H' a ≠ none := by
  rcases x.frame a o h ha with q | ⟨_, ps', _, q⟩ <;> rw [q] <;> exact fun h => by cases h
theorem Ext.trans {φ φ1 φ2 : List Addr} {Z H Z1 H1 Z2 H2 : Hp} (a : Ext φ Z H φ1 Z1 H1) (b : Ext φ1 Z1 H1 φ2 Z2 H2) : Ext φ Z H φ2 Z2 H2 where
  pre := a.pre.trans b.pre
  zsub := fun x o h => b.zsub x o (a.zsub x o h)
  znew := fun x o h => by
    rcases b.znew x o h with q | q | q
    · exact a.znew x o q
    · cases e : H x with
      | none => exact .inr (.inl rfl)
      | some u =>
        by_cases hx : x ∈ φ
        · exact .inr (.inr hx)
        · exact absurd q (a.dom e hx)
    · rcases a.fresh x q with q | q
      · exact .inr (.inr q)
      · exact .inr (.inl q)
  frame := fun x o h n => by
    have hm : x ∉ φ1 := fun hm => by
      rcases a.fresh x hm with q | q
      · exact n q
      · rw [h] at q; cases q
    rcases a.frame x o h n with q | ⟨ps, ps', e, q⟩
    · exact b.frame x o q hm
    · rcases b.frame x _ q hm with q2 | ⟨_, ps2, _, q2⟩
      · exact .inr ⟨ps, ps', e, q2⟩
      · exact .inr ⟨ps, ps2, e, q2⟩
  fresh := fun x hx => by
    rcases b.fresh x hx with q | q
    · exact a.fresh x q
    · cases e : H x with
      | none => exact .inr rfl
      | some u =>
        by_cases hm : x ∈ φ
        · exact .inl hm
        · exact absurd q (a.dom e hm)

section
variable {W : Wd} {K : PySem.W.Frag} {φ φ' : List Addr} {Z Z' H H' : Hp}
mutual
theorem Dz.zmono (hz : ∀ a o, Z a = some o → Z' a = some o) : ∀ (d : PyData) (v : V), Dz K Z v d → Dz K Z' v d
  | .none, _, h => by cases h; exact .non
  | .bool _, _, h => by cases h; exact .bl _
  | .int _, _, h => by cases h; exact .int _
  | .str _, _, h => by cases h; exact .str _
  | .list ds, _, h => by
    cases h with
    | lst hs ha => exact .lst (hz _ _ hs) (DzAll.zmono hz ds _ ha)
  | .tuple ds, _, h => by
    cases h with
    | tup hs ha => exact .tup (SqT.zmono hz hs) (DzAll.zmono hz ds _ ha)
  | .dict _, _, h => by
    cases h with
    | edc h => exact .edc (hz _ _ h)
theorem DzAll.zmono (hz : ∀ a o, Z a = some o → Z' a = some o) : ∀ (ds : List PyData) (vs : List V), DzAll K Z vs ds → DzAll K Z' vs ds
  | [], _, h => by cases h; exact .nil
  | d :: ds, _, h => by
    cases h with
    | cons h1 h2 => exact .cons (Dz.zmono hz d _ h1) (DzAll.zmono hz ds _ h2)
end
theorem pre_get {α : Type} {l l' : List α} (h : l <+: l') {n : Nat} {a : α} (e : l[n]? = some a) : l'[n]? = some a := by
  obtain ⟨t, rfl⟩ := h
  rw [List.getElem?_append_left (List.getElem?_eq_some_iff.mp e).1]
  exact e
theorem Rep.mono (hp : φ <+: φ') (hz : ∀ a o, Z a = some o → Z' a = some o) {t : T} {v : V} (h : Rep W K φ Z t v) : Rep W K φ' Z' t v := by
  cases h with
  | d h => exact .d (Dz.zmono hz _ _ h)
  | scr h => exact .scr (SqL.zmono hz h)
  | ref h => exact .ref (pre_get hp h)
  | kd i => exact .kd i
  | fn i => exact .fn i
  | met h1 h2 => exact .met (pre_get hp h1) (hz _ _ h2)
  | clo h1 h2 => exact .clo (hz _ _ h1) (hz _ _ h2)
  | exc h => exact .exc fun dd e => let ⟨fs, q⟩ := h dd e; ⟨fs, hz _ _ q⟩
theorem Rep.ext (x : Ext φ Z H φ' Z' H') {t : T} {v : V} (h : Rep W K φ Z t v) : Rep W K φ' Z' t v := h.mono x.pre x.zsub
theorem Paired.imp {α β : Type} {F G : α → β → Prop} (f : ∀ a b, F a b → G a b) : ∀ {l : List α} {m : List β}, Paired F l m → Paired G l m
  | _, _, .nil => .nil
  | _, _, .cons h t => .cons (f _ _ h) (Paired.imp f t)
theorem Reps.mono (hp : φ <+: φ') (hz : ∀ a o, Z a = some o → Z' a = some o) {ts : List T} {vs : List V} (h : Reps W K φ Z ts vs) : Reps W K φ' Z' ts vs := Paired.imp (fun _ _ q => q.mono hp hz) h
theorem Reps.ext (x : Ext φ Z H φ' Z' H') {ts : List T} {vs : List V} (h : Reps W K φ Z ts vs) : Reps W K φ' Z' ts vs := Reps.mono x.pre x.zsub h
theorem RepKV.mono {κ : Type} (hp : φ <+: φ') (hz : ∀ a o, Z a = some o → Z' a = some o) {ts : List (κ × T)} {vs : List (κ × V)} (h : RepKV W K φ Z ts vs) : RepKV W K φ' Z' ts vs :=
  Paired.imp (fun _ _ q => ⟨q.1, q.2.mono hp hz⟩) h
theorem Paired.get {α β : Type} {F : α → β → Prop} : ∀ {l : List α} {m : List β} {n : Nat} {a : α}, Paired F l m → l[n]? = some a → ∃ b, m[n]? = some b ∧ F a b
  | _, _, _, _, .nil, e => by simp at e
  | _, _, 0, _, .cons h _, e => by simp at e; subst e; exact ⟨_, rfl, h⟩
  | _, _, n + 1, a, .cons _ t, e => by
    obtain ⟨b, h1, h2⟩ := Paired.get (n := n) (a := a) t (by simpa using e)
    exact ⟨b, by simpa using h1, h2⟩
theorem Paired.app {α β : Type} {F : α → β → Prop} : ∀ {l l' : List α} {m m' : List β}, Paired F l m → Paired F l' m' → Paired F (l ++ l') (m ++ m')
  | _, _, _, _, .nil, h => h
  | _, _, _, _, .cons h t, h' => .cons h (Paired.app t h')
theorem Paired.len {α β : Type} {F : α → β → Prop} : ∀ {l : List α} {m : List β}, Paired F l m → l.length = m.length
  | _, _, .nil => rfl
  | _, _, .cons _ t => by simp [Paired.len t]
theorem Paired.setAt {α β : Type} {F : α → β → Prop} : ∀ {l : List α} {m : List β} (n : Nat) {a : α} {b : β}, F a b → Paired F l m → Paired F (l.set n a) (m.set n b)
  | _, _, _, _, _, _, .nil => .nil
  | _, _, 0, _, _, h, .cons _ t => .cons h t
  | _, _, n + 1, _, _, h, .cons q t => .cons q (Paired.setAt n h t)

/-- the slots -/
def Slots (W : Wd) (K : PySem.W.Frag) (φ : List Addr) (Z : Hp) (ρ : Rho) (σ : St) : Prop := ρ.length = σ.length ∧ ∀ (i : Nat) (t : T), ρ[i]? = some (some t) → ∃ v, σ[i]? = some (some v) ∧ Rep W K φ Z t v
theorem Slots.mono (hp : φ <+: φ') (hz : ∀ a o, Z a = some o → Z' a = some o) {ρ : Rho} {σ : St} (h : Slots W K φ Z ρ σ) : Slots W K φ' Z' ρ σ :=
  ⟨h.1, fun i t e => let ⟨v, e1, r⟩ := h.2 i t e; ⟨v, e1, r.mono hp hz⟩⟩
theorem Slots.ext (x : Ext φ Z H φ' Z' H') {ρ : Rho} {σ : St} (h : Slots W K φ Z ρ σ) : Slots W K φ' Z' ρ σ := h.mono x.pre x.zsub
theorem Slots.set {ρ : Rho} {σ : St} (h : Slots W K φ Z ρ σ) {t : T} {v : V} (r : Rep W K φ Z t v) (i : Nat) : Slots W K φ Z (ρ.set i (some t)) (σ.set i (some v)) := by
  refine ⟨by simp [h.1], fun j u e => ?_⟩
  by_cases hj : i = j
  · subst hj
    by_cases hi : i < ρ.length
    · rw [List.getElem?_set_self hi] at e
      cases e
      exact ⟨v, List.getElem?_set_self (by have := h.1; omega), r⟩
    · rw [List.getElem?_eq_none (by simp; omega)] at e
      cases e
  · rw [List.getElem?_set_ne hj] at e
    obtain ⟨w, e1, r1⟩ := h.2 j u e
    exact ⟨w, by rw [List.getElem?_set_ne hj]; exact e1, r1⟩
theorem Slots.wipe {ρ : Rho} {σ : St} (h : Slots W K φ Z ρ σ) (i : Nat) : Slots W K φ Z (ρ.set i none) (σ.set i none) := by
  refine ⟨by simp [h.1], fun j u e => ?_⟩
  by_cases hj : i = j
  · subst hj
    by_cases hi : i < ρ.length
    · rw [List.getElem?_set_self hi] at e
      cases e
    · rw [List.getElem?_eq_none (by simp; omega)] at e
      cases e
  · rw [List.getElem?_set_ne hj] at e
    obtain ⟨w, e1, r1⟩ := h.2 j u e
    exact ⟨w, by rw [List.getElem?_set_ne hj]; exact e1, r1⟩
end

/-! ### changes of the state -/
section
variable {W : Wd} {K : PySem.W.Frag} {φ : List Addr} {Z H : Hp} {cs : Cs}
theorem CellAt.stay {φ' : List Addr} {Z' H' : Hp} {a : Addr} {c : Cell} (h : CellAt W K φ Z H a c) (hp : φ <+: φ') (hz : ∀ a o, Z a = some o → Z' a = some o) (hn : Z a = none → Z' a = none) (hh : ∀ o, H a = some o → H' a = some o) : CellAt W K φ' Z' H' a c := by
  cases c with
  | lst xs => obtain ⟨n, vs, e, r⟩ := h; exact ⟨hn n, vs, hh _ e, Reps.mono hp hz r⟩
  | dk xs => obtain ⟨n, vs, e, r⟩ := h; exact ⟨hn n, vs, hh _ e, RepKV.mono hp hz r⟩
  | dt xs => obtain ⟨n, vs, e, r⟩ := h; exact ⟨hn n, vs, hh _ e, RepKV.mono hp hz r⟩
  | ins c xs => obtain ⟨n, dx, vs, e, r⟩ := h; exact ⟨hn n, dx, vs, hh _ e, RepKV.mono hp hz r⟩
  | exn c xs =>
    obtain ⟨od, vs, e, q, r⟩ := h
    refine ⟨od, vs, hz _ _ e, ?_, RepKV.mono hp hz r⟩
    cases od with
    | none => exact q
    | some d => exact hz _ _ q
  | dead => trivial
theorem upd_some {H : Hp} {p : Addr} {o : HO} (hp : H p = none) {a : Addr} {u : HO} (h : H a = some u) : upd H p o a = some u := by
  rw [upd_ne (ne_of_none h hp)]; exact h
theorem TabZ.stay {Z Z' H H' : Hp} {P : Addr} {q : Str} (t : TabZ Z H P q) (hz : ∀ a o, Z a = some o → Z' a = some o) (hn : Z' P = none) (hh : H' P = H P) : TabZ Z' H' P q := by
  obtain ⟨_, ps, h1, h2, h3⟩ := t
  refine ⟨hn, ps, hh.trans h1, h2, fun pos cv hc => ?_⟩
  obtain ⟨c, e1, e2⟩ := h3 pos cv hc
  exact ⟨c, e1, hz _ _ e2⟩
theorem TabZ.ne {Z H : Hp} {P a : Addr} {q : Str} (t : TabZ Z H P q) (h : ∀ u, H a = some u → ∀ ps, u ≠ .tbl ps) : P ≠ a := fun e => by
  obtain ⟨_, ps, h1, _⟩ := t
  rw [e] at h1
  exact h _ h1 ps rfl
theorem CellAt.old {a : Addr} {c : Cell} (h : CellAt W K φ Z H a c) (hz : Z a = none) (hd : c ≠ .dead) : ∃ o, H a = some o ∧ (∀ ps, o ≠ .tbl ps) ∧ ∀ φ, o ≠ .ext φ := by
  cases c with
  | lst xs => obtain ⟨n, vs, e, r⟩ := h; exact ⟨_, e, (fun _ q => by cases q), fun _ q => by cases q⟩
  | dk xs => obtain ⟨n, vs, e, r⟩ := h; exact ⟨_, e, (fun _ q => by cases q), fun _ q => by cases q⟩
  | dt xs => obtain ⟨n, vs, e, r⟩ := h; exact ⟨_, e, (fun _ q => by cases q), fun _ q => by cases q⟩
  | ins c xs => obtain ⟨n, dx, vs, e, r⟩ := h; exact ⟨_, e, (fun _ q => by cases q), fun _ q => by cases q⟩
  | exn c xs =>
    obtain ⟨od, vs, e, _⟩ := h
    rw [hz] at e
    cases e
  | dead => exact absurd rfl hd
/-- a new object that nothing changes: frozen -/
theorem Sim.frozen (S : Sim W K φ Z cs H) {p : Addr} (hp : H p = none) (o : HO) : Sim W K φ (upd Z p o) cs (upd H p o) ∧ Ext φ Z H φ (upd Z p o) (upd H p o) := by
  have zp : Z p = none := by
    cases e : Z p with
    | none => rfl
    | some u => rw [S.sub _ _ e] at hp; cases hp
  have hz : ∀ a u, Z a = some u → upd Z p o a = some u := fun a u h => upd_some zp h
  have np : ∀ a ∈ φ, a ≠ p := fun a ha e => by
    obtain ⟨u, q⟩ := S.there a ha
    rw [e, hp] at q; cases q
  refine ⟨⟨fun a u h => ?_, S.len, S.nd, fun a ha => ?_, fun n c a h1 h2 => ?_, fun q hq => ?_⟩, ⟨List.prefix_refl _, hz, fun a u h => ?_, fun a u h _ => .inl (upd_some hp h), fun a ha => .inl ha⟩⟩
  · by_cases e : a = p
    · subst e; rw [upd_same] at h; rw [upd_same]; exact h
    · rw [upd_ne e] at h; rw [upd_ne e]; exact S.sub _ _ h
  · obtain ⟨u, q⟩ := S.there a ha
    exact ⟨u, upd_some hp q⟩
  · refine (S.cell n c a h1 h2).stay (List.prefix_refl _) hz (fun hn => ?_) (fun u h => upd_some hp h)
    rw [upd_ne (np a (List.mem_of_getElem? h2))]; exact hn
  · have ne := (S.tb q hq).ne (a := p) fun u h => by rw [hp] at h; cases h
    exact (S.tb q hq).stay hz (by rw [upd_ne ne]; exact (S.tb q hq).1) (upd_ne ne)
  · by_cases e : a = p
    · subst e; exact .inr (.inl hp)
    · rw [upd_ne e] at h; exact .inl h
/-- a new cell -/
theorem Sim.newCell (S : Sim W K φ Z cs H) {p : Addr} (hp : H p = none) {o : HO} {c : Cell} (hc : Z p = none → CellAt W K (φ ++ [p]) Z (upd H p o) p c) : Sim W K (φ ++ [p]) Z (cs ++ [c]) (upd H p o) ∧ Ext φ Z H (φ ++ [p]) Z (upd H p o) := by
  have zp : Z p = none := by
    cases e : Z p with
    | none => rfl
    | some u => rw [S.sub _ _ e] at hp; cases hp
  have np : ∀ a ∈ φ, a ≠ p := fun a ha e => by
    obtain ⟨u, q⟩ := S.there a ha
    rw [e, hp] at q; cases q
  refine ⟨⟨fun a u h => upd_some hp (S.sub _ _ h), by simp [S.len], ?_, fun a ha => ?_, fun n c' a h1 h2 => ?_, fun q hq => (S.tb q hq).stay (fun _ _ h => h) (S.tb q hq).1 (upd_ne ((S.tb q hq).ne fun u h => by rw [hp] at h; cases h))⟩, ⟨List.prefix_append _ _, fun _ _ h => h, fun a u h => .inl h, fun a u h _ => .inl (upd_some hp h), fun a ha => ?_⟩⟩
  · rw [List.nodup_append]
    exact ⟨S.nd, by simp, fun a ha b hb => by simp at hb; subst hb; exact np a ha⟩
  · rcases List.mem_append.mp ha with h | h
    · obtain ⟨u, q⟩ := S.there a h
      exact ⟨u, upd_some hp q⟩
    · have e : a = p := by simpa using h
      subst e; exact ⟨o, upd_same⟩
  · by_cases hn : n < cs.length
    · rw [List.getElem?_append_left hn] at h1
      have hn' : n < φ.length := by have := S.len; omega
      rw [List.getElem?_append_left hn'] at h2
      exact (S.cell n c' a h1 h2).stay (List.prefix_append _ _) (fun _ _ h => h) (fun h => h) fun u h => upd_some hp h
    · rw [List.getElem?_append_right (by omega)] at h1
      have e : n - cs.length = 0 := by
        cases q : n - cs.length with
        | zero => rfl
        | succ m => rw [q] at h1; simp at h1
      rw [e] at h1
      simp at h1
      subst h1
      rw [List.getElem?_append_right (by have := S.len; omega)] at h2
      have e2 : n - φ.length = 0 := by have := S.len; omega
      rw [e2] at h2
      simp at h2
      subst h2
      exact hc zp
  · rcases List.mem_append.mp ha with h | h
    · exact .inl h
    · have e : a = p := by simpa using h
      subst e; exact .inr hp
/-- a cell written -/
theorem Sim.setCell (S : Sim W K φ Z cs H) {n : Nat} {a : Addr} {c0 c : Cell} {o : HO} (h0 : cs[n]? = some c0) (ha : φ[n]? = some a) (hz : Z a = none) (hc : CellAt W K φ Z (upd H a o) a c) (hd : c0 ≠ .dead := by intro h; cases h) : Sim W K φ Z (cs.set n c) (upd H a o) ∧ Ext φ Z H φ Z (upd H a o) := by
  have hn : n < cs.length := (List.getElem?_eq_some_iff.mp h0).1
  refine ⟨⟨fun b u h => ?_, by simp [S.len], S.nd, fun b hb => ?_, fun m c' b h1 h2 => ?_, ?_⟩, ⟨List.prefix_refl _, fun _ _ h => h, fun b u h => .inl h, fun b u h hb => ?_, fun b hb => .inl hb⟩⟩
  · have : b ≠ a := fun e => by rw [e, hz] at h; cases h
    rw [upd_ne this]; exact S.sub _ _ h
  · by_cases e : b = a
    · subst e; exact ⟨o, upd_same⟩
    · rw [upd_ne e]; exact S.there b hb
  · by_cases e : n = m
    · subst e
      rw [List.getElem?_set_self hn] at h1
      cases h1
      rw [ha] at h2; cases h2
      exact hc
    · rw [List.getElem?_set_ne e] at h1
      have ne : b ≠ a := fun q => by
        subst q
        obtain ⟨i1, j1⟩ := List.getElem?_eq_some_iff.mp h2
        obtain ⟨i2, j2⟩ := List.getElem?_eq_some_iff.mp ha
        exact e (((List.getElem_inj S.nd).mp (j2.trans j1.symm)))
      exact (S.cell m c' b h1 h2).stay (List.prefix_refl _) (fun _ _ h => h) (fun h => h) fun u h => by rw [upd_ne ne]; exact h
  · obtain ⟨old, e1, e2, e3⟩ := (S.cell n c0 a h0 ha).old hz hd
    exact fun p hp => (S.tb p hp).stay (fun _ _ h => h) (S.tb p hp).1 (upd_ne ((S.tb p hp).ne fun u h => by rw [e1] at h; cases h; exact e2))
  · have : b ≠ a := fun e => hb (by rw [e]; exact List.mem_of_getElem? ha)
    rw [upd_ne this]; exact .inl h
end

/-! ### meanings -/
abbrev EF := Rho → Cs → R T
abbrev BF := Rho → Cs → R Bool
abbrev AF := Rho → Cs → R (List T)
inductive RS where
  | nx (ρ : Rho) (cs : Cs)
  | rt (t : T) (cs : Cs)
  | bk (ρ : Rho) (cs : Cs)
  | ct (ρ : Rho) (cs : Cs)
  | stuck
abbrev SF := Rho → Cs → RS

section
variable (W : Wd) (K : PySem.W.Frag)
def tE (f : EF) : TE := fun σ H Q => ∃ φ Z ρ cs, Sim W K φ Z cs H ∧ Slots W K φ Z ρ σ ∧ ∃ t cs', f ρ cs = .ok t cs' ∧
  ∀ φ' Z' H' v, Ext φ Z H φ' Z' H' → Sim W K φ' Z' cs' H' → Rep W K φ' Z' t v → Q v H'
def tB (f : BF) : TT := fun σ H Q => ∃ φ Z ρ cs, Sim W K φ Z cs H ∧ Slots W K φ Z ρ σ ∧ ∃ b cs', f ρ cs = .ok b cs' ∧
  ∀ φ' Z' H', Ext φ Z H φ' Z' H' → Sim W K φ' Z' cs' H' → Q b H'
def tA (f : AF) : TA := fun σ H Q => ∃ φ Z ρ cs, Sim W K φ Z cs H ∧ Slots W K φ Z ρ σ ∧ ∃ ts cs', f ρ cs = .ok ts cs' ∧
  ∀ φ' Z' H' vs, Ext φ Z H φ' Z' H' → Sim W K φ' Z' cs' H' → Reps W K φ' Z' ts vs → Q vs H'
def endS (D : Ends) (φ : List Addr) (Z H : Hp) : RS → Prop
  | .nx ρ cs => ∀ φ' Z' H' σ', Ext φ Z H φ' Z' H' → Sim W K φ' Z' cs H' → Slots W K φ' Z' ρ σ' → D.nx σ' H'
  | .rt t cs => ∀ φ' Z' H' v, Ext φ Z H φ' Z' H' → Sim W K φ' Z' cs H' → Rep W K φ' Z' t v → D.rt v H'
  | .bk ρ cs => ∀ φ' Z' H' σ', Ext φ Z H φ' Z' H' → Sim W K φ' Z' cs H' → Slots W K φ' Z' ρ σ' → D.bk σ' H'
  | .ct ρ cs => ∀ φ' Z' H' σ', Ext φ Z H φ' Z' H' → Sim W K φ' Z' cs H' → Slots W K φ' Z' ρ σ' → D.ct σ' H'
  | .stuck => False
def tS (f : SF) : TS := fun D σ H => ∃ φ Z ρ cs, Sim W K φ Z cs H ∧ Slots W K φ Z ρ σ ∧ endS W K D φ Z H (f ρ cs)
end
/-- an expression, a test, arguments, a statement, a block mean f -/
def SE (W : Wd) (X : Cx) (e : Expr) (f : EF) : Prop := PE X e (tE W X.K f)
def SB (W : Wd) (X : Cx) (e : Expr) (f : BF) : Prop := PT X e (tB W X.K f)
def SA (W : Wd) (X : Cx) (es : List Expr) (f : AF) : Prop := PA X es (tA W X.K f)
def SS (W : Wd) (X : Cx) (s : Stmt) (f : SF) : Prop := PS X s (tS W X.K f)
def SSs (W : Wd) (X : Cx) (s : List Stmt) (f : SF) : Prop := PSs X s (tS W X.K f)
theorem PE.imp {X : Cx} {e : Expr} {t t' : TE} (h : PE X e t) (k : ∀ σ H Q, t' σ H Q → t σ H Q) : PE X e t' := ⟨fun pins s σ H Q I q => h.run pins s σ H Q I (k σ H Q q)⟩
theorem PT.imp {X : Cx} {e : Expr} {t t' : TT} (h : PT X e t) (k : ∀ σ H Q, t' σ H Q → t σ H Q) : PT X e t' := ⟨fun pins s σ H Q I q => h.run pins s σ H Q I (k σ H Q q)⟩
theorem PA.imp {X : Cx} {e : List Expr} {t t' : TA} (h : PA X e t) (k : ∀ σ H Q, t' σ H Q → t σ H Q) : PA X e t' := ⟨fun pos pins s σ H Q I q => h.run pos pins s σ H Q I (k σ H Q q)⟩
theorem PS.imp {X : Cx} {e : Stmt} {t t' : TS} (h : PS X e t) (k : ∀ D σ H, t' D σ H → t D σ H) : PS X e t' := ⟨fun pins s σ H Q I q => h.run pins s σ H Q I (k Q σ H q)⟩
theorem PSs.imp {X : Cx} {e : List Stmt} {t t' : TS} (h : PSs X e t) (k : ∀ D σ H, t' D σ H → t D σ H) : PSs X e t' := ⟨fun pins s σ H Q I q => h.run pins s σ H Q I (k Q σ H q)⟩
end Y
end
section
set_option Elab.async false
set_option linter.all false
set_option maxRecDepth 100000
set_option maxHeartbeats 1000000
namespace Y
open PySem PySem.Spec L2

/-! ### values by the cells -/
def getV (ρ : Rho) (i : Nat) (cs : Cs) : R T := match ρ[i]? with
  | some (some t) => .ok t cs
  | _ => .stuck
/-- the items of a list -/
def asL (cs : Cs) : T → Option (List T)
  | .d (.list ds) => some (ds.map .d)
  | .scr ns => some (ns.map fun i => .d (.int i))
  | .ref n => (match cs[n]? with
    | some (.lst xs) => some xs
    | _ => none)
  | _ => none
/-- .. of a list of ours -/
def asM (cs : Cs) : T → Option (List T)
  | .d (.list ds) => some (ds.map .d)
  | .ref n => (match cs[n]? with
    | some (.lst xs) => some xs
    | _ => none)
  | _ => none
def asT : T → Option (List PyData)
  | .d (.tuple ds) => some ds
  | _ => none
/-- the items of a list or a tuple -/
def asQ (cs : Cs) (t : T) : Option (List T) := match asT t with
  | some ds => some (ds.map .d)
  | none => asL cs t
def asD : T → Option PyData
  | .d x => some x
  | _ => none
def allD : List T → Option (List PyData)
  | [] => some []
  | .d x :: r => (match allD r with
    | some ds => some (x :: ds)
    | none => none)
  | _ :: _ => none
theorem allD_eq : ∀ {ts : List T} {ds : List PyData}, allD ts = some ds → ts = ds.map .d
  | [], _, h => by cases h; rfl
  | t :: r, ds, h => by
    cases t with
    | d x =>
      unfold allD at h
      cases e : allD r with
      | none => rw [e] at h; cases h
      | some ys => rw [e] at h; cases h; rw [allD_eq e]; rfl
    | _ => cases h
theorem allD_map (ds : List PyData) : allD (ds.map .d) = some ds := by
  induction ds with
  | nil => rfl
  | cons x r ih => simp [allD, ih]
/-- a value as data, a list by its cell too -/
def toZ (cs : Cs) (t : T) : Option PyData := match t with
  | .d x => some x
  | .ref n => (match cs[n]? with
    | some (.lst xs) => (allD xs).map .list
    | _ => none)
  | _ => none
def toD (cs : Cs) (t : T) : Option PyData := (toZ cs t).bind fun x => if x.hasDict = true then none else some x
theorem toD_of {cs : Cs} {x : PyData} (h : x.hasDict = false) : toD cs (.d x) = some x := by
  unfold toD toZ
  rw [Option.bind_some, if_neg (by rw [h]; exact Bool.false_ne_true)]
theorem toD_inv {cs : Cs} {t : T} {x : PyData} (h : toD cs t = some x) : toZ cs t = some x ∧ x.hasDict = false := by
  unfold toD at h
  cases e : toZ cs t with
  | none => rw [e] at h; cases h
  | some y =>
    rw [e, Option.bind_some] at h
    split at h
    · cases h
    · rename_i q
      cases h
      exact ⟨rfl, by simpa using q⟩
section
variable {W : Wd} {K : PySem.W.Frag} {φ : List Addr} {Z H : Hp} {cs : Cs}
theorem Reps.of_all : ∀ {ds : List PyData} {vs : List V}, DzAll K Z vs ds → Reps W K φ Z (ds.map .d) vs
  | [], _, h => by cases h; exact .nil
  | _ :: _, _, h => by
    cases h with
    | cons h1 h2 => exact .cons (.d h1) (Reps.of_all h2)
theorem Reps.all : ∀ {ds : List PyData} {vs : List V}, Reps W K φ Z (ds.map .d) vs → DzAll K Z vs ds
  | [], _, h => by cases h; exact .nil
  | _ :: _, _, h => by
    cases h with
    | cons h1 h2 =>
      cases h1 with
      | d h1 => exact .cons h1 (Reps.all h2)
theorem Reps.ints : ∀ ns : List Int, Reps W K φ Z (ns.map fun i => .d (.int i)) (ns.map V.int)
  | [] => .nil
  | _ :: r => .cons (.d (.int _)) (Reps.ints r)
theorem Sim.asL (S : Sim W K φ Z cs H) {t : T} {v : V} {xs : List T} (r : Rep W K φ Z t v) (e : asL cs t = some xs) : ∃ a vs, v = .ref a ∧ SqL K H a vs ∧ Reps W K φ Z xs vs := by
  unfold Y.asL at e
  split at e
  · cases e
    cases r with
    | d h =>
      cases h with
      | lst h1 h2 => exact ⟨_, _, rfl, SqL.of (S.sub _ _ h1), Reps.of_all h2⟩
  · cases e
    cases r with
    | scr h => exact ⟨_, _, rfl, SqL.zmono S.sub h, Reps.ints _⟩
  · split at e
    · rename_i q
      cases e
      cases r with
      | ref h =>
        obtain ⟨_, vs, h1, h2⟩ := S.cell _ _ _ q h
        exact ⟨_, vs, rfl, SqL.of h1, h2⟩
    · cases e
  · cases e
theorem Sim.asT (S : Sim W K φ Z cs H) {t : T} {v : V} {ds : List PyData} (r : Rep W K φ Z t v) (e : asT t = some ds) : ∃ a vs, v = .ref a ∧ SqT K Z a vs ∧ SqT K H a vs ∧ DzAll K Z vs ds := by
  unfold Y.asT at e
  split at e
  · cases e
    cases r with
    | d h =>
      cases h with
      | tup h1 h2 => exact ⟨_, _, rfl, h1, SqT.zmono S.sub h1, h2⟩
  · cases e
theorem Sim.asQ (S : Sim W K φ Z cs H) {t : T} {v : V} {xs : List T} (r : Rep W K φ Z t v) (e : asQ cs t = some xs) : ∃ a vs, v = .ref a ∧ (SqL K H a vs ∨ SqT K H a vs) ∧ Reps W K φ Z xs vs := by
  unfold Y.asQ at e
  split at e
  · rename_i q
    cases e
    obtain ⟨a, vs, h1, h2, h3, h4⟩ := S.asT r q
    exact ⟨a, vs, h1, .inr h3, Reps.of_all h4⟩
  · obtain ⟨a, vs, h1, h2, h3⟩ := S.asL r e
    exact ⟨a, vs, h1, .inl h2, h3⟩
theorem Sim.toD (S : Sim W K φ Z cs H) {t : T} {v : V} {x : PyData} (r : Rep W K φ Z t v) (e : toD cs t = some x) : Dp K H v x := by
  obtain ⟨e, hn⟩ := toD_inv e
  unfold Y.toZ at e
  split at e
  · cases e
    cases r with
    | d h => exact Dz.dp S.sub _ _ hn h
  · split at e
    · rename_i q
      cases r with
      | ref h =>
        obtain ⟨_, vs, h1, h2⟩ := S.cell _ _ _ q h
        obtain ⟨ds, h3, h4⟩ := Option.map_eq_some_iff.mp e
        cases h4
        rw [allD_eq h3] at h2
        exact .lst (SqL.of h1) (DzAll.dp S.sub _ _ (by simpa only [PyData.hasDict] using hn) (Reps.all h2))
    · cases e
  · cases e
/-- the items of a list of ours -/
theorem Sim.asM (S : Sim W K φ Z cs H) {t : T} {v : V} {xs : List T} (r : Rep W K φ Z t v) (e : asM cs t = some xs) : ∃ a vs, v = .ref a ∧ H a = some (.lst vs) ∧ Reps W K φ Z xs vs := by
  unfold Y.asM at e
  split at e
  · cases e
    cases r with
    | d h =>
      cases h with
      | lst h1 h2 => exact ⟨_, _, rfl, S.sub _ _ h1, Reps.of_all h2⟩
  · split at e
    · rename_i q
      cases e
      cases r with
      | ref h =>
        obtain ⟨_, vs, h1, h2⟩ := S.cell _ _ _ q h
        exact ⟨_, vs, rfl, h1, h2⟩
    · cases e
  · cases e
theorem Rep.dInt {i : Int} {v : V} (r : Rep W K φ Z (.d (.int i)) v) : v = .int i := by
  cases r with | d h => cases h; rfl
theorem Rep.dBool {i : Bool} {v : V} (r : Rep W K φ Z (.d (.bool i)) v) : v = .bl i := by
  cases r with | d h => cases h; rfl
theorem Rep.dStr {i : Str} {v : V} (r : Rep W K φ Z (.d (.str i)) v) : v = .str i := by
  cases r with | d h => cases h; rfl
theorem Rep.dNone {v : V} (r : Rep W K φ Z (.d .none) v) : v = .non := by
  cases r with | d h => cases h; rfl
theorem Rep.int (i : Int) : Rep W K φ Z (.d (.int i)) (.int i) := .d (.int i)
theorem Rep.bool (i : Bool) : Rep W K φ Z (.d (.bool i)) (.bl i) := .d (.bl i)
theorem Rep.str (i : Str) : Rep W K φ Z (.d (.str i)) (.str i) := .d (.str i)
theorem Rep.none : Rep W K φ Z (.d .none) .non := .d .non
end

/-! ### names and constants -/
section
variable {W : Wd} {X : Cx} {e : Expr} {pos : Pos}
theorem se_name {i : Nat} {x : Str} (hN : X.N[i]? = some x) (hv : Vis X.env.scope x) (hd : (x == ("__debug__" : Str)) = false := by decide +kernel) (hcd : (x == ("__classdict__" : Str)) = false := by decide +kernel) : SE W X (.Name x pos) (fun ρ cs => getV ρ i cs) :=
  PE.imp (pe_var (i := i) hN hv hd hcd) fun σ H Q h => by
    obtain ⟨φ, Z, ρ, cs, S, L, t, cs', e, k⟩ := h
    have e : getV ρ i cs = .ok t cs' := e
    unfold getV at e
    split at e
    · rename_i q
      cases e
      obtain ⟨v, e1, r⟩ := L.2 _ _ q
      exact ⟨v, e1, k _ _ _ _ (Ext.refl _ _ _) S r⟩
    · cases e
theorem se_const {v : V} {t : T} (h : PE X e (tC v)) (r : ∀ φ Z, Rep W X.K φ Z t v) : SE W X e (fun _ cs => .ok t cs) :=
  PE.imp h fun σ H Q h => by
    obtain ⟨φ, Z, ρ, cs, S, L, t, cs', e, k⟩ := h
    cases e
    exact k _ _ _ _ (Ext.refl _ _ _) S (r _ _)
theorem se_int {i : Int} {j : Nat} : SE W X (.Constant (.int i) j pos) (fun _ cs => .ok (.d (.int i)) cs) := se_const pe_int fun _ _ => Rep.int i
theorem se_bool {i : Bool} {j : Nat} : SE W X (.Constant (.bool i) j pos) (fun _ cs => .ok (.d (.bool i)) cs) := se_const pe_bl fun _ _ => Rep.bool i
theorem se_str {i : Str} {j : Nat} : SE W X (.Constant (.str i) j pos) (fun _ cs => .ok (.d (.str i)) cs) := se_const pe_str fun _ _ => Rep.str i
theorem se_none {j : Nat} : SE W X (.Constant .none j pos) (fun _ cs => .ok (.d .none) cs) := se_const pe_non fun _ _ => Rep.none
theorem se_glob {x : Str} {v : V} {u : Value} {t : T} (hg : Gl X x) (hm : X.mg x = some u) (r : RelV v u) (rt : ∀ φ Z, Rep W X.K φ Z t v) (hd : (x == ("__debug__" : Str)) = false := by decide +kernel) : SE W X (.Name x pos) (fun _ cs => .ok t cs) :=
  se_const (pe_glob hg hm r hd) rt
end

/-! ### two-place operators -/
def OpOk (W : Wd) (K : PySem.W.Frag) (r : R2) (op : T → T → Cs → R T) : Prop := ∀ φ Z cs H t u v w (Q : VK) z cs', Sim W K φ Z cs H → Rep W K φ Z t v → Rep W K φ Z u w → op t u cs = .ok z cs' →
  (∀ φ' Z' H' x, Ext φ Z H φ' Z' H' → Sim W K φ' Z' cs' H' → Rep W K φ' Z' z x → Q x H') → r v w H Q
def UnOk (W : Wd) (K : PySem.W.Frag) (r : V → Hp → VK → Prop) (op : T → Cs → R T) : Prop := ∀ φ Z cs H t v (Q : VK) z cs', Sim W K φ Z cs H → Rep W K φ Z t v → op t cs = .ok z cs' →
  (∀ φ' Z' H' x, Ext φ Z H φ' Z' H' → Sim W K φ' Z' cs' H' → Rep W K φ' Z' z x → Q x H') → r v H Q
def bin (op : T → T → Cs → R T) (f g : EF) : EF := fun ρ cs => (f ρ cs).bind fun t c1 => (g ρ c1).bind fun u c2 => op t u c2
def un (op : T → Cs → R T) (f : EF) : EF := fun ρ cs => (f ρ cs).bind fun t c1 => op t c1
section
variable {W : Wd} {X : Cx} {a b c : Expr} {pos : Pos} {f g h : EF}
theorem tE_bin {K : PySem.W.Frag} {r : R2} {op : T → T → Cs → R T} (hk : OpOk W K r op) {σ : St} {H : Hp} {Q : VK} (h : tE W K (bin op f g) σ H Q) : tOp r (tE W K f) (tE W K g) σ H Q := by
  obtain ⟨φ, Z, ρ, cs, S, L, t, cs', e, k⟩ := h
  obtain ⟨t1, c1, e1, e⟩ := R.bind_inv e
  obtain ⟨t2, c2, e2, e⟩ := R.bind_inv e
  refine ⟨φ, Z, ρ, cs, S, L, t1, c1, e1, fun φ1 Z1 H1 v x1 S1 r1 => ⟨φ1, Z1, ρ, c1, S1, L.ext x1, t2, c2, e2, fun φ2 Z2 H2 w x2 S2 r2 => ?_⟩⟩
  exact hk _ _ _ _ _ _ _ _ _ _ _ S2 (r1.ext x2) r2 e fun φ3 Z3 H3 y x3 S3 r3 => k _ _ _ _ ((x1.trans x2).trans x3) S3 r3
theorem se_bin {o : Operator} {r : R2} {op : T → T → Cs → R T} (ho : OpR X (binaryOp o) r) (hk : OpOk W X.K r op) (ha : SE W X a f) (hb : SE W X b g) : SE W X (.BinOp a o b pos) (bin op f g) :=
  PE.imp (pe_op ho ha hb) fun _ _ _ h => tE_bin hk h
theorem se_cmp {o : CmpOp} {r : R2} {op : T → T → Cs → R T} (ho : OpR X (compareOp o) r) (hk : OpOk W X.K r op) (ha : SE W X a f) (hb : SE W X b g) (hm : behindInMarks o b = false) : SE W X (.Compare a [o] [b] pos) (bin op f g) :=
  PE.imp (pe_cmpR ho ha hb hm) fun _ _ _ h => tE_bin hk h
theorem se_un {o : UnaryOp} {r : V → Hp → VK → Prop} {op : T → Cs → R T} (ho : UnR X (unaryOp o) r) (hk : UnOk W X.K r op) (ha : SE W X a f) : SE W X (.UnaryOp o a pos) (un op f) :=
  PE.imp (pe_un ho ha) fun σ H Q h => by
    obtain ⟨φ, Z, ρ, cs, S, L, t, cs', e, k⟩ := h
    obtain ⟨t1, c1, e1, e⟩ := R.bind_inv e
    exact ⟨φ, Z, ρ, cs, S, L, t1, c1, e1, fun φ1 Z1 H1 v x1 S1 r1 => hk _ _ _ _ _ _ _ _ _ S1 r1 e fun φ3 Z3 H3 y x3 S3 r3 => k _ _ _ _ (x1.trans x3) S3 r3⟩
/-- a test: a comparison -/
def tst (f : EF) : BF := fun ρ cs => (f ρ cs).bind fun t c => match t with
  | .d (.bool b) => .ok b c
  | _ => .stuck
theorem tst_inv {f : EF} {ρ : Rho} {cs cs' : Cs} {b : Bool} (h : tst f ρ cs = .ok b cs') : f ρ cs = .ok (.d (.bool b)) cs' := by
  obtain ⟨t, c, e, h⟩ := R.bind_inv h
  split at h
  · cases h; exact e
  · cases h
theorem sb_cmp {o : CmpOp} {r : R2} {op : T → T → Cs → R T} (ho : OpR X (compareOp o) r) (hk : OpOk W X.K r op) (ha : SE W X a f) (hb : SE W X b g) (hm : behindInMarks o b = false) : SB W X (.Compare a [o] [b] pos) (tst (bin op f g)) :=
  PT.imp (pt_cmpR ho ha hb hm) fun σ H Q h => by
    obtain ⟨φ, Z, ρ, cs, S, L, t, cs', e, k⟩ := h
    refine tE_bin hk ⟨φ, Z, ρ, cs, S, L, _, cs', tst_inv e, fun φ' Z' H' v x' S' r' => ?_⟩
    cases r'.dBool
    exact ⟨t, rfl, k _ _ _ x' S'⟩
/-- a < b < c -/
def chn (op op' : T → T → Cs → R T) (f g h : EF) : EF := fun ρ cs => (f ρ cs).bind fun t c1 => (g ρ c1).bind fun u c2 => (op t u c2).bind fun z c3 => match z with
  | .d (.bool true) => (h ρ c3).bind fun w c4 => op' u w c4
  | .d (.bool false) => .ok (.d (.bool false)) c3
  | _ => .stuck
theorem tE_chn {K : PySem.W.Frag} {r r' : R2} {op op' : T → T → Cs → R T} (hk : OpOk W K r op) (hk' : OpOk W K r' op') {σ : St} {H : Hp} {Q : VK} (q : tE W K (chn op op' f g h) σ H Q) : tChain r r' (tE W K f) (tE W K g) (tE W K h) σ H Q := by
  obtain ⟨φ, Z, ρ, cs, S, L, t, cs', e, k⟩ := q
  obtain ⟨t1, c1, e1, e⟩ := R.bind_inv e
  obtain ⟨t2, c2, e2, e⟩ := R.bind_inv e
  obtain ⟨t3, c3, e3, e⟩ := R.bind_inv e
  refine ⟨φ, Z, ρ, cs, S, L, t1, c1, e1, fun φ1 Z1 H1 v x1 S1 r1 => ⟨φ1, Z1, ρ, c1, S1, L.ext x1, t2, c2, e2, fun φ2 Z2 H2 w x2 S2 r2 => ?_⟩⟩
  refine hk _ _ _ _ _ _ _ _ _ _ _ S2 (r1.ext x2) r2 e3 fun φ3 Z3 H3 y x3 S3 r3 => ?_
  split at e
  · cases r3.dBool
    refine ⟨true, rfl, ?_⟩
    rw [if_pos rfl]
    obtain ⟨t4, c4, e4, e⟩ := R.bind_inv e
    refine ⟨φ3, Z3, ρ, c3, S3, L.ext ((x1.trans x2).trans x3), t4, c4, e4, fun φ4 Z4 H4 v4 x4 S4 r4 => ?_⟩
    exact hk' _ _ _ _ _ _ _ _ _ _ _ S4 (r2.ext (x3.trans x4)) r4 e fun φ5 Z5 H5 y x5 S5 r5 => k _ _ _ _ ((((x1.trans x2).trans x3).trans x4).trans x5) S5 r5
  · cases r3.dBool
    cases e
    refine ⟨false, rfl, ?_⟩
    rw [if_neg Bool.false_ne_true]
    exact k _ _ _ _ ((x1.trans x2).trans x3) S3 (Rep.bool false)
  · cases e
theorem se_chain {o o' : CmpOp} {r r' : R2} {op op' : T → T → Cs → R T} (ho : OpR X (compareOp o) r) (ho' : OpR X (compareOp o') r') (hk : OpOk W X.K r op) (hk' : OpOk W X.K r' op') (ha : SE W X a f) (hb : SE W X b g) (hc : SE W X c h)
    (hm : lastMarks [o, o'] [b, c] = false := by with_unfolding_all rfl) : SE W X (.Compare a [o, o'] [b, c] pos) (chn op op' f g h) :=
  PE.imp (pe_chain ho ho' ha hb hc hm) fun _ _ _ q => tE_chn hk hk' q
theorem sb_chain {o o' : CmpOp} {r r' : R2} {op op' : T → T → Cs → R T} (ho : OpR X (compareOp o) r) (ho' : OpR X (compareOp o') r') (hk : OpOk W X.K r op) (hk' : OpOk W X.K r' op') (ha : SE W X a f) (hb : SE W X b g) (hc : SE W X c h)
    (hm : lastMarks [o, o'] [b, c] = false := by with_unfolding_all rfl) : SB W X (.Compare a [o, o'] [b, c] pos) (tst (chn op op' f g h)) :=
  PT.imp (pt_chain ho ho' ha hb hc hm) fun σ H Q q => by
    obtain ⟨φ, Z, ρ, cs, S, L, t, cs', e, k⟩ := q
    refine tE_chn hk hk' ⟨φ, Z, ρ, cs, S, L, _, cs', tst_inv e, fun φ' Z' H' v x' S' r' => ?_⟩
    cases r'.dBool
    exact ⟨t, rfl, k _ _ _ x' S'⟩

/-! ### tests, and, or, not, if -/
def truthT (cs : Cs) (t : T) : Option Bool := match t with
  | .d .none => some false
  | .d (.bool b) => some b
  | .d (.int i) => some (i != 0)
  | .d (.str x) => if x.length ≤ sizeLine then some ((x.length : Int) != 0) else none
  | .d (.tuple ds) => some (!ds.isEmpty)
  | .d (.list ds) => some (!ds.isEmpty)
  | .scr ns => some (!ns.isEmpty)
  | .ref n => (match cs[n]? with
    | some (.lst xs) => some (!xs.isEmpty)
    | some (.dk kvs) => some (!kvs.isEmpty)
    | _ => none)
  | _ => none
theorem Paired.empty {α β : Type} {F : α → β → Prop} {l : List α} {m : List β} (h : Paired F l m) : l.isEmpty = m.isEmpty := by cases h <;> rfl
theorem Sim.truth {K : PySem.W.Frag} {φ : List Addr} {Z H : Hp} {cs : Cs} (S : Sim W K φ Z cs H) {t : T} {v : V} {k : Bool} (r : Rep W K φ Z t v) (e : truthT cs t = some k) : TruV K v H k := by
  unfold truthT at e
  split at e
  · cases e; cases r.dNone; rfl
  · cases e; cases r.dBool; rfl
  · cases e; cases r.dInt; rfl
  · split at e
    · cases e; cases r.dStr; exact ⟨by assumption, rfl⟩
    · cases e
  · cases e
    obtain ⟨a, vs, rfl, _, h, q⟩ := S.asT r rfl
    refine .inr (.inl ⟨vs, h, ?_⟩)
    rw [← Paired.empty (Reps.of_all (W := W) (φ := φ) q)]; simp
  · cases e
    obtain ⟨a, vs, rfl, h, q⟩ := S.asL r rfl
    refine .inl ⟨vs, h, ?_⟩
    rw [← Paired.empty q]; simp
  · cases e
    obtain ⟨a, vs, rfl, h, q⟩ := S.asL r rfl
    refine .inl ⟨vs, h, ?_⟩
    rw [← Paired.empty q]; simp
  · split at e
    · rename_i xs q0
      cases e
      obtain ⟨a, vs, rfl, h, q⟩ := S.asL (xs := xs) r (by simp [Y.asL, q0])
      exact .inl ⟨vs, h, by rw [Paired.empty q]⟩
    · rename_i q
      cases e
      cases r with
      | ref h =>
        obtain ⟨_, vs, h1, h2⟩ := S.cell _ _ _ q h
        exact .inr (.inr ⟨vs, h1, by rw [Paired.empty h2]⟩)
    · cases e
  · cases e
def val (f : EF) : BF := fun ρ cs => (f ρ cs).bind fun t c => match truthT c t with
  | some b => .ok b c
  | none => .stuck
theorem val_inv {f : EF} {ρ : Rho} {cs cs' : Cs} {b : Bool} (h : val f ρ cs = .ok b cs') : ∃ t, f ρ cs = .ok t cs' ∧ truthT cs' t = some b := by
  obtain ⟨t, c, e, h⟩ := R.bind_inv h
  split at h
  · cases h; exact ⟨t, e, by assumption⟩
  · cases h
theorem sb_val (ha : SE W X a f) (he : ∀ whole, isTrue a X.env whole = (do let v ← whole; standAt a.pos; holding [v] (truthy v)) := by intro _; rfl) : SB W X a (val f) :=
  PT.imp (pt_truth ha he) fun σ H Q q => by
    obtain ⟨φ, Z, ρ, cs, S, L, b, cs', e, k⟩ := q
    obtain ⟨t, e1, e2⟩ := val_inv e
    exact ⟨φ, Z, ρ, cs, S, L, t, cs', e1, fun φ' Z' H' v x' S' r' => ⟨b, S'.truth r' e2, k _ _ _ x' S'⟩⟩
def andB (f g : BF) : BF := fun ρ cs => (f ρ cs).bind fun b c => if b = true then g ρ c else .ok false c
def orB (f g : BF) : BF := fun ρ cs => (f ρ cs).bind fun b c => if b = true then .ok true c else g ρ c
def notB (f : BF) : BF := fun ρ cs => (f ρ cs).bind fun b c => .ok (!b) c
variable {rest : List Expr} {p q' : BF}
/-- a test whatever its whole is -/
def SW (W : Wd) (X : Cx) (e : Expr) (f : BF) : Prop := PW X e (tB W X.K f)
theorem SW.sb {e : Expr} {f : BF} (h : SW W X e f) : SB W X e f := PW.pt h
theorem PW.imp {X : Cx} {e : Expr} {t t' : TT} (h : PW X e t) (k : ∀ σ H Q, t' σ H Q → t σ H Q) : PW X e t' := ⟨fun wh pins s σ H Q I q => h.run wh pins s σ H Q I (k σ H Q q)⟩
theorem sw_and1 (ha : SB W X a p) : SW W X (.BoolOp .And [a] pos) p := pw_and1 ha
theorem sw_or1 (ha : SB W X a p) : SW W X (.BoolOp .Or [a] pos) p := pw_or1 ha
theorem sw_and (ha : SB W X a p) (hb : SW W X (.BoolOp .And (b :: rest) pos) q') : SW W X (.BoolOp .And (a :: b :: rest) pos) (andB p q') :=
  PW.imp (pw_and ha hb) fun σ H Q z => by
    obtain ⟨φ, Z, ρ, cs, S, L, b, cs', e, k⟩ := z
    obtain ⟨b1, c1, e1, e⟩ := R.bind_inv e
    refine ⟨φ, Z, ρ, cs, S, L, b1, c1, e1, fun φ1 Z1 H1 x1 S1 => ?_⟩
    by_cases hb : b1 = true
    · rw [if_pos hb] at e; rw [if_pos hb]
      exact ⟨φ1, Z1, ρ, c1, S1, L.ext x1, b, cs', e, fun φ2 Z2 H2 x2 S2 => k _ _ _ (x1.trans x2) S2⟩
    · rw [if_neg hb] at e; rw [if_neg hb]
      cases e
      exact k _ _ _ x1 S1
theorem sw_or (ha : SB W X a p) (hb : SW W X (.BoolOp .Or (b :: rest) pos) q') : SW W X (.BoolOp .Or (a :: b :: rest) pos) (orB p q') :=
  PW.imp (pw_or ha hb) fun σ H Q z => by
    obtain ⟨φ, Z, ρ, cs, S, L, b, cs', e, k⟩ := z
    obtain ⟨b1, c1, e1, e⟩ := R.bind_inv e
    refine ⟨φ, Z, ρ, cs, S, L, b1, c1, e1, fun φ1 Z1 H1 x1 S1 => ?_⟩
    by_cases hb : b1 = true
    · rw [if_pos hb] at e; rw [if_pos hb]
      cases e
      exact k _ _ _ x1 S1
    · rw [if_neg hb] at e; rw [if_neg hb]
      exact ⟨φ1, Z1, ρ, c1, S1, L.ext x1, b, cs', e, fun φ2 Z2 H2 x2 S2 => k _ _ _ (x1.trans x2) S2⟩
theorem sb_not (ha : SB W X a p) : SB W X (.UnaryOp .Not a pos) (notB p) :=
  PT.imp (pt_not ha) fun σ H Q z => by
    obtain ⟨φ, Z, ρ, cs, S, L, b, cs', e, k⟩ := z
    obtain ⟨b1, c1, e1, e⟩ := R.bind_inv e
    cases e
    exact ⟨φ, Z, ρ, cs, S, L, b1, cs', e1, fun φ1 Z1 H1 x1 S1 => k _ _ _ x1 S1⟩
/-- .. as values -/
def andE (f g : EF) : EF := fun ρ cs => (f ρ cs).bind fun t c => match truthT c t with
  | some true => g ρ c
  | some false => .ok t c
  | none => .stuck
def orE (f g : EF) : EF := fun ρ cs => (f ρ cs).bind fun t c => match truthT c t with
  | some true => .ok t c
  | some false => g ρ c
  | none => .stuck
def notE (f : EF) : EF := fun ρ cs => (f ρ cs).bind fun t c => match truthT c t with
  | some b => .ok (.d (.bool (!b))) c
  | none => .stuck
def ifE (t : BF) (f g : EF) : EF := fun ρ cs => (t ρ cs).bind fun b c => if b = true then f ρ c else g ρ c
theorem se_one {o : BoolOp} (h : SE W X a f) : SE W X (.BoolOp o [a] pos) f := pe_one h
theorem se_and (ha : SE W X a f) (hb : SE W X (.BoolOp .And (b :: rest) pos) g) : SE W X (.BoolOp .And (a :: b :: rest) pos) (andE f g) :=
  PE.imp (pe_andT ha hb) fun σ H Q z => by
    obtain ⟨φ, Z, ρ, cs, S, L, b, cs', e, k⟩ := z
    obtain ⟨t1, c1, e1, e⟩ := R.bind_inv e
    refine ⟨φ, Z, ρ, cs, S, L, t1, c1, e1, fun φ1 Z1 H1 v x1 S1 r1 => ?_⟩
    split at e
    · rename_i q
      refine ⟨true, S1.truth r1 q, ?_⟩
      rw [if_pos rfl]
      exact ⟨φ1, Z1, ρ, c1, S1, L.ext x1, b, cs', e, fun φ2 Z2 H2 v x2 S2 r2 => k _ _ _ _ (x1.trans x2) S2 r2⟩
    · rename_i q
      cases e
      refine ⟨false, S1.truth r1 q, ?_⟩
      rw [if_neg Bool.false_ne_true]
      exact k _ _ _ _ x1 S1 r1
    · cases e
theorem se_or (ha : SE W X a f) (hb : SE W X (.BoolOp .Or (b :: rest) pos) g) : SE W X (.BoolOp .Or (a :: b :: rest) pos) (orE f g) :=
  PE.imp (pe_orT ha hb) fun σ H Q z => by
    obtain ⟨φ, Z, ρ, cs, S, L, b, cs', e, k⟩ := z
    obtain ⟨t1, c1, e1, e⟩ := R.bind_inv e
    refine ⟨φ, Z, ρ, cs, S, L, t1, c1, e1, fun φ1 Z1 H1 v x1 S1 r1 => ?_⟩
    split at e
    · rename_i q
      cases e
      refine ⟨true, S1.truth r1 q, ?_⟩
      rw [if_pos rfl]
      exact k _ _ _ _ x1 S1 r1
    · rename_i q
      refine ⟨false, S1.truth r1 q, ?_⟩
      rw [if_neg Bool.false_ne_true]
      exact ⟨φ1, Z1, ρ, c1, S1, L.ext x1, b, cs', e, fun φ2 Z2 H2 v x2 S2 r2 => k _ _ _ _ (x1.trans x2) S2 r2⟩
    · cases e
theorem se_not (ha : SE W X a f) : SE W X (.UnaryOp .Not a pos) (notE f) :=
  PE.imp (pe_notT ha) fun σ H Q z => by
    obtain ⟨φ, Z, ρ, cs, S, L, b, cs', e, k⟩ := z
    obtain ⟨t1, c1, e1, e⟩ := R.bind_inv e
    refine ⟨φ, Z, ρ, cs, S, L, t1, c1, e1, fun φ1 Z1 H1 v x1 S1 r1 => ?_⟩
    split at e
    · rename_i q
      cases e
      exact ⟨_, S1.truth r1 q, k _ _ _ _ x1 S1 (Rep.bool _)⟩
    · cases e
theorem se_if (hc : SB W X c p) (ha : SE W X a f) (hb : SE W X b g) : SE W X (.IfExp c a b pos) (ifE p f g) :=
  PE.imp (pe_ifExp hc ha hb) fun σ H Q z => by
    obtain ⟨φ, Z, ρ, cs, S, L, t, cs', e, k⟩ := z
    obtain ⟨b1, c1, e1, e⟩ := R.bind_inv e
    refine ⟨φ, Z, ρ, cs, S, L, b1, c1, e1, fun φ1 Z1 H1 x1 S1 => ?_⟩
    by_cases hb : b1 = true
    · rw [if_pos hb] at e; rw [if_pos hb]
      exact ⟨φ1, Z1, ρ, c1, S1, L.ext x1, t, cs', e, fun φ2 Z2 H2 v x2 S2 r2 => k _ _ _ _ (x1.trans x2) S2 r2⟩
    · rw [if_neg hb] at e; rw [if_neg hb]
      exact ⟨φ1, Z1, ρ, c1, S1, L.ext x1, t, cs', e, fun φ2 Z2 H2 v x2 S2 r2 => k _ _ _ _ (x1.trans x2) S2 r2⟩
end
end Y
end
section
set_option Elab.async false
set_option linter.all false
set_option maxRecDepth 100000
set_option maxHeartbeats 1000000
namespace Y
open PySem PySem.Spec L2
/-! ### operators by values -/
section
variable {W : Wd} {K : PySem.W.Frag} {X : Cx}
/-- a value that nothing new is made for -/
theorem fin0 {φ : List Addr} {Z H : Hp} {cs : Cs} {Q : VK} {z : T} {x : V} (S : Sim W K φ Z cs H) (k : ∀ φ' Z' H' x, Ext φ Z H φ' Z' H' → Sim W K φ' Z' cs H' → Rep W K φ' Z' z x → Q x H') (r : Rep W K φ Z z x) : Q x H :=
  k _ _ _ _ (Ext.refl _ _ _) S r
/-- a new tuple of data -/
theorem finT {φ : List Addr} {Z H : Hp} {cs : Cs} {Q : VK} {ds : List PyData} {vs : List V} (S : Sim W K φ Z cs H) (h : DzAll K Z vs ds) (k : ∀ φ' Z' H' x, Ext φ Z H φ' Z' H' → Sim W K φ' Z' cs H' → Rep W K φ' Z' (.d (.tuple ds)) x → Q x H') :
    ∀ p, H p = none → Q (.ref p) (upd H p (.tup vs)) := fun p hp => by
  obtain ⟨S1, x1⟩ := S.frozen hp (.tup vs)
  exact k _ _ _ _ x1 S1 (.d (.tup (SqT.of upd_same) (DzAll.zmono x1.zsub _ _ h)))
/-- a new list of data, frozen -/
theorem finL {φ : List Addr} {Z H : Hp} {cs : Cs} {Q : VK} {ds : List PyData} {vs : List V} (S : Sim W K φ Z cs H) (h : DzAll K Z vs ds) (k : ∀ φ' Z' H' x, Ext φ Z H φ' Z' H' → Sim W K φ' Z' cs H' → Rep W K φ' Z' (.d (.list ds)) x → Q x H') :
    ∀ p, H p = none → Q (.ref p) (upd H p (.lst vs)) := fun p hp => by
  obtain ⟨S1, x1⟩ := S.frozen hp (.lst vs)
  exact k _ _ _ _ x1 S1 (.d (.lst upd_same (DzAll.zmono x1.zsub _ _ h)))
/-- a new list as a cell -/
theorem finC {φ : List Addr} {Z H : Hp} {cs : Cs} {Q : VK} {ts : List T} {vs : List V} (S : Sim W K φ Z cs H) (h : Reps W K φ Z ts vs) (k : ∀ φ' Z' H' x, Ext φ Z H φ' Z' H' → Sim W K φ' Z' (cs ++ [.lst ts]) H' → Rep W K φ' Z' (.ref cs.length) x → Q x H') :
    ∀ p, H p = none → Q (.ref p) (upd H p (.lst vs)) := fun p hp => by
  obtain ⟨S1, x1⟩ := S.newCell hp (o := .lst vs) (c := .lst ts) fun hz => ⟨hz, vs, upd_same, Reps.mono (List.prefix_append _ _) (fun _ _ h => h) h⟩
  refine k _ _ _ _ x1 S1 (.ref ?_)
  rw [← S.len, List.getElem?_append_right (Nat.le_refl _)]
  simp

def mulOk (a b : Int) : Bool := decide ((-(2 ^ 64) < a ∧ a < 2 ^ 64) ∨ (-(2 ^ 64) < b ∧ b < 2 ^ 64)) || decide ((Builtin.Int.intBits a : Int) + (Builtin.Int.intBits b : Int) ≤ 134217728)
theorem mulOk_ok {a b : Int} (h : mulOk a b = true) : IntMulOk a b := by
  unfold mulOk at h
  rcases Bool.or_eq_true_iff.mp h with h | h
  · exact CMul.ok (show _ ∨ _ from of_decide_eq_true h)
  · exact CMulX.ok (show _ ≤ _ from of_decide_eq_true h)
theorem op_mulY : OpR X (binaryOp .Mult) (rI (fun a b => mulOk a b = true) fun i j => .int (i * j)) := opI fun _ _ _ _ _ _ _ hc q => PyProof.Rows.mul_int q (mulOk_ok hc)


abbrev BT := T → T → Cs → R T
def addT : BT := fun t u cs => match t, u with
  | .d (.int a), .d (.int b) => .ok (.d (.int (a + b))) cs
  | .d (.int a), .d (.bool b) => .ok (.d (.int (a + PyProof.Rows.b2i b))) cs
  | .d (.str a), .d (.str b) => if a.length + b.length ≤ sizeLine then .ok (.d (.str (a ++ b))) cs else .stuck
  | .d (.tuple a), .d (.tuple b) => if a.length + b.length ≤ sizeLine then .ok (.d (.tuple (a ++ b))) cs else .stuck
  | t, u => (match asM cs t, asM cs u with
    | some xs, some ys => (match allD (xs ++ ys) with
      | some ds => if ds.length ≤ sizeLine then .ok (.d (.list ds)) cs else .stuck
      | none => .stuck)
    | _, _ => .stuck)
/-- list + list as a cell -/
def addC : BT := fun t u cs => match asM cs t, asM cs u with
    | some xs, some ys => if (xs ++ ys).length ≤ sizeLine then .ok (.ref cs.length) (cs ++ [.lst (xs ++ ys)]) else .stuck
    | _, _ => addT t u cs
def ini (g : Int → Int → Int) : BT := fun t u cs => match t, u with
  | .d (.int a), .d (.int b) => .ok (.d (.int (g a b))) cs
  | _, _ => .stuck
def iniC (C : Int → Int → Bool) (g : Int → Int → Int) : BT := fun t u cs => match t, u with
  | .d (.int a), .d (.int b) => if C a b = true then .ok (.d (.int (g a b))) cs else .stuck
  | _, _ => .stuck
def inb (g : Int → Int → Bool) : BT := fun t u cs => match t, u with
  | .d (.int a), .d (.int b) => .ok (.d (.bool (g a b))) cs
  | _, _ => .stuck
theorem ok_inb {g : Int → Int → Bool} : OpOk W K (rI0 fun i j => .bl (g i j)) (inb g) := by
  intro φ Z cs H t u v w Q z cs' S r1 r2 e k
  unfold inb at e
  split at e
  · cases e; cases r1.dInt; cases r2.dInt
    exact ⟨_, _, rfl, rfl, fin0 S k (Rep.bool _)⟩
  · cases e
theorem ok_ini {g : Int → Int → Int} : OpOk W K (rI0 fun i j => .int (g i j)) (ini g) := by
  intro φ Z cs H t u v w Q z cs' S r1 r2 e k
  unfold ini at e
  split at e
  · cases e; cases r1.dInt; cases r2.dInt
    exact ⟨_, _, rfl, rfl, fin0 S k (Rep.int _)⟩
  · cases e
theorem ok_iniC {C : Int → Int → Bool} {g : Int → Int → Int} : OpOk W K (rI (fun i j => C i j = true) fun i j => .int (g i j)) (iniC C g) := by
  intro φ Z cs H t u v w Q z cs' S r1 r2 e k
  unfold iniC at e
  split at e
  · split at e
    · cases e; cases r1.dInt; cases r2.dInt
      exact ⟨_, _, rfl, rfl, by assumption, fin0 S k (Rep.int _)⟩
    · cases e
  · cases e
theorem OpR.mono {f : Value → Value → Sem Value} {r r' : R2} (h : OpR X f r) (k : ∀ x y H Q, r' x y H Q → r x y H Q) : OpR X f r' := fun pins s σ H x y v u Q I rx ry q => h pins s σ H x y v u Q I rx ry (k _ _ _ _ q)
def subT : BT := fun t u cs => match t, u with
  | .d (.int a), .d (.int b) => .ok (.d (.int (a - b))) cs
  | .d (.int a), .d (.bool b) => .ok (.d (.int (a - PyProof.Rows.b2i b))) cs
  | .d (.bool a), .d (.bool b) => .ok (.d (.int (PyProof.Rows.b2i a - PyProof.Rows.b2i b))) cs
  | _, _ => .stuck
def mulT : BT := iniC mulOk (· * ·)
def divOk (_ b : Int) : Bool := decide (0 < b ∧ b.natAbs.log2 < 9000)
def fdivT : BT := iniC divOk (· / ·)
def modT : BT := iniC (fun _ b => decide (0 < b)) (· % ·)
def powT : BT := iniC (fun i j => decide (0 ≤ j ∧ j ≤ 1000000 ∧ i.natAbs < 2 ^ 64)) fun i j => i ^ j.toNat
theorem op_fdivY : OpR X (binaryOp .FloorDiv) (rI (fun i j => divOk i j = true) fun i j => .int (i / j)) :=
  OpR.mono op_fdivW fun x y H Q ⟨i, j, h1, h2, h3, h4⟩ => ⟨i, j, h1, h2, (show _ ∧ _ from of_decide_eq_true h3), h4⟩
theorem op_modY : OpR X (binaryOp .Mod) (rI (fun _ j => decide (0 < j) = true) fun i j => .int (i % j)) :=
  OpR.mono op_mod fun x y H Q ⟨i, j, h1, h2, h3, h4⟩ => ⟨i, j, h1, h2, of_decide_eq_true h3, h4⟩
theorem op_powY : OpR X (binaryOp .Pow) (rI (fun i j => decide (0 ≤ j ∧ j ≤ 1000000 ∧ i.natAbs < 2 ^ 64) = true) fun i j => .int (i ^ j.toNat)) :=
  OpR.mono op_pow fun x y H Q ⟨i, j, h1, h2, h3, h4⟩ => ⟨i, j, h1, h2, (show _ ∧ _ from of_decide_eq_true h3), h4⟩
def rAddY (K : PySem.W.Frag) : R2 := fun x y H Q => (rI0 (fun i j => .int (i + j)) x y H Q) ∨ (∃ i k, x = .int i ∧ y = .bl k ∧ Q (.int (i + PyProof.Rows.b2i k)) H) ∨
  (∃ i j, x = .str i ∧ y = .str j ∧ i.length + j.length ≤ sizeLine ∧ Q (.str (i ++ j)) H) ∨ rCatA K x y H Q ∨ rCat x y H Q
theorem op_addY : OpR X (binaryOp .Add) (rAddY X.K) := op_add.or (op_add_ib.or (op_add_str.or (op_catA.or op_cat)))
theorem DzAll.app : ∀ {vs ws : List V} {ds es : List PyData} {Z : Hp}, DzAll K Z vs ds → DzAll K Z ws es → DzAll K Z (vs ++ ws) (ds ++ es)
  | _, _, _, _, _, .nil, h => h
  | _, _, _, _, _, .cons h t, h' => .cons h (DzAll.app t h')
theorem DzAll.len : ∀ {vs : List V} {ds : List PyData} {Z : Hp}, DzAll K Z vs ds → vs.length = ds.length
  | _, _, _, .nil => rfl
  | _, _, _, .cons _ t => by simp [DzAll.len t]
theorem ok_add : OpOk W K (rAddY K) addT := by
  intro φ Z cs H t u v w Q z cs' S r1 r2 e k
  unfold addT at e
  split at e
  · cases e; cases r1.dInt; cases r2.dInt
    exact .inl ⟨_, _, rfl, rfl, fin0 S k (Rep.int _)⟩
  · cases e; cases r1.dInt; cases r2.dBool
    exact .inr (.inl ⟨_, _, rfl, rfl, fin0 S k (Rep.int _)⟩)
  · split at e
    · cases e; cases r1.dStr; cases r2.dStr
      exact .inr (.inr (.inl ⟨_, _, rfl, rfl, by assumption, fin0 S k (Rep.str _)⟩))
    · cases e
  · split at e
    · rename_i a b hz
      cases e
      obtain ⟨p, vs, rfl, h1, h2, h3⟩ := S.asT r1 rfl
      obtain ⟨p', vs', rfl, h1', h2', h3'⟩ := S.asT r2 rfl
      have l1 := h3.len
      have l2 := h3'.len
      refine .inr (.inr (.inr (.inl ⟨p, p', vs, vs', rfl, rfl, h2, h2', by omega, fun e => ?_, fun _ e => ?_, fun _ _ => finT S (h3.app h3') k⟩)))
      · subst e
        cases h3
        exact fin0 S k r2
      · subst e
        cases h3'
        rw [List.append_nil] at k
        exact fin0 S k r1
    · cases e
  · split at e
    · rename_i xs ys q1 q2
      split at e
      · rename_i ds q3
        split at e
        · rename_i hz
          cases e
          obtain ⟨p, vs, rfl, h1, h2⟩ := S.asM r1 q1
          obtain ⟨p', vs', rfl, h1', h2'⟩ := S.asM r2 q2
          have q4 := allD_eq q3
          have h3 := Paired.app h2 h2'
          have l1 := Paired.len h3
          rw [q4] at h3 l1
          simp at l1
          exact .inr (.inr (.inr (.inr ⟨p, p', vs, vs', rfl, rfl, h1, h1', by omega, finL S (Reps.all (W := W) (φ := φ) h3) k⟩)))
        · cases e
      · cases e
    · cases e
theorem ok_addC : OpOk W K (rAddY K) addC := by
  intro φ Z cs H t u v w Q z cs' S r1 r2 e k
  unfold addC at e
  split at e
  · rename_i xs ys q1 q2
    split at e
    · rename_i hz
      cases e
      obtain ⟨p, vs, rfl, h1, h2⟩ := S.asM r1 q1
      obtain ⟨p', vs', rfl, h1', h2'⟩ := S.asM r2 q2
      have h3 := Paired.app h2 h2'
      have l1 := Paired.len h3
      simp at l1 hz
      exact .inr (.inr (.inr (.inr ⟨p, p', vs, vs', rfl, rfl, h1, h1', by omega, finC S h3 k⟩)))
    · cases e
  · exact ok_add φ Z cs H t u v w Q z cs' S r1 r2 e k
/-- -a -/
def negT : T → Cs → R T := fun t cs => match t with
  | .d (.int a) => .ok (.d (.int (-a))) cs
  | _ => .stuck
theorem ok_neg : UnOk W K (rU fun i => .int (-i)) negT := by
  intro φ Z cs H t v Q z cs' S r e k
  unfold negT at e
  split at e
  · cases e; cases r.dInt
    exact ⟨_, rfl, fin0 S k (Rep.int _)⟩
  · cases e
/-! ### ==, !=, is None -/
def eqD (cs : Cs) (t u : T) : Option Bool := match t, u with
  | .d (.str a), .d (.str b) => some (decide (a = b))
  | .d (.int a), .d (.int b) => some (decide (a = b))
  | t, u => (match toD cs t, toD cs u with
    | some x, some y => if SeqAt.shaped x = true ∧ SeqAt.shaped y = true then some (PyData.eqv x y) else none
    | _, _ => none)
/-- dicts of cells, one of them empty -/
def eqK (cs : Cs) (t u : T) : Option Bool := match t, u with
  | .ref n, .ref m => (match cs[n]?, cs[m]? with
    | some (.dk []), some (.dk []) => some true
    | _, _ => none)
  | _, _ => none
def eqT : BT := fun t u cs => match eqD cs t u with
  | some b => .ok (.d (.bool b)) cs
  | none => .stuck
def neT : BT := fun t u cs => match eqD cs t u with
  | some b => .ok (.d (.bool (!b))) cs
  | none => .stuck
def rEqY (K : PySem.W.Frag) : R2 := fun x y H Q => rEq x y H Q ∨ rEqD K x y H Q
def rNeY (K : PySem.W.Frag) : R2 := fun x y H Q => rNe x y H Q ∨ rNeD K x y H Q
theorem op_eqY (hu : X.A.units + 64 < cLine) : OpR X (compareOp .Eq) (rEqY X.K) := op_eq.or (op_eqD hu)
theorem op_neY (hu : X.A.units + 64 < cLine) : OpR X (compareOp .NotEq) (rNeY X.K) := op_ne.or (op_neD hu)
theorem dec_str' (a b : Str) : decide (V.str a = V.str b) = decide (a = b) := by
  by_cases h : a = b
  · subst h; simp
  · have : ¬ V.str a = V.str b := fun q => h (V.str.inj q)
    rw [decide_eq_false h, decide_eq_false this]
theorem dec_int' (a b : Int) : decide (V.int a = V.int b) = decide (a = b) := by
  by_cases h : a = b
  · subst h; simp
  · have : ¬ V.int a = V.int b := fun q => h (V.int.inj q)
    rw [decide_eq_false h, decide_eq_false this]
theorem ok_eq : OpOk W K (rEqY K) eqT := by
  intro φ Z cs H t u v w Q z cs' S r1 r2 e k
  unfold eqT at e
  split at e
  · rename_i b q
    cases e
    unfold eqD at q
    split at q
    · cases q; cases r1.dStr; cases r2.dStr
      refine .inl ⟨rfl, ?_⟩
      rw [dec_str']
      exact fin0 S k (Rep.bool _)
    · cases q; cases r1.dInt; cases r2.dInt
      refine .inl ⟨rfl, ?_⟩
      rw [dec_int']
      exact fin0 S k (Rep.bool _)
    · split at q
      · rename_i x y e1 e2
        split at q
        · rename_i hs
          cases q
          exact .inr ⟨x, y, S.toD r1 e1, S.toD r2 e2, hs.1, hs.2, fin0 S k (Rep.bool _)⟩
        · cases q
      · cases q
  · cases e
theorem ok_ne : OpOk W K (rNeY K) neT := by
  intro φ Z cs H t u v w Q z cs' S r1 r2 e k
  unfold neT at e
  split at e
  · rename_i b q
    cases e
    unfold eqD at q
    split at q
    · cases q; cases r1.dStr; cases r2.dStr
      refine .inl ⟨rfl, ?_⟩
      rw [dec_str']
      exact fin0 S k (Rep.bool _)
    · cases q; cases r1.dInt; cases r2.dInt
      refine .inl ⟨rfl, ?_⟩
      rw [dec_int']
      exact fin0 S k (Rep.bool _)
    · split at q
      · rename_i x y e1 e2
        split at q
        · rename_i hs
          cases q
          exact .inr ⟨x, y, S.toD r1 e1, S.toD r2 e2, hs.1, hs.2, fin0 S k (Rep.bool _)⟩
        · cases q
      · cases q
  · cases e
def isNone : T → Bool
  | .d .none => true
  | _ => false
theorem Rep.isNone {φ : List Addr} {Z : Hp} {t : T} {v : V} (r : Rep W K φ Z t v) : decide (v = .non) = isNone t := by
  cases r with
  | d h =>
    cases h <;> simp [Y.isNone]
  | _ => simp [Y.isNone]
def isT : BT := fun t u cs => match u with
  | .d .none => .ok (.d (.bool (isNone t))) cs
  | _ => .stuck
def isntT : BT := fun t u cs => match u with
  | .d .none => .ok (.d (.bool (!isNone t))) cs
  | _ => .stuck
theorem ok_is : OpOk W K (fun x y H Q => y = .non ∧ Q (.bl (decide (x = .non))) H) isT := by
  intro φ Z cs H t u v w Q z cs' S r1 r2 e k
  unfold isT at e
  split at e
  · cases e; cases r2.dNone
    refine ⟨rfl, ?_⟩
    rw [r1.isNone]
    exact fin0 S k (Rep.bool _)
  · cases e
theorem ok_isnt : OpOk W K (fun x y H Q => y = .non ∧ Q (.bl (!decide (x = .non))) H) isntT := by
  intro φ Z cs H t u v w Q z cs' S r1 r2 e k
  unfold isntT at e
  split at e
  · cases e; cases r2.dNone
    refine ⟨rfl, ?_⟩
    rw [r1.isNone]
    exact fin0 S k (Rep.bool _)
  · cases e
end
end Y
end
section
set_option Elab.async false
set_option linter.all false
set_option maxRecDepth 100000
set_option maxHeartbeats 1000000
namespace Y
open PySem PySem.Spec L2
/-! ### argument lists, displays -/
section
variable {W : Wd} {X : Cx} {e : Expr} {es : List Expr} {pos : Pos} {f : EF} {g : AF}
def nilA : AF := fun _ cs => .ok [] cs
def consA (f : EF) (g : AF) : AF := fun ρ cs => (f ρ cs).bind fun t c1 => (g ρ c1).bind fun ts c2 => .ok (t :: ts) c2
def starA (f : EF) (g : AF) : AF := fun ρ cs => (f ρ cs).bind fun t c1 => match asQ c1 t with
  | some xs => (g ρ c1).bind fun ts c2 => .ok (xs ++ ts) c2
  | none => .stuck
theorem sa_nil : SA W X [] nilA := PA.imp pa_nil fun σ H Q h => by
  obtain ⟨φ, Z, ρ, cs, S, L, ts, cs', e, k⟩ := h
  cases e
  exact k _ _ _ _ (Ext.refl _ _ _) S .nil
theorem sa_cons (ha : SE W X e f) (hr : SA W X es g) (hs : starEach (e :: es) X.env = (false, eval e X.env) :: starEach es X.env := by rfl) : SA W X (e :: es) (consA f g) := PA.imp (pa_cons ha hr hs) fun σ H Q h => by
  obtain ⟨φ, Z, ρ, cs, S, L, ts, cs', e, k⟩ := h
  obtain ⟨t1, c1, e1, e⟩ := R.bind_inv e
  obtain ⟨t2, c2, e2, e⟩ := R.bind_inv e
  cases e
  exact ⟨φ, Z, ρ, cs, S, L, t1, c1, e1, fun φ1 Z1 H1 v x1 S1 r1 => ⟨φ1, Z1, ρ, c1, S1, L.ext x1, t2, _, e2, fun φ2 Z2 H2 w x2 S2 r2 => k _ _ _ _ (x1.trans x2) S2 (.cons (r1.ext x2) r2)⟩⟩
theorem sa_star {p : Pos} (ha : SE W X e f) (hr : SA W X es g) (hs : starEach (.Starred e p :: es) X.env = (true, eval e X.env) :: starEach es X.env := by rfl) : SA W X (.Starred e p :: es) (starA f g) := PA.imp (StX.pa_star ha hr hs) fun σ H Q h => by
  obtain ⟨φ, Z, ρ, cs, S, L, ts, cs', e, k⟩ := h
  obtain ⟨t1, c1, e1, e⟩ := R.bind_inv e
  split at e
  · rename_i xs q
    obtain ⟨t2, c2, e2, e⟩ := R.bind_inv e
    cases e
    refine ⟨φ, Z, ρ, cs, S, L, t1, c1, e1, fun φ1 Z1 H1 v x1 S1 r1 => ?_⟩
    obtain ⟨a, vs, rfl, h1, h2⟩ := S1.asQ r1 q
    exact ⟨a, vs, rfl, h1.symm, φ1, Z1, ρ, c1, S1, L.ext x1, t2, _, e2, fun φ2 Z2 H2 w x2 S2 r2 => k _ _ _ _ (x1.trans x2) S2 (Paired.app (Reps.ext x2 h2) r2)⟩
  · cases e
def tupE (g : AF) : EF := fun ρ cs => (g ρ cs).bind fun ts c => match allD ts with
  | some ds => if ds.length ≤ sizeLine then .ok (.d (.tuple ds)) c else .stuck
  | none => .stuck
/-- a list that nothing changes -/
def lstE (g : AF) : EF := fun ρ cs => (g ρ cs).bind fun ts c => match allD ts with
  | some ds => if ds.length ≤ sizeLine then .ok (.d (.list ds)) c else .stuck
  | none => .stuck
/-- a list that is a cell -/
def lstC (g : AF) : EF := fun ρ cs => (g ρ cs).bind fun ts c => if ts.length ≤ sizeLine then .ok (.ref c.length) (c ++ [.lst ts]) else .stuck
theorem se_tup {x1} (h : SA W X es g) : SE W X (.Tuple es x1 pos) (tupE g) := PE.imp (pe_tup h) fun σ H Q h => by
  obtain ⟨φ, Z, ρ, cs, S, L, ts, cs', e, k⟩ := h
  obtain ⟨t1, c1, e1, e⟩ := R.bind_inv e
  split at e
  · rename_i ds q
    split at e
    · rename_i hz
      cases e
      refine ⟨φ, Z, ρ, cs, S, L, t1, _, e1, fun φ1 Z1 H1 vs x1 S1 r1 => ?_⟩
      rw [allD_eq q] at r1
      have r2 := Reps.all r1
      refine ⟨by rw [r2.len]; exact hz, finT S1 r2 fun φ' Z' H' x x2 => k _ _ _ _ (x1.trans x2)⟩
    · cases e
  · cases e
theorem se_lst (h : SA W X es g) : SE W X (.List es pos) (lstE g) := PE.imp (pe_lst h) fun σ H Q h => by
  obtain ⟨φ, Z, ρ, cs, S, L, ts, cs', e, k⟩ := h
  obtain ⟨t1, c1, e1, e⟩ := R.bind_inv e
  split at e
  · rename_i ds q
    split at e
    · rename_i hz
      cases e
      refine ⟨φ, Z, ρ, cs, S, L, t1, _, e1, fun φ1 Z1 H1 vs x1 S1 r1 => ?_⟩
      rw [allD_eq q] at r1
      have r2 := Reps.all r1
      refine ⟨by rw [r2.len]; exact hz, finL S1 r2 fun φ' Z' H' x x2 => k _ _ _ _ (x1.trans x2)⟩
    · cases e
  · cases e
theorem se_lstC (h : SA W X es g) : SE W X (.List es pos) (lstC g) := PE.imp (pe_lst h) fun σ H Q h => by
  obtain ⟨φ, Z, ρ, cs, S, L, ts, cs', e, k⟩ := h
  obtain ⟨t1, c1, e1, e⟩ := R.bind_inv e
  split at e
  · rename_i hz
    cases e
    refine ⟨φ, Z, ρ, cs, S, L, t1, _, e1, fun φ1 Z1 H1 vs x1 S1 r1 => ?_⟩
    refine ⟨by rw [← Paired.len r1]; exact hz, finC S1 r1 fun φ' Z' H' x x2 => k _ _ _ _ (x1.trans x2)⟩
  · cases e
/-- {} as a cell -/
def dicC : EF := fun _ cs => .ok (.ref cs.length) (cs ++ [.dk []])
theorem finDk {K : PySem.W.Frag} {φ : List Addr} {Z H : Hp} {cs : Cs} {Q : VK} {kvs : List (Key × T)} {vs : List (Key × V)} (S : Sim W K φ Z cs H) (h : RepKV W K φ Z kvs vs) (k : ∀ φ' Z' H' x, Ext φ Z H φ' Z' H' → Sim W K φ' Z' (cs ++ [.dk kvs]) H' → Rep W K φ' Z' (.ref cs.length) x → Q x H') :
    ∀ p, H p = none → Q (.ref p) (upd H p (.dK vs)) := fun p hp => by
  obtain ⟨S1, x1⟩ := S.newCell hp (o := .dK vs) (c := .dk kvs) fun hz => ⟨hz, vs, upd_same, RepKV.mono (List.prefix_append _ _) (fun _ _ h => h) h⟩
  refine k _ _ _ _ x1 S1 (.ref ?_)
  rw [← S.len, List.getElem?_append_right (Nat.le_refl _)]
  simp
theorem se_dic : SE W X (.Dict [] [] pos) dicC := PE.imp pe_dnewK fun σ H Q h => by
  obtain ⟨φ, Z, ρ, cs, S, L, ts, cs', e, k⟩ := h
  cases e
  exact finDk S .nil k
end

/-! ### items -/
def keyT : T → Option Key
  | .d (.int i) => some (.inl i)
  | .d (.str x) => some (.inr x)
  | _ => none
def getK {κ β : Type} [DecidableEq κ] (kvs : List (κ × β)) (k : κ) : Option β := (kvs.find? fun kv => decide (kv.1 = k)).map (·.2)
theorem RepKV.get {W : Wd} {K : PySem.W.Frag} {φ : List Addr} {Z : Hp} {κ : Type} [DecidableEq κ] (k : κ) : ∀ {kvs : List (κ × T)} {vs : List (κ × V)}, RepKV W K φ Z kvs vs →
    match getK kvs k with
    | some t => ∃ v, getK vs k = some v ∧ Rep W K φ Z t v
    | none => getK vs k = none
  | _, _, .nil => rfl
  | (k1, t1) :: kvs, (k2, v2) :: vs, .cons h t => by
    obtain ⟨e, r⟩ := h
    have e : k1 = k2 := e
    subst e
    unfold getK
    rw [List.find?_cons, List.find?_cons]
    by_cases q : k1 = k
    · simp only [decide_eq_true q]
      exact ⟨v2, rfl, r⟩
    · simp only [decide_eq_false q]
      exact RepKV.get k t
theorem keyT_rep {W : Wd} {K : PySem.W.Frag} {φ : List Addr} {Z : Hp} {t : T} {v : V} {k : Key} (r : Rep W K φ Z t v) (e : keyT t = some k) : v = kV k := by
  unfold keyT at e
  split at e
  · cases e; exact r.dInt
  · cases e; exact r.dStr
  · cases e
/-- what the written dicts hold -/
structure WOk (W : Wd) (K : PySem.W.Frag) (w : World) : Prop where
  kd : ∀ i, W.kdv i ≠ [] → ∃ es n, K.lookup (W.kad i) = some ⟨.type "dict", none, .dict es n, #[]⟩ ∧ PySem.W.KeysLit w.params es.toList ∧ (W.kad i == sysModules) = false ∧ ∀ z : Str,
    (match getK (W.kdv i) z with
    | some t => ∃ u v, PySem.W.nsIn K (W.kad i) z = some (some u) ∧ RelV v u ∧ ∀ φ Z, Rep W K φ Z t v
    | none => PySem.W.nsIn K (W.kad i) z = some none)
  fld : ∀ c f, W.okf c f = true → Cls K (W.cad c) ∧ NoAttr K (W.cad c) f
section
variable {W : Wd} {X : Cx}
theorem ix_dcell (hu : X.A.units + 1 < cLine) : IxR X (fun x y H Q => ∃ a v, x = .ref a ∧ DGet H a y (some v) ∧ Q v H) := by
  intro value slice pins s σ H x y v u Q I rx ry h hs
  obtain ⟨a, r, rfl, g, q⟩ := h
  obtain rfl : v = Value.ref a := rx
  exact PyProof.Rows.tail_any (dict_typeIs I g) PySem.F.slot_dict_getitem.lookup (d_getItem hu I g ry fun w' s' I' rw' => ⟨r, H, I', rw', q⟩) hs
def rIxY (K : PySem.W.Frag) (w : World) : R2 := fun x y H Q => rIx K x y H Q ∨ rIxD K w x y H Q ∨ (∃ a v, x = .ref a ∧ DGet H a y (some v) ∧ Q v H)
theorem ix_any (hu : X.A.units + 1 < cLine) : IxR X (rIxY X.K X.w) := ix_seq.or (ix_kdict.or (ix_dcell hu))
def itemT (W : Wd) : BT := fun t u cs => match t, u with
  | .d (.str s), .d (.int i) => if s.length ≤ sizeLine then (match atI s.cps.toList i with
    | some c => .ok (.d (.str ⟨#[c]⟩)) cs
    | none => .stuck) else .stuck
  | .kd n, .d (.str z) => (match getK (W.kdv n) z with
    | some x => .ok x cs
    | none => .stuck)
  | t, u => (match asQ cs t, u with
    | some xs, .d (.int i) => (match atI xs i with
      | some x => .ok x cs
      | none => .stuck)
    | _, _ => (match t with
      | .ref n => (match cs[n]?, keyT u with
        | some (.dk kvs), some k => (match getK kvs k with
          | some x => .ok x cs
          | none => .stuck)
        | _, _ => .stuck)
      | _ => .stuck))
theorem Paired.atI {α β : Type} {F : α → β → Prop} {l : List α} {m : List β} {i : Int} {a : α} (h : Paired F l m) (e : atI l i = some a) : ∃ b, L2.atI m i = some b ∧ F a b := by
  unfold L2.atI at e ⊢
  rw [← Paired.len h]
  cases q : ixN l.length i with
  | none => rw [q] at e; cases e
  | some j =>
    rw [q] at e
    exact Paired.get h e
theorem ok_item (G : WOk W X.K X.w) : OpOk W X.K (rIxY X.K X.w) (itemT W) := by
  intro φ Z cs H t u v w Q z cs' S r1 r2 e k
  unfold itemT at e
  split at e
  · split at e
    · split at e
      · cases e; cases r1.dStr; cases r2.dInt
        exact .inl (.inr (.inr ⟨_, _, _, rfl, rfl, by assumption, by assumption, fin0 S k (Rep.str _)⟩))
      · cases e
    · cases e
  · rename_i n z1
    split at e
    · rename_i x q
      cases e; cases r2.dStr
      cases r1
      have hne : W.kdv n ≠ [] := fun e => by rw [e] at q; cases q
      obtain ⟨es, m, h1, h2, h3, h4⟩ := G.kd n hne
      have h5 := h4 z1
      rw [q] at h5
      obtain ⟨u0, v0, h6, h7, h8⟩ := h5
      exact .inr (.inl ⟨_, _, v0, rfl, rfl, ⟨es, m, u0, h1, h2, h6, h7⟩, fin0 S k (h8 _ _)⟩)
    · cases e
  · split at e
    · split at e
      · rename_i q2
        cases e
        cases r2.dInt
        obtain ⟨a, vs, rfl, h1, h2⟩ := S.asQ r1 (by assumption)
        obtain ⟨b, h3, h4⟩ := Paired.atI h2 q2
        rcases h1 with h1 | h1
        · exact .inl (.inl ⟨_, _, _, _, rfl, rfl, h1, h3, fin0 S k h4⟩)
        · exact .inl (.inr (.inl ⟨_, _, _, _, rfl, rfl, h1, h3, fin0 S k h4⟩))
      · cases e
    · split at e
      · split at e
        · rename_i n _ _ _ kvs ky q1 q2
          split at e
          · rename_i x q3
            cases e
            cases r1 with
            | ref h =>
              obtain ⟨_, vs, h1, h2⟩ := S.cell _ _ _ q1 h
              have h3 := RepKV.get ky h2
              rw [q3] at h3
              obtain ⟨v, h4, h5⟩ := h3
              rw [keyT_rep r2 q2]
              have h6 : valV vs ky = some v := h4
              refine .inr (.inr ⟨_, v, rfl, ?_, fin0 S k h5⟩)
              rw [← h6]
              exact DGet.k h1
          · cases e
        · cases e
      · cases e
theorem se_item {a b : Expr} {f g : EF} {pos : Pos} (G : WOk W X.K X.w) (hu : X.A.units + 1 < cLine) (ha : SE W X a f) (hb : SE W X b g) (hs : PlainIx b := by exact fun _ _ => rfl) : SE W X (.Subscript a b pos) (bin (itemT W) f g) :=
  PE.imp (pe_ix (ix_any hu) ha hb hs) fun _ _ _ h => tE_bin (ok_item G) h
end

/-! ### slices -/
section
variable {W : Wd} {X : Cx}
abbrev OF := Rho → Cs → R (Option Int)
def tO (W : Wd) (K : PySem.W.Frag) (f : OF) : TO := fun σ H Q => ∃ φ Z ρ cs, Sim W K φ Z cs H ∧ Slots W K φ Z ρ σ ∧ ∃ o cs', f ρ cs = .ok o cs' ∧ ∀ φ' Z' H', Ext φ Z H φ' Z' H' → Sim W K φ' Z' cs' H' → Q o H'
def SO (W : Wd) (X : Cx) (e : Option Expr) (f : OF) : Prop := PO X e (tO W X.K f)
theorem PO.imp {X : Cx} {e : Option Expr} {t t' : TO} (h : PO X e t) (k : ∀ σ H Q, t' σ H Q → t σ H Q) : PO X e t' := ⟨fun pins s σ H Q I q => h.run pins s σ H Q I (k σ H Q q)⟩
def noO : OF := fun _ cs => .ok none cs
def someO (f : EF) : OF := fun ρ cs => (f ρ cs).bind fun t c => match t with
  | .d (.int i) => .ok (some i) c
  | _ => .stuck
theorem so_none : SO W X none noO := PO.imp po_none fun σ H Q h => by
  obtain ⟨φ, Z, ρ, cs, S, L, o, cs', e, k⟩ := h
  cases e
  exact k _ _ _ (Ext.refl _ _ _) S
theorem so_some {e : Expr} {f : EF} (h : SE W X e f) : SO W X (some e) (someO f) := PO.imp (po_some h) fun σ H Q h => by
  obtain ⟨φ, Z, ρ, cs, S, L, o, cs', e, k⟩ := h
  obtain ⟨t, c, e1, e⟩ := R.bind_inv e
  split at e
  · cases e
    refine ⟨φ, Z, ρ, cs, S, L, _, _, e1, fun φ1 Z1 H1 v x1 S1 r1 => ⟨_, r1.dInt, k _ _ _ x1 S1⟩⟩
  · cases e
def cutL {α : Type} (xs : List α) (lo hi : Option Int) : List α := (xs.drop (HT.sIx xs.length 0 lo)).take (HT.sIx xs.length xs.length hi - HT.sIx xs.length 0 lo)
/-- a slice: a list's is a list that nothing changes -/
def slcT (cs : Cs) (t : T) (lo hi : Option Int) : R T := match t with
  | .d (.str s) => if s.length ≤ sizeLine then .ok (.d (.str (cutS s lo hi))) cs else .stuck
  | .d (.tuple ds) => .ok (.d (.tuple (cutL ds lo hi))) cs
  | t => (match asL cs t with
    | some xs => (match allD (cutL xs lo hi) with
      | some ds => .ok (.d (.list ds)) cs
      | none => .stuck)
    | none => .stuck)
/-- .. as a cell -/
def slcC (cs : Cs) (t : T) (lo hi : Option Int) : R T := match asL cs t with
    | some xs => .ok (.ref cs.length) (cs ++ [.lst (cutL xs lo hi)])
    | none => .stuck
def sliceE (op : Cs → T → Option Int → Option Int → R T) (f : EF) (l h : OF) : EF := fun ρ cs => (f ρ cs).bind fun t c1 => (l ρ c1).bind fun lo c2 => (h ρ c2).bind fun hi c3 => op c3 t lo hi
def rSlY (K : PySem.W.Frag) : V → Option Int → Option Int → Hp → VK → Prop := fun x lo hi H Q => rSlL K x lo hi H Q ∨ rSlA K x lo hi H Q ∨ rSlS x lo hi H Q
theorem sl_any : SlR X (rSlY X.K) := sl_list.or (sl_tupA.or sl_str)
theorem Paired.drop {α β : Type} {F : α → β → Prop} : ∀ {l : List α} {m : List β} (n : Nat), Paired F l m → Paired F (l.drop n) (m.drop n)
  | _, _, 0, h => h
  | _, _, n + 1, .nil => .nil
  | _, _, n + 1, .cons _ t => Paired.drop n t
theorem Paired.take {α β : Type} {F : α → β → Prop} : ∀ {l : List α} {m : List β} (n : Nat), Paired F l m → Paired F (l.take n) (m.take n)
  | _, _, 0, h => .nil
  | _, _, n + 1, .nil => .nil
  | _, _, n + 1, .cons h t => .cons h (Paired.take n t)
theorem Paired.cut {F : T → V → Prop} {l : List T} {m : List V} (lo hi : Option Int) (h : Paired F l m) : Paired F (cutL l lo hi) (cutV m lo hi) := by
  unfold cutL cutV
  rw [← Paired.len h]
  exact Paired.take _ (Paired.drop _ h)
theorem cutL_map {α β : Type} (f : α → β) (xs : List α) (lo hi : Option Int) : cutL (xs.map f) lo hi = (cutL xs lo hi).map f := by
  unfold cutL
  rw [List.length_map, List.map_take, List.map_drop]
def SlOk (W : Wd) (K : PySem.W.Frag) (r : V → Option Int → Option Int → Hp → VK → Prop) (op : Cs → T → Option Int → Option Int → R T) : Prop := ∀ φ Z cs H t v lo hi (Q : VK) z cs', Sim W K φ Z cs H → Rep W K φ Z t v → op cs t lo hi = .ok z cs' →
  (∀ φ' Z' H' x, Ext φ Z H φ' Z' H' → Sim W K φ' Z' cs' H' → Rep W K φ' Z' z x → Q x H') → r v lo hi H Q
theorem ok_slc {K : PySem.W.Frag} : SlOk W K (rSlY K) slcT := by
  intro φ Z cs H t v lo hi Q z cs' S r e k
  unfold slcT at e
  split at e
  · split at e
    · cases e; cases r.dStr
      exact .inr (.inr ⟨_, rfl, by assumption, fin0 S k (Rep.str _)⟩)
    · cases e
  · cases e
    obtain ⟨a, vs, rfl, h1, h2, h3⟩ := S.asT r rfl
    refine .inr (.inl ⟨a, vs, rfl, h2, fun q => ?_, fun q => ?_⟩)
    · rename_i ds
      have e : cutL ds lo hi = ds := by
        unfold cutL
        rw [← h3.len, q.1, q.2, h3.len]
        simp
      rw [e] at k
      exact fin0 S k r
    · refine finT S (ds := cutL _ lo hi) ?_ k
      have h4 := Paired.cut lo hi (Reps.of_all (W := W) (φ := φ) h3)
      rw [cutL_map] at h4
      exact Reps.all h4
  · split at e
    · rename_i xs q
      split at e
      · rename_i ds q2
        cases e
        obtain ⟨a, vs, rfl, h1, h2⟩ := S.asL r q
        have h4 := Paired.cut lo hi h2
        rw [allD_eq q2] at h4
        exact .inl ⟨a, vs, rfl, h1, finL S (Reps.all h4) k⟩
      · cases e
    · cases e
theorem ok_slcC {K : PySem.W.Frag} : SlOk W K (rSlY K) slcC := by
  intro φ Z cs H t v lo hi Q z cs' S r e k
  unfold slcC at e
  split at e
  · rename_i xs q
    cases e
    obtain ⟨a, vs, rfl, h1, h2⟩ := S.asL r q
    exact .inl ⟨a, vs, rfl, h1, finC S (Paired.cut lo hi h2) k⟩
  · cases e
theorem se_slice {op : Cs → T → Option Int → Option Int → R T} {e : Expr} {lo hi : Option Expr} {f : EF} {l h : OF} {p2 pos : Pos} (hk : SlOk W X.K (rSlY X.K) op) (he : SE W X e f) (hl : SO W X lo l) (hh : SO W X hi h) : SE W X (.Subscript e (.Slice lo hi none p2) pos) (sliceE op f l h) :=
  PE.imp (pe_slice sl_any he hl hh) fun σ H Q q => by
    obtain ⟨φ, Z, ρ, cs, S, L, t, cs', e, k⟩ := q
    obtain ⟨t1, c1, e1, e⟩ := R.bind_inv e
    obtain ⟨t2, c2, e2, e⟩ := R.bind_inv e
    obtain ⟨t3, c3, e3, e⟩ := R.bind_inv e
    exact ⟨φ, Z, ρ, cs, S, L, t1, c1, e1, fun φ1 Z1 H1 v x1 S1 r1 => ⟨φ1, Z1, ρ, c1, S1, L.ext x1, t2, c2, e2, fun φ2 Z2 H2 x2 S2 => ⟨φ2, Z2, ρ, c2, S2, L.ext (x1.trans x2), t3, c3, e3, fun φ3 Z3 H3 x3 S3 =>
      hk _ _ _ _ _ _ _ _ _ _ _ S3 (r1.ext (x2.trans x3)) e fun φ4 Z4 H4 y x4 S4 r4 => k _ _ _ _ (((x1.trans x2).trans x3).trans x4) S4 r4⟩⟩⟩
end

/-! ### in, not in -/
def flatD : PyData → Bool
  | .none | .bool _ | .int _ | .str _ => true
  | _ => false
section
variable {W : Wd} {X : Cx}
theorem flat_of {K : PySem.W.Frag} {Z : Hp} {d : PyData} {v : V} (h : Dz K Z v d) : flatV v = flatD d := by cases h <;> rfl
theorem eqV_of {K : PySem.W.Frag} {Z : Hp} {d e : PyData} {v w : V} (h : Dz K Z v d) (h' : Dz K Z w e) (f : flatD d = true) (f' : flatD e = true) : eqV v w = PyData.eqv d e := by
  cases h <;> cases h' <;> first | rfl | (simp [eqV, PyData.eqv]; done) | cases f | cases f'
theorem flatAll_of {K : PySem.W.Frag} {Z : Hp} : ∀ {vs : List V} {ds : List PyData}, DzAll K Z vs ds → vs.all flatV = ds.all flatD
  | _, _, .nil => rfl
  | _, _, .cons h t => by simp [flat_of h, flatAll_of t]
theorem inV_of {K : PySem.W.Frag} {Z : Hp} {d : PyData} {v : V} (h : Dz K Z v d) (f : flatD d = true) : ∀ {vs : List V} {ds : List PyData}, DzAll K Z vs ds → ds.all flatD = true → inV v vs = ds.any fun z => PyData.eqv z d
  | _, _, .nil, _ => rfl
  | _, _, .cons h1 t, q => by
    simp only [List.all_cons, Bool.and_eq_true] at q
    have ih := inV_of h f t q.2
    unfold inV at ih ⊢
    simp only [List.any_cons, ih, eqV_of h1 h q.1 f]
/-- the items that are looked through -/
def itemsD (cs : Cs) (u : T) : Option (Bool × List PyData) := match toD cs u with
  | some (.list ds) => some (false, ds)
  | some (.tuple ds) => some (true, ds)
  | _ => none
def scanD (b : Bool) (ds : List PyData) (x : PyData) : Option Bool := if flatD x = true ∧ ds.all flatD = true then some (ds.any fun z => PyData.eqv z x)
      else if SeqAt.shaped x = true ∧ SeqAt.shaped (if b then .tuple ds else .list ds) = true then some (ds.any fun z => PyData.eqv z x) else none
def strIn (a b : Str) : Bool := !(Builtin.Str.occurrences b a 0 b.length 1).isEmpty
def inB (W : Wd) (cs : Cs) (t u : T) : Option Bool := match t, u with
  | .d (.str a), .d (.str b) => some (strIn a b)
  | .d (.str z), .kd n => if W.kdv n ≠ [] then some (getK (W.kdv n) z).isSome else none
  | t, u => (match itemsD cs u, t with
    | some (b, ds), .d x => if x.hasDict = true then none else scanD b ds x
    | _, _ => (match u with
      | .ref n => (match cs[n]?, keyT t with
        | some (.dk kvs), some k => some (getK kvs k).isSome
        | _, _ => none)
      | _ => none))
def inT (W : Wd) : BT := fun t u cs => match inB W cs t u with
  | some b => .ok (.d (.bool b)) cs
  | none => .stuck
def ninT (W : Wd) : BT := fun t u cs => match inB W cs t u with
  | some b => .ok (.d (.bool (!b))) cs
  | none => .stuck
def rInTD (K : PySem.W.Frag) (g : Bool → Bool) : R2 := fun x y H Q => ∃ d ds, Dp K H x d ∧ Dp K H y (.tuple ds) ∧ SeqAt.shaped d = true ∧ SeqAt.shaped (.tuple ds) = true ∧ Q (.bl (g (ds.any fun z => PyData.eqv z d))) H
theorem op_inTD (hu : X.A.units + 65 < cLine) : OpR X (compareOp .In) (rInTD X.K id) := by
  intro pins s σ H x y v u Q I rx ry h
  obtain ⟨d, ds, hd, he, sd, se, q⟩ := h
  obtain ⟨as, r1⟩ := Dp.reads I d x v hd rx
  obtain ⟨bs, r2⟩ := Dp.reads I (.tuple ds) y u he ry
  exact SeqAt.in_tuple_reads r2 r1 (SeqAt.canLay_of_shaped se) (SeqAt.canLay_of_shaped sd) (PyProof.Rows.room_in_shaped sd hu) ⟨.bl _, H, I, rfl, q⟩
theorem op_ninTD (hu : X.A.units + 65 < cLine) : OpR X (compareOp .NotIn) (rInTD X.K not) := by
  intro pins s σ H x y v u Q I rx ry h
  obtain ⟨d, ds, hd, he, sd, se, q⟩ := h
  obtain ⟨as, r1⟩ := Dp.reads I d x v hd rx
  obtain ⟨bs, r2⟩ := Dp.reads I (.tuple ds) y u he ry
  exact SeqAt.notIn_tuple_reads r2 r1 (SeqAt.canLay_of_shaped se) (SeqAt.canLay_of_shaped sd) (PyProof.Rows.room_in_shaped sd hu) ⟨.bl _, H, I, rfl, q⟩

theorem op_kin (b : Bool) : OpR X (compareOp (if b then .In else .NotIn)) (fun x y H Q => ∃ p z es n r, x = .str z ∧ y = .ref p ∧ X.K.lookup p = some ⟨.type "dict", none, .dict es n, #[]⟩ ∧ PySem.W.KeysLit X.w.params es.toList ∧ (p == sysModules) = false ∧ PySem.W.nsIn X.K p z = some r ∧ Q (.bl (if b then r.isSome else !r.isSome)) H) := by
  intro pins s σ H x y v u Q I rx ry h
  obtain ⟨p, z, es, n, r, rfl, rfl, hl, hk, low, e, q⟩ := h
  obtain ⟨t, rfl⟩ := rx
  obtain rfl : u = Value.ref p := ry
  have hm := PySem.W.mapOf_K (prog := X.prog) (w := X.w) I.kIn hl hk
  have hf := PySem.W.find_K hl e
  cases b with
  | true => exact wpAny_in_of (PySem.strKind_is X.prog X.w z t) low hm ⟨.bl _, H, I.tok _, rfl, by show Q _ H; rw [hf]; exact q⟩
  | false => exact wpAny_notIn_of (PySem.strKind_is X.prog X.w z t) low hm ⟨.bl _, H, I.tok _, rfl, by show Q _ H; rw [hf]; exact q⟩
def rInY (X : Cx) (g : Bool) : R2 := fun x y H Q => (∃ i j, x = .str i ∧ y = .str j ∧ Q (.bl (if g then strIn i j else !strIn i j)) H) ∨ rIn X.K (!g) x y H Q ∨
  (∃ d ds, Dp X.K H x d ∧ Dp X.K H y (.list ds) ∧ SeqAt.shaped d = true ∧ SeqAt.shaped (.list ds) = true ∧ Q (.bl (if g then ds.any fun z => PyData.eqv z d else !ds.any fun z => PyData.eqv z d)) H) ∨
  (∃ d ds, Dp X.K H x d ∧ Dp X.K H y (.tuple ds) ∧ SeqAt.shaped d = true ∧ SeqAt.shaped (.tuple ds) = true ∧ Q (.bl (if g then ds.any fun z => PyData.eqv z d else !ds.any fun z => PyData.eqv z d)) H) ∨
  (∃ p z es n r, x = .str z ∧ y = .ref p ∧ X.K.lookup p = some ⟨.type "dict", none, .dict es n, #[]⟩ ∧ PySem.W.KeysLit X.w.params es.toList ∧ (p == sysModules) = false ∧ PySem.W.nsIn X.K p z = some r ∧ Q (.bl (if g then r.isSome else !r.isSome)) H) ∨
  (∃ a o, y = .ref a ∧ DGet H a x o ∧ Q (.bl (if g then o.isSome else !o.isSome)) H)
theorem op_inY (hu : X.A.units + 65 < cLine) : OpR X (compareOp .In) (rInY X true) := by
  refine OpR.or op_in_str (OpR.or op_in_seq (OpR.or (op_inD hu) (OpR.or (op_inTD hu) (OpR.or (op_kin true) ?_))))
  intro pins s σ H x y v u Q I rx ry h
  obtain ⟨a, o, rfl, g, q⟩ := h
  obtain rfl : u = Value.ref a := ry
  exact d_in (by omega) I g rx fun s' I' => ⟨.bl _, H, I', rfl, q⟩
theorem op_ninY (hu : X.A.units + 65 < cLine) : OpR X (compareOp .NotIn) (rInY X false) := by
  refine OpR.or op_notIn_str (OpR.or op_notIn_seq (OpR.or (op_notInD hu) (OpR.or (op_ninTD hu) (OpR.or (op_kin false) ?_))))
  intro pins s σ H x y v u Q I rx ry h
  obtain ⟨a, o, rfl, g, q⟩ := h
  obtain rfl : u = Value.ref a := ry
  exact d_notIn (by omega) I g rx fun s' I' => ⟨.bl _, H, I', rfl, q⟩
theorem Dp.seqV {K : PySem.W.Frag} {H : Hp} {v : V} {ds : List PyData} {b : Bool} (h : Dp K H v (if b then .tuple ds else .list ds)) : ∃ p xs, v = .ref p ∧ (SqL K H p xs ∨ SqT K H p xs) ∧ DpAll K H xs ds := by
  cases b with
  | true =>
    have h : Dp K H v (.tuple ds) := h
    cases h with
    | tup h1 h2 => exact ⟨_, _, rfl, .inr h1, h2⟩
  | false =>
    have h : Dp K H v (.list ds) := h
    cases h with
    | lst h1 h2 => exact ⟨_, _, rfl, .inl h1, h2⟩
theorem flat_ofP {K : PySem.W.Frag} {Z : Hp} {d : PyData} {v : V} (h : Dp K Z v d) : flatV v = flatD d := by cases h <;> rfl
theorem eqV_ofP {K : PySem.W.Frag} {Z : Hp} {d e : PyData} {v w : V} (h : Dp K Z v d) (h' : Dp K Z w e) (f : flatD d = true) (f' : flatD e = true) : eqV v w = PyData.eqv d e := by
  cases h <;> cases h' <;> first | rfl | (simp [eqV, PyData.eqv]; done) | cases f | cases f'
theorem flatAll_ofP {K : PySem.W.Frag} {Z : Hp} : ∀ {vs : List V} {ds : List PyData}, DpAll K Z vs ds → vs.all flatV = ds.all flatD
  | _, _, .nil => rfl
  | _, _, .cons h t => by simp [flat_ofP h, flatAll_ofP t]
theorem inV_ofP {K : PySem.W.Frag} {Z : Hp} {d : PyData} {v : V} (h : Dp K Z v d) (f : flatD d = true) : ∀ {vs : List V} {ds : List PyData}, DpAll K Z vs ds → ds.all flatD = true → inV v vs = ds.any fun z => PyData.eqv z d
  | _, _, .nil, _ => rfl
  | _, _, .cons h1 t, q => by
    simp only [List.all_cons, Bool.and_eq_true] at q
    have ih := inV_ofP h f t q.2
    unfold inV at ih ⊢
    simp only [List.any_cons, ih, eqV_ofP h1 h q.1 f]
theorem items_dp {W : Wd} {K : PySem.W.Frag} {φ : List Addr} {Z H : Hp} {cs : Cs} {u : T} {w : V} {bb : Bool} {ds : List PyData} (S : Sim W K φ Z cs H) (r2 : Rep W K φ Z u w) (q : itemsD cs u = some (bb, ds)) : Dp K H w (if bb then .tuple ds else .list ds) := by
  unfold itemsD at q
  split at q
  · rename_i q2
    cases q
    exact S.toD r2 q2
  · rename_i q2
    cases q
    exact S.toD r2 q2
  · cases q
theorem ok_scan (g : Bool) {H : Hp} {v w : V} {Q : VK} {b bb : Bool} {ds : List PyData} {x : PyData} (hx : Dp X.K H v x) (hu : Dp X.K H w (if bb then .tuple ds else .list ds)) (e : scanD bb ds x = some b) (k : Q (.bl (if g then b else !b)) H) : rInY X g v w H Q := by
  unfold scanD at e
  by_cases hf : flatD x = true ∧ ds.all flatD = true
  · rw [if_pos hf] at e
    cases e
    obtain ⟨p, xs, rfl, h1, h2⟩ := Dp.seqV hu
    refine .inr (.inl ⟨p, xs, rfl, h1, by rw [flat_ofP hx]; exact hf.1, by rw [flatAll_ofP h2]; exact hf.2, ?_⟩)
    rw [inV_ofP hx hf.1 h2 hf.2]
    cases g <;> exact k
  · rw [if_neg hf] at e
    by_cases hs : SeqAt.shaped x = true ∧ SeqAt.shaped (if bb then .tuple ds else .list ds) = true
    · rw [if_pos hs] at e
      cases e
      cases bb with
      | false => exact .inr (.inr (.inl ⟨x, ds, hx, hu, hs.1, hs.2, k⟩))
      | true => exact .inr (.inr (.inr (.inl ⟨x, ds, hx, hu, hs.1, hs.2, k⟩)))
    · rw [if_neg hs] at e
      cases e
theorem ok_in_core (G : WOk W X.K X.w) (g : Bool) {φ : List Addr} {Z H : Hp} {cs : Cs} {t u : T} {v w : V} {Q : VK} {b : Bool} (S : Sim W X.K φ Z cs H) (r1 : Rep W X.K φ Z t v) (r2 : Rep W X.K φ Z u w) (e : inB W cs t u = some b)
    (k : Q (.bl (if g then b else !b)) H) : rInY X g v w H Q := by
  unfold inB at e
  split at e
  · cases e; cases r1.dStr; cases r2.dStr
    exact .inl ⟨_, _, rfl, rfl, k⟩
  · rename_i z n
    split at e
    · rename_i hne
      cases e; cases r1.dStr
      cases r2
      obtain ⟨es, m, h1, h2, h3, h4⟩ := G.kd n hne
      have h5 := h4 z
      cases q : getK (W.kdv n) z with
      | none =>
        rw [q] at h5 k
        exact .inr (.inr (.inr (.inr (.inl ⟨_, _, es, m, none, rfl, rfl, h1, h2, h3, h5, k⟩))))
      | some x =>
        rw [q] at h5 k
        obtain ⟨u0, v0, h6, h7, h8⟩ := h5
        exact .inr (.inr (.inr (.inr (.inl ⟨_, _, es, m, some u0, rfl, rfl, h1, h2, h3, h6, k⟩))))
    · cases e
  · split at e
    · split at e
      · cases e
      · rename_i hnd
        have hx := S.toD r1 (toD_of (by simpa using hnd))
        have hu := items_dp S r2 (by assumption)
        exact ok_scan g hx hu e k
    · split at e
      · split at e
        · rename_i n _ _ _ kvs ky q1 q2
          cases e
          cases r2 with
          | ref h =>
            obtain ⟨_, vs, h1, h2⟩ := S.cell _ _ _ q1 h
            have h3 := RepKV.get ky h2
            rw [keyT_rep r1 q2]
            refine .inr (.inr (.inr (.inr (.inr ⟨_, valV vs ky, rfl, DGet.k h1, ?_⟩))))
            cases q : getK kvs ky with
            | none =>
              rw [q] at h3 k
              have h4 : valV vs ky = none := h3
              rw [h4]
              exact k
            | some x =>
              rw [q] at h3 k
              obtain ⟨v0, h4, h5⟩ := h3
              have h4 : valV vs ky = some v0 := h4
              rw [h4]
              exact k
        · cases e
      · cases e
theorem ok_in (G : WOk W X.K X.w) : OpOk W X.K (rInY X true) (inT W) := by
  intro φ Z cs H t u v w Q z cs' S r1 r2 e k
  unfold inT at e
  split at e
  · cases e
    exact ok_in_core G true S r1 r2 (by assumption) (fin0 S k (Rep.bool _))
  · cases e
theorem ok_nin (G : WOk W X.K X.w) : OpOk W X.K (rInY X false) (ninT W) := by
  intro φ Z cs H t u v w Q z cs' S r1 r2 e k
  unfold ninT at e
  split at e
  · cases e
    exact ok_in_core G false S r1 r2 (by assumption) (fin0 S k (Rep.bool _))
  · cases e
end
end Y
end
section
set_option Elab.async false
set_option linter.all false
set_option maxRecDepth 100000
set_option maxHeartbeats 1000000
namespace Y
open PySem PySem.Spec L2
/-! ### built-ins by name -/
def ClOk (W : Wd) (K : PySem.W.Frag) (r : List V → Hp → VK → Prop) (op : List T → Cs → R T) : Prop := ∀ φ Z cs H ts vs (Q : VK) z cs', Sim W K φ Z cs H → Reps W K φ Z ts vs → op ts cs = .ok z cs' →
  (∀ φ' Z' H' x, Ext φ Z H φ' Z' H' → Sim W K φ' Z' cs' H' → Rep W K φ' Z' z x → Q x H') → r vs H Q
def app (op : List T → Cs → R T) (g : AF) : EF := fun ρ cs => (g ρ cs).bind op
section
variable {W : Wd} {X : Cx} {x : Str} {p pos : Pos} {e : Expr} {es : List Expr} {g : AF} {id Ty : String} {r : List V → Hp → VK → Prop} {op : List T → Cs → R T}
theorem tE_app {K : PySem.W.Frag} {r : List V → Hp → VK → Prop} (hk : ClOk W K r op) {σ : St} {H : Hp} {Q : VK} (h : tE W K (app op g) σ H Q) : tCB r (tA W K g) σ H Q := by
  obtain ⟨φ, Z, ρ, cs, S, L, t, cs', e, k⟩ := h
  obtain ⟨t1, c1, e1, e⟩ := R.bind_inv e
  exact ⟨φ, Z, ρ, cs, S, L, t1, c1, e1, fun φ1 Z1 H1 vs x1 S1 r1 => hk _ _ _ _ _ _ _ _ _ S1 r1 e fun φ2 Z2 H2 y x2 S2 r2 => k _ _ _ _ (x1.trans x2) S2 r2⟩
theorem se_callB (hk : ClOk W X.K r op) (hc : CallR X (.builtin id) r) (hg : Gl X x) (hm : X.mg x = none) (hv : bootBuiltins x = some (.builtin id)) (ha : SA W X (e :: es) g) (hn : x ≠ "__name__" := by decide +kernel) (hdb : (x == ("__debug__" : Str)) = false := by decide +kernel)
    (he : starEach (e :: es) X.env = (false, eval e X.env) :: starEach es X.env := by rfl) (hpl : (backTo pos (starEach es X.env)).any (·.1) = false := by rfl) : SE W X (.Call (.Name x p) (e :: es) [] pos) (app op g) :=
  PE.imp (pe_callB hc hg hm hv ha hn hdb he hpl) fun _ _ _ h => tE_app hk h
theorem se_callTy (hk : ClOk W X.K r op) (hc : CallR X (.type Ty) r) (hg : Gl X x) (hm : X.mg x = none) (hv : bootBuiltins x = some (.type Ty)) (ha : SA W X (e :: es) g) (hn : x ≠ "__name__" := by decide +kernel) (hdb : (x == ("__debug__" : Str)) = false := by decide +kernel)
    (he : starEach (e :: es) X.env = (false, eval e X.env) :: starEach es X.env := by rfl) (hpl : (backTo pos (starEach es X.env)).any (·.1) = false := by rfl) : SE W X (.Call (.Name x p) (e :: es) [] pos) (app op g) :=
  PE.imp (pe_callTy hc hg hm hv ha hn hdb he hpl) fun _ _ _ h => tE_app hk h
theorem se_callF (hk : ClOk W X.K r op) (hc : CallR X (.builtin id) r) (hg : Gl X x) (hm : X.mg x = some (.builtin id)) (ha : SA W X (e :: es) g) (hdb : (x == ("__debug__" : Str)) = false := by decide +kernel)
    (he : starEach (e :: es) X.env = (false, eval e X.env) :: starEach es X.env := by rfl) (hpl : (backTo pos (starEach es X.env)).any (·.1) = false := by rfl) : SE W X (.Call (.Name x p) (e :: es) [] pos) (app op g) :=
  PE.imp (pe_callBfun hc hg hm ha hdb he hpl) fun _ _ _ h => tE_app hk h
theorem Reps.one {K : PySem.W.Frag} {φ : List Addr} {Z : Hp} {t : T} {vs : List V} (h : Reps W K φ Z [t] vs) : ∃ v, vs = [v] ∧ Rep W K φ Z t v := by
  cases h with | cons a b => cases b; exact ⟨_, rfl, a⟩
theorem Reps.two {K : PySem.W.Frag} {φ : List Addr} {Z : Hp} {t u : T} {vs : List V} (h : Reps W K φ Z [t, u] vs) : ∃ v w, vs = [v, w] ∧ Rep W K φ Z t v ∧ Rep W K φ Z u w := by
  cases h with | cons a b => cases b with | cons b c => cases c; exact ⟨_, _, rfl, a, b⟩
abbrev CT := List T → Cs → R T
def lenT : CT := fun ts cs => match ts with
  | [.d (.str s)] => if s.length ≤ sizeLine then .ok (.d (.int s.length)) cs else .stuck
  | [t] => (match asQ cs t with
    | some xs => .ok (.d (.int xs.length)) cs
    | none => .stuck)
  | _ => .stuck
theorem ok_len {K : PySem.W.Frag} : ClOk W K (fun xs H Q => ∃ x n, xs = [x] ∧ LenV K x H n ∧ Q (.int n) H) lenT := by
  intro φ Z cs H ts vs Q z cs' S r e k
  unfold lenT at e
  split at e
  · split at e
    · cases e
      obtain ⟨v, rfl, r1⟩ := Reps.one r
      cases r1.dStr
      exact ⟨_, _, rfl, ⟨by assumption, rfl⟩, fin0 S k (Rep.int _)⟩
    · cases e
  · split at e
    · cases e
      obtain ⟨v, rfl, r1⟩ := Reps.one r
      obtain ⟨a, vs, rfl, h1, h2⟩ := S.asQ r1 (by assumption)
      refine ⟨_, vs.length, rfl, ?_, ?_⟩
      · rcases h1 with h1 | h1
        · exact .inl ⟨vs, h1, rfl⟩
        · exact .inr ⟨vs, h1, rfl⟩
      · rw [← Paired.len h2]
        exact fin0 S k (Rep.int _)
    · cases e
  · cases e
/-- the type of a value -/
def tyT (cs : Cs) : T → Option String
  | .d .none => some "NoneType"
  | .d (.bool _) => some "bool"
  | .d (.int _) => some "int"
  | .d (.str _) => some "str"
  | .d (.tuple _) => some "tuple"
  | .d (.list _) => some "list"
  | .ref n => (match cs[n]? with
    | some (.lst _) => some "list"
    | some (.dk _) => some "dict"
    | _ => none)
  | _ => none
theorem Sim.ty {K : PySem.W.Frag} {φ : List Addr} {Z H : Hp} {cs : Cs} (S : Sim W K φ Z cs H) {t : T} {v : V} {n : String} (r : Rep W K φ Z t v) (e : tyT cs t = some n) : TyX K H v (.type n) := by
  unfold tyT at e
  split at e
  · cases e; cases r.dNone; exact .base .non
  · cases e; cases r.dBool; exact .base (.bl _)
  · cases e; cases r.dInt; exact .base (.int _)
  · cases e; cases r.dStr; exact .base (.str _)
  · cases e
    obtain ⟨a, vs, rfl, _, h, _⟩ := S.asT r rfl
    rcases h with h | ⟨o, its, m, h1, h2, _⟩
    · rcases h with h | ⟨o, h⟩
      · exact .base (.tup h)
      · exact .fTuple h
    · exact .kTuple h1 h2
  · cases e
    obtain ⟨a, vs, rfl, h, _⟩ := S.asM r rfl
    exact .base (.lst h)
  · split at e
    · rename_i q
      cases e
      cases r with
      | ref h =>
        obtain ⟨_, vs, h1, _⟩ := S.cell _ _ _ q h
        exact .base (.lst h1)
    · rename_i q
      cases e
      cases r with
      | ref h =>
        obtain ⟨_, vs, h1, _⟩ := S.cell _ _ _ q h
        exact .base (.dK h1)
    · cases e
  · cases e

/-- isinstance(x, T) of one built-in class -/
def isiT (c : String) : CT := fun ts cs => match ts with
  | [t] => (match tyT cs t with
    | some n => (match kitB n c with
      | some b => .ok (.d (.bool b)) cs
      | none => .stuck)
    | none => .stuck)
  | _ => .stuck
theorem se_isi {c : String} {p' : Pos} {cn : Str} {f : EF} (hg : Gl X "isinstance") (hm : X.mg "isinstance" = none) (ha : SE W X e f) (hg2 : Gl X cn) (hm2 : X.mg cn = none) (hv2 : bootBuiltins cn = some (.type c)) (hn2 : cn ≠ "__name__" := by decide +kernel)
    (hdb2 : (cn == ("__debug__" : Str)) = false := by decide +kernel) (hv : bootBuiltins "isinstance" = some (.builtin "isinstance") := by decide +kernel)
    (h1 : starEach [e, .Name cn p'] X.env = (false, eval e X.env) :: starEach [.Name cn p'] X.env := by rfl) (h2 : starEach [.Name cn p'] X.env = (false, eval (.Name cn p') X.env) :: starEach [] X.env := by rfl) (hpl : (backTo pos (starEach [.Name cn p'] X.env)).any (·.1) = false := by rfl) :
    SE W X (.Call (.Name "isinstance" p) [e, .Name cn p'] [] pos) (un (fun t cs => isiT c [t] cs) f) :=
  PE.imp (pe_callB call_isi hg hm hv (pa_cons ha (pa_cons (pe_bltn (v := .ty c) hg2 hm2 hv2 rfl hn2 hdb2) pa_nil h2) h1) (by decide +kernel) (by decide +kernel) h1 hpl) fun σ H Q h => by
    obtain ⟨φ, Z, ρ, cs, S, L, t, cs', e, k⟩ := h
    obtain ⟨t1, c1, e1, e⟩ := R.bind_inv e
    refine ⟨φ, Z, ρ, cs, S, L, t1, c1, e1, fun φ1 Z1 H1 v x1 S1 r1 => ?_⟩
    have e : isiT c [t1] c1 = .ok t cs' := e
    unfold isiT at e
    dsimp only at e
    split at e
    · rename_i n hn
      split at e
      · rename_i b hb
        cases e
        exact ⟨v, .ty c, _, _, b, rfl, .ty c, S1.ty r1 hn, kit_ty hb, k _ _ _ _ x1 S1 (Rep.bool b)⟩
      · cases e
    · cases e
/-- all(list), any(list) of bools -/
def boolsOf : List T → Option (List Bool)
  | [] => some []
  | .d (.bool b) :: r => (match boolsOf r with
    | some bs => some (b :: bs)
    | none => none)
  | _ :: _ => none
theorem bools_rep {K : PySem.W.Frag} {φ : List Addr} {Z : Hp} : ∀ {ts : List T} {vs : List V} {bs : List Bool}, Reps W K φ Z ts vs → boolsOf ts = some bs → vs = bs.map V.bl
  | _, _, _, .nil, e => by cases e; rfl
  | t :: ts, v :: vs, bs, .cons h r, e => by
    unfold boolsOf at e
    split at e
    · rename_i q
      cases q
    · rename_i b r' q
      cases q
      cases e2 : boolsOf ts with
      | none => rw [e2] at e; cases e
      | some bs' =>
        rw [e2] at e
        cases e
        cases h.dBool
        rw [bools_rep r e2]
        rfl
    · cases e
def intsOf : List T → Option (List Int)
  | [] => some []
  | .d (.int b) :: r => (match intsOf r with
    | some bs => some (b :: bs)
    | none => none)
  | _ :: _ => none
theorem ints_rep {K : PySem.W.Frag} {φ : List Addr} {Z : Hp} : ∀ {ts : List T} {vs : List V} {bs : List Int}, Reps W K φ Z ts vs → intsOf ts = some bs → vs = bs.map V.int
  | _, _, _, .nil, e => by cases e; rfl
  | t :: ts, v :: vs, bs, .cons h r, e => by
    unfold intsOf at e
    split at e
    · rename_i q
      cases q
    · rename_i b r' q
      cases q
      cases e2 : intsOf ts with
      | none => rw [e2] at e; cases e
      | some bs' =>
        rw [e2] at e
        cases e
        cases h.dInt
        rw [ints_rep r e2]
        rfl
    · cases e
def listB (g : List Bool → T) : CT := fun ts cs => match ts with
  | [t] => (match asL cs t with
    | some xs => (match boolsOf xs with
      | some bs => .ok (g bs) cs
      | none => .stuck)
    | none => .stuck)
  | _ => .stuck
def listI (g : List Int → T) : CT := fun ts cs => match ts with
  | [t] => (match asL cs t with
    | some xs => (match intsOf xs with
      | some bs => .ok (g bs) cs
      | none => .stuck)
    | none => .stuck)
  | _ => .stuck
theorem ok_listB {K : PySem.W.Frag} {g : List Bool → T} {gv : List Bool → V} (hg : ∀ φ Z bs, Rep W K φ Z (g bs) (gv bs)) : ClOk W K (fun vs H Q => ∃ (a : Addr) (bs : List Bool), vs = [V.ref a] ∧ SqL K H a (bs.map V.bl) ∧ Q (gv bs) H) (listB g) := by
  intro φ Z cs H ts vs Q z cs' S r e k
  unfold listB at e
  split at e
  · split at e
    · split at e
      · cases e
        obtain ⟨v, rfl, r1⟩ := Reps.one r
        obtain ⟨a, ws, rfl, h1, h2⟩ := S.asL r1 (by assumption)
        rw [bools_rep h2 (by assumption)] at h1
        exact ⟨a, _, rfl, h1, fin0 S k (hg _ _ _)⟩
      · cases e
    · cases e
  · cases e
theorem ok_listI {K : PySem.W.Frag} {g : List Int → T} {gv : List Int → V} (hg : ∀ φ Z bs, Rep W K φ Z (g bs) (gv bs)) : ClOk W K (fun vs H Q => ∃ (a : Addr) (bs : List Int), vs = [V.ref a] ∧ SqL K H a (bs.map V.int) ∧ Q (gv bs) H) (listI g) := by
  intro φ Z cs H ts vs Q z cs' S r e k
  unfold listI at e
  split at e
  · split at e
    · split at e
      · cases e
        obtain ⟨v, rfl, r1⟩ := Reps.one r
        obtain ⟨a, ws, rfl, h1, h2⟩ := S.asL r1 (by assumption)
        rw [ints_rep h2 (by assumption)] at h1
        exact ⟨a, _, rfl, h1, fin0 S k (hg _ _ _)⟩
      · cases e
    · cases e
  · cases e
def allT : CT := listB fun bs => .d (.bool (bs.all fun b => b))
def anyT : CT := listB fun bs => .d (.bool (bs.any fun b => b))
def sumT : CT := listI fun ns => .d (.int ns.sum)
theorem ok_all {K : PySem.W.Frag} : ClOk W K (rAll K) allT := ok_listB (gv := fun bs => .bl (bs.all _root_.id)) fun _ _ _ => Rep.bool _
theorem ok_any {K : PySem.W.Frag} : ClOk W K (rAny K) anyT := ok_listB (gv := fun bs => .bl (bs.any _root_.id)) fun _ _ _ => Rep.bool _
theorem ok_sum {K : PySem.W.Frag} : ClOk W K (rSum K) sumT := ok_listI (gv := fun bs => .int bs.sum) fun _ _ _ => Rep.int _
/-- tuple(x), list(x) of a list or a tuple -/
def tupleT : CT := fun ts cs => match ts with
  | [.d (.tuple ds)] => .ok (.d (.tuple ds)) cs
  | [t] => (match asL cs t with
    | some xs => (match allD xs with
      | some ds => .ok (.d (.tuple ds)) cs
      | none => .stuck)
    | none => .stuck)
  | _ => .stuck
theorem ok_tuple {K : PySem.W.Frag} : ClOk W K (fun xs H Q => ∃ p ys, xs = [.ref p] ∧ ((SqL K H p ys ∧ ∀ l, H l = none → Q (.ref l) (upd H l (.tup ys))) ∨ (SqT K H p ys ∧ Q (.ref p) H))) tupleT := by
  intro φ Z cs H ts vs Q z cs' S r e k
  unfold tupleT at e
  split at e
  · cases e
    obtain ⟨v, rfl, r1⟩ := Reps.one r
    obtain ⟨a, ws, rfl, _, h, _⟩ := S.asT r1 rfl
    exact ⟨a, ws, rfl, .inr ⟨h, fin0 S k r1⟩⟩
  · split at e
    · split at e
      · cases e
        obtain ⟨v, rfl, r1⟩ := Reps.one r
        obtain ⟨a, ws, rfl, h1, h2⟩ := S.asL r1 (by assumption)
        have q := allD_eq (by assumption)
        rw [q] at h2
        exact ⟨a, ws, rfl, .inl ⟨h1, finT S (Reps.all h2) k⟩⟩
      · cases e
    · cases e
  · cases e
def listT : CT := fun ts cs => match ts with
  | [t] => (match asQ cs t with
    | some xs => (match allD xs with
      | some ds => .ok (.d (.list ds)) cs
      | none => .stuck)
    | none => .stuck)
  | _ => .stuck
def listC : CT := fun ts cs => match ts with
  | [t] => (match asQ cs t with
    | some xs => .ok (.ref cs.length) (cs ++ [.lst xs])
    | none => .stuck)
  | _ => .stuck
theorem ok_list {K : PySem.W.Frag} : ClOk W K (fun xs H Q => ∃ p ys, xs = [.ref p] ∧ (SqL K H p ys ∨ SqT K H p ys) ∧ ∀ l, H l = none → Q (.ref l) (upd H l (.lst ys))) listT := by
  intro φ Z cs H ts vs Q z cs' S r e k
  unfold listT at e
  split at e
  · split at e
    · split at e
      · cases e
        obtain ⟨v, rfl, r1⟩ := Reps.one r
        obtain ⟨a, ws, rfl, h1, h2⟩ := S.asQ r1 (by assumption)
        have q := allD_eq (by assumption)
        rw [q] at h2
        exact ⟨a, ws, rfl, h1, finL S (Reps.all h2) k⟩
      · cases e
    · cases e
  · cases e
theorem ok_listC {K : PySem.W.Frag} : ClOk W K (fun xs H Q => ∃ p ys, xs = [.ref p] ∧ (SqL K H p ys ∨ SqT K H p ys) ∧ ∀ l, H l = none → Q (.ref l) (upd H l (.lst ys))) listC := by
  intro φ Z cs H ts vs Q z cs' S r e k
  unfold listC at e
  split at e
  · split at e
    · cases e
      obtain ⟨v, rfl, r1⟩ := Reps.one r
      obtain ⟨a, ws, rfl, h1, h2⟩ := S.asQ r1 (by assumption)
      exact ⟨a, ws, rfl, h1, finC S h2 k⟩
    · cases e
  · cases e
/-- ints in, a value out -/
def int1 (g : Int → T) : CT := fun ts cs => match ts with
  | [.d (.int a)] => .ok (g a) cs
  | _ => .stuck
def int2 (g : Int → Int → T) : CT := fun ts cs => match ts with
  | [.d (.int a), .d (.int b)] => .ok (g a b) cs
  | _ => .stuck
theorem ok_int1 {K : PySem.W.Frag} {g : Int → T} {gv : Int → V} (hg : ∀ φ Z a, Rep W K φ Z (g a) (gv a)) : ClOk W K (fun xs H Q => ∃ i, xs = [.int i] ∧ Q (gv i) H) (int1 g) := by
  intro φ Z cs H ts vs Q z cs' S r e k
  unfold int1 at e
  split at e
  · cases e
    obtain ⟨v, rfl, r1⟩ := Reps.one r
    cases r1.dInt
    exact ⟨_, rfl, fin0 S k (hg _ _ _)⟩
  · cases e
theorem ok_int2 {K : PySem.W.Frag} {g : Int → Int → T} {gv : Int → Int → V} (hg : ∀ φ Z a b, Rep W K φ Z (g a b) (gv a b)) : ClOk W K (fun xs H Q => ∃ i j, xs = [.int i, .int j] ∧ Q (gv i j) H) (int2 g) := by
  intro φ Z cs H ts vs Q z cs' S r e k
  unfold int2 at e
  split at e
  · cases e
    obtain ⟨v, w, rfl, r1, r2⟩ := Reps.two r
    cases r1.dInt
    cases r2.dInt
    exact ⟨_, _, rfl, fin0 S k (hg _ _ _ _)⟩
  · cases e
def absT : CT := int1 fun i => .d (.int (if i < 0 then -i else i))
def max2T : CT := int2 fun i j => .d (.int (if j > i then j else i))
def min2T : CT := int2 fun i j => .d (.int (if j < i then j else i))
def gcdT : CT := int2 fun a b => .d (.int ((Nat.gcd a.natAbs b.natAbs : Nat) : Int))
theorem ok_abs {K : PySem.W.Frag} : ClOk W K (fun xs H Q => ∃ i, xs = [.int i] ∧ Q (.int (if i < 0 then -i else i)) H) absT := ok_int1 (gv := fun i => .int (if i < 0 then -i else i)) fun _ _ _ => Rep.int _
theorem ok_max2 {K : PySem.W.Frag} : ClOk W K (fun xs H Q => ∃ i j, xs = [.int i, .int j] ∧ Q (.int (if j > i then j else i)) H) max2T := ok_int2 (gv := fun i j => .int (if j > i then j else i)) fun _ _ _ _ => Rep.int _
theorem ok_min2 {K : PySem.W.Frag} : ClOk W K (fun xs H Q => ∃ i j, xs = [.int i, .int j] ∧ Q (.int (if j < i then j else i)) H) min2T := ok_int2 (gv := fun i j => .int (if j < i then j else i)) fun _ _ _ _ => Rep.int _
theorem ok_gcd {K : PySem.W.Frag} : ClOk W K rGcd gcdT := ok_int2 (gv := fun a b => .int ((Nat.gcd a.natAbs b.natAbs : Nat) : Int)) fun _ _ _ _ => Rep.int _
/-- int(x) of an int or a bool, of a text of figures -/
def intT : CT := fun ts cs => match ts with
  | [.d (.int a)] => .ok (.d (.int a)) cs
  | [.d (.bool b)] => .ok (.d (.int (if b then 1 else 0))) cs
  | [.d (.str s)] => (match PySem.intText? s with
    | some n => if s.length ≤ 640 then .ok (.d (.int n)) cs else .stuck
    | none => .stuck)
  | _ => .stuck
theorem call_intY : CallR X (.type "int") (fun xs H Q => ((∃ i, xs = [.int i] ∧ Q (.int i) H) ∨ ∃ k, xs = [.bl k] ∧ Q (.int (if k then 1 else 0)) H) ∨ (∃ a n, xs = [.str a] ∧ PySem.intText? a = some n ∧ a.length ≤ 640 ∧ Q (.int n) H)) := CallR.or call_int1 call_int_str
theorem ok_int {K : PySem.W.Frag} : ClOk W K (fun xs H Q => ((∃ i, xs = [.int i] ∧ Q (.int i) H) ∨ ∃ k, xs = [.bl k] ∧ Q (.int (if k then 1 else 0)) H) ∨ (∃ a n, xs = [.str a] ∧ PySem.intText? a = some n ∧ a.length ≤ 640 ∧ Q (.int n) H)) intT := by
  intro φ Z cs H ts vs Q z cs' S r e k
  unfold intT at e
  split at e
  · cases e
    obtain ⟨v, rfl, r1⟩ := Reps.one r
    cases r1.dInt
    exact .inl (.inl ⟨_, rfl, fin0 S k (Rep.int _)⟩)
  · cases e
    obtain ⟨v, rfl, r1⟩ := Reps.one r
    cases r1.dBool
    exact .inl (.inr ⟨_, rfl, fin0 S k (Rep.int _)⟩)
  · split at e
    · split at e
      · cases e
        obtain ⟨v, rfl, r1⟩ := Reps.one r
        cases r1.dStr
        exact .inr ⟨_, _, rfl, by assumption, by assumption, fin0 S k (Rep.int _)⟩
      · cases e
    · cases e
  · cases e
/-- str(n), str(text) -/
def strT : CT := fun ts cs => match ts with
  | [.d (.int a)] => if a.natAbs.log2 < 1920 then .ok (.d (.str (toString a : String))) cs else .stuck
  | [.d (.str x)] => .ok (.d (.str x)) cs
  | _ => .stuck
theorem call_strY : CallR X (.type "str") (fun xs H Q => (∃ i, xs = [.int i] ∧ i.natAbs.log2 < 1920 ∧ Q (.str (toString i : String)) H) ∨ ∃ a, xs = [.str a] ∧ Q (.str a) H) := CallR.or call_str_int SkE.call_str_str
theorem ok_str {K : PySem.W.Frag} : ClOk W K (fun xs H Q => (∃ i, xs = [.int i] ∧ i.natAbs.log2 < 1920 ∧ Q (.str (toString i : String)) H) ∨ ∃ a, xs = [.str a] ∧ Q (.str a) H) strT := by
  intro φ Z cs H ts vs Q z cs' S r e k
  unfold strT at e
  split at e
  · split at e
    · cases e
      obtain ⟨v, rfl, r1⟩ := Reps.one r
      cases r1.dInt
      exact .inl ⟨_, rfl, by assumption, fin0 S k (Rep.str _)⟩
    · cases e
  · cases e
    obtain ⟨v, rfl, r1⟩ := Reps.one r
    cases r1.dStr
    exact .inr ⟨_, rfl, fin0 S k (Rep.str _)⟩
  · cases e
/-- divmod -/
def divmodT : CT := fun ts cs => match ts with
  | [.d (.int a), .d (.int b)] => if 0 < b ∧ Builtin.divisionGoesByPylong a b = false then .ok (.d (.tuple [.int (a / b), .int (a % b)])) cs else .stuck
  | _ => .stuck
theorem ok_divmod {K : PySem.W.Frag} : ClOk W K (fun xs H Q => ∃ i j, xs = [.int i, .int j] ∧ CDivP i j ∧ ∀ p, H p = none → Q (.ref p) (upd H p (.tup [.int (i / j), .int (i % j)]))) divmodT := by
  intro φ Z cs H ts vs Q z cs' S r e k
  unfold divmodT at e
  split at e
  · split at e
    · cases e
      obtain ⟨v, w, rfl, r1, r2⟩ := Reps.two r
      cases r1.dInt
      cases r2.dInt
      exact ⟨_, _, rfl, by assumption, finT S (.cons (.int _) (.cons (.int _) .nil)) k⟩
    · cases e
  · cases e
end
end Y
end
section
set_option Elab.async false
set_option linter.all false
set_option maxRecDepth 100000
set_option maxHeartbeats 1000000
namespace Y
open PySem PySem.Spec L2
/-! ### targets -/
inductive Pat where
  | nm (i : Nat)
  | tp (ps : List Pat)
mutual
def asgP : Pat → T → Cs → Rho → Option Rho
  | .nm i, t, _, ρ => some (ρ.set i (some t))
  | .tp ps, t, cs, ρ => (match asQ cs t with
    | some xs => asgPs ps xs cs ρ
    | none => none)
def asgPs : List Pat → List T → Cs → Rho → Option Rho
  | [], [], _, ρ => some ρ
  | p :: ps, x :: xs, cs, ρ => (match asgP p x cs ρ with
    | some ρ1 => asgPs ps xs cs ρ1
    | none => none)
  | _, _, _, _ => none
end
/-! the slots of a target -/
mutual
def Pat.slots : Pat → List Nat
  | .nm i => [i]
  | .tp ps => Pat.slotsL ps
def Pat.slotsL : List Pat → List Nat
  | [] => []
  | p :: ps => p.slots ++ Pat.slotsL ps
end
def SameBut (l : List Nat) (σ σ' : St) : Prop := σ'.length = σ.length ∧ ∀ i, i ∉ l → σ'[i]? = σ[i]?
theorem SameBut.refl (l : List Nat) (σ : St) : SameBut l σ σ := ⟨rfl, fun _ _ => rfl⟩
theorem SameBut.trans {l l' : List Nat} {σ σ' σ'' : St} (a : SameBut l σ σ') (b : SameBut l' σ' σ'') : SameBut (l ++ l') σ σ'' :=
  ⟨b.1.trans a.1, fun i h => by rw [List.mem_append, not_or] at h; rw [b.2 i h.2, a.2 i h.1]⟩
theorem SameBut.set (i : Nat) (v : Option V) (σ : St) : SameBut [i] σ (σ.set i v) := ⟨by simp, fun j h => by
  have : i ≠ j := fun e => h (by simp [e])
  rw [List.getElem?_set_ne this]⟩
theorem wipe_get (σ : St) : ∀ (vs : List Nat) (i : Nat), (wipe σ vs)[i]? = if i ∈ vs then (if i < σ.length then some none else none) else σ[i]?
  | [], i => by simp [wipe]
  | v :: vs, i => by
    unfold wipe
    have ih := wipe_get σ vs i
    by_cases h : v = i
    · subst h
      by_cases hl : v < σ.length
      · rw [List.getElem?_set_self (by rw [wipe_length]; exact hl)]
        simp [hl]
      · rw [List.getElem?_eq_none (by rw [List.length_set, wipe_length]; omega)]
        simp [hl]
    · rw [List.getElem?_set_ne h, ih]
      have e : (i ∈ v :: vs) ↔ i ∈ vs := by
        simp only [List.mem_cons]
        exact ⟨fun q => q.elim (fun z => absurd z.symm h) _root_.id, .inr⟩
      simp only [e]
theorem SameBut.wipe {l vs : List Nat} {σ σ' : St} (h : SameBut l σ σ') (hs : ∀ i ∈ l, i ∈ vs) : L2.wipe σ' vs = L2.wipe σ vs := by
  apply List.ext_getElem?
  intro i
  rw [wipe_get, wipe_get, h.1]
  by_cases hi : i ∈ vs
  · rw [if_pos hi, if_pos hi]
  · rw [if_neg hi, if_neg hi, h.2 i fun q => hi (hs i q)]
theorem asgPs_len : ∀ {ps : List Pat} {xs : List T} {cs : Cs} {ρ ρ' : Rho}, asgPs ps xs cs ρ = some ρ' → ps.length = xs.length
  | [], [], _, _, _, _ => rfl
  | p :: ps, x :: xs, cs, ρ, ρ', h => by
    unfold asgPs at h
    cases e : asgP p x cs ρ with
    | none => rw [e] at h; cases h
    | some ρ1 => rw [e] at h; simp [asgPs_len h]
  | [], _ :: _, _, _, _, h => by unfold asgPs at h; cases h
  | _ :: _, [], _, _, _, h => by unfold asgPs at h; cases h
section
variable (W : Wd) (K : PySem.W.Frag)
def tG (p : Pat) : TG := fun v σ H Q => ∃ φ Z ρ cs t ρ', Sim W K φ Z cs H ∧ Slots W K φ Z ρ σ ∧ Rep W K φ Z t v ∧ asgP p t cs ρ = some ρ' ∧ ∀ σ', Slots W K φ Z ρ' σ' → SameBut p.slots σ σ' → Q σ' H
def tGs (ps : List Pat) : TGs := fun vs σ H Q => ∃ φ Z ρ cs ts ρ', Sim W K φ Z cs H ∧ Slots W K φ Z ρ σ ∧ Reps W K φ Z ts vs ∧ asgPs ps ts cs ρ = some ρ' ∧ ∀ σ', Slots W K φ Z ρ' σ' → SameBut (Pat.slotsL ps) σ σ' → Q σ' H
end
def SG (W : Wd) (X : Cx) (e : Expr) (p : Pat) : Prop := PG X e (tG W X.K p)
def SGs (W : Wd) (X : Cx) (es : List Expr) (ps : List Pat) : Prop := PGs X es (tGs W X.K ps)
section
variable {W : Wd} {X : Cx} {pos : Pos}
theorem sg_name {i : Nat} {x : Str} (hN : X.N.Nodup) (hi : X.N[i]? = some x) (hx : Loc X.env.scope x) (hf : X.fn x = true ∨ X.env.scope.names.lookup x = some .local := by first | exact .inl rfl | exact .inr rfl) : SG W X (.Name x pos) (.nm i) :=
  ⟨fun pins s σ H v u Q I r h => (pg_name (i := i) hN hi hx hf).run pins s σ H v u Q I r (by
    obtain ⟨φ, Z, ρ, cs, t, ρ', S, L, r, e, k⟩ := h
    unfold asgP at e
    cases e
    exact k _ (L.set r i) (SameBut.set i _ _))⟩
theorem sgs_nil : SGs W X [] [] := ⟨fun pins s σ H vs us Q I r h => pgs_nil.run pins s σ H vs us Q I r (by
    obtain ⟨φ, Z, ρ, cs, ts, ρ', S, L, r, e, k⟩ := h
    cases ts with
    | nil =>
      unfold asgPs at e
      cases e
      cases r
      exact ⟨rfl, k _ L (SameBut.refl _ _)⟩
    | cons _ _ => unfold asgPs at e; cases e)⟩
theorem sgs_cons {e : Expr} {es : List Expr} {p : Pat} {ps : List Pat} (h1 : SG W X e p) (h2 : SGs W X es ps)
    (hs : (assignEach (e :: es) X.env).map (·.2) = assign e X.env :: (assignEach es X.env).map (·.2) := by rfl) : SGs W X (e :: es) (p :: ps) := ⟨fun pins s σ H vs us Q I r h => (pgs_cons h1 h2 hs).run pins s σ H vs us Q I r (by
    obtain ⟨φ, Z, ρ, cs, ts, ρ', S, L, r, e, k⟩ := h
    cases ts with
    | nil => unfold asgPs at e; cases e
    | cons t ts =>
      unfold asgPs at e
      cases e1 : asgP p t cs ρ with
      | none => rw [e1] at e; cases e
      | some ρ1 =>
        rw [e1] at e
        cases r with
        | cons ra rb => exact ⟨_, _, rfl, φ, Z, ρ, cs, t, ρ1, S, L, ra, e1, fun σ' L' s1 => ⟨φ, Z, ρ1, cs, ts, ρ', S, L', rb, e, fun σ2 L2 s2 => k σ2 L2 (s1.trans s2)⟩⟩)⟩
theorem sg_tup {es : List Expr} {k : Nat} {ps : List Pat} (hc : X.calm = true) (h : SGs W X es ps) (hn : (assignEach es X.env).length = ps.length := by rfl) (hst : (assignEach es X.env).findIdx? (·.1) = none := by rfl) : SG W X (.Tuple es k pos) (.tp ps) :=
  ⟨fun pins s σ H v u Q I r hq => by
    obtain ⟨φ, Z, ρ, cs, t, ρ', S, L, rt, e, kk⟩ := hq
    unfold asgP at e
    split at e
    · rename_i xs q
      obtain ⟨a, vs, rfl, h1, h2⟩ := S.asQ rt q
      have hl : vs.length = ps.length := by rw [asgPs_len e, Paired.len h2]
      rcases h1 with h1 | h1
      · exact (pg_unl hc h hn hst).run pins s σ H _ u Q I r ⟨a, vs, rfl, h1, hl, φ, Z, ρ, cs, xs, ρ', S, L, h2, e, kk⟩
      · exact (pg_tup hc h hn hst).run pins s σ H _ u Q I r ⟨a, vs, rfl, h1, hl, φ, Z, ρ, cs, xs, ρ', S, L, h2, e, kk⟩
    · cases e⟩
end
/-! ### statements -/
def setS (i : Nat) (f : EF) : SF := fun ρ cs => match f ρ cs with
  | .ok t c => .nx (ρ.set i (some t)) c
  | .stuck => .stuck
def asgS (p : Pat) (f : EF) : SF := fun ρ cs => match f ρ cs with
  | .ok t c => (match asgP p t c ρ with
    | some ρ1 => .nx ρ1 c
    | none => .stuck)
  | .stuck => .stuck
def parS (i j : Nat) (g : AF) : SF := fun ρ cs => match g ρ cs with
  | .ok [t, u] c => .nx ((ρ.set i (some t)).set j (some u)) c
  | _ => .stuck
def par3S (i j l : Nat) (g : AF) : SF := fun ρ cs => match g ρ cs with
  | .ok [t, u, w] c => .nx (((ρ.set i (some t)).set j (some u)).set l (some w)) c
  | _ => .stuck
def expS (f : EF) : SF := fun ρ cs => match f ρ cs with
  | .ok _ c => .nx ρ c
  | .stuck => .stuck
def retS (f : EF) : SF := fun ρ cs => match f ρ cs with
  | .ok t c => .rt t c
  | .stuck => .stuck
def retN : SF := fun _ cs => .rt (.d .none) cs
def passS : SF := fun ρ cs => .nx ρ cs
def bkS : SF := fun ρ cs => .bk ρ cs
def ctS : SF := fun ρ cs => .ct ρ cs
def neverS : SF := fun _ _ => .stuck
def seqS (a b : SF) : SF := fun ρ cs => match a ρ cs with
  | .nx ρ1 c1 => b ρ1 c1
  | r => r
def ifS (t : BF) (a b : SF) : SF := fun ρ cs => match t ρ cs with
  | .ok k c => if k = true then a ρ c else b ρ c
  | .stuck => .stuck
section
variable {W : Wd} {X : Cx} {pos : Pos} {f : EF} {a b : SF}
theorem ss_set {i : Nat} {x : Str} {e : Expr} {pos' : Pos} (hN : X.N.Nodup) (hi : X.N[i]? = some x) (hx : Loc X.env.scope x) (he : SE W X e f) (hs : swapsWith e (some (.Name x pos')) pos.line X.env = pure false := by rfl) (hf : X.fn x = true ∨ X.env.scope.names.lookup x = some .local := by first | exact .inl rfl | exact .inr rfl) :
    SS W X (.Assign [.Name x pos'] e pos) (setS i f) := PS.imp (ps_set hN hi hx he hs hf) fun D σ H h => by
  obtain ⟨φ, Z, ρ, cs, S, L, h⟩ := h
  unfold setS at h
  split at h
  · rename_i t c e1
    exact ⟨φ, Z, ρ, cs, S, L, t, c, e1, fun φ' Z' H' v x' S' r' => h φ' Z' H' _ x' S' ((L.ext x').set r' i)⟩
  · exact h.elim
theorem ss_asg {tg e : Expr} {p : Pat} (he : SE W X e f) (hg : SG W X tg p) (hs : swapsWithSole [tg] e pos.line X.env = pure false := by rfl) (hw : swappedStores [tg] e X.env = pure none := by rfl)
    (h1 : (assignEach [tg] X.env).map (·.2) = [assign tg X.env] := by rfl) : SS W X (.Assign [tg] e pos) (asgS p f) := PS.imp (ps_asg he hg hs hw h1) fun D σ H h => by
  obtain ⟨φ, Z, ρ, cs, S, L, h⟩ := h
  unfold asgS at h
  split at h
  · rename_i t c e1
    split at h
    · rename_i ρ1 e2
      exact ⟨φ, Z, ρ, cs, S, L, t, c, e1, fun φ' Z' H' v x' S' r' => ⟨φ', Z', ρ, c, t, ρ1, S', L.ext x', r', e2, fun σ' L' _ => h φ' Z' H' σ' x' S' L'⟩⟩
    · exact h.elim
  · exact h.elim
theorem ss_par {i j : Nat} {x y : Str} {a b : Expr} {g : AF} {px py pt : Pos} {kt k2 pt2} (hc : X.calm = true) (hN : X.N.Nodup) (hi : X.N[i]? = some x) (hj : X.N[j]? = some y) (hij : i ≠ j)
    (hx : X.env.scope.names.lookup x = some .local) (hy : X.env.scope.names.lookup y = some .local) (ha : SA W X [a, b] g)
    (hw : swappedStores [.Tuple [.Name x px, .Name y py] kt pt] (.Tuple [a, b] k2 pt2) X.env = pure (some [x, y]) := by rfl)
    (hs : swapsWithSole [.Tuple [.Name x px, .Name y py] kt pt] (.Tuple [a, b] k2 pt2) pos.line X.env = pure false := by rfl) :
    SS W X (.Assign [.Tuple [.Name x px, .Name y py] kt pt] (.Tuple [a, b] k2 pt2) pos) (parS i j g) := PS.imp (ps_par hc hN hi hj hij hx hy ha hw hs) fun D σ H h => by
  obtain ⟨φ, Z, ρ, cs, S, L, h⟩ := h
  unfold parS at h
  split at h
  · rename_i t u c e1
    refine ⟨φ, Z, ρ, cs, S, L, _, c, e1, fun φ' Z' H' vs x' S' r' => ?_⟩
    obtain ⟨v, w, rfl, r1, r2⟩ := Reps.two r'
    exact ⟨v, w, rfl, h φ' Z' H' _ x' S' (((L.ext x').set r1 i).set r2 j)⟩
  · exact h.elim
theorem ss_par3 {i j l : Nat} {x y z : Str} {a b c : Expr} {g : AF} {px py pz pt : Pos} {kt k2 pt2} (hc : X.calm = true) (hN : X.N.Nodup) (hi : X.N[i]? = some x) (hj : X.N[j]? = some y) (hl : X.N[l]? = some z) (hij : i ≠ j) (hil : i ≠ l) (hjl : j ≠ l)
    (hx : X.env.scope.names.lookup x = some .local) (hy : X.env.scope.names.lookup y = some .local) (hz : X.env.scope.names.lookup z = some .local) (ha : SA W X [a, b, c] g)
    (hw : swappedStores [.Tuple [.Name x px, .Name y py, .Name z pz] kt pt] (.Tuple [a, b, c] k2 pt2) X.env = pure (some [x, y, z]) := by rfl)
    (hs : swapsWithSole [.Tuple [.Name x px, .Name y py, .Name z pz] kt pt] (.Tuple [a, b, c] k2 pt2) pos.line X.env = pure false := by rfl) :
    SS W X (.Assign [.Tuple [.Name x px, .Name y py, .Name z pz] kt pt] (.Tuple [a, b, c] k2 pt2) pos) (par3S i j l g) := PS.imp (ps_par3 hc hN hi hj hl hij hil hjl hx hy hz ha hw hs) fun D σ H h => by
  obtain ⟨φ, Z, ρ, cs, S, L, h⟩ := h
  unfold par3S at h
  split at h
  · rename_i t u w c e1
    refine ⟨φ, Z, ρ, cs, S, L, _, c, e1, fun φ' Z' H' vs x' S' r' => ?_⟩
    cases r' with
    | cons r1 r' =>
      obtain ⟨v2, v3, rfl, r2, r3⟩ := Reps.two r'
      exact ⟨_, _, _, rfl, h φ' Z' H' _ x' S' ((((L.ext x').set r1 i).set r2 j).set r3 l)⟩
  · exact h.elim
theorem ss_expr {e : Expr} (he : SE W X e f) (hs : swapsWith e none pos.line X.env = pure false := by rfl) : SS W X (.Expr e pos) (expS f) := PS.imp (ps_expr he hs) fun D σ H h => by
  obtain ⟨φ, Z, ρ, cs, S, L, h⟩ := h
  unfold expS at h
  split at h
  · rename_i t c e1
    exact ⟨φ, Z, ρ, cs, S, L, t, c, e1, fun φ' Z' H' v x' S' r' => h φ' Z' H' _ x' S' (L.ext x')⟩
  · exact h.elim
theorem ss_doc {x : Str} {j : Nat} {pos' : Pos} : SS W X (.Expr (.Constant (.str x) j pos) pos') passS := PS.imp ps_doc fun D σ H h => by
  obtain ⟨φ, Z, ρ, cs, S, L, h⟩ := h
  exact h _ _ _ _ (Ext.refl _ _ _) S L
theorem ss_ret {e : Expr} (he : SE W X e f) : SS W X (.Return (some e) pos) (retS f) := PS.imp (ps_ret he) fun D σ H h => by
  obtain ⟨φ, Z, ρ, cs, S, L, h⟩ := h
  unfold retS at h
  split at h
  · rename_i t c e1
    exact ⟨φ, Z, ρ, cs, S, L, t, c, e1, fun φ' Z' H' v x' S' r' => h φ' Z' H' _ x' S' r'⟩
  · exact h.elim
theorem ss_retN : SS W X (.Return none pos) retN := PS.imp ps_retN fun D σ H h => by
  obtain ⟨φ, Z, ρ, cs, S, L, h⟩ := h
  exact h _ _ _ _ (Ext.refl _ _ _) S Rep.none
theorem ss_pass : SS W X (.Pass pos) passS := PS.imp ps_pass fun D σ H h => by
  obtain ⟨φ, Z, ρ, cs, S, L, h⟩ := h
  exact h _ _ _ _ (Ext.refl _ _ _) S L
theorem ss_break : SS W X (.Break pos) bkS := PS.imp ps_break fun D σ H h => by
  obtain ⟨φ, Z, ρ, cs, S, L, h⟩ := h
  exact h _ _ _ _ (Ext.refl _ _ _) S L
theorem ss_continue : SS W X (.Continue pos) ctS := PS.imp ps_continue fun D σ H h => by
  obtain ⟨φ, Z, ρ, cs, S, L, h⟩ := h
  exact h _ _ _ _ (Ext.refl _ _ _) S L
theorem ss_never {st : Stmt} : SS W X st neverS := PS.imp ps_never fun D σ H h => by
  obtain ⟨φ, Z, ρ, cs, S, L, h⟩ := h
  exact h
theorem endS_ext {K : PySem.W.Frag} {D : Ends} {φ φ1 : List Addr} {Z H Z1 H1 : Hp} (x : Ext φ Z H φ1 Z1 H1) {r : RS} (h : endS W K D φ Z H r) : endS W K D φ1 Z1 H1 r := by
  cases r with
  | nx ρ c => exact fun φ' Z' H' σ' x' S' L' => h _ _ _ _ (x.trans x') S' L'
  | rt t c => exact fun φ' Z' H' σ' x' S' L' => h _ _ _ _ (x.trans x') S' L'
  | bk ρ c => exact fun φ' Z' H' σ' x' S' L' => h _ _ _ _ (x.trans x') S' L'
  | ct ρ c => exact fun φ' Z' H' σ' x' S' L' => h _ _ _ _ (x.trans x') S' L'
  | stuck => exact h
theorem ss_if {c : Expr} {t : BF} {p q : List Stmt} (hc : SB W X c t) (ha : SSs W X p a) (hb : SSs W X q b) : SS W X (.If c p q pos) (ifS t a b) := PS.imp (ps_if hc ha hb) fun D σ H h => by
  obtain ⟨φ, Z, ρ, cs, S, L, h⟩ := h
  unfold ifS at h
  split at h
  · rename_i k c e1
    refine ⟨φ, Z, ρ, cs, S, L, k, c, e1, fun φ' Z' H' x' S' => ?_⟩
    by_cases hk : k = true
    · rw [if_pos hk] at h; rw [if_pos hk]
      exact ⟨φ', Z', ρ, c, S', L.ext x', endS_ext x' h⟩
    · rw [if_neg hk] at h; rw [if_neg hk]
      exact ⟨φ', Z', ρ, c, S', L.ext x', endS_ext x' h⟩
  · exact h.elim
theorem sss_nil : SSs W X [] passS := PSs.imp pss_nil fun D σ H h => by
  obtain ⟨φ, Z, ρ, cs, S, L, h⟩ := h
  exact h _ _ _ _ (Ext.refl _ _ _) S L
theorem sss_cons {st : Stmt} {rest : List Stmt} (h1 : SS W X st a) (h2 : SSs W X rest b) : SSs W X (st :: rest) (seqS a b) := PSs.imp (pss_cons h1 h2) fun D σ H h => by
  obtain ⟨φ, Z, ρ, cs, S, L, h⟩ := h
  refine ⟨φ, Z, ρ, cs, S, L, ?_⟩
  unfold seqS at h
  cases e : a ρ cs with
  | nx ρ1 c1 =>
    rw [e] at h
    exact fun φ' Z' H' σ' x' S' L' => ⟨φ', Z', ρ1, c1, S', L', endS_ext x' h⟩
  | rt t c => rw [e] at h; exact h
  | bk ρ1 c1 => rw [e] at h; exact h
  | ct ρ1 c1 => rw [e] at h; exact h
  | stuck => rw [e] at h; exact h
theorem sss_one {st : Stmt} (h1 : SS W X st a) : SSs W X [st] a := PSs.imp (pss_one h1) fun D σ H h => h
theorem sss_never {sts : List Stmt} : SSs W X sts neverS := PSs.imp pss_never fun D σ H h => by
  obtain ⟨φ, Z, ρ, cs, S, L, h⟩ := h
  exact h
end
end Y
end
section
set_option Elab.async false
set_option linter.all false
set_option maxRecDepth 100000
set_option maxHeartbeats 1000000
namespace Y
open PySem PySem.Spec L2
/-! ### while -/
def whileN (t : BF) (b : SF) : Nat → SF
  | 0, _, _ => .stuck
  | n + 1, ρ, cs => match t ρ cs with
    | .stuck => .stuck
    | .ok k c => if k = true then (match b ρ c with
      | .nx ρ2 c2 => whileN t b n ρ2 c2
      | .ct ρ2 c2 => whileN t b n ρ2 c2
      | .bk ρ2 c2 => .nx ρ2 c2
      | r => r) else .nx ρ c
theorem whileN_mono {t : BF} {b : SF} : ∀ {n : Nat} {ρ : Rho} {cs : Cs} {r : RS}, whileN t b n ρ cs = r → r ≠ .stuck → whileN t b (n + 1) ρ cs = r
  | 0, ρ, cs, r, h, hr => absurd h.symm hr
  | n + 1, ρ, cs, r, h, hr => by
    unfold whileN at h ⊢
    cases e : t ρ cs with
    | stuck => rw [e] at h; exact h
    | ok k c =>
      rw [e] at h
      dsimp only at h ⊢
      by_cases hk : k = true
      · rw [if_pos hk] at h ⊢
        cases e2 : b ρ c with
        | nx ρ2 c2 => rw [e2] at h; dsimp only at h ⊢; exact whileN_mono h hr
        | ct ρ2 c2 => rw [e2] at h; dsimp only at h ⊢; exact whileN_mono h hr
        | bk ρ2 c2 => rw [e2] at h; exact h
        | rt v c2 => rw [e2] at h; exact h
        | stuck => rw [e2] at h; exact h
      · rw [if_neg hk] at h ⊢
        exact h
theorem whileN_le {t : BF} {b : SF} {n m : Nat} (hm : n ≤ m) {ρ : Rho} {cs : Cs} {r : RS} (h : whileN t b n ρ cs = r) (hr : r ≠ .stuck) : whileN t b m ρ cs = r := by
  induction hm with
  | refl => exact h
  | step _ ih => exact whileN_mono ih hr
open Classical in
noncomputable def whileS (t : BF) (b : SF) : SF := fun ρ cs => if h : ∃ n, whileN t b n ρ cs ≠ .stuck then whileN t b h.choose ρ cs else .stuck
theorem whileS_of {t : BF} {b : SF} {n : Nat} {ρ : Rho} {cs : Cs} {r : RS} (h : whileN t b n ρ cs = r) (hr : r ≠ .stuck) : whileS t b ρ cs = r := by
  have hx : ∃ n, whileN t b n ρ cs ≠ .stuck := ⟨n, by rw [h]; exact hr⟩
  unfold whileS
  rw [dif_pos hx]
  have h1 := hx.choose_spec
  have h2 := whileN_le (Nat.le_max_left hx.choose n) rfl h1
  have h3 := whileN_le (Nat.le_max_right hx.choose n) h hr
  rw [← h2, h3]
theorem whileS_ex {t : BF} {b : SF} {ρ : Rho} {cs : Cs} (h : whileS t b ρ cs ≠ .stuck) : ∃ n, whileN t b n ρ cs = whileS t b ρ cs := by
  unfold whileS at h ⊢
  by_cases hx : ∃ n, whileN t b n ρ cs ≠ .stuck
  · rw [dif_pos hx]; exact ⟨_, rfl⟩
  · rw [dif_neg hx] at h; exact absurd rfl h
/-- a turn -/
theorem whileS_eq (t : BF) (b : SF) (ρ : Rho) (cs : Cs) : whileS t b ρ cs = match t ρ cs with
    | .stuck => .stuck
    | .ok k c => if k = true then (match b ρ c with
      | .nx ρ2 c2 => whileS t b ρ2 c2
      | .ct ρ2 c2 => whileS t b ρ2 c2
      | .bk ρ2 c2 => .nx ρ2 c2
      | r => r) else .nx ρ c := by
  have go : ∀ (ρ2 : Rho) (c2 : Cs) (ρ : Rho) (cs : Cs), (∀ n, whileN t b (n + 1) ρ cs = whileN t b n ρ2 c2) → whileS t b ρ cs = whileS t b ρ2 c2 := fun ρ2 c2 ρ cs hq => by
    by_cases hs : whileS t b ρ2 c2 = .stuck
    · rw [hs]
      by_cases h0 : whileS t b ρ cs = .stuck
      · exact h0
      · obtain ⟨n, hn⟩ := whileS_ex h0
        cases n with
        | zero => exact hn.symm
        | succ n =>
          rw [hq] at hn
          have := whileS_of (r := whileS t b ρ cs) hn h0
          rw [hs] at this
          exact this.symm
    · obtain ⟨n, hn⟩ := whileS_ex hs
      exact whileS_of (n := n + 1) (by rw [hq]; exact hn) hs
  have one : ∀ r : RS, whileN t b 1 ρ cs = r → r ≠ .stuck → whileS t b ρ cs = r := fun r h hr => whileS_of h hr
  have none_ : (∀ n, whileN t b n ρ cs = .stuck) → whileS t b ρ cs = .stuck := fun h => by
    by_cases h0 : whileS t b ρ cs = .stuck
    · exact h0
    · obtain ⟨n, hn⟩ := whileS_ex h0
      rw [h n] at hn
      exact hn.symm
  cases e : t ρ cs with
  | stuck => exact none_ fun n => by cases n with | zero => rfl | succ n => unfold whileN; rw [e]
  | ok k c =>
    dsimp only
    by_cases hk : k = true
    · rw [if_pos hk]
      cases e2 : b ρ c with
      | nx ρ2 c2 => exact go ρ2 c2 ρ cs fun n => by rw [whileN]; rw [e]; dsimp only; rw [if_pos hk, e2]
      | ct ρ2 c2 => exact go ρ2 c2 ρ cs fun n => by rw [whileN]; rw [e]; dsimp only; rw [if_pos hk, e2]
      | bk ρ2 c2 => exact one _ (by rw [whileN]; rw [e]; dsimp only; rw [if_pos hk, e2]) (fun z => by cases z)
      | rt v c2 => exact one _ (by rw [whileN]; rw [e]; dsimp only; rw [if_pos hk, e2]) (fun z => by cases z)
      | stuck => exact none_ fun n => by cases n with | zero => rfl | succ n => rw [whileN]; rw [e]; dsimp only; rw [if_pos hk, e2]
    · rw [if_neg hk]
      exact one _ (by rw [whileN]; rw [e]; dsimp only; rw [if_neg hk]) (fun z => by cases z)
section
variable {W : Wd} {X : Cx} {pos : Pos}
theorem endS_ne {K : PySem.W.Frag} {D : Ends} {φ : List Addr} {Z H : Hp} {r : RS} (h : endS W K D φ Z H r) : r ≠ .stuck := fun e => by rw [e] at h; exact h
theorem ss_while {c : Expr} {body : List Stmt} {t : BF} {b : SF} (hc : SB W X c t) (hb : SSs W X body b) (hp : PassesOwn (model X.prog X.w) X.A X.env X.xe := by exact PassesOwn.never) : SS W X (.While c body [] pos) (whileS t b) := PS.imp (ps_while hp hc hb) fun D σ H h => by
  obtain ⟨φ, Z, ρ, cs, S, L, h⟩ := h
  obtain ⟨n, hn⟩ := whileS_ex (endS_ne h)
  generalize whileS t b ρ cs = r at hn h
  have hr := endS_ne h
  refine ⟨fun m σ1 H1 => ∃ φ1 Z1 ρ1 cs1, Ext φ Z H φ1 Z1 H1 ∧ Sim W X.K φ1 Z1 cs1 H1 ∧ Slots W X.K φ1 Z1 ρ1 σ1 ∧ whileN t b m ρ1 cs1 = r, ⟨n, φ, Z, ρ, cs, Ext.refl _ _ _, S, L, hn⟩, ?_⟩
  rintro m σ1 H1 ⟨φ1, Z1, ρ1, cs1, x1, S1, L1, e⟩
  cases m with
  | zero => exact absurd e.symm hr
  | succ m =>
    rw [whileN] at e
    cases e1 : t ρ1 cs1 with
    | stuck => rw [e1] at e; exact absurd e.symm hr
    | ok k c =>
      rw [e1] at e
      dsimp only at e
      refine ⟨φ1, Z1, ρ1, cs1, S1, L1, k, c, e1, fun φ2 Z2 H2 x2 S2 => ?_⟩
      by_cases hk : k = true
      · rw [if_pos hk] at e; rw [if_pos hk]
        refine ⟨fun σ3 H3 => ∃ φ3 Z3 ρ3 cs3, Ext φ Z H φ3 Z3 H3 ∧ Sim W X.K φ3 Z3 cs3 H3 ∧ Slots W X.K φ3 Z3 ρ3 σ3 ∧ whileN t b m ρ3 cs3 = r, fun σ' H' q => ⟨m, Nat.lt_succ_self m, q⟩, φ2, Z2, ρ1, c, S2, L1.ext x2, ?_⟩
        cases e2 : b ρ1 c with
        | nx ρ2 c2 => rw [e2] at e; exact fun φ' Z' H' σ' x' S' L' => ⟨φ', Z', ρ2, c2, (x1.trans x2).trans x', S', L', e⟩
        | ct ρ2 c2 => rw [e2] at e; exact fun φ' Z' H' σ' x' S' L' => ⟨φ', Z', ρ2, c2, (x1.trans x2).trans x', S', L', e⟩
        | bk ρ2 c2 =>
          rw [e2] at e
          cases e
          exact fun φ' Z' H' σ' x' S' L' => h φ' Z' H' σ' ((x1.trans x2).trans x') S' L'
        | rt v c2 =>
          rw [e2] at e
          cases e
          exact fun φ' Z' H' σ' x' S' L' => h φ' Z' H' σ' ((x1.trans x2).trans x') S' L'
        | stuck => rw [e2] at e; exact absurd e.symm hr
      · rw [if_neg hk] at e; rw [if_neg hk]
        cases e
        exact h φ2 Z2 H2 σ1 (x1.trans x2) S2 (L1.ext x2)

/-! ### what is walked -/
abbrev IF := Rho → Cs → R (List T × (Cs → Prop))
def WalkY (W : Wd) (K : PySem.W.Frag) (φ : List Addr) (Z H : Hp) (J : It) (ts : List T) (keep : Cs → Prop) : Prop := ∀ φ1 Z1 H1 cs1, Ext φ Z H φ1 Z1 H1 → Sim W K φ1 Z1 cs1 H1 → keep cs1 →
  (∀ i, i < ts.length → J.go i H1) ∧ J.stop ts.length H1 ∧ ∀ i x H', i < ts.length → J.yld i H1 x H' → ∃ t Z', ts[i]? = some t ∧ Ext φ1 Z1 H1 φ1 Z' H' ∧ Sim W K φ1 Z' cs1 H' ∧ Rep W K φ1 Z' t x
def tI (W : Wd) (K : PySem.W.Frag) (f : IF) : TI := fun σ H Rr => ∃ φ Z ρ cs, Sim W K φ Z cs H ∧ Slots W K φ Z ρ σ ∧ ∃ ts keep cs', f ρ cs = .ok (ts, keep) cs' ∧
  ∀ φ' Z' H' J, Ext φ Z H φ' Z' H' → Sim W K φ' Z' cs' H' → WalkY W K φ' Z' H' J ts keep → Rr J H'
def SI (W : Wd) (X : Cx) (tg iter : Expr) (f : IF) : Prop := PI X tg iter (tI W X.K f)
def keepOf (cs : Cs) : T → Cs → Prop
  | .ref n, cs1 => cs1[n]? = cs[n]?
  | _, _ => True
def seqI (f : EF) : IF := fun ρ cs => (f ρ cs).bind fun t c => match asQ c t with
  | some xs => .ok (xs, keepOf c t) c
  | none => .stuck
theorem PI.or {tg it : Expr} {t t' : TI} (h : PI X tg it t) (h' : PI X tg it t') : PI X tg it (fun σ H Rr => t σ H Rr ∨ t' σ H Rr) :=
  ⟨fun pins s σ H Rr I q => q.elim (fun q => h.run pins s σ H Rr I q) fun q => h'.run pins s σ H Rr I q⟩
theorem PI.imp {tg it : Expr} {t t' : TI} (h : PI X tg it t) (k : ∀ σ H Rr, t' σ H Rr → t σ H Rr) : PI X tg it t' := ⟨fun pins s σ H Rr I q => h.run pins s σ H Rr I (k _ _ _ q)⟩
/-- a list or a tuple: either -/
def iSeq (K : PySem.W.Frag) (tl : TE) : TI := fun σ H Rr => tl σ H fun x H1 => ∃ a, x = .ref a ∧ (((∃ xs, SqL K H1 a xs) ∧ Rr (Itl K a) H1) ∨ ((∃ xs, SqT K H1 a xs) ∧ Rr (Itt K a) H1))
theorem pi_seq {tg l : Expr} {tl : TE} (hl : PE X l tl) : PI X tg l (iSeq X.K tl) := by
  refine ⟨fun pins s σ H Rr I h => ?_⟩
  refine thn (hl.run pins s σ H _ I h) fun v s1 ⟨x, H1, I1, r1, a, e, q⟩ => ?_
  subst e
  rcases q with ⟨hx, q⟩ | ⟨hx, q⟩
  · cases r1
    obtain ⟨xs, hq⟩ := hx
    obtain ⟨its, rv, p, hz⟩ := I1.list hq
    refine wpAny_pyIter_list p.isList ?_
    refine ⟨s1.heap.objs.size, [s1.heap.objs.size], _, _, H1, rfl, I1.kept (t' := s1.toks) fun b o e => Heap.get?_push_of_some _ e, turn_list a _, ⟨_, Heap.get?_push_size _ rfl, rfl, rfl⟩, fun b hb => ?_, q⟩
    have e : b = s1.heap.objs.size := by simpa using hb
    subst e
    exact I1.fpOk (Nat.le_refl _) (I1.hok.fresh (Nat.le_refl _))
  · cases r1
    obtain ⟨xs, hq⟩ := hx
    obtain ⟨its, rv, p, hz⟩ := I1.tuple hq
    refine wpAny_pyIter_tuple (show s1.heap.IsTuple a its.toArray from p) ?_
    refine ⟨s1.heap.objs.size, [s1.heap.objs.size], _, _, H1, rfl, I1.kept (t' := s1.toks) fun b o e => Heap.get?_push_of_some _ e, turn_tuple a _, ⟨_, Heap.get?_push_size _ rfl, rfl, rfl⟩, fun b hb => ?_, q⟩
    have e : b = s1.heap.objs.size := by simpa using hb
    subst e
    exact I1.fpOk (Nat.le_refl _) (I1.hok.fresh (Nat.le_refl _))
/-- what is read of a list or a tuple stays as long as its cell does -/
theorem asQ_stay {K : PySem.W.Frag} {φ φ1 : List Addr} {Z H Z1 H1 : Hp} {cs cs1 : Cs} {t : T} {v : V} {xs : List T} (r : Rep W K φ Z t v) (e : asQ cs t = some xs) (x : Ext φ Z H φ1 Z1 H1) (S1 : Sim W K φ1 Z1 cs1 H1) (hk : keepOf cs t cs1) :
    Rep W K φ1 Z1 t v ∧ asQ cs1 t = some xs := by
  refine ⟨r.ext x, ?_⟩
  cases t with
  | ref n =>
    have hk : cs1[n]? = cs[n]? := hk
    unfold asQ asT asL at e ⊢
    dsimp only at e ⊢
    rw [hk]
    exact e
  | d y => cases y <;> exact e
  | scr ns => exact e
  | _ => exact e
theorem walk_seqL {K : PySem.W.Frag} {φ : List Addr} {Z H : Hp} {cs : Cs} {t : T} {a : Addr} {xs : List T} (S : Sim W K φ Z cs H) (r : Rep W K φ Z t (.ref a)) (e : asL cs t = some xs) (hT : asT t = none) : WalkY W K φ Z H (Itl K a) xs (keepOf cs t) := by
  intro φ1 Z1 H1 cs1 x1 S1 hk
  have e' : asQ cs t = some xs := by unfold asQ; rw [hT]; exact e
  obtain ⟨r1, e1⟩ := asQ_stay r e' x1 S1 hk
  unfold asQ at e1
  rw [hT] at e1
  obtain ⟨a', vs, ea, h1, h2⟩ := S1.asL r1 e1
  cases ea
  have hl := Paired.len h2
  refine ⟨fun i hi => ⟨vs, vs[i]'(by omega), h1, by simp [show i < vs.length by omega]⟩, ⟨vs, h1, by omega⟩, fun i x H' hi hy => ?_⟩
  obtain ⟨rfl, hy⟩ := hy
  have h3 := hy vs h1
  obtain ⟨y, h4, h5⟩ := Paired.get h2 (List.getElem?_eq_getElem hi)
  rw [h4] at h3
  cases h3
  exact ⟨xs[i], Z1, List.getElem?_eq_getElem hi, Ext.refl _ _ _, S1, h5⟩
theorem walk_seqT {K : PySem.W.Frag} {φ : List Addr} {Z H : Hp} {cs : Cs} {t : T} {a : Addr} {ds : List PyData} {keep : Cs → Prop} (S : Sim W K φ Z cs H) (r : Rep W K φ Z t (.ref a)) (e : asT t = some ds) : WalkY W K φ Z H (Itt K a) (ds.map .d) keep := by
  intro φ1 Z1 H1 cs1 x1 S1 hk
  obtain ⟨a', vs, ea, _, h1, h2⟩ := S1.asT (r.ext x1) e
  cases ea
  have h2 := Reps.of_all (W := W) (φ := φ1) h2
  have hl := Paired.len h2
  refine ⟨fun i hi => ⟨vs, vs[i]'(by omega), h1, by simp [show i < vs.length by omega]⟩, ⟨vs, h1, by omega⟩, fun i x H' hi hy => ?_⟩
  obtain ⟨rfl, hy⟩ := hy
  have h3 := hy vs h1
  obtain ⟨y, h4, h5⟩ := Paired.get h2 (List.getElem?_eq_getElem hi)
  rw [h4] at h3
  cases h3
  exact ⟨_, Z1, List.getElem?_eq_getElem hi, Ext.refl _ _ _, S1, h5⟩
theorem si_seq {tg e : Expr} {f : EF} (he : SE W X e f) : SI W X tg e (seqI f) := PI.imp (pi_seq he) fun σ H Rr h => by
  obtain ⟨φ, Z, ρ, cs, S, L, ts, keep, cs', e, k⟩ := h
  obtain ⟨t, c, e1, e⟩ := R.bind_inv e
  refine ⟨φ, Z, ρ, cs, S, L, t, c, e1, fun φ1 Z1 H1 v x1 S1 r1 => ?_⟩
  split at e
  · rename_i xs q
    cases e
    cases hT : asT t with
    | none =>
      have q' : asL cs' t = some ts := by unfold asQ at q; rw [hT] at q; exact q
      obtain ⟨a, vs, rfl, h1, h2⟩ := S1.asL r1 q'
      exact ⟨a, rfl, .inl ⟨⟨vs, h1⟩, k φ1 Z1 H1 _ x1 S1 (walk_seqL S1 r1 q' hT)⟩⟩
    | some ds =>
      have q' : ts = ds.map .d := by unfold asQ at q; rw [hT] at q; cases q; rfl
      subst q'
      obtain ⟨a, vs, rfl, _, h1, h2⟩ := S1.asT r1 hT
      exact ⟨a, rfl, .inr ⟨⟨vs, h1⟩, k φ1 Z1 H1 _ x1 S1 (walk_seqT S1 r1 hT)⟩⟩
  · cases e
/-- a text, sign by sign -/
def strI (f : EF) : IF := fun ρ cs => (f ρ cs).bind fun t c => match t with
  | .d (.str s) => .ok (s.cps.toList.map fun k => .d (.str ⟨#[k]⟩), fun _ => True) c
  | _ => .stuck
theorem si_str {tg e : Expr} {f : EF} (he : SE W X e f) : SI W X tg e (strI f) := PI.imp (pi_str he) fun σ H Rr h => by
  obtain ⟨φ, Z, ρ, cs, S, L, ts, keep, cs', e, k⟩ := h
  obtain ⟨t, c, e1, e⟩ := R.bind_inv e
  refine ⟨φ, Z, ρ, cs, S, L, t, c, e1, fun φ1 Z1 H1 v x1 S1 r1 => ?_⟩
  split at e
  · rename_i s
    cases e
    cases r1.dStr
    refine ⟨s, rfl, k φ1 Z1 H1 _ x1 S1 fun φ2 Z2 H2 cs2 x2 S2 _ => ⟨fun i hi => by show i < s.cps.size; simpa using hi, by show s.cps.size ≤ _; simp, fun i x H' hi hy => ?_⟩⟩
    obtain ⟨rfl, ch, hc, rfl⟩ := hy
    refine ⟨.d (.str ⟨#[ch]⟩), Z2, ?_, Ext.refl _ _ _, S2, Rep.str _⟩
    rw [List.getElem?_map, Array.getElem?_toList, hc]
    rfl
  · cases e
/-- range(n), range(a, b) -/
def rngL (lo hi : Int) : List T := (List.range (hi - lo).toNat).map fun (i : Nat) => .d (.int (lo + (i : Int)))
def rng1I (g : AF) : IF := fun ρ cs => (g ρ cs).bind fun ts c => match ts with
  | [.d (.int j)] => if -(2 ^ 62) ≤ j ∧ j < 2 ^ 62 then .ok (rngL 0 j, fun _ => True) c else .stuck
  | _ => .stuck
def rng2I (g : AF) : IF := fun ρ cs => (g ρ cs).bind fun ts c => match ts with
  | [.d (.int i), .d (.int j)] => if -(2 ^ 62) ≤ i ∧ i < 2 ^ 62 ∧ -(2 ^ 62) ≤ j ∧ j < 2 ^ 62 then .ok (rngL i j, fun _ => True) c else .stuck
  | _ => .stuck
theorem walk_rngY {K : PySem.W.Frag} {φ : List Addr} {Z H : Hp} {lo hi : Int} {keep : Cs → Prop} : WalkY W K φ Z H (Itr lo (hi - lo).toNat) (rngL lo hi) keep := by
  intro φ1 Z1 H1 cs1 x1 S1 hk
  have hl : (rngL lo hi).length = (hi - lo).toNat := by unfold rngL; simp
  refine ⟨fun i hi => by show i < _; omega, by show _ ≤ _; omega, fun i x H' hi hy => ?_⟩
  obtain ⟨rfl, rfl⟩ := hy
  refine ⟨.d (.int (lo + i)), Z1, ?_, Ext.refl _ _ _, S1, Rep.int _⟩
  unfold rngL
  rw [List.getElem?_map, List.getElem?_range (by omega)]
  rfl
theorem si_rng1 {tg a : Expr} {g : AF} {p : Pos} (hg : Gl X "range") (hm : X.mg "range" = none) (ha : SA W X [a] g) (hs : starEach [a] X.env = [(false, eval a X.env)] := by rfl) : SI W X tg (.Call (.Name "range" p) [a] [] pos) (rng1I g) := PI.imp (pi_range1 hg hm ha hs) fun σ H Rr h => by
  obtain ⟨φ, Z, ρ, cs, S, L, ts, keep, cs', e, k⟩ := h
  obtain ⟨t, c, e1, e⟩ := R.bind_inv e
  refine ⟨φ, Z, ρ, cs, S, L, t, c, e1, fun φ1 Z1 H1 vs x1 S1 r1 => ?_⟩
  split at e
  · split at e
    · rename_i j hj
      cases e
      obtain ⟨v, rfl, r2⟩ := Reps.one r1
      cases r2.dInt
      refine ⟨j, rfl, hj.1, hj.2, ?_⟩
      have := k φ1 Z1 H1 (Itr 0 (j - 0).toNat) x1 S1 walk_rngY
      simpa using this
    · cases e
  · cases e
theorem si_rng2 {tg a b : Expr} {g : AF} {p : Pos} (hg : Gl X "range") (hm : X.mg "range" = none) (ha : SA W X [a, b] g) (hs : starEach [a, b] X.env = [(false, eval a X.env), (false, eval b X.env)] := by rfl) (hs2 : starEach [b] X.env = [(false, eval b X.env)] := by rfl) :
    SI W X tg (.Call (.Name "range" p) [a, b] [] pos) (rng2I g) := PI.imp (pi_range2 hg hm ha hs hs2) fun σ H Rr h => by
  obtain ⟨φ, Z, ρ, cs, S, L, ts, keep, cs', e, k⟩ := h
  obtain ⟨t, c, e1, e⟩ := R.bind_inv e
  refine ⟨φ, Z, ρ, cs, S, L, t, c, e1, fun φ1 Z1 H1 vs x1 S1 r1 => ?_⟩
  split at e
  · split at e
    · rename_i i j hj
      cases e
      obtain ⟨v, w, rfl, r2, r3⟩ := Reps.two r1
      cases r2.dInt
      cases r3.dInt
      exact ⟨i, j, rfl, hj, k φ1 Z1 H1 _ x1 S1 walk_rngY⟩
    · cases e
  · cases e

/-! ### for -/
open Classical in
noncomputable def forL (keep : Cs → Prop) (p : Pat) (b : SF) : List T → SF
  | [], ρ, cs => if keep cs then .nx ρ cs else .stuck
  | t :: ts, ρ, cs => if keep cs then (match asgP p t cs ρ with
    | none => .stuck
    | some ρ1 => (match b ρ1 cs with
      | .nx ρ2 c2 => forL keep p b ts ρ2 c2
      | .ct ρ2 c2 => forL keep p b ts ρ2 c2
      | .bk ρ2 c2 => .nx ρ2 c2
      | r => r)) else .stuck
noncomputable def forS (f : IF) (p : Pat) (b : SF) : SF := fun ρ cs => match f ρ cs with
  | .ok (ts, keep) c => forL keep p b ts ρ c
  | .stuck => .stuck
theorem forL_keep {keep : Cs → Prop} {p : Pat} {b : SF} {ts : List T} {ρ : Rho} {cs : Cs} (h : forL keep p b ts ρ cs ≠ .stuck) : keep cs := by
  cases ts with
  | nil =>
    unfold forL at h
    by_cases hk : keep cs
    · exact hk
    · rw [if_neg hk] at h; exact absurd rfl h
  | cons t ts =>
    unfold forL at h
    by_cases hk : keep cs
    · exact hk
    · rw [if_neg hk] at h; exact absurd rfl h
theorem ss_for {tg iter : Expr} {body : List Stmt} {f : IF} {p : Pat} {b : SF} (hc : X.calm = true) (hi : SI W X tg iter f) (hg : SG W X tg p) (hb : SSs W X body b) (hp : PassesOwn (model X.prog X.w) X.A X.env X.xe := by exact PassesOwn.never)
    (hs : ∀ x, foldedSetIterable iter X.env x = pure x := by intro _; rfl) : SS W X (.For tg iter body [] pos) (forS f p b) := PS.imp (ps_for hp hc hi hg hb hs) fun D σ H h => by
  obtain ⟨φ, Z, ρ, cs, S, L, h⟩ := h
  unfold forS at h
  split at h
  · rename_i ts keep c e1
    refine ⟨φ, Z, ρ, cs, S, L, ts, keep, c, e1, fun φ1 Z1 H1 J x1 S1 wk => ?_⟩
    have h := endS_ext x1 h
    generalize hr0 : forL keep p b ts ρ c = r at h
    have hr := endS_ne h
    refine ⟨fun i m σ2 H2 => m = ts.length - i ∧ i ≤ ts.length ∧ ∃ φ2 Z2 ρ2 cs2, Ext φ1 Z1 H1 φ2 Z2 H2 ∧ Sim W X.K φ2 Z2 cs2 H2 ∧ Slots W X.K φ2 Z2 ρ2 σ2 ∧ forL keep p b (ts.drop i) ρ2 cs2 = r,
      ⟨ts.length, by simp, Nat.zero_le _, φ1, Z1, ρ, c, Ext.refl _ _ _, S1, L.ext x1, by simpa using hr0⟩, ?_⟩
    rintro i m σ2 H2 ⟨rfl, hle, φ2, Z2, ρ2, cs2, x2, S2, L2, e⟩
    have hk : keep cs2 := forL_keep (by rw [e]; exact hr)
    obtain ⟨go, stop, yl⟩ := wk φ2 Z2 H2 cs2 x2 S2 hk
    by_cases hlt : i < ts.length
    · refine .inr ⟨go i hlt, fun σ3 H3 => i + 1 ≤ ts.length ∧ ∃ φ3 Z3 ρ3 cs3, Ext φ1 Z1 H1 φ3 Z3 H3 ∧ Sim W X.K φ3 Z3 cs3 H3 ∧ Slots W X.K φ3 Z3 ρ3 σ3 ∧ forL keep p b (ts.drop (i + 1)) ρ3 cs3 = r,
        fun σ' H' q => ⟨ts.length - (i + 1), by omega, rfl, q.1, q.2⟩, fun x H' hy => ?_⟩
      obtain ⟨t, Z3, ht, x3, S3, r3⟩ := yl i x H' hlt hy
      have hd : ts.drop i = t :: ts.drop (i + 1) := by
        rw [List.drop_eq_getElem_cons hlt]
        rw [List.getElem?_eq_getElem hlt] at ht
        cases ht
        rfl
      rw [hd] at e
      unfold forL at e
      rw [if_pos hk] at e
      cases e3 : asgP p t cs2 ρ2 with
      | none => rw [e3] at e; exact absurd e.symm hr
      | some ρ3 =>
        rw [e3] at e
        dsimp only at e
        refine ⟨φ2, Z3, ρ2, cs2, t, ρ3, S3, L2.ext x3, r3, e3, fun σ4 L4 _ => ⟨φ2, Z3, ρ3, cs2, S3, L4, ?_⟩⟩
        have x23 := x2.trans x3
        cases e4 : b ρ3 cs2 with
        | nx ρ4 c4 => rw [e4] at e; exact fun φ' Z' H' σ' x' S' L' => ⟨hlt, φ', Z', ρ4, c4, x23.trans x', S', L', e⟩
        | ct ρ4 c4 => rw [e4] at e; exact fun φ' Z' H' σ' x' S' L' => ⟨hlt, φ', Z', ρ4, c4, x23.trans x', S', L', e⟩
        | bk ρ4 c4 =>
          rw [e4] at e
          cases e
          exact fun φ' Z' H' σ' x' S' L' => h φ' Z' H' σ' (x23.trans x') S' L'
        | rt v c4 =>
          rw [e4] at e
          cases e
          exact fun φ' Z' H' σ' x' S' L' => h φ' Z' H' σ' (x23.trans x') S' L'
        | stuck => rw [e4] at e; exact absurd e.symm hr
    · have ei : i = ts.length := by omega
      subst ei
      rw [List.drop_length] at e
      unfold forL at e
      rw [if_pos hk] at e
      cases e
      exact .inl ⟨stop, h φ2 Z2 H2 σ2 x2 S2 L2⟩
  · exact h.elim
end
end Y
end
section
set_option Elab.async false
set_option linter.all false
set_option maxRecDepth 100000
set_option maxHeartbeats 1000000
namespace Y
open PySem PySem.Spec L2
/-! ### comprehensions -/
def wipeR (ρ : Rho) : List Nat → Rho
  | [] => ρ
  | v :: vs => (wipeR ρ vs).set v none
/-- all but one address -/
def but (H : Hp) (D : Addr) : Hp := fun a => if a = D then none else H a
theorem but_ne {H : Hp} {a D : Addr} (h : a ≠ D) : but H D a = H a := if_neg h
theorem but_same {H : Hp} {D : Addr} : but H D D = none := if_pos rfl
theorem but_upd {H : Hp} {D : Addr} {o : HO} : but (upd H D o) D = but H D := by
  funext a
  unfold but upd
  by_cases h : a = D <;> simp [h]
theorem but_none {H : Hp} {D : Addr} (h : H D = none) : but H D = H := by
  funext a
  unfold but
  by_cases e : a = D
  · subst e; rw [if_pos rfl, h]
  · rw [if_neg e]
section
variable {W : Wd} {K : PySem.W.Frag} {φ φ' : List Addr} {Z Z' H H' : Hp} {cs : Cs} {D : Addr} {o : HO}
theorem Slots.wipes {ρ : Rho} {σ : St} (h : Slots W K φ Z ρ σ) : ∀ vs : List Nat, Slots W K φ Z (wipeR ρ vs) (L2.wipe σ vs)
  | [] => h
  | v :: vs => by unfold wipeR L2.wipe; exact (h.wipes vs).wipe v
theorem Ext.but (x : Ext φ Z H φ' Z' H') (hD : H D = some o) (hn : D ∉ φ) : Ext φ Z (Y.but H D) φ' Z' (Y.but H' D) where
  pre := x.pre
  zsub := x.zsub
  znew := fun a u h => by
    rcases x.znew a u h with q | q | q
    · exact .inl q
    · refine .inr (.inl ?_)
      unfold Y.but
      split
      · rfl
      · exact q
    · exact .inr (.inr q)
  frame := fun a u h ha => by
    unfold Y.but at h ⊢
    split at h
    · cases h
    · rename_i e
      rw [if_neg e]
      exact x.frame a u h ha
  fresh := fun a h => by
    rcases x.fresh a h with q | q
    · exact .inl q
    · refine .inr ?_
      unfold Y.but
      split
      · rfl
      · exact q
theorem Ext.notin (x : Ext φ Z H φ' Z' H') (hD : H D = some o) (hn : D ∉ φ) : D ∉ φ' := fun h => by
  rcases x.fresh D h with q | q
  · exact hn q
  · rw [hD] at q; cases q
theorem Ext.znone (x : Ext φ Z H φ' Z' H') (hD : H D = some o) (hn : D ∉ φ) (hz : Z D = none) : Z' D = none := by
  cases e : Z' D with
  | none => rfl
  | some u =>
    rcases x.znew D u e with q | q | q
    · rw [hz] at q; cases q
    · rw [hD] at q; cases q
    · exact absurd q hn
/-- an object that is not told of, written -/
theorem Sim.beside (S : Sim W K φ Z cs H) (hn : D ∉ φ) (hz : Z D = none) (ho : ∀ u, H D = some u → ∀ ps, u ≠ .tbl ps) : Sim W K φ Z cs (upd H D o) := by
  refine ⟨fun a u h => ?_, S.len, S.nd, fun a ha => ?_, fun n c a h1 h2 => ?_, fun p hp => ?_⟩
  · have : a ≠ D := fun e => by rw [e, hz] at h; cases h
    rw [upd_ne this]; exact S.sub _ _ h
  · have : a ≠ D := fun e => hn (e ▸ ha)
    rw [upd_ne this]; exact S.there a ha
  · have : a ≠ D := fun e => hn (e ▸ List.mem_of_getElem? h2)
    exact (S.cell n c a h1 h2).stay (List.prefix_refl _) (fun _ _ h => h) (fun h => h) fun u h => by rw [upd_ne this]; exact h
  · exact (S.tb p hp).stay (fun _ _ h => h) (S.tb p hp).1 (upd_ne ((S.tb p hp).ne ho))
/-- an object beside, frozen -/
theorem Sim.freezeB (S : Sim W K φ Z cs H) (hD : H D = some o) (hn : D ∉ φ) (hz : Z D = none) (ho : ∀ ps, o ≠ .tbl ps := by intro ps h; cases h) : Sim W K φ (upd Z D o) cs H := by
  have hz' : ∀ a u, Z a = some u → upd Z D o a = some u := fun a u h => upd_some hz h
  refine ⟨fun a u h => ?_, S.len, S.nd, S.there, fun n c a h1 h2 => ?_, fun p hp => ?_⟩
  · by_cases e : a = D
    · subst e; rw [upd_same] at h; cases h; exact hD
    · rw [upd_ne e] at h; exact S.sub _ _ h
  · have : a ≠ D := fun e => hn (e ▸ List.mem_of_getElem? h2)
    exact (S.cell n c a h1 h2).stay (List.prefix_refl _) hz' (fun h => by rw [upd_ne this]; exact h) fun u h => h
  · have ne := (S.tb p hp).ne (a := D) fun u h => by rw [hD] at h; cases h; exact ho
    exact (S.tb p hp).stay hz' (by rw [upd_ne ne]; exact (S.tb p hp).1) rfl
theorem Ext.freezeB {φ0 : List Addr} {Z0 H0 : Hp} (x : Ext φ0 Z0 H0 φ Z (Y.but H D)) (h0 : H0 D = none) (hz : Z D = none) : Ext φ0 Z0 H0 φ (upd Z D o) H where
  pre := x.pre
  zsub := fun a u h => upd_some hz (x.zsub a u h)
  znew := fun a u h => by
    by_cases e : a = D
    · subst e; exact .inr (.inl h0)
    · rw [upd_ne e] at h; exact x.znew a u h
  frame := fun a u h ha => by
    rcases x.frame a u h ha with this | ⟨ps, ps', e, this⟩
    · unfold Y.but at this
      split at this
      · cases this
      · exact .inl this
    · unfold Y.but at this
      split at this
      · cases this
      · exact .inr ⟨ps, ps', e, this⟩
  fresh := x.fresh
/-- an object beside, taken as a cell -/
theorem Sim.adopt (S : Sim W K φ Z cs H) {c : Cell} (hD : H D = some o) (hn : D ∉ φ) (hc : CellAt W K (φ ++ [D]) Z H D c) : Sim W K (φ ++ [D]) Z (cs ++ [c]) H := by
  refine ⟨S.sub, by simp [S.len], ?_, fun a ha => ?_, fun n c' a h1 h2 => ?_, S.tb⟩
  · rw [List.nodup_append]
    exact ⟨S.nd, by simp, fun a ha b hb e => by simp at hb; subst hb; exact hn (e ▸ ha)⟩
  · rcases List.mem_append.mp ha with h | h
    · exact S.there a h
    · have e : a = D := by simpa using h
      subst e; exact ⟨o, hD⟩
  · by_cases hn : n < cs.length
    · rw [List.getElem?_append_left hn] at h1
      have hn' : n < φ.length := by have := S.len; omega
      rw [List.getElem?_append_left hn'] at h2
      exact (S.cell n c' a h1 h2).stay (List.prefix_append _ _) (fun _ _ h => h) (fun h => h) fun u h => h
    · rw [List.getElem?_append_right (by omega)] at h1
      have e : n - cs.length = 0 := by
        cases q : n - cs.length with
        | zero => rfl
        | succ m => rw [q] at h1; simp at h1
      rw [e] at h1
      simp at h1
      subst h1
      rw [List.getElem?_append_right (by have := S.len; omega)] at h2
      have e2 : n - φ.length = 0 := by have := S.len; omega
      rw [e2] at h2
      simp at h2
      subst h2
      exact hc
theorem Ext.adopt {φ0 : List Addr} {Z0 H0 : Hp} (x : Ext φ0 Z0 H0 φ Z (Y.but H D)) (h0 : H0 D = none) : Ext φ0 Z0 H0 (φ ++ [D]) Z H where
  pre := x.pre.trans (List.prefix_append _ _)
  zsub := x.zsub
  znew := x.znew
  frame := fun a u h ha => by
    rcases x.frame a u h ha with this | ⟨ps, ps', e, this⟩
    · unfold Y.but at this
      split at this
      · cases this
      · exact .inl this
    · unfold Y.but at this
      split at this
      · cases this
      · exact .inr ⟨ps, ps', e, this⟩
  fresh := fun a ha => by
    rcases List.mem_append.mp ha with h | h
    · exact x.fresh a h
    · have e : a = D := by simpa using h
      subst e; exact .inr h0
end
open Classical in
noncomputable def lcL (keep : Cs → Prop) (p : Pat) (tt : BF) (e : EF) (ρ : Rho) : List T → Cs → R (List T)
  | [], cs => if keep cs then .ok [] cs else .stuck
  | t :: ts, cs => if keep cs then (match asgP p t cs ρ with
    | none => .stuck
    | some ρ1 => (tt ρ1 cs).bind fun b c => if b = true then (e ρ1 c).bind fun x c2 => (lcL keep p tt e ρ ts c2).bind fun xs c3 => .ok (x :: xs) c3 else lcL keep p tt e ρ ts c) else .stuck
theorem lcL_keep {keep : Cs → Prop} {p : Pat} {tt : BF} {e : EF} {ρ : Rho} {ts xs : List T} {cs cs' : Cs} (h : lcL keep p tt e ρ ts cs = .ok xs cs') : keep cs := by
  cases ts with
  | nil =>
    unfold lcL at h
    by_cases hk : keep cs
    · exact hk
    · rw [if_neg hk] at h; cases h
  | cons t ts =>
    unfold lcL at h
    by_cases hk : keep cs
    · exact hk
    · rw [if_neg hk] at h; cases h
theorem lcL_len {keep : Cs → Prop} {p : Pat} {tt : BF} {e : EF} {ρ : Rho} : ∀ {ts xs : List T} {cs cs' : Cs}, lcL keep p tt e ρ ts cs = .ok xs cs' → xs.length ≤ ts.length
  | [], xs, cs, cs', h => by
    unfold lcL at h
    split at h
    · cases h; exact Nat.le_refl _
    · cases h
  | t :: ts, xs, cs, cs', h => by
    unfold lcL at h
    split at h
    · split at h
      · cases h
      · obtain ⟨b, c, _, h⟩ := R.bind_inv h
        split at h
        · obtain ⟨x, c2, _, h⟩ := R.bind_inv h
          obtain ⟨ys, c3, e3, h⟩ := R.bind_inv h
          cases h
          have := lcL_len e3
          simp; omega
        · have := lcL_len h
          simp; omega
    · cases h
/-- what is given, in order -/
noncomputable def lcA (f : IF) (vs : List Nat) (p : Pat) (tt : BF) (e : EF) : AF := fun ρ cs => (f ρ cs).bind fun s c => if s.1.length ≤ sizeLine then lcL s.2 p tt e (wipeR ρ vs) s.1 c else .stuck
noncomputable def lcE (f : IF) (vs : List Nat) (p : Pat) (tt : BF) (e : EF) : EF := fun ρ cs => (lcA f vs p tt e ρ cs).bind fun ts c => match allD ts with
  | some ds => .ok (.d (.list ds)) c
  | none => .stuck
noncomputable def lcC (f : IF) (vs : List Nat) (p : Pat) (tt : BF) (e : EF) : EF := fun ρ cs => (lcA f vs p tt e ρ cs).bind fun ts c => .ok (.ref c.length) (c ++ [.lst ts])
def yesB : BF := fun _ cs => .ok true cs
def STs (W : Wd) (X : Cx) (es : List Expr) (f : BF) : Prop := PTs X es (tB W X.K f)
section
variable {W : Wd} {X : Cx} {pos : Pos}
theorem PTs.imp {X : Cx} {es : List Expr} {t t' : TT} (h : PTs X es t) (k : ∀ σ H Q, t' σ H Q → t σ H Q) : PTs X es t' := ⟨fun pins s σ H Q I q => h.run pins s σ H Q I (k σ H Q q)⟩
theorem sts_nil : STs W X [] yesB := PTs.imp pts_nil fun σ H Q h => by
  obtain ⟨φ, Z, ρ, cs, S, L, b, cs', e, k⟩ := h
  cases e
  exact k _ _ _ (Ext.refl _ _ _) S
theorem sts_one {c : Expr} {f : BF} (h : SB W X c f) : STs W X [c] f := pts_one h
theorem wipe_wipe (σ : St) (vs : List Nat) : L2.wipe (L2.wipe σ vs) vs = L2.wipe σ vs := by
  apply List.ext_getElem?
  intro i
  rw [wipe_get, wipe_get, wipe_length]
  by_cases hi : i ∈ vs
  · rw [if_pos hi, if_pos hi]
  · rw [if_neg hi, if_neg hi]
theorem lc_coreY {K : PySem.W.Frag} {f : IF} {vs : List Nat} {p : Pat} {tt : BF} {e : EF} (hv : ∀ i ∈ p.slots, i ∈ vs) {σ : St} {H : Hp} {Q : VK}
    (h : ∃ φ Z ρ cs, Sim W K φ Z cs H ∧ Slots W K φ Z ρ σ ∧ ∃ ts cs', lcA f vs p tt e ρ cs = .ok ts cs' ∧ ∀ φ' Z' H' D acc, Ext φ Z H φ' Z' (but H' D) → H D = none → Sim W K φ' Z' cs' H' → D ∉ φ' → Z' D = none → H' D = some (.lst acc) → Reps W K φ' Z' ts acc → Q (.ref D) H') :
    tLc (tI W K f) (tG W K p) (tB W K tt) (tE W K e) vs σ H Q := by
  obtain ⟨φ, Z, ρ, cs, S, L, out, cs', e0, k⟩ := h
  obtain ⟨⟨ts, keep⟩, c, e1, e0⟩ := R.bind_inv e0
  dsimp only at e0
  by_cases hz : ts.length ≤ sizeLine
  case neg => rw [if_neg hz] at e0; cases e0
  rw [if_pos hz] at e0
  refine ⟨φ, Z, ρ, cs, S, L, ts, keep, c, e1, fun φ1 Z1 H1 J x1 S1 wk D hD => ?_⟩
  have hD0 : H D = none := by
    cases q : H D with
    | none => rfl
    | some u =>
      by_cases hm : D ∈ φ
      · obtain ⟨o, z⟩ := S1.there D (x1.pre.subset hm)
        rw [hD] at z; cases z
      · exact absurd hD (x1.dom q hm)
  have z1 : Z1 D = none := by
    cases q : Z1 D with
    | none => rfl
    | some u => rw [S1.sub _ _ q] at hD; cases hD
  have n1 : D ∉ φ1 := fun hm => by
    obtain ⟨o, z⟩ := S1.there D hm
    rw [hD] at z; cases z
  refine ⟨fun i m H2 => m = ts.length - i ∧ i ≤ ts.length ∧ ∃ φ2 Z2 cs2 acc done xs, Ext φ1 Z1 H1 φ2 Z2 (but H2 D) ∧ Sim W K φ2 Z2 cs2 H2 ∧ D ∉ φ2 ∧ Z2 D = none ∧ H2 D = some (.lst acc) ∧ Reps W K φ2 Z2 done acc ∧ done.length ≤ i ∧ lcL keep p tt e (wipeR ρ vs) (ts.drop i) cs2 = .ok xs cs' ∧ out = done ++ xs,
    ⟨ts.length, by simp, Nat.zero_le _, φ1, Z1, c, [], [], out, ?_, S1.beside n1 z1 (fun u h => by rw [hD] at h; cases h), n1, z1, upd_same, .nil, Nat.zero_le _, by simpa using e0, by simp⟩, ?_⟩
  · rw [but_upd, but_none hD]; exact Ext.refl _ _ _
  rintro i m H2 ⟨rfl, hle, φ2, Z2, cs2, acc, done, xs, x2, S2, n2, z2, h2, r2, hdl, e2, eo⟩
  have hk : keep cs2 := lcL_keep e2
  have x12 : Ext φ1 Z1 H1 φ2 Z2 H2 := by
    refine ⟨x2.pre, x2.zsub, x2.znew, fun a u h ha => ?_, x2.fresh⟩
    rcases x2.frame a u h ha with this | ⟨ps, ps', e, this⟩
    · unfold but at this
      split at this
      · cases this
      · exact .inl this
    · unfold but at this
      split at this
      · cases this
      · exact .inr ⟨ps, ps', e, this⟩
  obtain ⟨go, stop, yl⟩ := wk φ2 Z2 H2 cs2 x12 S2 hk
  by_cases hlt : i < ts.length
  · refine .inr ⟨go i hlt, fun H3 => i + 1 ≤ ts.length ∧ ∃ φ2 Z2 cs2 acc done xs, Ext φ1 Z1 H1 φ2 Z2 (but H3 D) ∧ Sim W K φ2 Z2 cs2 H3 ∧ D ∉ φ2 ∧ Z2 D = none ∧ H3 D = some (.lst acc) ∧ Reps W K φ2 Z2 done acc ∧ done.length ≤ i + 1 ∧ lcL keep p tt e (wipeR ρ vs) (ts.drop (i + 1)) cs2 = .ok xs cs' ∧ out = done ++ xs,
      fun H' q => ⟨ts.length - (i + 1), by omega, rfl, q.1, q.2⟩, fun x H' hy => ?_⟩
    obtain ⟨t, Z3, ht, x3, S3, r3⟩ := yl i x H' hlt hy
    have hd : ts.drop i = t :: ts.drop (i + 1) := by
      rw [List.drop_eq_getElem_cons hlt]
      rw [List.getElem?_eq_getElem hlt] at ht
      cases ht
      rfl
    rw [hd] at e2
    unfold lcL at e2
    rw [if_pos hk] at e2
    cases e3 : asgP p t cs2 (wipeR ρ vs) with
    | none => rw [e3] at e2; cases e2
    | some ρ3 =>
      rw [e3] at e2
      dsimp only at e2
      obtain ⟨b, c4, e4, e2⟩ := R.bind_inv e2
      have x23 := x3.but h2 n2
      have L3 : Slots W K φ2 Z3 (wipeR ρ vs) (L2.wipe σ vs) := (((L.ext x1).ext x2).ext x3).wipes vs
      have n3 := x3.notin h2 n2
      have z3 := x3.znone h2 n2 z2
      have h3 := x3.fr h2 n2 (fun _ h => by cases h)
      refine ⟨φ2, Z3, wipeR ρ vs, cs2, t, ρ3, S3, L3, r3, e3, fun σ4 L4 sb => ⟨(sb.wipe hv).trans (wipe_wipe σ vs), φ2, Z3, ρ3, cs2, S3, L4, b, c4, e4, fun φ5 Z5 H5 x5 S5 => ?_⟩⟩
      have x25 := x23.trans (x5.but h3 n3)
      have n5 := x5.notin h3 n3
      have z5 := x5.znone h3 n3 z3
      have h5 := x5.fr h3 n3 (fun _ h => by cases h)
      by_cases hb : b = true
      · rw [if_pos hb] at e2
        subst hb
        show tE W K e σ4 H5 _
        obtain ⟨y, c6, e6, e2⟩ := R.bind_inv e2
        obtain ⟨ys, c7, e7, e2⟩ := R.bind_inv e2
        cases e2
        refine ⟨φ5, Z5, ρ3, c4, S5, L4.ext x5, y, c6, e6, fun φ6 Z6 H6 w x6 S6 r6 => ?_⟩
        have n6 := x6.notin h5 n5
        have z6 := x6.znone h5 n5 z5
        have h6 := x6.fr h5 n5 (fun _ h => by cases h)
        have r6' := Reps.ext x6 (Reps.ext x5 (Reps.ext x3 r2))
        refine ⟨acc, h6, ?_, hlt, φ6, Z6, c6, acc ++ [w], done ++ [y], ys, ?_, S6.beside n6 z6 (fun u h => by rw [h6] at h; cases h; exact fun _ q => by cases q), n6, z6, upd_same, Paired.app r6' (.cons r6 .nil), by simp; omega, e7, by simp [eo]⟩
        · rw [← Paired.len r2]; omega
        · rw [but_upd]
          exact (x2.trans x25).trans (x6.but h5 n5)
      · rw [if_neg hb] at e2
        have hb : b = false := by simpa using hb
        subst hb
        exact ⟨hlt, φ5, Z5, c4, acc, done, xs, x2.trans x25, S5, n5, z5, h5, Reps.ext x5 (Reps.ext x3 r2), by omega, e2, eo⟩
  · have ei : i = ts.length := by omega
    subst ei
    rw [List.drop_length] at e2
    unfold lcL at e2
    rw [if_pos hk] at e2
    cases e2
    rw [List.append_nil] at eo
    subst eo
    exact .inl ⟨stop, k φ2 Z2 H2 D acc (x1.trans x2) hD0 S2 n2 z2 h2 r2⟩
abbrev BlkAll (X : Cx) (scope : Scope) (F : Cx → Prop) : Prop := ∀ (s : Shared) (H : Hp) (C : Addr) (cl : List (Str × Addr)) (fp : List Addr), F (X.blk s H scope (compEnvC scope cl C X.env) fp)
theorem lcE_core {K : PySem.W.Frag} {f : IF} {vs : List Nat} {p : Pat} {tt : BF} {e : EF} (hv : ∀ i ∈ p.slots, i ∈ vs) {σ : St} {H : Hp} {Q : VK} (h : tE W K (lcE f vs p tt e) σ H Q) : tLc (tI W K f) (tG W K p) (tB W K tt) (tE W K e) vs σ H Q := by
  obtain ⟨φ, Z, ρ, cs, S, L, t, cs', e0, k⟩ := h
  obtain ⟨ts, c, e1, e2⟩ := R.bind_inv e0
  refine lc_coreY hv ⟨φ, Z, ρ, cs, S, L, ts, c, e1, fun φ' Z' H' D acc x' hD S' n' z' h' r' => ?_⟩
  split at e2
  · rename_i ds q
    cases e2
    rw [allD_eq q] at r'
    have r2 := Reps.all r'
    exact k φ' (upd Z' D (.lst acc)) H' _ (x'.freezeB hD z') (S'.freezeB h' n' z') (.d (.lst upd_same (DzAll.zmono (fun a u h => upd_some z' h) _ _ r2)))
  · cases e2
theorem lcC_core {K : PySem.W.Frag} {f : IF} {vs : List Nat} {p : Pat} {tt : BF} {e : EF} (hv : ∀ i ∈ p.slots, i ∈ vs) {σ : St} {H : Hp} {Q : VK} (h : tE W K (lcC f vs p tt e) σ H Q) : tLc (tI W K f) (tG W K p) (tB W K tt) (tE W K e) vs σ H Q := by
  obtain ⟨φ, Z, ρ, cs, S, L, t, cs', e0, k⟩ := h
  obtain ⟨ts, c, e1, e2⟩ := R.bind_inv e0
  refine lc_coreY hv ⟨φ, Z, ρ, cs, S, L, ts, c, e1, fun φ' Z' H' D acc x' hD S' n' z' h' r' => ?_⟩
  cases e2
  refine k (φ' ++ [D]) Z' H' _ (x'.adopt hD) (S'.adopt h' n' ⟨z', acc, h', Reps.mono (List.prefix_append _ _) (fun _ _ h => h) r'⟩) (.ref ?_)
  rw [← S'.len, List.getElem?_append_right (Nat.le_refl _)]
  simp
section
variable {elt tg iter : Expr} {ifs : List Expr} {scope : Scope} {own : List (Str × Nat)} {f : IF} {p : Pat} {tt : BF} {e : EF}
theorem se_lc (hc : X.calm = true) (hN : X.N.Nodup) (ok : BlkOk X.N X.env.scope scope own) (hv : ∀ i ∈ p.slots, i ∈ own.map (·.2)) (hi : SI W X tg iter f) (hg : BlkAll X scope fun B => SG W B tg p) (ht : BlkAll X scope fun B => STs W B ifs tt) (he : BlkAll X scope fun B => SE W B elt e)
    (hs : ∀ x, foldedSetIterable iter X.env x = pure x := by intro _; rfl) : SE W X (.ListComp elt [⟨tg, iter, ifs, 0⟩] scope pos) (lcE f (own.map (·.2)) p tt e) := PE.imp (pe_lc (g := tG W X.K p) (tt := tB W X.K tt) (te := tE W X.K e) hc hN hi ok (fun s H C cl fp => hg s H C cl fp) (fun s H C cl fp => ht s H C cl fp) (fun s H C cl fp => he s H C cl fp) hs) fun σ H Q h => lcE_core hv h
theorem se_lcC (hc : X.calm = true) (hN : X.N.Nodup) (ok : BlkOk X.N X.env.scope scope own) (hv : ∀ i ∈ p.slots, i ∈ own.map (·.2)) (hi : SI W X tg iter f) (hg : BlkAll X scope fun B => SG W B tg p) (ht : BlkAll X scope fun B => STs W B ifs tt) (he : BlkAll X scope fun B => SE W B elt e)
    (hs : ∀ x, foldedSetIterable iter X.env x = pure x := by intro _; rfl) : SE W X (.ListComp elt [⟨tg, iter, ifs, 0⟩] scope pos) (lcC f (own.map (·.2)) p tt e) := PE.imp (pe_lc (g := tG W X.K p) (tt := tB W X.K tt) (te := tE W X.K e) hc hN hi ok (fun s H C cl fp => hg s H C cl fp) (fun s H C cl fp => ht s H C cl fp) (fun s H C cl fp => he s H C cl fp) hs) fun σ H Q h => lcC_core hv h

theorem tAsg_set {K : PySem.W.Frag} {te : TE} {g : EF} {i : Nat} (ht : ∀ σ H Q, tE W K g σ H Q → te σ H Q) {D : Ends} {σ : St} {H : Hp} (h : tS W K (setS i g) D σ H) : tAsg te (gName i) D σ H := by
  obtain ⟨φ, Z, ρ, cs, S, L, h⟩ := h
  unfold setS at h
  cases e : g ρ cs with
  | stuck => rw [e] at h; exact h.elim
  | ok t c =>
    rw [e] at h
    exact ht _ _ _ ⟨φ, Z, ρ, cs, S, L, t, c, e, fun φ' Z' H' v x' S' r' => h φ' Z' H' _ x' S' ((L.ext x').set r' i)⟩
theorem ss_setLc {i : Nat} {y : Str} {py spos : Pos} (hc : X.calm = true) (hN : X.N.Nodup) (hy : X.N[i]? = some y) (hyl : X.env.scope.names.lookup y = some .local) (hsw : swapsWith (.ListComp elt [⟨tg, iter, ifs, 0⟩] scope pos) (some (.Name y py)) spos.line X.env = pure true)
    (ok : BlkOk X.N X.env.scope scope own) (hv : ∀ i ∈ p.slots, i ∈ own.map (·.2)) (hi : SI W X tg iter f) (hg : BlkAll X scope fun B => SG W B tg p) (ht : BlkAll X scope fun B => STs W B ifs tt) (he : BlkAll X scope fun B => SE W B elt e)
    (hs : ∀ x, foldedSetIterable iter X.env x = pure x := by intro _; rfl) : SS W X (.Assign [.Name y py] (.ListComp elt [⟨tg, iter, ifs, 0⟩] scope pos) spos) (setS i (lcE f (own.map (·.2)) p tt e)) :=
  PS.imp (ps_setLc (g := tG W X.K p) (tt := tB W X.K tt) (te := tE W X.K e) hc hN hy hyl hsw hi ok (fun s H C cl fp => hg s H C cl fp) (fun s H C cl fp => ht s H C cl fp) (fun s H C cl fp => he s H C cl fp) hs) fun D σ H h => tAsg_set (fun σ H Q h => lcE_core hv h) h
theorem ss_setLcC {i : Nat} {y : Str} {py spos : Pos} (hc : X.calm = true) (hN : X.N.Nodup) (hy : X.N[i]? = some y) (hyl : X.env.scope.names.lookup y = some .local) (hsw : swapsWith (.ListComp elt [⟨tg, iter, ifs, 0⟩] scope pos) (some (.Name y py)) spos.line X.env = pure true)
    (ok : BlkOk X.N X.env.scope scope own) (hv : ∀ i ∈ p.slots, i ∈ own.map (·.2)) (hi : SI W X tg iter f) (hg : BlkAll X scope fun B => SG W B tg p) (ht : BlkAll X scope fun B => STs W B ifs tt) (he : BlkAll X scope fun B => SE W B elt e)
    (hs : ∀ x, foldedSetIterable iter X.env x = pure x := by intro _; rfl) : SS W X (.Assign [.Name y py] (.ListComp elt [⟨tg, iter, ifs, 0⟩] scope pos) spos) (setS i (lcC f (own.map (·.2)) p tt e)) :=
  PS.imp (ps_setLc (g := tG W X.K p) (tt := tB W X.K tt) (te := tE W X.K e) hc hN hy hyl hsw hi ok (fun s H C cl fp => hg s H C cl fp) (fun s H C cl fp => ht s H C cl fp) (fun s H C cl fp => he s H C cl fp) hs) fun D σ H h => tAsg_set (fun σ H Q h => lcC_core hv h) h
end
end
end Y
end
section
set_option Elab.async false
set_option linter.all false
set_option maxRecDepth 100000
set_option maxHeartbeats 1000000
namespace YT
open PySem PySem.Spec PyProof.Rows L2
theorem typeCall_enumerate_1' (a : Value) : PySem.checkTypeCall "enumerate" ⟨[a], []⟩ = pure () := F.typeCall_enumerate_1 a
set_option maxHeartbeats 1000000 in
theorem meets_enumerate_newT {v : Value} {o : Obj} {H : Heap → Prop} (B : Begins v o H) :
    Meets (Builtin.«enumerate.__new__» ⟨[.type "enumerate", v], []⟩) (fun _ R s => H s.heap ∧
      R (.ok (.ret (.ref (s.heap.push o).objs.size))) { s with heap := (s.heap.push o).push { cls := .type "enumerate", data := .fields #[.none, .bool false, .ref s.heap.objs.size, rawInt 0, .none, .none] } }) :=
  .of_wp fun prog w A R s h => by
    obtain ⟨hp, g, d, tk, os⟩ := s; obtain ⟨h1, h⟩ := h
    have hsub := sub_enumerate
    have q1 : ∀ {A' : Around} {E : Value → Shared → Prop} {Q : Value → Shared → Prop}, Q (.ref hp.objs.size) ⟨hp.push o, g, d, tk, os⟩ → wpAny (model prog w) A' (pyIter v) Q E ⟨hp, g, d, tk, os⟩ :=
      fun q => B.iter prog w _ _ ⟨hp, g, d, tk, os⟩ _ h1 q
    wp_walk using q1
    refine wpAny_stack_any fun st => wpAny_pure ?_
    split
    · rename_i c _ _ _ _ _
      cases (c == Value.type "enumerate")
      · wp_walk using q1
        exact ⟨_, rfl, h⟩
      · wp_walk using q1
        exact ⟨_, rfl, h⟩
    · wp_walk using q1
      exact ⟨_, rfl, h⟩
section
variable {prog : Program} {w : World} {A : Around} {E : Value → Shared → Prop} {s : Shared}
theorem enum_beginsT {v : Value} {o : Obj} {H : Heap → Prop} {Q : Value → Shared → Prop} (B : Begins v o H) (h1 : H s.heap)
    (h : ∀ h', IsEnum h' (s.heap.objs.size + 1) s.heap.objs.size 0 .none → h'.get? s.heap.objs.size = some o → h'.objs.size = s.heap.objs.size + 2 →
      (∀ b o, s.heap.get? b = some o → h'.get? b = some o) → Q (.ref (s.heap.objs.size + 1)) { s with heap := h' }) :
    wpAny (model prog w) A (call (.type "enumerate") [v]) Q E s := by
  refine callType_new F.called_enumerate (by decide) (F.typeCall_enumerate_1 _) (F.newCall_enumerate_1 _) (fun obj => F.args_object_init_2 obj _) F.entry_enumerate_new
    (meets_enumerate_newT B) ⟨h1, ?_⟩
  have hz : (s.heap.push o).objs.size = s.heap.objs.size + 1 := Heap.size_push ..
  show _ ∧ _
  rw [hz]
  have he : IsEnum ((s.heap.push o).push { cls := .type "enumerate", data := .fields #[.none, .bool false, .ref s.heap.objs.size, rawInt 0, .none, .none] }) (s.heap.objs.size + 1) s.heap.objs.size 0 .none := by
    have := Heap.get?_push_size (s.heap.push o) (o := { cls := .type "enumerate", data := .fields #[.none, .bool false, .ref s.heap.objs.size, rawInt 0, .none, .none] }) rfl
    rw [hz] at this; exact this
  refine ⟨⟨_, he, rfl⟩, h _ he (Heap.get?_push_of_some _ (Heap.get?_push_size _ B.free)) (by rw [Heap.size_push, hz]) fun b o x => Heap.get?_push_of_some _ (Heap.get?_push_of_some _ x)⟩
end
/-- enumerate of a tuple -/
def IteT (K : PySem.W.Frag) (a : Addr) : It :=
  ⟨fun i H => ∃ (xs : List V) (x : V), SqT K H a xs ∧ xs[i]? = some x, fun i H v H' => ∃ T x, v = .ref T ∧ H T = none ∧ H' = upd H T (.tup [.int (i : Nat), x]) ∧ ∀ xs, SqT K H a xs → xs[i]? = some x, fun i H => ∃ xs : List V, SqT K H a xs ∧ xs.length ≤ i⟩
theorem enum_ne_tup {h : Heap} {e it a : Addr} {k : Int} {old : Value} {items : Array Value} (he : IsEnum h e it k old) (ht : h.IsTuple a items) : e ≠ a := fun q => by
  subst q
  obtain ⟨o, h1, h2, _⟩ := ht
  rw [show h.get? e = some _ from he] at h1
  cases h1
  simp at h2
theorem iter_ne_tup {h : Heap} {it a : Addr} {i : Nat} {items : Array Value} (hi : h.IsTupleIter it a i) (ht : h.IsTuple a items) : a ≠ it := fun q => by
  subst q
  obtain ⟨o, h1, h2, _⟩ := ht
  obtain ⟨o', h3, h4, _⟩ := hi
  rw [h1] at h3
  cases h3
  rw [h2] at h4
  simp at h4
theorem turn_enumT {P : Program} {w : World} {K : PySem.W.Frag} {elts : List Expr} {kk : Nat} {tpos : Pos} (a e it : Addr) :
    Turn P w K (.Tuple elts kk tpos) (IteT K a) [e, it] e (fun i h => (∃ old, IsEnum h e it ((i : Nat) : Int) old) ∧ h.IsTupleIter it a i ∧ e ≠ it) where
  mem := by simp
  obj := fun i h st b hb => by
    obtain ⟨⟨old, he⟩, ⟨o, ho, hc, hd⟩, _⟩ := st
    have e' : b = e ∨ b = it := by simpa using hb
    rcases e' with z | z
    · rw [z]; exact ⟨_, he, fun v q => nomatch q⟩
    · rw [z]; exact ⟨o, ho, fun v q => by rw [hd] at q; cases q⟩
  keep := fun i h h' st k => let ⟨⟨old, he⟩, hi, hne⟩ := st; ⟨⟨old, k e (by simp) _ he⟩, hi.at fun o q => k it (by simp) o q, hne⟩
  item := by
    intro X hP hw hK hc i pins s σ H E I hf st hg
    subst hP hw hK
    obtain ⟨⟨old, he⟩, hit, hne⟩ := st
    obtain ⟨xs, x, hq, hx⟩ := hg
    obtain ⟨its, rv, p, hz⟩ := I.tuple hq
    have p : s.heap.IsTuple a its.toArray := p
    obtain ⟨u, hu, ru⟩ := rv.get hx
    have hel : e < s.heap.objs.size := Heap.lt_size he
    have hil : it < s.heap.objs.size := by obtain ⟨_, q, _⟩ := hit; exact Heap.lt_size q
    have hu' : its.toArray[i]? = some u := by simpa using hu
    have hlt : i < its.toArray.size := (Array.getElem?_eq_some_iff.mp hu').1
    have D := Draws.tuple (prog := X.prog) (w := X.w) (A := X.A.in1) (I.ok.hd hc) it a (iter_ne_tup hit p) its.toArray
    have hef : e ∉ [it, a] := by
      have := enum_ne_tup he p
      simp; exact ⟨hne, this⟩
    refine wpAny_pyNext_enum_itemD D he ⟨hit, p⟩ hlt hne hef fun u' h' tk hPx ho hst' hT hsz hk => ?_
    have eu : u' = u := by rw [hu'] at hPx; cases hPx; rfl
    subst eu
    refine ⟨_, rfl, wpAny_letOwnedTupleGo_enum (s := { s with heap := h', toks := tk + 1 }) ho fun h'' he' sb => ?_⟩
    have hT2 : h''.get? s.heap.objs.size = some { cls := .type "tuple", data := .seq #[.int i tk, u'] } := (sb.2 _ (Nat.ne_of_gt hel)).trans hT
    have new : ObjOk X.prog X.w (upd H s.heap.objs.size (.tup [.int (i : Nat), x])) h'' s.heap.objs.size (.tup [.int (i : Nat), x]) :=
      ⟨by show 2 ≤ sizeLine; decide, [.int i tk, u'], .cons ⟨_, rfl⟩ (.cons ru .nil), ⟨_, hT2, rfl, _, rfl⟩⟩
    have I1 : Inv X pins σ (upd H s.heap.objs.size (.tup [.int (i : Nat), x])) { s with heap := h'', toks := tk + 1 } :=
      I.turnedNew (ch := [e, it]) (fun b ob hb q => (sb.2 b (fun z => hb (by simp [z]))).trans (hk b ob (fun z => hb (by simp [z])) (fun z => hb (by simp [z])) q)) hf (Nat.le_refl _) new
    refine ⟨.ref s.heap.objs.size, _, I1, rfl, ⟨_, x, rfl, I.hok.fresh (Nat.le_refl _), rfl, fun ys hy => by rw [I.tuple_inj hy hq]; exact hx⟩, ⟨⟨u', ?_⟩, hst'.1.at fun o q => (sb.2 it (Ne.symm hne)).trans q, hne⟩, fun b hb => ?_⟩
    · have e1 : ((i + 1 : Nat) : Int) = (i : Int) + 1 := by omega
      rw [e1]; exact he'
    · have hb' : b < s.heap.objs.size := by
        have e' : b = e ∨ b = it := by simpa using hb
        rcases e' with z | z
        · rw [z]; exact hel
        · rw [z]; exact hil
      rw [upd_ne (Nat.ne_of_lt hb')]
      exact (hf b hb).1
  done := by
    intro X hP hw hK hc i pins s σ H E I hf st hg
    subst hP hw hK
    obtain ⟨⟨old, he⟩, hit, hne⟩ := st
    obtain ⟨xs, hq, hx⟩ := hg
    obtain ⟨its, rv, p, hz⟩ := I.tuple hq
    have p : s.heap.IsTuple a its.toArray := p
    obtain ⟨f0, f1, f2, f3, f4, f5⟩ := hf it (by simp)
    have hl := rv.length
    unfold pyNext
    have hT : s.TypeIs (.ref e) "enumerate" := ⟨_, he, rfl⟩
    refine wpAny_bind (wpAny_attempt (wpAny_callSpecial?_slot (name := Str.ofString "__next__") hT F.slot_enumerate_next
      (wpAny_call_entry F.slot_enumerate_next hT F.entry_enumerate_next ?_ (F.args_enumerate_next_1 _))))
    show wpAny _ _ (field (.ref e) 2 >>= _) _ _ _
    refine wpAny_bind (wpAny_field he rfl (x := .ref it) rfl ?_)
    refine wpAny_bind (wpAny_nextOf_tuple_end (I.ok.hd hc) hit p (by simp; omega) fun h' x he' hx' => ?_)
    obtain ⟨o, ho, hc'⟩ := hx'
    refine wpAny_bind (wpAny_isInstance (T := "StopIteration") (b := true) ⟨o, ho, hc'⟩ isSubtype_stop ?_)
    exact wpAny_pure ⟨rfl, I.turned (t' := s.toks) (fun b o hb q => he' b o hb q) f0 f1 f3 f4 f5⟩
  self := fun A i s Q E st h => let ⟨⟨_, he⟩, _⟩ := st; wpAny_pyIter_enum he h
def iEnumA (K : PySem.W.Frag) (ta : TA) : TI := fun σ H R => ta σ H fun vs H1 => ∃ a xs, vs = [.ref a] ∧ ((SqL K H1 a xs ∧ R (Ite K a) H1) ∨ (SqT K H1 a xs ∧ R (IteT K a) H1))
theorem pi_enumA {X : Cx} {e : Expr} {ta : TA} {p pos tpos : Pos} {elts : List Expr} {kk : Nat} (hg : Gl X "enumerate") (hm : X.mg "enumerate" = none) (ha : PA X [e] ta) (hs : starEach [e] X.env = [(false, eval e X.env)] := by rfl) :
    PI X (.Tuple elts kk tpos) (.Call (.Name "enumerate" p) [e] [] pos) (iEnumA X.K ta) := by
  refine ⟨fun pins s σ H R I h => ?_⟩
  refine Call_ (ld_blt I hg hm boot_enumerate (PyProof.Rows.callWith_type1 (thn (ha.run pos pins s σ H _ I h) fun us s1 ⟨vs, H1, I1, r1, q1⟩ => ?_) hs rfl))
  obtain ⟨a, xs, ex, q1⟩ := q1
  subst ex
  cases r1 with
  | cons r rr =>
    cases rr
    cases r
    have fp2 : ∀ b ∈ [s1.heap.objs.size + 1, s1.heap.objs.size], FpOk X pins H1 b := fun b hb => by
      have e' : b = s1.heap.objs.size + 1 ∨ b = s1.heap.objs.size := by simpa using hb
      have hle : s1.heap.objs.size ≤ b := by
        rcases e' with z | z
        · rw [z]; exact Nat.le_add_right _ _
        · rw [z]; exact Nat.le_refl _
      exact I1.fpOk hle (I1.hok.fresh hle)
    rcases q1 with ⟨hq, q⟩ | ⟨hq, q⟩
    · obtain ⟨its, rv, p', hz⟩ := I1.list hq
      refine call_enumerate_list p'.isList fun h' he hit hsz hk => wpAny_pyIter_enum he ?_
      have I2 : Inv X pins σ H1 { s1 with heap := h' } := I1.kept (t' := s1.toks) hk
      exact ⟨s1.heap.objs.size + 1, [s1.heap.objs.size + 1, s1.heap.objs.size], _, _, H1, rfl, I2, turn_enum a (s1.heap.objs.size + 1) s1.heap.objs.size, ⟨⟨.none, he⟩, hit, Nat.succ_ne_self _⟩, fp2, q⟩
    · obtain ⟨its, rv, p', hz⟩ := I1.tuple hq
      have p' : s1.heap.IsTuple a its.toArray := p'
      refine enum_beginsT (begins_tuple a its.toArray) p' fun h' he hit hsz hk => wpAny_pyIter_enum he ?_
      have I2 : Inv X pins σ H1 { s1 with heap := h' } := I1.kept (t' := s1.toks) hk
      exact ⟨s1.heap.objs.size + 1, [s1.heap.objs.size + 1, s1.heap.objs.size], _, _, H1, rfl, I2, turn_enumT a (s1.heap.objs.size + 1) s1.heap.objs.size, ⟨⟨.none, he⟩, ⟨_, hit, rfl, rfl⟩, Nat.succ_ne_self _⟩, fp2, q⟩
end YT
namespace Y
open PySem PySem.Spec L2
def enumL : Nat → List PyData → List T
  | _, [] => []
  | n, d :: ds => .d (.tuple [.int (n : Nat), d]) :: enumL (n + 1) ds
theorem enumL_len : ∀ (n : Nat) (ds : List PyData), (enumL n ds).length = ds.length
  | _, [] => rfl
  | n, d :: ds => by unfold enumL; simp [enumL_len (n + 1) ds]
theorem enumL_get : ∀ (n : Nat) (ds : List PyData) (i : Nat) (d : PyData), ds[i]? = some d → (enumL n ds)[i]? = some (.d (.tuple [.int ((n + i : Nat) : Int), d]))
  | n, x :: ds, 0, d, h => by simp at h; subst h; rfl
  | n, x :: ds, i + 1, d, h => by
    unfold enumL
    rw [List.getElem?_cons_succ, enumL_get (n + 1) ds i d (by simpa using h)]
    rw [show n + 1 + i = n + (i + 1) by omega]
def enumI (g : AF) : IF := fun ρ cs => (g ρ cs).bind fun ts c => match ts with
  | [t] => (match asQ c t with
    | some xs => (match allD xs with
      | some ds => .ok (enumL 0 ds, keepOf c t) c
      | none => .stuck)
    | none => .stuck)
  | _ => .stuck
section
variable {W : Wd} {X : Cx} {pos : Pos}
theorem pairT {K : PySem.W.Frag} {φ : List Addr} {Z H : Hp} {cs : Cs} (S : Sim W K φ Z cs H) {T : Addr} (hT : H T = none) {x y : V} {a b : PyData} (ra : Rep W K φ Z (.d a) x) (rb : Rep W K φ Z (.d b) y) :
    ∃ Z', Ext φ Z H φ Z' (upd H T (.tup [x, y])) ∧ Sim W K φ Z' cs (upd H T (.tup [x, y])) ∧ Rep W K φ Z' (.d (.tuple [a, b])) (.ref T) := by
  obtain ⟨S1, x1⟩ := S.frozen hT (.tup [x, y])
  refine ⟨_, x1, S1, .d (.tup (SqT.of upd_same) ?_)⟩
  cases ra with
  | d ra => cases rb with
    | d rb => exact .cons (Dz.zmono x1.zsub _ _ ra) (.cons (Dz.zmono x1.zsub _ _ rb) .nil)
theorem walk_enumL {K : PySem.W.Frag} {φ : List Addr} {Z H : Hp} {cs : Cs} {t : T} {a : Addr} {ds : List PyData} (S : Sim W K φ Z cs H) (r : Rep W K φ Z t (.ref a)) (e : asL cs t = some (ds.map .d)) (hT : asT t = none) : WalkY W K φ Z H (Ite K a) (enumL 0 ds) (keepOf cs t) := by
  intro φ1 Z1 H1 cs1 x1 S1 hk
  have e' : asQ cs t = some (ds.map .d) := by unfold asQ; rw [hT]; exact e
  obtain ⟨r1, e1⟩ := asQ_stay r e' x1 S1 hk
  unfold asQ at e1
  rw [hT] at e1
  obtain ⟨a', vs, ea, h1, h2⟩ := S1.asL r1 e1
  cases ea
  have hl := Paired.len h2
  rw [List.length_map] at hl
  rw [enumL_len]
  refine ⟨fun i hi => ⟨vs, vs[i]'(by omega), h1, by simp [show i < vs.length by omega]⟩, ⟨vs, h1, by omega⟩, fun i x H' hi hy => ?_⟩
  obtain ⟨T, y, rfl, hT', rfl, hy⟩ := hy
  have h3 := hy vs h1
  obtain ⟨z, h4, h5⟩ := Paired.get h2 (n := i) (a := .d ds[i]) (by simp [hi])
  rw [h4] at h3
  cases h3
  obtain ⟨Z', x2, S2, r2⟩ := pairT S1 hT' (Rep.int (i : Nat)) h5
  refine ⟨_, Z', enumL_get 0 ds i ds[i] (by simp [hi]), x2, S2, ?_⟩
  rw [show ((0 + i : Nat) : Int) = ((i : Nat) : Int) by omega]
  exact r2
theorem walk_enumT {K : PySem.W.Frag} {φ : List Addr} {Z H : Hp} {cs : Cs} {t : T} {a : Addr} {ds : List PyData} {keep : Cs → Prop} (S : Sim W K φ Z cs H) (r : Rep W K φ Z t (.ref a)) (e : asT t = some ds) : WalkY W K φ Z H (YT.IteT K a) (enumL 0 ds) keep := by
  intro φ1 Z1 H1 cs1 x1 S1 hk
  obtain ⟨a', vs, ea, _, h1, h2⟩ := S1.asT (r.ext x1) e
  cases ea
  have h2 := Reps.of_all (W := W) (φ := φ1) h2
  have hl := Paired.len h2
  rw [List.length_map] at hl
  rw [enumL_len]
  refine ⟨fun i hi => ⟨vs, vs[i]'(by omega), h1, by simp [show i < vs.length by omega]⟩, ⟨vs, h1, by omega⟩, fun i x H' hi hy => ?_⟩
  obtain ⟨T, y, rfl, hT', rfl, hy⟩ := hy
  have h3 := hy vs h1
  obtain ⟨z, h4, h5⟩ := Paired.get h2 (n := i) (a := .d ds[i]) (by simp [hi])
  rw [h4] at h3
  cases h3
  obtain ⟨Z', x2, S2, r2⟩ := pairT S1 hT' (Rep.int (i : Nat)) h5
  refine ⟨_, Z', enumL_get 0 ds i ds[i] (by simp [hi]), x2, S2, ?_⟩
  rw [show ((0 + i : Nat) : Int) = ((i : Nat) : Int) by omega]
  exact r2
theorem si_enum {a : Expr} {g : AF} {p tpos : Pos} {elts : List Expr} {kk : Nat} (hg : Gl X "enumerate") (hm : X.mg "enumerate" = none) (ha : SA W X [a] g) (hs : starEach [a] X.env = [(false, eval a X.env)] := by rfl) : SI W X (.Tuple elts kk tpos) (.Call (.Name "enumerate" p) [a] [] pos) (enumI g) := PI.imp (YT.pi_enumA hg hm ha hs) fun σ H Rr h => by
  obtain ⟨φ, Z, ρ, cs, S, L, ts, keep, cs', e, k⟩ := h
  obtain ⟨us, c, e1, e⟩ := R.bind_inv e
  refine ⟨φ, Z, ρ, cs, S, L, us, c, e1, fun φ1 Z1 H1 vs x1 S1 r1 => ?_⟩
  split at e
  · rename_i t
    split at e
    · rename_i xs q
      split at e
      · rename_i ds q2
        obtain ⟨v, rfl, r2⟩ := Reps.one r1
        have q3 := allD_eq q2
        subst q3
        cases e
        cases hT : asT t with
        | none =>
          have q' : asL cs' t = some (ds.map .d) := by unfold asQ at q; rw [hT] at q; exact q
          obtain ⟨b, ws, rfl, h1, h2⟩ := S1.asL r2 q'
          exact ⟨b, ws, rfl, .inl ⟨h1, k φ1 Z1 H1 _ x1 S1 (walk_enumL S1 r2 q' hT)⟩⟩
        | some es =>
          have q' : es = ds := by
            unfold asQ at q; rw [hT] at q
            have : some (es.map T.d) = some (ds.map T.d) := q
            have := congrArg allD (Option.some.inj this)
            rw [allD_map, allD_map] at this
            exact Option.some.inj this
          subst q'
          obtain ⟨b, ws, rfl, _, h1, h2⟩ := S1.asT r2 hT
          exact ⟨b, ws, rfl, .inr ⟨h1, k φ1 Z1 H1 _ x1 S1 (walk_enumT S1 r2 hT)⟩⟩
      · cases e
    · cases e
  · cases e
end
end Y
end
section
set_option Elab.async false
set_option linter.all false
set_option maxRecDepth 100000
set_option maxHeartbeats 1000000
/-! Promises where it is known that no printing is under way. -/
namespace YG
open PySem PySem.Spec PyProof.Rows L2
/-- room, and no object is being printed -/
structure RoomG (k : Nat) (A : Around) : Prop where
  r : Room k A
  gd : A.guards = some []
theorem RoomG.mono {j k : Nat} {A : Around} (r : RoomG k A) (h : j ≤ k) : RoomG j A := ⟨r.r.mono h, r.gd⟩
theorem RoomG.deeper {k : Nat} {A : Around} (r : RoomG (k + 1) A) (env : Env) : RoomG k (A.deeper env) := ⟨r.r.deeper env, r.gd⟩
theorem make_guards {A : Around} {C : Addr} {us : List Value} {kw : List (Str × Value)} : (A.under (.builtin "type.__call__" ⟨.ref C :: us, kw⟩)).guards = A.guards := by
  have h : (Code.builtin "type.__call__" ⟨.ref C :: us, kw⟩).guards = [] := by
    unfold Code.guards
    rw [show (Code.builtin "type.__call__" ⟨.ref C :: us, kw⟩).isGuard = false from by show guardIds.contains "type.__call__" = false; decide +kernel]
    rfl
  show pushGuards (Code.builtin "type.__call__" ⟨.ref C :: us, kw⟩).guards A.guards = A.guards
  rw [h]
  rfl
theorem RoomG.make {k : Nat} {A : Around} (r : RoomG (k + 1) A) (C : Addr) (us : List Value) (kw : List (Str × Value)) : RoomG k (A.under (.builtin "type.__call__" ⟨.ref C :: us, kw⟩)) := ⟨r.r.make C us kw, by rw [make_guards]; exact r.gd⟩
/-- a def's promise, asked only there -/
structure FnG (P : Program) (w : World) (K : PySem.W.Frag) (mg : Str → Option Value) (base : Heap) (k : Nat) (f : Addr) (fd : FuncData) (ps : List Str) (sp : Sp) : Prop where
  len : ∀ vs H Q E, sp vs H Q E → vs.length = ps.length
  run : ∀ (A : Around) (outer : List Env) (s : Shared) (H : Hp) (args : Args) (us : List Value) (vs : List V) (Q : VK) (E : XK), RoomG k A → Env0 P w K mg base A outer s H → BindsTo s fd args (ps.zip us) → Vals vs us → sp vs H Q E →
    codeAny (model P w) A (.call (.ref f) args) (CR CX0 outer P w H s Q E) s
section
variable {X : Cx} {k : Nat} {f C : Addr} {fd : FuncData} {ps : List Str} {sp : Sp} {dvs : List V} {ds : List Value} {x m : Str} {p pos apos : Pos} {e o : Expr} {es : List Expr} {ta : TE} {t : TA} {pins : List (Addr × Obj)} {σ : L2.St} {H : Hp} {s : Shared} {Q : VK} {us ws : List Value} {vs zs : List V}
theorem code_fn {args : Args} (F : FnG X.prog X.w X.K X.mg X.base k f fd ps sp) (hr : RoomG k X.A) (I : Inv X pins σ H s) (hb : BindsTo s fd args (ps.zip us)) (r : Vals vs us) (h : sp vs H Q E0) :
    codeAny (model X.prog X.w) X.A (.call (.ref f) args) (fun r s' => match r with | .ok (.ret v) => EP X pins σ Q v s' | .ok _ => False | .error e => X.xe e s') s :=
  codeAny_mono (F.run X.A X.stack s H args us vs Q E0 hr I.env0 hb r h) fun r s' hq => by
    cases r with
    | error e => exact hq.elim
    | ok fl => cases fl with
      | ret u => exact I.after hq
      | next => exact False.elim hq
      | brk => exact False.elim hq
      | cont => exact False.elim hq
theorem run_fn (F : FnG X.prog X.w X.K X.mg X.base k f fd ps sp) (hr : RoomG k X.A) (hb : L2.Binds X.K fd ps ds) (hd : Vals dvs ds) (I : Inv X pins σ H s) (r : Vals vs us) (h : sp (vs ++ dvs) H Q E0) : wpAny (model X.prog X.w) X.A (call (.ref f) us) (EP X pins σ Q) X.xe s := by
  have r2 : Vals (vs ++ dvs) (us ++ ds) := r.append hd
  have hl : (us ++ ds).length = ps.length := by rw [← r2.length]; exact F.len _ _ _ _ h
  exact wpAny_call (code_fn F hr I (hb s us I.kIn hl) r2 h)
theorem run_fnk {ks : List Str} {g : List Value → List Value → List Value} {gV : List V → List V → List V} (F : FnG X.prog X.w X.K X.mg X.base k f fd ps sp) (hr : RoomG k X.A) (hb : KBinds X.K fd ps ks g gV) (I : Inv X pins σ H s) (r : Vals vs us) (rz : Vals zs ws) (h : sp (gV vs zs) H Q E0) :
    wpAny (model X.prog X.w) X.A (call (.ref f) us (ks.zip ws)) (EP X pins σ Q) X.xe s := by
  have r2 := hb.rel r rz
  have hl : (g us ws).length = ps.length := by rw [← r2.length]; exact F.len _ _ _ _ h
  exact wpAny_call (code_fn F hr I (hb.to s us ws I.kIn hl) r2 h)
theorem pe_call (F : FnG X.prog X.w X.K X.mg X.base k f fd ps sp) (hr : RoomG k X.A) (hg : Gl X x) (hm : X.mg x = some (.ref f)) (hk : PySem.W.keepIn X.K (.ref f) = true) (hb : L2.Binds X.K fd ps ds) (hd : Vals dvs ds)
    (ha : PA X (e :: es) t) (hdb : (x == ("__debug__" : Str)) = false := by decide +kernel) (he : starEach (e :: es) X.env = (false, eval e X.env) :: starEach es X.env := by rfl) (hpl : (backTo pos (starEach es X.env)).any (·.1) = false := by rfl) :
    PE X (.Call (.Name x p) (e :: es) [] pos) (tCall sp dvs E0 t) := by
  refine ⟨fun pins s σ H Q I h => ?_⟩
  refine wpAny_Call_Name_kw (ld_glob I hg hm ?_ hdb)
  refine PySem.W.callWith_K (h₀ := X.base) I.ok.mod.kin hk (thn (ha.run pos pins s σ H _ I h) fun us s1 ⟨vs, H1, I1, r, q⟩ => ⟨I1.kIn, ?_⟩) he hpl
  exact run_fn F hr hb hd I1 r q
theorem pe_call0 (F : FnG X.prog X.w X.K X.mg X.base k f fd ps sp) (hr : RoomG k X.A) (hg : Gl X x) (hm : X.mg x = some (.ref f)) (hk : PySem.W.keepIn X.K (.ref f) = true) (hb : L2.Binds X.K fd ps ds) (hd : Vals dvs ds)
    (hdb : (x == ("__debug__" : Str)) = false := by decide +kernel) : PE X (.Call (.Name x p) [] [] pos) (tCall sp dvs E0 tNil) := by
  refine ⟨fun pins s σ H Q I h => ?_⟩
  refine wpAny_Call_Name_kw (ld_glob I hg hm ?_ hdb)
  exact PySem.W.callWith_K0 I.kIn hk (run_fn (us := []) F hr hb hd I .nil h)
/-- f(k = v, ..), no positional values -/
theorem pe_callK0 {ks : List Str} {kws : List Keyword} {tk : TA} {g : List Value → List Value → List Value} {gV : List V → List V → List V} (F : FnG X.prog X.w X.K X.mg X.base k f fd ps sp) (hr : RoomG k X.A) (hg : Gl X x) (hm : X.mg x = some (.ref f)) (hk : PySem.W.keepIn X.K (.ref f) = true) (hb : KBinds X.K fd ps ks g gV)
    (hkw : PK X kws tk) (hall : (backToKw pos (keywordEach kws X.env)).all (·.1.isSome) = true := by rfl) (hks : (backToKw pos (keywordEach kws X.env)).filterMap (·.1) = ks := by rfl)
    (hdb : (x == ("__debug__" : Str)) = false := by decide +kernel) (hpl : ((backTo pos (starEach [] X.env)).any (·.1) || (backToKw pos (keywordEach kws X.env)).any (·.1.isNone)) = false := by rfl) :
    PE X (.Call (.Name x p) [] kws pos) (tCallK sp gV E0 tNil tk) := by
  refine ⟨fun pins s σ H Q I h => ?_⟩
  refine wpAny_Call_Name_kw (ld_glob I hg hm ?_ hdb)
  refine PySem.W.callWith_KW0 (h₀ := X.base) I.ok.mod.kin hk hall ?_ hpl
  refine thn (hkw.run pos pins s σ H _ I h) fun ws s2 ⟨zs, H2, I2, rz, q2⟩ => ⟨I2.kIn, ?_⟩
  rw [hks]
  exact run_fnk (us := []) F hr hb I2 .nil rz q2
theorem pe_callK {ks : List Str} {kws : List Keyword} {tk : TA} {g : List Value → List Value → List Value} {gV : List V → List V → List V} (F : FnG X.prog X.w X.K X.mg X.base k f fd ps sp) (hr : RoomG k X.A) (hg : Gl X x) (hm : X.mg x = some (.ref f)) (hk : PySem.W.keepIn X.K (.ref f) = true) (hb : KBinds X.K fd ps ks g gV)
    (ha : PA X (e :: es) t) (hkw : PK X kws tk) (hall : (backToKw pos (keywordEach kws X.env)).all (·.1.isSome) = true := by rfl) (hks : (backToKw pos (keywordEach kws X.env)).filterMap (·.1) = ks := by rfl)
    (hdb : (x == ("__debug__" : Str)) = false := by decide +kernel) (he : starEach (e :: es) X.env = (false, eval e X.env) :: starEach es X.env := by rfl)
    (hpl : ((backTo pos (starEach (e :: es) X.env)).any (·.1) || (backToKw pos (keywordEach kws X.env)).any (·.1.isNone)) = false := by rfl) : PE X (.Call (.Name x p) (e :: es) kws pos) (tCallK sp gV E0 t tk) := by
  refine ⟨fun pins s σ H Q I h => ?_⟩
  refine wpAny_Call_Name_kw (ld_glob I hg hm ?_ hdb)
  refine PySem.W.callWith_KW (h₀ := X.base) I.ok.mod.kin hk hall (thn (ha.run pos pins s σ H _ I h) fun us s1 ⟨vs, H1, I1, r, q⟩ => ?_) hpl he
  refine thn (hkw.run pos pins s1 σ H1 _ I1 q) fun ws s2 ⟨zs, H2, I2, rz, q2⟩ => ⟨I2.kIn, ?_⟩
  rw [hks]
  exact run_fnk F hr hb I2 r rz q2
theorem pe_meth {pl : Sem Bool} (he : PE X o ta) (c : Cls X.K C) (hm : Meth X.K C m f) (F : FnG X.prog X.w X.K X.mg X.base k f fd ps sp) (hr : RoomG k X.A) (hb : L2.Binds X.K fd ps ds) (hd : Vals dvs ds) (ha : PA X (e :: es) t)
    (hst : starEach (e :: es) X.env = (false, eval e X.env) :: starEach es X.env := by rfl) (hpl : (backTo pos (starEach es X.env)).any (·.1) = false := by rfl)
    (ht : eval (.Call (.Attribute o m apos) (e :: es) [] pos) X.env = (do
      let ov ← eval o X.env
      standAt apos.atName
      let (f, first) ← holding [ov] (getMethod ov m pl)
      callWith pos f first (backTo pos (starEach (e :: es) X.env)) (backToKw pos (keywordEach [] X.env))) := by rfl) :
    PE X (.Call (.Attribute o m apos) (e :: es) [] pos) (tMeth C m sp dvs E0 ta t) := by
  refine ⟨fun pins s σ H Q I h => ?_⟩
  refine PySem.W.methodCall_KW (pl := pl) (thn (he.run pins s σ H _ I h) fun u s1 ⟨x, H1, I1, rx, a, dx, fs, ex, ea, l, q⟩ => ?_) ht
  subst ex
  obtain rfl : u = Value.ref a := rx
  refine getmeth_ok I1 ea c hm l ?_
  refine PySem.W.callWith_K (first := [.ref a]) (h₀ := X.base) I.ok.mod.kin hm.kp (thn (ha.run pos pins s1 σ H1 _ I1 q) fun us s2 ⟨vs, H2, I2, r, q2⟩ => ⟨I2.kIn, ?_⟩) hst hpl
  exact run_fn (us := .ref a :: us) (vs := .ref a :: vs) F hr hb hd I2 (.cons rfl r) q2
theorem pe_meth0 {pl : Sem Bool} (he : PE X o ta) (c : Cls X.K C) (hm : Meth X.K C m f) (F : FnG X.prog X.w X.K X.mg X.base k f fd ps sp) (hr : RoomG k X.A) (hb : L2.Binds X.K fd ps ds) (hd : Vals dvs ds)
    (ht : eval (.Call (.Attribute o m apos) [] [] pos) X.env = (do
      let ov ← eval o X.env
      standAt apos.atName
      let (f, first) ← holding [ov] (getMethod ov m pl)
      callWith pos f first (backTo pos (starEach [] X.env)) (backToKw pos (keywordEach [] X.env))) := by rfl) :
    PE X (.Call (.Attribute o m apos) [] [] pos) (tMeth C m sp dvs E0 ta tNil) := by
  refine ⟨fun pins s σ H Q I h => ?_⟩
  refine PySem.W.methodCall_KW (pl := pl) (thn (he.run pins s σ H _ I h) fun u s1 ⟨x, H1, I1, rx, a, dx, fs, ex, ea, l, q⟩ => ?_) ht
  subst ex
  obtain rfl : u = Value.ref a := rx
  refine getmeth_ok I1 ea c hm l ?_
  exact PySem.W.callWith_K0 (first := [.ref a]) I1.kIn hm.kp (run_fn (us := [.ref a]) (vs := [.ref a]) F hr hb hd I1 (.cons rfl .nil) q)
theorem run_make (M : Mk X.K C f) (F : FnG X.prog X.w X.K X.mg X.base k f fd ps sp) (hr : RoomG (k + 1) X.A) (hb : L2.Binds X.K fd ps ds) (hd : Vals dvs ds) (I : Inv X pins σ H s) (r : Vals vs us)
    (h : ∀ x dx, H x = none → H dx = none → dx ≠ x → sp (.ref x :: (vs ++ dvs)) (upd (upd H dx (.own x)) x (.ins C dx [])) (fun v H2 => v = .non ∧ Q (.ref x) H2) E0) :
    wpAny (model X.prog X.w) X.A (call (.ref C) us) (EP X pins σ Q) X.xe s := by
  have hq := h (s.heap.objs.size + 1) s.heap.objs.size (I.hok.fresh (Nat.le_succ _)) (I.hok.fresh (Nat.le_refl _)) (Nat.ne_of_lt (Nat.lt_succ_self _))
  have I2 := Inv.made (C := C) I
  have r2 : Vals (V.ref (s.heap.objs.size + 1) :: (vs ++ dvs)) (Value.ref (s.heap.objs.size + 1) :: (us ++ ds)) := .cons rfl (r.append hd)
  have hl : (Value.ref (s.heap.objs.size + 1) :: us ++ ds).length = ps.length := by
    have e := r2.length
    rw [F.len _ _ _ _ hq] at e
    exact e.symm
  refine wpAny_call (make_map (f := f) I.kIn M.makes M.init (beq_iff_eq.mp M.fn) (codeAny_mono (F.run _ X.stack _ _ ⟨Value.ref (s.heap.objs.size + 1) :: us, []⟩ (Value.ref (s.heap.objs.size + 1) :: (us ++ ds)) _ _ E0 (hr.make C us [])
    (I2.env0.make C us []) (hb _ (Value.ref (s.heap.objs.size + 1) :: us) I2.kIn hl) r2 hq) fun r s' hq' => ?_))
  cases r with
  | error e => exact hq'.elim
  | ok fl =>
    cases fl with
    | ret u =>
      obtain ⟨v, H', I3, rv, ev, q3⟩ := I2.after hq'
      subst ev
      exact ⟨rv, ⟨V.ref (s.heap.objs.size + 1), H', I3, rfl, q3⟩⟩
    | next => exact False.elim hq'
    | brk => exact False.elim hq'
    | cont => exact False.elim hq'
theorem pe_make (M : Mk X.K C f) (F : FnG X.prog X.w X.K X.mg X.base k f fd ps sp) (hr : RoomG (k + 1) X.A) (hg : Gl X x) (hm : X.mg x = some (.ref C)) (hb : L2.Binds X.K fd ps ds) (hd : Vals dvs ds)
    (ha : PA X (e :: es) t) (hdb : (x == ("__debug__" : Str)) = false := by decide +kernel) (he : starEach (e :: es) X.env = (false, eval e X.env) :: starEach es X.env := by rfl) (hpl : (backTo pos (starEach es X.env)).any (·.1) = false := by rfl) :
    PE X (.Call (.Name x p) (e :: es) [] pos) (tMake C sp dvs E0 t) := by
  refine ⟨fun pins s σ H Q I h => ?_⟩
  refine wpAny_Call_Name_kw (ld_glob I hg hm ?_ hdb)
  refine PySem.W.callWith_K (h₀ := X.base) I.ok.mod.kin M.kp (thn (ha.run pos pins s σ H _ I h) fun us s1 ⟨vs, H1, I1, r, q⟩ => ⟨I1.kIn, ?_⟩) he hpl
  exact run_make M F hr hb hd I1 r q
theorem pe_make0 (M : Mk X.K C f) (F : FnG X.prog X.w X.K X.mg X.base k f fd ps sp) (hr : RoomG (k + 1) X.A) (hg : Gl X x) (hm : X.mg x = some (.ref C)) (hb : L2.Binds X.K fd ps ds) (hd : Vals dvs ds)
    (hdb : (x == ("__debug__" : Str)) = false := by decide +kernel) : PE X (.Call (.Name x p) [] [] pos) (tMake C sp dvs E0 tNil) := by
  refine ⟨fun pins s σ H Q I h => ?_⟩
  refine wpAny_Call_Name_kw (ld_glob I hg hm ?_ hdb)
  exact PySem.W.callWith_K0 I.kIn M.kp (run_make (us := []) M F hr hb hd I .nil h)
end
/-- a def by its body -/
theorem fn_of {P : Program} {w : World} {K : PySem.W.Frag} {mg : Str → Option Value} {base : Heap} {k : Nat} {f : Addr} {name qual : Str} {params : Arguments} {body : List Stmt} {scope : Scope} {dvs : List V} {kws : List (Str × V)} {fd : FuncData}
    {N ps : List Str} {sp : Sp} (Fd : FunD K name qual params body scope dvs kws f fd) (S : FnScope N ps scope) (len : ∀ vs H Q E, sp vs H Q E → vs.length = ps.length)
    (hbody : ∀ (cdv : Value) (A : Around) (outer : List Env) (s : Shared) (H : Hp) (vs : List V) (Q : VK) (E : XK), RoomG k (A.deeper (envOfC qual scope s.heap.objs.size f cdv)) → sp vs H Q E →
      ∃ t, PSs (cxOf CX0 P w K mg base N qual scope f cdv A outer s H E) body t ∧ t { nx := fun _ H' => Q .non H', rt := Q } (L2.start N vs) H) :
    FnG P w K mg base (k + 1) f fd ps sp := by
  obtain ⟨oc, od, dV, kV, doc, pm, an, cdv, ct, osl, rfl, lk, hcd, _, _⟩ := Fd.ex
  refine ⟨len, fun A outer s H args us vs Q E hr e0 hb r hsp => ?_⟩
  have hl := len _ _ _ _ hsp
  have KX : K.In s.heap := e0.mod.kin.keeps fun b o e => (e0.bs b o e).1
  have lim : s.heap.NoLimit := e0.mod.nolimit.keeps fun b o e => (e0.bs b o e).1
  have hkind : ∀ y ∈ ps.zip us, scope.names.lookup y.1 = some .local ∨ (scope.names.lookup y.1 = some .cell ∧ ((cellsFrom (s.heap.objs.size + 1) scope.names []).lookup y.1).isSome = true) := fun ⟨n, v⟩ hy => by
    rcases S.par n (List.of_mem_zip hy).1 with q | q
    · exact .inl q
    · exact .inr ⟨q, PySem.W.cellsFrom_some _ _ _ (.inl q)⟩
  refine codeAny_call_function hr.r.depth (KX _ _ lk) rfl S.co S.gen rfl (PySem.W.codeRec_of KX hcd) (hb _ _ _ _ ?_)
  refine wpAny_newFunctionEnv_cells S.kind hkind fun env he s1 x => ?_
  subst he
  refine ⟨lim.keeps x.toInCall.keep, codeAny_func ?_⟩
  obtain ⟨t, ht, hq⟩ := hbody cdv A outer s H vs Q E (hr.deeper _) hsp
  have I : Inv (cxOf CX0 P w K mg base N qual scope f cdv A outer s H E) [] (L2.start N vs) H s1 := inv_start S hr.r.hd e0 hl r x
  refine wpAny_mono (ht.run [] s1 (L2.start N vs) H _ I hq) (fun fl s' hs => ?_) fun e s' hs => hs
  have fin : ∀ {σ' : L2.St} {H' : Hp} {v : V} {u : Value}, Inv (cxOf CX0 P w K mg base N qual scope f cdv A outer s H E) [] σ' H' s' → RelV v u → Q v H' → CE outer P w H s Q u s' :=
    fun {σ' H' v u} J rv q => ⟨v, H', J.os, J.bare, J.base, J.hok, rv, q⟩
  cases fl with
  | ret u =>
    obtain ⟨v, σ', H', J, rv, q⟩ := hs
    exact fin J rv q
  | next =>
    obtain ⟨σ', H', J, q⟩ := hs
    exact fin (v := V.non) (u := Value.none) J rfl q
  | brk =>
    obtain ⟨_, _, _, q⟩ := hs
    exact False.elim q
  | cont =>
    obtain ⟨_, _, _, q⟩ := hs
    exact False.elim q
/-- an FnOk that holds at one place gives the law's end: the promise is asked at the law's caller alone -/
theorem law_call {P : Program} {w : World} {K : PySem.W.Frag} {mg mb : Str → Option Value} {k : Nat} {fa a : Addr} {fd : FuncData} {x : Str} {sp : Sp} {s₁ : Shared} {vs : List Value} {ns : List Int}
    (KX : K.In s₁.heap) (hns : s₁.heap.Ns mainGlobals mg) (hb : s₁.heap.Ns builtinsNs mb) (hbb : ∀ x : Str, x ≠ "__name__" → mb x = bootBuiltins x) (hlim : s₁.heap.NoLimit) (hg : s₁.gens = #[])
    (ha : s₁.heap.get? a = some { cls := .type "list", data := .seq vs.toArray }) (hi : IntsAre vs ns) (hl : ns.length ≤ sizeLine) (hr : RoomG k callerA)
    (F : ∀ base : Heap, K.In base → base.Ns mainGlobals mg → FnG P w K mg base k fa fd [x] sp) (hbind : ∀ (s : Shared) (u : Value), BindsTo s fd ⟨[u], []⟩ [(x, u)])
    (hsp : ∀ H : Hp, Only H → SqL K H a (ns.map V.int) → sp [.ref a] H (fun v _ => v = .bl true) fun _ _ _ => False) :
    codeAny (model P w) callerA (.call (.ref fa) ⟨[.ref a], []⟩) (fun r s' => r = .ok (.ret (.bool true)) ∧ PySem.OldK s₁.heap s'.heap ∧ s'.os = s₁.os ∧ AllBare s'.gens) s₁ := by
  have rv := vals_ints hi
  have lenV := hi.length
  have core : ∀ H : Hp, Only H → SqL K H a (ns.map V.int) → HOk P w H s₁.heap → (∀ b, H b ≠ none → b = a) → (H a ≠ none → K.lookup a = none) →
      codeAny (model P w) callerA (.call (.ref fa) ⟨[.ref a], []⟩) (fun r s' => r = .ok (.ret (.bool true)) ∧ PySem.OldK s₁.heap s'.heap ∧ s'.os = s₁.os ∧ AllBare s'.gens) s₁ := by
    intro H hO hS hok hA hK
    have base_of : ∀ {b : Addr} {o : Obj}, s₁.heap.get? b = some o → H b = none → (hidT s₁.heap H).get? b = some o := fun e n => hidT_get e n
    have noA : ∀ {b : Addr} {o : Obj} {es : Array DictEntry} {ep : Nat}, s₁.heap.get? b = some o → o.data = .dict es ep → H b = none := fun {b o es ep} e d => by
      cases q : H b with
      | none => rfl
      | some u =>
        have e' : b = a := hA b (by rw [q]; simp)
        subst e'
        rw [ha] at e; cases e
        have d' : Data.seq vs.toArray _ = Data.dict es ep := d
        cases d'
    have nsK : ∀ {b : Addr} {m : Str → Option Value}, s₁.heap.Ns b m → (hidT s₁.heap H).Ns b m := fun {b m} ⟨o, es, ep, e, d, r⟩ => ⟨o, es, ep, base_of e (noA e d), d, r⟩
    have hKb : K.In (hidT s₁.heap H) := fun b o e => base_of (KX b o e) (by
      cases q : H b with
      | none => rfl
      | some u =>
        have e' : b = a := hA b (by rw [q]; simp)
        subst e'
        rw [hK (by rw [q]; simp)] at e; cases e)
    have hM : Mod K mg (hidT s₁.heap H) := ⟨hKb, nsK hns, ⟨mb, nsK hb, hbb⟩, let ⟨mc, h1, h2⟩ := hlim; ⟨mc, nsK h1, h2⟩⟩
    have e0 : Env0 P w K mg (hidT s₁.heap H) callerA [] s₁ H := ⟨rfl, hM, fun b o e => of_hidT e, Nat.le_of_eq (hidT_size _ _), trivial, fun b hb => absurd (show b ∈ ([] : List Addr) from hb) (by simp), hok, .of_eq hg⟩
    refine codeAny_mono ((F _ hKb (nsK hns)).run callerA [] s₁ H ⟨[.ref a], []⟩ [.ref a] [.ref a] _ _ hr e0 (hbind s₁ (.ref a)) (.cons rfl .nil) (hsp H hO hS)) fun r s' h => ?_
    cases r with
    | error e => exact (show False from h).elim
    | ok fl =>
      cases fl with
      | next => exact False.elim h
      | brk => exact False.elim h
      | cont => exact False.elim h
      | ret u =>
        obtain ⟨v, H', os, bare, un, hok', r', q⟩ := h
        have q' : v = .bl true := q
        subst q'
        obtain rfl : u = Value.bool true := r'
        refine ⟨rfl, PySem.OldK.of_keep fun b o e => ?_, os, bare⟩
        cases q : H b with
        | none => exact un.keep b o e q (by intro z; exact absurd (show b ∈ ([] : List Addr) from z) (by simp)) (by simp)
        | some u =>
          rcases hO b with z | ⟨ob, xs, z⟩
          · rw [q] at z; cases z
          · have z2 := un.frzs b ob _ z
            obtain ⟨e1, _⟩ := hok b _ z
            obtain ⟨e2, _⟩ := hok' b _ z2
            rw [e] at e1; cases e1
            exact e2
  cases hk : K.lookup a with
  | some o =>
    have e := KX a o hk
    rw [ha] at e
    cases e
    refine core (fun _ => none) (fun _ => .inl rfl) (.inr ⟨_, vs.toArray, _, hk, rfl, rfl, rfl, by rw [List.size_toArray, lenV]; exact hl, by simpa using rv⟩) (fun b u z => by have z' : (none : Option HO) = some u := z; cases z') (fun b z => absurd rfl z) fun z => absurd rfl z
  | none =>
    refine core (fun b => if b = a then some (.frz { cls := .type "list", data := .seq vs.toArray } (.lst (ns.map V.int))) else none) (fun b => ?_) (.inl (.inr ⟨{ cls := .type "list", data := .seq vs.toArray }, if_pos rfl⟩)) (fun b u z => ?_) (fun b z => ?_) fun _ => hk
    · by_cases hb : b = a
      · exact .inr ⟨_, _, if_pos hb⟩
      · exact .inl (if_neg hb)
    · by_cases hb : b = a
      · have z' := (if_pos hb).symm.trans z
        cases z'
        subst hb
        exact ⟨ha, by rw [List.length_map]; exact hl, vs, _, rv, ha⟩
      · have z' := (if_neg hb).symm.trans z
        cases z'
    · by_cases hb : b = a
      · exact hb
      · exact absurd (if_neg hb) z
theorem walk_of {l : PySem.W.OpenLaw} {n k : Nat} {q : Program} {loose : List Str} {XP : (Str → Option Value) → Heap → Prop} {YP : World → Heap → Prop} {d : DefRec} {x : Str}
    (hn : l.most = some n) (hn2 : n ≤ sizeLine) (hdf : d.params.defaults = []) (hr : RoomG k callerA)
    (F : ∀ (w : World) (mg : Str → Option Value) (fa : Addr) (h : Heap), YP w h → h.Ns mainGlobals mg → mg d.name = some (.ref fa) →
      ∃ (K : PySem.W.Frag) (fd : FuncData) (sp : Sp), K.In h ∧ (∀ (s : Shared) (u : Value), BindsTo s fd ⟨[u], []⟩ [(x, u)]) ∧
        (∀ (H : Hp) (a : Addr) (ns : List Int), ns.length ≤ n → Only H → SqL K H a (ns.map V.int) → sp [.ref a] H (fun v _ => v = .bl true) fun _ _ _ => False) ∧
        ∀ base : Heap, K.In base → base.Ns mainGlobals mg → FnG l.prog w K mg base k fa fd [x] sp) :
    PySem.W.WalkO q loose XP YP l.row.toRowW d [] (fun f vs => PySem.call f vs) := by
  refine Att.attach_call hn hdf fun w s₀ s₁ mg mb fa o pm cd doc a vs ns G Y ho hd hcd hmg hobj hints hlen hg => ?_
  obtain ⟨K, fd, sp, KX, hb, hsp, hF⟩ := F w mg fa _ Y G.T.g hmg
  exact law_call KX G.T.g G.T.b G.T.builtins G.T.nolimit hg hobj hints (Nat.le_trans hlen hn2) hr hF hb (fun H hO hS => hsp H a ns hlen hO hS)
end YG
end
section
set_option Elab.async false
set_option linter.all false
set_option maxRecDepth 100000
set_option maxHeartbeats 1000000
namespace Y
open PySem PySem.Spec L2 PyProof.Rows
/-! ### functions -/
abbrev FF := List T → Cs → R T
def isData : T → Bool
  | .d _ => true
  | .scr _ => true
  | .kd _ => true
  | .fn _ => true
  | _ => false
def ltT (n : Nat) : T → Bool
  | .ref m => decide (m < n)
  | .met m _ => decide (m < n)
  | .clo _ vs => vs.isEmpty
  | _ => true
def ltC (n : Nat) : Cell → Bool
  | .lst xs => xs.all (ltT n)
  | .dk kvs => kvs.all fun p => ltT n p.2
  | .dt kvs => kvs.all fun p => ltT n p.2
  | .ins _ fs => fs.all fun p => ltT n p.2
  | .exn _ fs => fs.all fun p => ltT n p.2
  | .dead => true
open Classical in
/-- what a call leaves: cells of its own that nobody can reach are gone -/
noncomputable def leaveT (cs : Cs) : R T → R T
  | .ok t c => if isData t = true ∧ (c.take cs.length = cs ∨ (c.take cs.length).all (ltC cs.length) = true) then .ok t (c.take cs.length) else .ok t c
  | .stuck => .stuck
def endF : RS → R T
  | .rt t cs => .ok t cs
  | .nx _ cs => .ok (.d .none) cs
  | _ => .stuck
def startR (N : Nat) (ts : List T) : Rho := ts.map some ++ List.replicate (N - ts.length) none
noncomputable def fnF (N n : Nat) (body : SF) : FF := fun ts cs => if ts.length = n then leaveT cs (endF (body (startR N ts) cs)) else .stuck
section
variable {W : Wd} {K : PySem.W.Frag} {φ φ' : List Addr} {Z Z' H H' : Hp} {cs c : Cs}
theorem Rep.lt {t : T} {v : V} (r : Rep W K φ Z t v) : ltT φ.length t = true := by
  cases r with
  | ref h => exact decide_eq_true (List.getElem?_eq_some_iff.mp h).1
  | met h _ => exact decide_eq_true (List.getElem?_eq_some_iff.mp h).1
  | _ => rfl
theorem Reps.lt : ∀ {ts : List T} {vs : List V}, Reps W K φ Z ts vs → ts.all (ltT φ.length) = true
  | _, _, .nil => rfl
  | _, _, .cons h t => by rw [List.all_cons, Rep.lt h, Reps.lt t]; rfl
theorem RepKV.lt {κ : Type} : ∀ {ts : List (κ × T)} {vs : List (κ × V)}, RepKV W K φ Z ts vs → (ts.all fun p => ltT φ.length p.2) = true
  | _, _, .nil => rfl
  | _, _, .cons h t => by rw [List.all_cons, Rep.lt h.2, RepKV.lt t]; rfl
theorem CellAt.lt {a : Addr} {x : Cell} (h : CellAt W K φ Z H a x) : ltC φ.length x = true := by
  cases x with
  | lst xs => obtain ⟨_, vs, _, r⟩ := h; exact Reps.lt r
  | dk xs => obtain ⟨_, vs, _, r⟩ := h; exact RepKV.lt r
  | dt xs => obtain ⟨_, vs, _, r⟩ := h; exact RepKV.lt r
  | ins c xs => obtain ⟨_, dx, vs, _, r⟩ := h; exact RepKV.lt r
  | exn c xs => obtain ⟨_, vs, _, _, r⟩ := h; exact RepKV.lt r
  | dead => rfl
theorem Sim.lt (S : Sim W K φ Z cs H) : cs.all (ltC cs.length) = true := by
  rw [List.all_eq_true]
  intro x hx
  obtain ⟨n, hn, rfl⟩ := List.mem_iff_getElem.mp hx
  have hl := S.len
  have h := S.cell n cs[n] (φ[n]'(by omega)) (by simp) (by simp)
  have := CellAt.lt h
  rw [hl] at this
  exact this
theorem Rep.cut {t : T} {v : V} {n : Nat} (r : Rep W K φ Z t v) (h : ltT n t = true) : Rep W K (φ.take n) Z t v := by
  cases r with
  | d q => exact .d q
  | scr q => exact .scr q
  | ref e =>
    have hn := of_decide_eq_true h
    exact .ref (by rw [List.getElem?_take_of_lt hn]; exact e)
  | kd i => exact .kd i
  | fn i => exact .fn i
  | met e e2 =>
    have hn := of_decide_eq_true h
    exact .met (by rw [List.getElem?_take_of_lt hn]; exact e) e2
  | clo e e2 => exact .clo e e2
  | exc h2 => exact .exc h2
theorem Reps.cut {n : Nat} : ∀ {ts : List T} {vs : List V}, Reps W K φ Z ts vs → ts.all (ltT n) = true → Reps W K (φ.take n) Z ts vs
  | _, _, .nil, _ => .nil
  | _, _, .cons h t, e => by
    rw [List.all_cons, Bool.and_eq_true] at e
    exact .cons (h.cut e.1) (Reps.cut t e.2)
theorem RepKV.cut {κ : Type} {n : Nat} : ∀ {ts : List (κ × T)} {vs : List (κ × V)}, RepKV W K φ Z ts vs → (ts.all fun p => ltT n p.2) = true → RepKV W K (φ.take n) Z ts vs
  | _, _, .nil, _ => .nil
  | _, _, .cons h t, e => by
    rw [List.all_cons, Bool.and_eq_true] at e
    exact .cons ⟨h.1, h.2.cut e.1⟩ (RepKV.cut t e.2)
theorem CellAt.cut {a : Addr} {x : Cell} {n : Nat} (h : CellAt W K φ Z H a x) (e : ltC n x = true) : CellAt W K (φ.take n) Z H a x := by
  cases x with
  | lst xs => obtain ⟨z, vs, e1, r⟩ := h; exact ⟨z, vs, e1, Reps.cut r e⟩
  | dk xs => obtain ⟨z, vs, e1, r⟩ := h; exact ⟨z, vs, e1, RepKV.cut r e⟩
  | dt xs => obtain ⟨z, vs, e1, r⟩ := h; exact ⟨z, vs, e1, RepKV.cut r e⟩
  | ins c xs => obtain ⟨z, dx, vs, e1, r⟩ := h; exact ⟨z, dx, vs, e1, RepKV.cut r e⟩
  | exn c xs => obtain ⟨od, vs, e1, q, r⟩ := h; exact ⟨od, vs, e1, q, RepKV.cut r e⟩
  | dead => trivial
theorem Sim.cut (S : Sim W K φ Z c H) {n : Nat} (h : (c.take n).all (ltC n) = true) : Sim W K (φ.take n) Z (c.take n) H := by
  refine ⟨S.sub, by simp [S.len], S.nd.sublist (List.take_sublist _ _), fun a ha => S.there a (List.mem_of_mem_take ha), fun m x a h1 h2 => ?_, S.tb⟩
  have hm : m < n := by
    have := (List.getElem?_eq_some_iff.mp h1).1
    simp at this; omega
  have hx := List.all_eq_true.mp h x (List.mem_of_getElem? h1)
  rw [List.getElem?_take_of_lt hm] at h1 h2
  exact (S.cell m x a h1 h2).cut hx
theorem Ext.cut (x : Ext φ Z H φ' Z' H') {n : Nat} (h : φ.length = n) : φ'.take n = φ ∧ Ext φ Z H φ Z' H' := by
  refine ⟨?_, ⟨List.prefix_refl _, x.zsub, x.znew, x.frame, fun a h => .inl h⟩⟩
  obtain ⟨t, rfl⟩ := x.pre
  subst h
  simp
theorem leave_keep {t : T} {c1 : Cs} {φ' : List Addr} {Z' H' : Hp} {v : V} {r : R T} (S : Sim W K φ Z cs H) (x : Ext φ Z H φ' Z' H') (S' : Sim W K φ' Z' c1 H') (r' : Rep W K φ' Z' t v) (e : r = .ok t c1) :
    ∃ t' c' φ2, leaveT cs r = .ok t' c' ∧ Ext φ Z H φ2 Z' H' ∧ Sim W K φ2 Z' c' H' ∧ Rep W K φ2 Z' t' v := by
  subst e
  unfold leaveT
  dsimp only
  by_cases h : isData t = true ∧ (c1.take cs.length = cs ∨ (c1.take cs.length).all (ltC cs.length) = true)
  · rw [if_pos h]
    obtain ⟨hd, h⟩ := h
    have hall : (c1.take cs.length).all (ltC cs.length) = true := by
      rcases h with h | h
      · rw [h]; exact S.lt
      · exact h
    obtain ⟨e1, x1⟩ := x.cut S.len
    have S2 := S'.cut hall
    rw [e1] at S2
    refine ⟨t, _, φ, rfl, x1, S2, ?_⟩
    rw [← e1]
    refine r'.cut ?_
    cases t with
    | ref n => cases hd
    | met n m => cases hd
    | clo i vs => cases hd
    | exc a ci d => cases hd
    | _ => rfl
  · rw [if_neg h]
    exact ⟨t, c1, φ', rfl, x, S', r'⟩
end
/-! promises -/
def spY (W : Wd) (K : PySem.W.Frag) (n : Nat) (F : FF) : Sp := fun vs H Q _ => ∃ φ Z ts cs, Sim W K φ Z cs H ∧ Reps W K φ Z ts vs ∧ ts.length = n ∧ ∃ t cs', F ts cs = .ok t cs' ∧
  ∀ φ' Z' H' v, Ext φ Z H φ' Z' H' → Sim W K φ' Z' cs' H' → Rep W K φ' Z' t v → Q v H'
section
variable {P : Program} {w : World} {W : Wd} {K : PySem.W.Frag} {mg : Str → Option Value} {base : Heap} {x qual : Str} {params : Arguments} {body : List Stmt} {scope : Scope} {dvs : List V} {kws : List (Str × V)} {f : Addr} {fd : FuncData} {N ps : List Str} {k : Nat} {F : FF}
theorem spY_len {n : Nat} {vs : List V} {H : Hp} {Q : VK} {E : XK} (h : spY W K n F vs H Q E) : vs.length = n := by
  obtain ⟨φ, Z, ts, cs, S, r, hl, _⟩ := h
  rw [← Paired.len r, hl]
theorem Slots.start {φ : List Addr} {Z : Hp} {ts : List T} {vs : List V} (r : Reps W K φ Z ts vs) : Slots W K φ Z (startR N.length ts) (L2.start N vs) := by
  have hl := Paired.len r
  refine ⟨by unfold startR L2.start; simp [hl], fun i t e => ?_⟩
  unfold startR at e
  by_cases hi : i < ts.length
  · rw [List.getElem?_append_left (by simpa using hi)] at e
    rw [List.getElem?_map, List.getElem?_eq_getElem hi] at e
    have e : ts[i] = t := by simpa using e
    obtain ⟨v, h1, h2⟩ := Paired.get r (List.getElem?_eq_getElem hi)
    refine ⟨v, ?_, e ▸ h2⟩
    unfold L2.start
    rw [List.getElem?_append_left (by simp; omega), List.getElem?_map, h1]
    rfl
  · rw [List.getElem?_append_right (by simp; omega)] at e
    rw [List.getElem?_replicate] at e
    split at e
    · cases e
    · cases e
theorem fnOk0 : YG.FnG P w K mg base 0 f fd ps (spY W K ps.length fun _ _ => .stuck) :=
  ⟨fun vs H Q E h => spY_len h, fun A outer s H args us vs Q E hr he hb hv h => by
    obtain ⟨φ, Z, ts, cs, S, r, hl, t, cs', e, _⟩ := h
    cases e⟩
/-- a def by its body -/
theorem fn_ok (Fd : FunD K x qual params body scope dvs kws f fd) (S : FnScope N ps scope) {bf : SF}
    (hb : ∀ (cdv : Value) (A : Around) (outer : List Env) (s : Shared) (H : Hp) (E : XK), YG.RoomG k (A.deeper (envOfC qual scope s.heap.objs.size f cdv)) → SSs W (cxOf CX0 P w K mg base N qual scope f cdv A outer s H E).nox body bf) :
    YG.FnG P w K mg base (k + 1) f fd ps (spY W K ps.length (fnF N.length ps.length bf)) := by
  refine YG.fn_of Fd S (fun vs H Q E h => spY_len h) (fun cdv A outer s H vs Q E hr h => ⟨_, PSs.nox (hb cdv A outer s H E hr), ?_⟩)
  obtain ⟨φ, Z, ts, cs, Sm, r, hl, t, cs', e, kk⟩ := h
  unfold fnF at e
  rw [if_pos hl] at e
  refine ⟨φ, Z, startR N.length ts, cs, Sm, Slots.start r, ?_⟩
  generalize hrs : bf (startR N.length ts) cs = rs at e
  cases rs with
  | nx ρ c =>
    intro φ' Z' H' σ' x' S' L'
    obtain ⟨t', c', φ2, e2, x2, S2, r2⟩ := leave_keep (r := endF (.nx ρ c)) Sm x' S' (Rep.none) rfl
    rw [e] at e2
    cases e2
    exact kk _ _ _ _ x2 S2 r2
  | rt t c =>
    intro φ' Z' H' v x' S' r'
    obtain ⟨t', c', φ2, e2, x2, S2, r2⟩ := leave_keep (r := endF (.rt t c)) Sm x' S' r' rfl
    rw [e] at e2
    cases e2
    exact kk _ _ _ _ x2 S2 r2
  | bk ρ c => cases e
  | ct ρ c => cases e
  | stuck => cases e
end
/-! calls -/
def callE (F : FF) (ds : List T) (g : AF) : EF := fun ρ cs => (g ρ cs).bind fun ts c => F (ts ++ ds) c
section
variable {W : Wd} {X : Cx} {pos p apos : Pos} {k : Nat} {f C : Addr} {fd : FuncData} {ps : List Str} {F : FF} {dvs : List V} {dts : List T} {ds : List Value} {x m : Str} {e o : Expr} {es : List Expr} {g : AF} {fo : EF}
theorem tCall_of {n : Nat} (rd : ∀ φ Z, Reps W X.K φ Z dts dvs) (hn : ∀ {vs H Q E}, spY W X.K n F vs H Q E → True) {σ : L2.St} {H : Hp} {Q : VK} (hl : ∀ ts : List T, ∀ c t c', F ts c = .ok t c' → ts.length = n) (h : tE W X.K (callE F dts g) σ H Q) : tCall (spY W X.K n F) dvs E0 (tA W X.K g) σ H Q := by
  obtain ⟨φ, Z, ρ, cs, S, L, t, cs', e0, kk⟩ := h
  obtain ⟨ts, c, e1, e2⟩ := R.bind_inv e0
  exact ⟨φ, Z, ρ, cs, S, L, ts, c, e1, fun φ1 Z1 H1 vs x1 S1 r1 => ⟨φ1, Z1, ts ++ dts, c, S1, Paired.app r1 (rd φ1 Z1), hl _ _ _ _ e2, t, cs', e2, fun φ' Z' H' v x' => kk φ' Z' H' v (x1.trans x')⟩⟩
/-- F takes n arguments -/
def Ar (n : Nat) (F : FF) : Prop := ∀ ts c t c', F ts c = .ok t c' → ts.length = n
theorem ar_fnF {N n : Nat} {bf : SF} : Ar n (fnF N n bf) := fun ts c t c' e => by
  unfold fnF at e
  split at e
  · assumption
  · cases e
theorem ar_stuck {n : Nat} : Ar n fun _ _ => .stuck := fun ts c t c' e => by cases e
theorem se_call (hF : YG.FnG X.prog X.w X.K X.mg X.base k f fd ps (spY W X.K ps.length F)) (hl : Ar ps.length F) (hr : YG.RoomG k X.A) (hg : Gl X x) (hm : X.mg x = some (.ref f)) (hk : PySem.W.keepIn X.K (.ref f) = true) (hb : Binds X.K fd ps ds) (hd : Vals dvs ds) (rd : ∀ φ Z, Reps W X.K φ Z dts dvs)
    (ha : SA W X (e :: es) g) (hdb : (x == ("__debug__" : Str)) = false := by decide +kernel) (he : starEach (e :: es) X.env = (false, eval e X.env) :: starEach es X.env := by rfl) (hpl : (backTo pos (starEach es X.env)).any (·.1) = false := by rfl) :
    SE W X (.Call (.Name x p) (e :: es) [] pos) (callE F dts g) := PE.imp (YG.pe_call hF hr hg hm hk hb hd ha hdb he hpl) fun σ H Q h => tCall_of rd (fun _ => trivial) hl h
theorem se_call0 (hF : YG.FnG X.prog X.w X.K X.mg X.base k f fd ps (spY W X.K ps.length F)) (hl : Ar ps.length F) (hr : YG.RoomG k X.A) (hg : Gl X x) (hm : X.mg x = some (.ref f)) (hk : PySem.W.keepIn X.K (.ref f) = true) (hb : Binds X.K fd ps ds) (hd : Vals dvs ds) (rd : ∀ φ Z, Reps W X.K φ Z dts dvs)
    (hdb : (x == ("__debug__" : Str)) = false := by decide +kernel) : SE W X (.Call (.Name x p) [] [] pos) (callE F dts nilA) := PE.imp (YG.pe_call0 hF hr hg hm hk hb hd hdb) fun σ H Q h => by
  have := tCall_of (g := nilA) rd (fun _ => trivial) hl h
  obtain ⟨φ, Z, ρ, cs, S, L, ts, c, e1, kk⟩ := this
  cases e1
  exact kk φ Z H [] (Ext.refl _ _ _) S .nil
/-! methods of instances of one class -/
def methE (ci : Nat) (m : Str) (F : FF) (ds : List T) (fo : EF) (g : AF) : EF := fun ρ cs => (fo ρ cs).bind fun t c => match t with
  | .ref n => (match c[n]? with
    | some (.ins cl fs) => if cl = ci ∧ fs.lookup m = none then (g ρ c).bind fun ts c2 => F (t :: (ts ++ ds)) c2 else .stuck
    | _ => .stuck)
  | _ => .stuck
theorem RepKV.lookup {K : PySem.W.Frag} {φ : List Addr} {Z : Hp} (m : Str) : ∀ {fs : List (Str × T)} {vs : List (Str × V)}, RepKV W K φ Z fs vs → (∀ t, fs.lookup m = some t → ∃ v, vs.lookup m = some v ∧ Rep W K φ Z t v) ∧ (fs.lookup m = none → vs.lookup m = none)
  | _, _, .nil => ⟨fun t e => by simp at e, fun _ => by rfl⟩
  | _, _, .cons (a := (a, t)) (b := (b, v)) h r => by
    obtain ⟨h1, h2⟩ := h
    dsimp only at h1 h2
    subst h1
    rw [List.lookup_cons, List.lookup_cons]
    cases hb : m == a with
    | true => exact ⟨fun u e => by cases e; exact ⟨v, rfl, h2⟩, fun e => by cases e⟩
    | false => exact RepKV.lookup m r
theorem tMeth_of {n ci : Nat} (rd : ∀ φ Z, Reps W X.K φ Z dts dvs) (hl : Ar n F) {σ : L2.St} {H : Hp} {Q : VK} (h : tE W X.K (methE ci m F dts fo g) σ H Q) : tMeth (W.cad ci) m (spY W X.K n F) dvs E0 (tE W X.K fo) (tA W X.K g) σ H Q := by
  obtain ⟨φ, Z, ρ, cs, S, L, t, cs', e0, kk⟩ := h
  obtain ⟨u, c, e1, e2⟩ := R.bind_inv e0
  refine ⟨φ, Z, ρ, cs, S, L, u, c, e1, fun φ1 Z1 H1 v x1 S1 r1 => ?_⟩
  split at e2
  · rename_i i
    split at e2
    · rename_i cl fs hc
      split at e2
      · rename_i hh
        obtain ⟨rfl, hh⟩ := hh
        obtain ⟨ts, c2, e3, e4⟩ := R.bind_inv e2
        cases r1 with
        | ref ea =>
          rename_i a
          obtain ⟨_, dx, vs, e5, r5⟩ := S1.cell i _ a hc ea
          refine ⟨a, dx, vs, rfl, e5, (RepKV.lookup m r5).2 hh, φ1, Z1, ρ, c, S1, L.ext x1, ts, c2, e3, fun φ2 Z2 H2 ws x2 S2 r2 => ?_⟩
          exact ⟨φ2, Z2, _, c2, S2, .cons (Rep.ext x2 (.ref ea)) (Paired.app r2 (rd φ2 Z2)), hl _ _ _ _ e4, t, cs', e4, fun φ' Z' H' v x' => kk φ' Z' H' v ((x1.trans x2).trans x')⟩
      · cases e2
    · cases e2
  · cases e2
theorem se_meth {ci : Nat} {pl : Sem Bool} (ho : SE W X o fo) (c : Cls X.K (W.cad ci)) (hm : Meth X.K (W.cad ci) m f) (hF : YG.FnG X.prog X.w X.K X.mg X.base k f fd ps (spY W X.K ps.length F)) (hl : Ar ps.length F) (hr : YG.RoomG k X.A) (hb : Binds X.K fd ps ds) (hd : Vals dvs ds) (rd : ∀ φ Z, Reps W X.K φ Z dts dvs) (ha : SA W X (e :: es) g)
    (hst : starEach (e :: es) X.env = (false, eval e X.env) :: starEach es X.env := by rfl) (hpl : (backTo pos (starEach es X.env)).any (·.1) = false := by rfl)
    (ht : eval (.Call (.Attribute o m apos) (e :: es) [] pos) X.env = (do
      let ov ← eval o X.env
      standAt apos.atName
      let (f, first) ← holding [ov] (getMethod ov m pl)
      callWith pos f first (backTo pos (starEach (e :: es) X.env)) (backToKw pos (keywordEach [] X.env))) := by rfl) :
    SE W X (.Call (.Attribute o m apos) (e :: es) [] pos) (methE ci m F dts fo g) := PE.imp (YG.pe_meth ho c hm hF hr hb hd ha hst hpl ht) fun σ H Q h => tMeth_of rd hl h
theorem se_meth0 {ci : Nat} {pl : Sem Bool} (ho : SE W X o fo) (c : Cls X.K (W.cad ci)) (hm : Meth X.K (W.cad ci) m f) (hF : YG.FnG X.prog X.w X.K X.mg X.base k f fd ps (spY W X.K ps.length F)) (hl : Ar ps.length F) (hr : YG.RoomG k X.A) (hb : Binds X.K fd ps ds) (hd : Vals dvs ds) (rd : ∀ φ Z, Reps W X.K φ Z dts dvs)
    (ht : eval (.Call (.Attribute o m apos) [] [] pos) X.env = (do
      let ov ← eval o X.env
      standAt apos.atName
      let (f, first) ← holding [ov] (getMethod ov m pl)
      callWith pos f first (backTo pos (starEach [] X.env)) (backToKw pos (keywordEach [] X.env))) := by rfl) :
    SE W X (.Call (.Attribute o m apos) [] [] pos) (methE ci m F dts fo nilA) := PE.imp (YG.pe_meth0 ho c hm hF hr hb hd ht) fun σ H Q h => by
  obtain ⟨φ, Z, ρ, cs, S, L, u, c, e1, kk⟩ := tMeth_of (g := nilA) rd hl h
  refine ⟨φ, Z, ρ, cs, S, L, u, c, e1, fun φ1 Z1 H1 v x1 S1 r1 => ?_⟩
  obtain ⟨a, dx, fs, ea, eb, ec, q⟩ := kk φ1 Z1 H1 v x1 S1 r1
  refine ⟨a, dx, fs, ea, eb, ec, ?_⟩
  obtain ⟨φ, Z, ρ, cs, S, L, ts, c, e1, kk⟩ := q
  cases e1
  exact kk φ Z H1 [] (Ext.refl _ _ _) S .nil
/-! making -/
/-- a new instance at the end; its __init__ gives None -/
def makeE (ci : Nat) (F : FF) (ds : List T) (g : AF) : EF := fun ρ cs => (g ρ cs).bind fun ts c => (F (.ref c.length :: (ts ++ ds)) (c ++ [.ins ci []])).bind fun t c2 => if isNone t = true then .ok (.ref c.length) c2 else .stuck
theorem tMake_of {n ci : Nat} (rd : ∀ φ Z, Reps W X.K φ Z dts dvs) (hl : Ar n F) {σ : L2.St} {H : Hp} {Q : VK} (h : tE W X.K (makeE ci F dts g) σ H Q) : tMake (W.cad ci) (spY W X.K n F) dvs E0 (tA W X.K g) σ H Q := by
  obtain ⟨φ, Z, ρ, cs, S, L, t, cs', e0, kk⟩ := h
  obtain ⟨ts, c, e1, e2⟩ := R.bind_inv e0
  obtain ⟨t2, c2, e3, e4⟩ := R.bind_inv e2
  refine ⟨φ, Z, ρ, cs, S, L, ts, c, e1, fun φ1 Z1 H1 vs x1 S1 r1 x dx hx hdx ne => ?_⟩
  split at e4
  · rename_i hnn
    cases e4
    -- the dict object first, then the instance
    obtain ⟨Sa, xa⟩ := S1.frozen hdx (.own x)
    have hx2 : upd H1 dx (.own x) x = none := by rw [upd_ne (fun q => ne q.symm)]; exact hx
    obtain ⟨Sb, xb⟩ := Sa.newCell hx2 (o := .ins (W.cad ci) dx []) (c := .ins ci []) fun hz => ⟨hz, dx, [], upd_same, .nil⟩
    have ra : Rep W X.K (φ1 ++ [x]) (upd Z1 dx (.own x)) (.ref c.length) (.ref x) := .ref (by rw [← S1.len, List.getElem?_append_right (Nat.le_refl _)]; simp)
    refine ⟨_, _, _, _, Sb, .cons ra (Paired.app (Reps.ext (xa.trans xb) r1) (rd _ _)), hl _ _ _ _ e3, t2, _, e3, fun φ' Z' H' v x' S' r' => ⟨?_, kk φ' Z' H' _ ((x1.trans (xa.trans xb)).trans x') S' (ra.ext x')⟩⟩
    cases t2 with
    | d y => cases y with
      | none => exact r'.dNone
      | _ => cases hnn
    | _ => cases hnn
  · cases e4
theorem se_make {ci : Nat} (M : Mk X.K (W.cad ci) f) (hF : YG.FnG X.prog X.w X.K X.mg X.base k f fd ps (spY W X.K ps.length F)) (hl : Ar ps.length F) (hr : YG.RoomG (k + 1) X.A) (hg : Gl X x) (hm : X.mg x = some (.ref (W.cad ci))) (hb : Binds X.K fd ps ds) (hd : Vals dvs ds) (rd : ∀ φ Z, Reps W X.K φ Z dts dvs) (ha : SA W X (e :: es) g)
    (hdb : (x == ("__debug__" : Str)) = false := by decide +kernel) (he : starEach (e :: es) X.env = (false, eval e X.env) :: starEach es X.env := by rfl) (hpl : (backTo pos (starEach es X.env)).any (·.1) = false := by rfl) :
    SE W X (.Call (.Name x p) (e :: es) [] pos) (makeE ci F dts g) := PE.imp (YG.pe_make M hF hr hg hm hb hd ha hdb he hpl) fun σ H Q h => tMake_of rd hl h
end
end Y
end
section
set_option Elab.async false
set_option linter.all false
set_option maxRecDepth 100000
set_option maxHeartbeats 1000000
namespace Y
open PySem PySem.Spec L2
/-! ### attributes -/
def putT {α : Type} (f : Str) (v : α) : List (Str × α) → List (Str × α)
  | [] => [(f, v)]
  | (g, x) :: r => if g = f then (g, v) :: r else (g, x) :: putT f v r
def setK {κ β : Type} [DecidableEq κ] (kvs : List (κ × β)) (k : κ) (v : β) : List (κ × β) :=
  if (kvs.any fun kv => decide (kv.1 = k)) = true then kvs.map (fun kv => if kv.1 = k then (kv.1, v) else kv) else kvs ++ [(k, v)]
section
variable {W : Wd} {K : PySem.W.Frag} {φ : List Addr} {Z H : Hp} {cs : Cs}
theorem RepKV.put {f : Str} {t : T} {v : V} (r : Rep W K φ Z t v) : ∀ {fs : List (Str × T)} {vs : List (Str × V)}, RepKV W K φ Z fs vs → RepKV W K φ Z (putT f t fs) (putF f v vs)
  | _, _, .nil => .cons ⟨rfl, r⟩ .nil
  | _, _, .cons (a := (a, x)) (b := (b, y)) h q => by
    obtain ⟨h1, h2⟩ := h
    dsimp only at h1 h2
    subst h1
    unfold putT putF
    by_cases e : a = f
    · rw [if_pos e, if_pos e]; exact .cons ⟨rfl, r⟩ q
    · rw [if_neg e, if_neg e]; exact .cons ⟨rfl, h2⟩ (RepKV.put r q)
theorem RepKV.any {κ : Type} [DecidableEq κ] (k : κ) : ∀ {fs : List (κ × T)} {vs : List (κ × V)}, RepKV W K φ Z fs vs → (fs.any fun kv => decide (kv.1 = k)) = (vs.any fun kv => decide (kv.1 = k))
  | _, _, .nil => rfl
  | _, _, .cons h q => by rw [List.any_cons, List.any_cons, h.1, RepKV.any k q]
theorem RepKV.mapK {κ : Type} [DecidableEq κ] {k : κ} {t : T} {v : V} (r : Rep W K φ Z t v) : ∀ {fs : List (κ × T)} {vs : List (κ × V)}, RepKV W K φ Z fs vs → RepKV W K φ Z (fs.map (fun kv => if kv.1 = k then (kv.1, t) else kv)) (vs.map (fun kv => if kv.1 = k then (kv.1, v) else kv))
  | _, _, .nil => .nil
  | _, _, .cons (a := (a, x)) (b := (b, y)) h q => by
    obtain ⟨h1, h2⟩ := h
    dsimp only at h1 h2
    subst h1
    refine .cons ?_ (RepKV.mapK r q)
    dsimp only
    by_cases e : a = k
    · rw [if_pos e, if_pos e]; exact ⟨rfl, r⟩
    · rw [if_neg e, if_neg e]; exact ⟨rfl, h2⟩
theorem RepKV.setK {κ : Type} [DecidableEq κ] {k : κ} {t : T} {v : V} (r : Rep W K φ Z t v) {fs : List (κ × T)} {vs : List (κ × V)} (q : RepKV W K φ Z fs vs) : RepKV W K φ Z (Y.setK fs k t) (putK vs k v) := by
  unfold Y.setK putK
  rw [RepKV.any k q]
  split
  · exact RepKV.mapK r q
  · exact Paired.app q (.cons ⟨rfl, r⟩ .nil)
end
def fldT (W : Wd) (f : Str) (t : T) (c : Cs) : R T := match t with
  | .ref n => (match c[n]? with
    | some (.ins ci fs) => (match fs.lookup f with
      | some u => if W.okf ci f = true then .ok u c else .stuck
      | none => .stuck)
    | _ => .stuck)
  | _ => .stuck
def fldE (W : Wd) (f : Str) (fo : EF) : EF := fun ρ cs => (fo ρ cs).bind fun t c => fldT W f t c
def putfT (W : Wd) (f : Str) (o : T) (v : T) (c : Cs) : R Unit := match o with
  | .ref n => (match c[n]? with
    | some (.ins ci fs) => if W.okf ci f = true ∧ fs.length < 1000 then .ok () (c.set n (.ins ci (putT f v fs))) else .stuck
    | _ => .stuck)
  | _ => .stuck
section
variable {W : Wd} {X : Cx} {pos pos' : Pos} {fo fv : EF} {o e value : Expr} {f : Str}
theorem se_fld (G : WOk W X.K X.w) (ho : SE W X e fo) (hb : attributeBase e f X.env (eval e X.env) = eval e X.env := by rfl) : SE W X (.Attribute e f pos) (fldE W f fo) := PE.imp (pe_fld ho hb) fun σ H Q h => by
  obtain ⟨φ, Z, ρ, cs, S, L, t, cs', e0, kk⟩ := h
  obtain ⟨u, c, e1, e2⟩ := R.bind_inv e0
  refine ⟨φ, Z, ρ, cs, S, L, u, c, e1, fun φ1 Z1 H1 v x1 S1 r1 => ?_⟩
  unfold fldT at e2
  split at e2
  · rename_i n
    split at e2
    · rename_i ci fs hc
      split at e2
      · rename_i u hu
        split at e2
        · rename_i hk
          cases e2
          cases r1 with
          | ref ea =>
            obtain ⟨_, dx, vs, e5, r5⟩ := S1.cell n _ _ hc ea
            obtain ⟨v, e6, r6⟩ := (RepKV.lookup f r5).1 _ hu
            obtain ⟨c1, c2⟩ := G.fld ci f hk
            exact ⟨_, _, dx, vs, v, rfl, e5, c1, c2, e6, kk φ1 Z1 H1 v x1 S1 r6⟩
        · cases e2
      · cases e2
    · cases e2
  · cases e2
theorem putf_ok {K : PySem.W.Frag} {w : World} (G : WOk W K w) {φ : List Addr} {Z H : Hp} {cs c : Cs} {t u : T} {x y : V} (S : Sim W K φ Z cs H) (r1 : Rep W K φ Z t x) (r2 : Rep W K φ Z u y) (e : putfT W f t u cs = .ok () c) :
    ∃ a C dx fs, x = .ref a ∧ H a = some (.ins C dx fs) ∧ Cls K C ∧ NoAttr K C f ∧ fs.length < 1000 ∧ Ext φ Z H φ Z (upd H a (.ins C dx (putF f y fs))) ∧ Sim W K φ Z c (upd H a (.ins C dx (putF f y fs))) := by
  unfold putfT at e
  split at e
  · rename_i n
    split at e
    · rename_i ci fs hc
      split at e
      · rename_i hk
        cases e
        cases r1 with
        | ref ea =>
          obtain ⟨hz, dx, vs, e5, r5⟩ := S.cell n _ _ hc ea
          obtain ⟨c1, c2⟩ := G.fld ci f hk.1
          obtain ⟨S1, x1⟩ := S.setCell hc ea hz (o := .ins (W.cad ci) dx (putF f y vs)) (c := .ins ci (putT f u fs)) ⟨hz, dx, _, upd_same, RepKV.put r2 r5⟩
          exact ⟨_, _, dx, vs, rfl, e5, c1, c2, by rw [← Paired.len r5]; exact hk.2, x1, S1⟩
      · cases e
    · cases e
  · cases e
def fldS (W : Wd) (f : Str) (fo fv : EF) : SF := fun ρ cs => match (fv ρ cs).bind fun v c => (fo ρ c).bind fun o c2 => putfT W f o v c2 with
  | .ok _ c => .nx ρ c
  | .stuck => .stuck
theorem ss_fld (G : WOk W X.K X.w) (ho : SE W X o fo) (hv : SE W X value fv) (hs : swapsWith value (some (.Attribute o f pos')) pos.line X.env = pure false := by rfl) : SS W X (.Assign [.Attribute o f pos'] value pos) (fldS W f fo fv) := PS.imp (ps_fld ho hv hs) fun D σ H h => by
  obtain ⟨φ, Z, ρ, cs, S, L, h⟩ := h
  unfold fldS at h
  split at h
  · rename_i c e0
    obtain ⟨v, c1, e1, e0⟩ := R.bind_inv e0
    obtain ⟨u, c2, e2, e0⟩ := R.bind_inv e0
    refine ⟨φ, Z, ρ, cs, S, L, v, c1, e1, fun φ1 Z1 H1 y x1 S1 r1 => ⟨φ1, Z1, ρ, c1, S1, L.ext x1, u, c2, e2, fun φ2 Z2 H2 x x2 S2 r2 => ?_⟩⟩
    obtain ⟨a, C, dx, fs, h1, h2, h3, h4, h5, h6, h7⟩ := putf_ok G S2 r2 (r1.ext x2) e0
    exact ⟨a, C, dx, fs, h1, h2, h3, h4, h5, h _ _ _ _ ((x1.trans x2).trans h6) h7 (((L.ext x1).ext x2).ext h6)⟩
  · exact h.elim
end
/-! ### targets of any kind -/
abbrev GF := T → Rho → Cs → R Rho
def tGG (W : Wd) (K : PySem.W.Frag) (g : GF) : TG := fun v σ H Q => ∃ φ Z ρ cs t, Sim W K φ Z cs H ∧ Slots W K φ Z ρ σ ∧ Rep W K φ Z t v ∧ ∃ ρ' cs', g t ρ cs = .ok ρ' cs' ∧ ∀ φ' Z' H' σ', Ext φ Z H φ' Z' H' → Sim W K φ' Z' cs' H' → Slots W K φ' Z' ρ' σ' → Q σ' H'
def SGG (W : Wd) (X : Cx) (e : Expr) (g : GF) : Prop := PG X e (tGG W X.K g)
abbrev GFs := List T → Rho → Cs → R Rho
def tGGs (W : Wd) (K : PySem.W.Frag) (g : GFs) : TGs := fun vs σ H Q => ∃ φ Z ρ cs ts, Sim W K φ Z cs H ∧ Slots W K φ Z ρ σ ∧ Reps W K φ Z ts vs ∧ ∃ ρ' cs', g ts ρ cs = .ok ρ' cs' ∧ ∀ φ' Z' H' σ', Ext φ Z H φ' Z' H' → Sim W K φ' Z' cs' H' → Slots W K φ' Z' ρ' σ' → Q σ' H'
def SGGs (W : Wd) (X : Cx) (es : List Expr) (g : GFs) : Prop := PGs X es (tGGs W X.K g)
def patG (p : Pat) : GF := fun t ρ cs => match asgP p t cs ρ with
  | some ρ' => .ok ρ' cs
  | none => .stuck
def fldG (W : Wd) (f : Str) (fo : EF) : GF := fun t ρ cs => (fo ρ cs).bind fun o c => (putfT W f o t c).bind fun _ c2 => .ok ρ c2
def nilG : GFs := fun ts ρ cs => match ts with
  | [] => .ok ρ cs
  | _ => .stuck
def consG (g : GF) (r : GFs) : GFs := fun ts ρ cs => match ts with
  | t :: ts => (g t ρ cs).bind fun ρ1 c1 => r ts ρ1 c1
  | _ => .stuck
def tupG (n : Nat) (r : GFs) : GF := fun t ρ cs => match asQ cs t with
  | some xs => if xs.length = n then r xs ρ cs else .stuck
  | none => .stuck
def setiT (o i v : T) (cs : Cs) : R Unit := match o with
  | .ref n => (match cs[n]? with
    | some (.lst xs) => (match i with
      | .d (.int k) => (match ixN xs.length k with
        | some j => .ok () (cs.set n (.lst (xs.set j v)))
        | none => .stuck)
      | _ => .stuck)
    | some (.dk kvs) => (match keyT i with
      | some k => if kvs.length < sizeLine then .ok () (cs.set n (.dk (setK kvs k v))) else .stuck
      | none => .stuck)
    | _ => .stuck)
  | _ => .stuck
def subG (fo fi : EF) : GF := fun t ρ cs => (fo ρ cs).bind fun o c => (fi ρ c).bind fun i c2 => (setiT o i t c2).bind fun _ c3 => .ok ρ c3
theorem PSet.or {X : Cx} {t t' : TSet} (h : PSet X t) (h' : PSet X t') : PSet X (fun o i v H Q => t o i v H Q ∨ t' o i v H Q) := fun pins s σ H o i v ov iv u Q I ro ri rv q => q.elim (fun q => h pins s σ H o i v ov iv u Q I ro ri rv q) fun q => h' pins s σ H o i v ov iv u Q I ro ri rv q
section
variable {W : Wd} {X : Cx} {pos pos' : Pos} {fo fi fv : EF} {o i e value : Expr} {f : Str} {g : GF} {r : GFs}
theorem sgg_pat {p : Pat} (h : SG W X e p) : SGG W X e (patG p) := ⟨fun pins s σ H v u Q I r q => h.run pins s σ H v u Q I r (by
  obtain ⟨φ, Z, ρ, cs, t, S, L, rt, ρ', cs', e0, kk⟩ := q
  unfold patG at e0
  split at e0
  · rename_i ρ1 e1
    cases e0
    exact ⟨φ, Z, ρ, cs, t, ρ', S, L, rt, e1, fun σ' L' _ => kk φ Z H σ' (Ext.refl _ _ _) S L'⟩
  · cases e0)⟩
theorem sgg_fld (G : WOk W X.K X.w) (ho : SE W X o fo) : SGG W X (.Attribute o f pos) (fldG W f fo) := ⟨fun pins s σ H v u Q I r q => by
  obtain ⟨φ, Z, ρ, cs, t, S, L, rt, ρ', cs', e0, kk⟩ := q
  obtain ⟨x, c, e1, e0⟩ := R.bind_inv e0
  obtain ⟨_, c2, e2, e0⟩ := R.bind_inv e0
  cases e0
  rw [show assign (.Attribute o f pos) X.env u = (do
    let ov ← holding [u] (eval o X.env)
    standAt pos.atName
    holding [u, ov] (setAttr ov f u)
    release [u, ov] []) from rfl]
  refine wpAny_bind (wpAny_holding (thn (ho.run pins s σ H _ I ⟨φ, Z, ρ, cs, S, L, x, c, e1, fun φ1 Z1 H1 y x1 S1 r1 => (?_ : ∃ a C dx fs, y = .ref a ∧ H1 a = some (.ins C dx fs) ∧ Cls X.K C ∧ NoAttr X.K C f ∧ fs.length < 1000 ∧ Q σ (upd H1 a (.ins C dx (putF f v fs))))⟩) fun ov s1 h1 => ?_))
  · obtain ⟨a, C, dx, fs, h1, h2, h3, h4, h5, h6, h7⟩ := putf_ok G S1 r1 (rt.ext x1) e2
    exact ⟨a, C, dx, fs, h1, h2, h3, h4, h5, kk _ _ _ _ (x1.trans h6) h7 ((L.ext x1).ext h6)⟩
  · obtain ⟨y, H1, I1, ry, a, C, dx, fs, rfl, ea, cc, n, l, q⟩ := h1
    obtain rfl : ov = Value.ref a := ry
    refine wpAny_bind (wpAny_standAt (wpAny_bind (wpAny_holding (setattr_ok I1 ea cc n l r fun s3 I3 => ?_))))
    exact wpAny_release ⟨σ, _, I3, q⟩⟩
theorem sggs_nil : SGGs W X [] nilG := ⟨fun pins s σ H vs us Q I r h => pgs_nil.run pins s σ H vs us Q I r (by
  obtain ⟨φ, Z, ρ, cs, ts, S, L, rt, ρ', cs', e0, kk⟩ := h
  unfold nilG at e0
  split at e0
  · cases e0
    cases rt
    exact ⟨rfl, kk φ Z H σ (Ext.refl _ _ _) S L⟩
  · cases e0)⟩
theorem sggs_cons {es : List Expr} (h1 : SGG W X e g) (h2 : SGGs W X es r) (hs : (assignEach (e :: es) X.env).map (·.2) = assign e X.env :: (assignEach es X.env).map (·.2) := by rfl) : SGGs W X (e :: es) (consG g r) := ⟨fun pins s σ H vs us Q I rr h => (pgs_cons h1 h2 hs).run pins s σ H vs us Q I rr (by
  obtain ⟨φ, Z, ρ, cs, ts, S, L, rt, ρ', cs', e0, kk⟩ := h
  unfold consG at e0
  split at e0
  · obtain ⟨ρ1, c1, e1, e0⟩ := R.bind_inv e0
    cases rt with
    | cons ra rb => exact ⟨_, _, rfl, φ, Z, ρ, cs, _, S, L, ra, ρ1, c1, e1, fun φ1 Z1 H1 σ1 x1 S1 L1 => ⟨φ1, Z1, ρ1, c1, _, S1, L1, Reps.ext x1 rb, ρ', cs', e0, fun φ' Z' H' σ' x' => kk φ' Z' H' σ' (x1.trans x')⟩⟩
  · cases e0)⟩
theorem sgg_tup {es : List Expr} {k n : Nat} (hc : X.calm = true) (h : SGGs W X es r) (hn : (assignEach es X.env).length = n := by rfl) (hst : (assignEach es X.env).findIdx? (·.1) = none := by rfl) : SGG W X (.Tuple es k pos) (tupG n r) := ⟨fun pins s σ H v u Q I rr hq => by
  obtain ⟨φ, Z, ρ, cs, t, S, L, rt, ρ', cs', e, kk⟩ := hq
  unfold tupG at e
  split at e
  · rename_i xs q
    split at e
    · rename_i hl
      obtain ⟨a, vs, rfl, h1, h2⟩ := S.asQ rt q
      have hl : vs.length = n := by rw [← hl, Paired.len h2]
      rcases h1 with h1 | h1
      · exact (pg_unl hc h hn hst).run pins s σ H _ u Q I rr ⟨a, vs, rfl, h1, hl, φ, Z, ρ, cs, xs, S, L, h2, ρ', cs', e, kk⟩
      · exact (pg_tup hc h hn hst).run pins s σ H _ u Q I rr ⟨a, vs, rfl, h1, hl, φ, Z, ρ, cs, xs, S, L, h2, ρ', cs', e, kk⟩
    · cases e
  · cases e⟩
theorem sgg_sub (hu : X.A.units + 1 < cLine) (ho : SE W X o fo) (hi : SE W X i fi)
    (ha : ∀ v, assign (.Subscript o i pos) X.env v = (do
      let ov ← holding [v] (eval o X.env)
      let iv ← holding [v, ov] (eval i X.env)
      standAt pos
      holding [v, ov, iv] (setItem ov iv v)
      release [v, ov, iv] []) := by intro _; rfl) : SGG W X (.Subscript o i pos) (subG fo fi) := ⟨fun pins s σ H v u Q I rr hq => (pg_sub ho hi (PSet.or set_list (set_dict hu)) ha).run pins s σ H v u Q I rr (by
  obtain ⟨φ, Z, ρ, cs, t, S, L, rt, ρ', cs', e, kk⟩ := hq
  obtain ⟨x, c, e1, e⟩ := R.bind_inv e
  obtain ⟨y, c2, e2, e⟩ := R.bind_inv e
  obtain ⟨_, c3, e3, e⟩ := R.bind_inv e
  cases e
  refine ⟨φ, Z, ρ, cs, S, L, x, c, e1, fun φ1 Z1 H1 ov x1 S1 r1 => ⟨φ1, Z1, ρ, c, S1, L.ext x1, y, c2, e2, fun φ2 Z2 H2 iv x2 S2 r2 => ?_⟩⟩
  have rt2 := (rt.ext x1).ext x2
  have r1' := r1.ext x2
  unfold setiT at e3
  split at e3
  · rename_i n
    split at e3
    · rename_i xs hc
      split at e3
      · rename_i k
        split at e3
        · rename_i j hj
          cases e3
          cases r2.dInt
          cases r1' with
          | ref ea =>
            obtain ⟨hz, vs, h1, h2⟩ := S2.cell _ _ _ hc ea
            obtain ⟨S3, x3⟩ := S2.setCell hc ea hz (o := .lst (vs.set j v)) (c := .lst (xs.set j t)) ⟨hz, _, upd_same, Paired.setAt j rt2 h2⟩
            exact .inl ⟨_, vs, k, j, rfl, rfl, h1, by rw [← Paired.len h2]; exact hj, kk _ _ _ _ ((x1.trans x2).trans x3) S3 (((L.ext x1).ext x2).ext x3)⟩
        · cases e3
      · cases e3
    · rename_i kvs hc
      split at e3
      · rename_i k hk
        split at e3
        · rename_i hl
          cases e3
          cases r1' with
          | ref ea =>
            obtain ⟨hz, vs, h1, h2⟩ := S2.cell _ _ _ hc ea
            obtain ⟨S3, x3⟩ := S2.setCell hc ea hz (o := .dK (putK vs k v)) (c := .dk (setK kvs k t)) ⟨hz, _, upd_same, RepKV.setK rt2 h2⟩
            rw [keyT_rep r2 hk]
            exact .inr ⟨_, _, rfl, DPut.k h1 (by rw [← Paired.len h2]; exact hl), kk _ _ _ _ ((x1.trans x2).trans x3) S3 (((L.ext x1).ext x2).ext x3)⟩
        · cases e3
      · cases e3
    · cases e3
  · cases e3)⟩
def asgG (g : GF) (f : EF) : SF := fun ρ cs => match (f ρ cs).bind fun t c => g t ρ c with
  | .ok ρ' c => .nx ρ' c
  | .stuck => .stuck
theorem ss_asgG {tg : Expr} {ff : EF} (he : SE W X e ff) (hg : SGG W X tg g) (hs : swapsWithSole [tg] e pos.line X.env = pure false := by rfl) (hw : swappedStores [tg] e X.env = pure none := by rfl)
    (h1 : (assignEach [tg] X.env).map (·.2) = [assign tg X.env] := by rfl) : SS W X (.Assign [tg] e pos) (asgG g ff) := PS.imp (ps_asg he hg hs hw h1) fun D σ H h => by
  obtain ⟨φ, Z, ρ, cs, S, L, h⟩ := h
  unfold asgG at h
  split at h
  · rename_i ρ' c' e0
    obtain ⟨t, c, e1, e2⟩ := R.bind_inv e0
    exact ⟨φ, Z, ρ, cs, S, L, t, c, e1, fun φ' Z' H' v x' S' r' => ⟨φ', Z', ρ, c, t, S', L.ext x', r', ρ', c', e2, fun φ2 Z2 H2 σ2 x2 S2 L2 => h _ _ _ _ (x'.trans x2) S2 L2⟩⟩
  · exact h.elim
end
end Y
end
section
set_option Elab.async false
set_option linter.all false
set_option maxRecDepth 100000
set_option maxHeartbeats 1000000
namespace Y
open PySem PySem.Spec L2
/-! ### functions as values -/
structure HeldY (W : Wd) (P : Program) (w : World) (K : PySem.W.Frag) (mg : Str → Option Value) (base : Heap) (k : Nat) (j : Nat) (F : FF) : Prop where
  ex : ∃ (fd : FuncData) (ps : List Str), YG.FnG P w K mg base k (W.fad j) fd ps (spY W K ps.length F) ∧ Ar ps.length F ∧ PySem.W.keepIn K (.ref (W.fad j)) = true ∧ Binds K fd ps [] ∧ PySem.W.fnIn K (W.fad j) = true
def appV (js : List Nat) (tab : Nat → FF) (t : T) (ts : List T) (c : Cs) : R T := match t with
  | .fn j => if j ∈ js then tab j ts c else .stuck
  | .met n j => if j ∈ js then tab j (.ref n :: ts) c else .stuck
  | _ => .stuck
def callV (js : List Nat) (tab : Nat → FF) (i : Nat) (g : AF) : EF := fun ρ cs => (getV ρ i cs).bind fun t c => (g ρ c).bind fun ts c2 => appV js tab t ts c2
def boundE (ci mi : Nat) (m : Str) (fo : EF) : EF := fun ρ cs => (fo ρ cs).bind fun t c => match t with
  | .ref n => (match c[n]? with
    | some (.ins cl fs) => if cl = ci ∧ fs.lookup m = none then .ok (.met n mi) c else .stuck
    | _ => .stuck)
  | _ => .stuck
section
variable {W : Wd} {X : Cx} {pos p : Pos} {k : Nat} {e : Expr} {es : List Expr} {g : AF} {fo : EF} {m x : Str}
/-- e.m as a value, m a method -/
theorem se_bound {ci mi : Nat} (c : Cls X.K (W.cad ci)) (b : BMeth X.K (W.cad ci) m (W.fad mi)) (ho : SE W X e fo) (hb : attributeBase e m X.env (eval e X.env) = eval e X.env := by rfl) : SE W X (.Attribute e m pos) (boundE ci mi m fo) := ⟨fun pins s σ H Q I h => by
  obtain ⟨φ, Z, ρ, cs, S, L, t, cs', e0, kk⟩ := h
  obtain ⟨u, c1, e1, e2⟩ := R.bind_inv e0
  refine attr_of hb (thn (ho.run pins s σ H (fun y H1 => ∃ a dx fs, y = .ref a ∧ H1 a = some (.ins (W.cad ci) dx fs) ∧ fs.lookup m = none ∧ ∀ q, H1 q = none → Q (.ref q) (upd H1 q (.met (W.fad mi) a))) I ⟨φ, Z, ρ, cs, S, L, u, c1, e1, fun φ1 Z1 H1 v x1 S1 r1 => ?_⟩) fun ov s1 h1 => ?_)
  · split at e2
    · rename_i n
      split at e2
      · rename_i cl fs hc
        split at e2
        · rename_i hh
          obtain ⟨rfl, hh⟩ := hh
          cases e2
          cases r1 with
          | ref ea =>
            obtain ⟨_, dx, vs, e5, r5⟩ := S1.cell _ _ _ hc ea
            refine ⟨_, dx, vs, rfl, e5, (RepKV.lookup m r5).2 hh, fun q hq => ?_⟩
            obtain ⟨S2, x2⟩ := S1.frozen hq (.met (W.fad mi) _)
            exact kk _ _ _ _ (x1.trans x2) S2 (.met ea upd_same)
        · cases e2
      · cases e2
    · cases e2
  · obtain ⟨y, H1, I1, ry, a, dx, fs, rfl, ea, l, q⟩ := h1
    obtain rfl : ov = Value.ref a := ry
    exact getbound_ok I1 ea c b l fun q1 s2 hq1 I2 => ⟨.ref q1, _, I2, rfl, q q1 hq1⟩⟩
/-- f(..), f a local that holds a function or a bound method -/
theorem callV_run {js : List Nat} {tab : Nat → FF} {i : Nat} {pins : List (Addr × Obj)} {s : Shared} {σ : L2.St} {H : Hp} {Q : VK} (hh : ∀ j ∈ js, HeldY W X.prog X.w X.K X.mg X.base k j (tab j)) (hr : YG.RoomG k X.A) (hN : X.N[i]? = some x) (hv : Vis X.env.scope x)
    (hdb : (x == ("__debug__" : Str)) = false) (hcd : (x == ("__classdict__" : Str)) = false) {args : List (Bool × Sem Value)}
    (hplain : (args.any (·.1) || ([] : List (Option Str × Sem Value)).any (·.1.isNone)) = false)
    (hargs : ∀ (f : Value) (s : Shared) (H : Hp) (R : List V → Hp → Prop) (Q2 : Args → Shared → Prop), Inv X pins σ H s → tA W X.K g σ H R → (∀ us s', AP X pins σ R us s' → Q2 ⟨us, []⟩ s') → wpAny (model X.prog X.w) X.A (evalArgs f true args []) Q2 X.xe s)
    (I : Inv X pins σ H s) (h : tE W X.K (callV js tab i g) σ H Q) : wpAny (model X.prog X.w) X.A (do callWith pos (← eval (.Name x p) X.env) [] args []) (EP X pins σ Q) X.xe s := by
  obtain ⟨φ, Z, ρ, cs, S, L, t, cs', e0, kk⟩ := h
  obtain ⟨u, c1, e1, e0⟩ := R.bind_inv e0
  obtain ⟨ts, c2, e2, e3⟩ := R.bind_inv e0
  have hi : ρ[i]? = some (some u) ∧ c1 = cs := by
    unfold getV at e1
    split at e1
    · cases e1; exact ⟨by assumption, rfl⟩
    · cases e1
  obtain ⟨hi, rfl⟩ := hi
  obtain ⟨v, hσ, rv⟩ := L.2 i u hi
  refine wpAny_bind (thn ((pe_var (pos := p) hN hv hdb hcd).run pins s σ H (fun y H1 => y = v ∧ H1 = H) I ⟨v, hσ, rfl, rfl⟩) fun fv s1 ⟨y, H1, I1, ry, ey, eH⟩ => ?_)
  subst ey eH
  unfold appV at e3
  split at e3
  · rename_i j
    split at e3
    · rename_i hj
      obtain ⟨fd, ps, F, ar, hk, hb, hf⟩ := (hh j hj).ex
      cases rv
      cases ry
      refine PySem.W.callWith_of (P := X.K.In) hplain (PySem.W.keeps_K hk) (hargs _ s1 _ (fun vs H2 => spY W X.K ps.length (tab j) vs H2 Q E0) _ I1 ⟨φ, Z, ρ, c1, S, L, ts, c2, e2, fun φ1 Z1 H1 vs x1 S1 r1 => ?_⟩ fun us s2 ⟨vs, H2, I2, r2, q2⟩ => ⟨I2.kIn, ?_⟩)
      · exact ⟨φ1, Z1, ts, c2, S1, r1, ar _ _ _ _ e3, t, cs', e3, fun φ' Z' H' v x' => kk φ' Z' H' v (x1.trans x')⟩
      · exact YG.run_fn (dvs := []) (ds := []) F hr hb .nil I2 r2 (by rw [List.append_nil]; exact q2)
    · cases e3
  · rename_i n j
    split at e3
    · rename_i hj
      obtain ⟨fd, ps, F, ar, hk, hb, hf⟩ := (hh j hj).ex
      cases rv with
      | @met _ _ a qa ea em =>
        cases ry
        have hq := S.sub _ _ em
        refine PySem.W.callWith_of (P := PySem.W.MethP X.K qa (W.fad j) (.ref a)) hplain (PySem.W.keeps_M hf) (hargs _ s1 _ (fun vs H2 => H2 qa = some (.met (W.fad j) a) ∧ spY W X.K ps.length (tab j) (.ref a :: vs) H2 Q E0) _ I1 ⟨φ, Z, ρ, c1, S, L, ts, c2, e2, fun φ1 Z1 H1 vs x1 S1 r1 => ?_⟩ fun us s2 ⟨vs, H2, I2, r2, qm, q2⟩ => ⟨met_P I2 qm, ?_⟩)
        · exact ⟨S1.sub _ _ (x1.zsub _ _ em), φ1, Z1, .ref n :: ts, c2, S1, .cons (.ref (pre_get x1.pre ea)) r1, ar _ _ _ _ e3, t, cs', e3, fun φ' Z' H' v x' => kk φ' Z' H' v (x1.trans x')⟩
        · exact wpAny_call (PySem.W.method_call (met_P I2 qm).1 (YG.code_fn (us := .ref a :: us) (vs := .ref a :: vs) F hr I2 (by have h1 := hb s2 (.ref a :: us) I2.kIn (by rw [List.append_nil, ← (Paired.cons (α := V) (β := Value) (F := RelV) (a := .ref a) (b := .ref a) rfl r2).length]; exact F.len _ _ _ _ q2); rw [List.append_nil] at h1; exact h1) (.cons rfl r2) q2))
    · cases e3
  · cases e3
theorem se_callV {js : List Nat} {tab : Nat → FF} {i : Nat} (hh : ∀ j ∈ js, HeldY W X.prog X.w X.K X.mg X.base k j (tab j)) (hr : YG.RoomG k X.A) (hN : X.N[i]? = some x) (hv : Vis X.env.scope x) (ha : SA W X (e :: es) g)
    (hdb : (x == ("__debug__" : Str)) = false := by decide +kernel) (hcd : (x == ("__classdict__" : Str)) = false := by decide +kernel) (he : starEach (e :: es) X.env = (false, eval e X.env) :: starEach es X.env := by rfl) (hpl : (backTo pos (starEach es X.env)).any (·.1) = false := by rfl) :
    SE W X (.Call (.Name x p) (e :: es) [] pos) (callV js tab i g) := ⟨fun pins s σ H Q I h => by
  rw [arm_eval_Call_Name']
  refine callV_run (args := backTo pos (starEach (e :: es) X.env)) hh hr hN hv hdb hcd ?_ (fun f s H R Q2 I h kq => ?_) I h
  · rw [he]
    show ((false || (backTo pos (starEach es X.env)).any (·.1)) || false) = false
    rw [hpl]; rfl
  · have := ha.run pos pins s σ H R I h
    rw [he] at this ⊢
    exact Calls.evalArgs_plain (thn this fun us s1 q => kq us s1 q)⟩
theorem se_callV0 {js : List Nat} {tab : Nat → FF} {i : Nat} (hh : ∀ j ∈ js, HeldY W X.prog X.w X.K X.mg X.base k j (tab j)) (hr : YG.RoomG k X.A) (hN : X.N[i]? = some x) (hv : Vis X.env.scope x)
    (hdb : (x == ("__debug__" : Str)) = false := by decide +kernel) (hcd : (x == ("__classdict__" : Str)) = false := by decide +kernel) :
    SE W X (.Call (.Name x p) [] [] pos) (callV js tab i nilA) := ⟨fun pins s σ H Q I h => by
  rw [arm_eval_Call_Name']
  refine callV_run (args := backTo pos (starEach [] X.env)) hh hr hN hv hdb hcd rfl (fun f s H R Q2 I h kq => ?_) I h
  refine PySem.evalArgs_none (kq [] s ⟨[], H, I, .nil, ?_⟩)
  obtain ⟨φ, Z, ρ, cs, S, L, ts, c, e1, kk⟩ := h
  cases e1
  exact kk φ Z H [] (Ext.refl _ _ _) S .nil⟩
end
end Y
end
section
set_option Elab.async false
set_option linter.all false
set_option maxRecDepth 100000
set_option maxHeartbeats 1000000
namespace Y
open PySem PySem.Spec L2
/-! ### a cell's list becomes data -/
def frzT (t : T) (cs : Cs) : R T := match t with
  | .ref n => (match cs[n]? with
    | some (.lst xs) => (match allD xs with
      | some ds => .ok (.d (.list ds)) (cs.set n .dead)
      | none => .stuck)
    | _ => .stuck)
  | .d x => .ok (.d x) cs
  | _ => .stuck
def frzE (f : EF) : EF := fun ρ cs => (f ρ cs).bind frzT
theorem Sim.frz {W : Wd} {K : PySem.W.Frag} {φ : List Addr} {Z H : Hp} {cs cs' : Cs} {t t' : T} {v : V} (S : Sim W K φ Z cs H) (r : Rep W K φ Z t v) (e : frzT t cs = .ok t' cs') :
    ∃ Z', Ext φ Z H φ Z' H ∧ Sim W K φ Z' cs' H ∧ Rep W K φ Z' t' v := by
  unfold frzT at e
  split at e
  · rename_i n
    split at e
    · rename_i xs hc
      split at e
      · rename_i ds hd
        cases e
        cases r with
        | @ref _ a ea =>
          obtain ⟨hz, vs, h1, h2⟩ := S.cell _ _ _ hc ea
          have hz' : ∀ b o, Z b = some o → upd Z a (.lst vs) b = some o := fun b o h => upd_some hz h
          have hn : n < cs.length := (List.getElem?_eq_some_iff.mp hc).1
          refine ⟨upd Z a (.lst vs), ⟨List.prefix_refl _, hz', fun b o h => ?_, fun _ _ h _ => .inl h, fun b h => .inl h⟩, ⟨fun b o h => ?_, by simp [S.len], S.nd, S.there, fun m c b h3 h4 => ?_, fun p hp => ?_⟩, ?_⟩
          · by_cases q : b = a
            · subst q; exact .inr (.inr (List.mem_of_getElem? ea))
            · rw [upd_ne q] at h; exact .inl h
          · by_cases q : b = a
            · subst q; rw [upd_same] at h; cases h; exact h1
            · rw [upd_ne q] at h; exact S.sub _ _ h
          · by_cases q : n = m
            · subst q
              rw [List.getElem?_set_self hn] at h3
              cases h3
              trivial
            · rw [List.getElem?_set_ne q] at h3
              have ne : b ≠ a := fun z => by
                subst z
                obtain ⟨i1, j1⟩ := List.getElem?_eq_some_iff.mp h4
                obtain ⟨i2, j2⟩ := List.getElem?_eq_some_iff.mp ea
                exact q (((List.getElem_inj S.nd).mp (j2.trans j1.symm)))
              exact (S.cell m c b h3 h4).stay (List.prefix_refl _) hz' (fun z => by rw [upd_ne ne]; exact z) fun _ h => h
          · have ne := (S.tb p hp).ne (a := a) fun u h => by rw [h1] at h; cases h; exact fun _ q => by cases q
            exact (S.tb p hp).stay hz' (by rw [upd_ne ne]; exact (S.tb p hp).1) rfl
          · rw [allD_eq hd] at h2
            exact .d (.lst upd_same (DzAll.zmono hz' _ _ (Reps.all h2)))
      · cases e
    · cases e
  · cases e
    exact ⟨Z, Ext.refl _ _ _, S, r⟩
  · cases e
section
variable {W : Wd} {X : Cx} {pos : Pos} {e : Expr} {f : EF}
theorem se_frz (h : SE W X e f) : SE W X e (frzE f) := PE.imp h fun σ H Q h => by
  obtain ⟨φ, Z, ρ, cs, S, L, t, cs', e0, kk⟩ := h
  obtain ⟨u, c, e1, e2⟩ := R.bind_inv e0
  refine ⟨φ, Z, ρ, cs, S, L, u, c, e1, fun φ1 Z1 H1 v x1 S1 r1 => ?_⟩
  obtain ⟨Z2, x2, S2, r2⟩ := S1.frz r1 e2
  exact kk _ _ _ _ (x1.trans x2) S2 r2
theorem se_never {e : Expr} : SE W X e fun _ _ => .stuck := ⟨fun pins s σ H Q I h => by
  obtain ⟨φ, Z, ρ, cs, S, L, t, cs', e0, kk⟩ := h
  cases e0⟩
end
/-! ### methods of built-in things -/
abbrev MT := T → List T → Cs → R T
def MOk (W : Wd) (K : PySem.W.Frag) (T : String) (r : V → List V → Hp → VK → Prop) (ty : Cs → Y.T → Bool) (op : MT) : Prop :=
  (∀ φ Z cs H t v, Sim W K φ Z cs H → Rep W K φ Z t v → ty cs t = true → tyV K T v H) ∧
  ∀ φ Z cs H t ts v vs (Q : VK) z cs', Sim W K φ Z cs H → Rep W K φ Z t v → Reps W K φ Z ts vs → op t ts cs = .ok z cs' → (∀ φ' Z' H' x, Ext φ Z H φ' Z' H' → Sim W K φ' Z' cs' H' → Rep W K φ' Z' z x → Q x H') → r v vs H Q
def bmE (ty : Cs → T → Bool) (op : MT) (fo : EF) (g : AF) : EF := fun ρ cs => (fo ρ cs).bind fun t c => if ty c t = true then (g ρ c).bind fun ts c2 => op t ts c2 else .stuck
section
variable {W : Wd} {X : Cx} {o e : Expr} {es : List Expr} {fo : EF} {g : AF} {name : Str} {apos cpos : Pos} {T id : String} {r : V → List V → Hp → VK → Prop} {ty : Cs → Y.T → Bool} {op : MT}
theorem se_bm (pa : PlainAttrs T) (slot : Slot T name id) (hty : typeOf (.builtin id) = pure (.type "method_descriptor")) (hm : MtR X id r) (hk : MOk W X.K T r ty op) (ho : SE W X o fo) (ha : SA W X (e :: es) g)
    (hbase : attributeBase o name X.env (eval o X.env) = eval o X.env := by rfl)
    (hfew : ((backTo cpos (starEach (e :: es) X.env)).all (fun x => !x.1) && (backToKw cpos (keywordEach [] X.env)).all (fun x => x.1.isSome)
      && decide ((e :: es).length + ([] : List Keyword).length + (if ([] : List Keyword).isEmpty then 0 else 1) < 30)) = true := by rfl)
    (hline : (apos.endLine == cpos.line) = true := by rfl) (hs : starEach (e :: es) X.env = (false, eval e X.env) :: starEach es X.env := by rfl) (hplain : (backTo cpos (starEach es X.env)).any (·.1) = false := by rfl) :
    SE W X (.Call (.Attribute o name apos) (e :: es) [] cpos) (bmE ty op fo g) := PE.imp (pe_bm pa slot hty hm ho ha hbase hfew hline hs hplain) fun σ H Q h => by
  obtain ⟨φ, Z, ρ, cs, S, L, t, cs', e0, kk⟩ := h
  obtain ⟨u, c, e1, e2⟩ := R.bind_inv e0
  refine ⟨φ, Z, ρ, cs, S, L, u, c, e1, fun φ1 Z1 H1 v x1 S1 r1 => ?_⟩
  split at e2
  · rename_i hh
    obtain ⟨ts, c2, e3, e4⟩ := R.bind_inv e2
    refine ⟨hk.1 _ _ _ _ _ _ S1 r1 hh, φ1, Z1, ρ, c, S1, L.ext x1, ts, c2, e3, fun φ2 Z2 H2 vs x2 S2 r2 => ?_⟩
    exact hk.2 _ _ _ _ _ _ _ _ _ _ _ S2 (r1.ext x2) r2 e4 fun φ' Z' H' x x' => kk φ' Z' H' x ((x1.trans x2).trans x')
  · cases e2
theorem se_bm0 (pa : PlainAttrs T) (slot : Slot T name id) (hty : typeOf (.builtin id) = pure (.type "method_descriptor")) (hm : MtR X id r) (hk : MOk W X.K T r ty op) (ho : SE W X o fo)
    (hbase : attributeBase o name X.env (eval o X.env) = eval o X.env := by rfl) (hline : (apos.endLine == cpos.line) = true := by rfl) :
    SE W X (.Call (.Attribute o name apos) [] [] cpos) (bmE ty op fo nilA) := PE.imp (pe_bm0 pa slot hty hm ho hbase hline) fun σ H Q h => by
  obtain ⟨φ, Z, ρ, cs, S, L, t, cs', e0, kk⟩ := h
  obtain ⟨u, c, e1, e2⟩ := R.bind_inv e0
  refine ⟨φ, Z, ρ, cs, S, L, u, c, e1, fun φ1 Z1 H1 v x1 S1 r1 => ?_⟩
  split at e2
  · rename_i hh
    obtain ⟨ts, c2, e3, e4⟩ := R.bind_inv e2
    cases e3
    refine ⟨hk.1 _ _ _ _ _ _ S1 r1 hh, ?_⟩
    exact hk.2 _ _ _ _ _ _ _ _ _ _ _ S1 r1 .nil e4 fun φ' Z' H' x x' => kk φ' Z' H' x (x1.trans x')
  · cases e2
end
def isLst (cs : Cs) (t : T) : Bool := match t with
  | .ref n => (match cs[n]? with
    | some (.lst _) => true
    | _ => false)
  | _ => false
def isStr (_ : Cs) (t : T) : Bool := match t with
  | .d (.str _) => true
  | _ => false
theorem isLst_ty {W : Wd} {K : PySem.W.Frag} {φ : List Addr} {Z H : Hp} {cs : Cs} {t : T} {v : V} (S : Sim W K φ Z cs H) (r : Rep W K φ Z t v) (h : isLst cs t = true) : tyV K "list" v H := by
  unfold isLst at h
  split at h
  · rename_i n
    split at h
    · rename_i xs hc
      cases r with
      | ref ea =>
        obtain ⟨hz, vs, h1, h2⟩ := S.cell _ _ _ hc ea
        exact .inl ⟨rfl, vs, SqL.of h1⟩
    · cases h
  · cases h
theorem isStr_ty {W : Wd} {K : PySem.W.Frag} {φ : List Addr} {Z H : Hp} {cs : Cs} {t : T} {v : V} (S : Sim W K φ Z cs H) (r : Rep W K φ Z t v) (h : isStr cs t = true) : tyV K "str" v H := by
  unfold isStr at h
  split at h
  · cases r.dStr; rfl
  · cases h
def appendT : MT := fun t ts cs => match t, ts with
  | .ref n, [u] => (match cs[n]? with
    | some (.lst xs) => if xs.length < sizeLine then .ok (.d .none) (cs.set n (.lst (xs ++ [u]))) else .stuck
    | _ => .stuck)
  | _, _ => .stuck
theorem ok_append {W : Wd} {K : PySem.W.Frag} : MOk W K "list" rAppend isLst appendT := ⟨fun _ _ _ _ _ _ => isLst_ty, fun φ Z cs H t ts v vs Q z cs' S r rs e k => by
  unfold appendT at e
  split at e
  · rename_i n u
    split at e
    · rename_i xs hc
      split at e
      · rename_i hl
        cases e
        cases r with
        | ref ea =>
          obtain ⟨hz, ws, h1, h2⟩ := S.cell _ _ _ hc ea
          obtain ⟨y, rfl, ry⟩ := Reps.one rs
          obtain ⟨S3, x3⟩ := S.setCell hc ea hz (o := .lst (ws ++ [y])) (c := .lst (xs ++ [u])) ⟨hz, _, upd_same, Paired.app h2 (.cons ry .nil)⟩
          exact ⟨_, ws, y, rfl, rfl, h1, by rw [← Paired.len h2]; exact hl, k _ _ _ _ x3 S3 Rep.none⟩
      · cases e
    · cases e
  · cases e⟩
theorem Paired.dropLast {α β : Type} {F : α → β → Prop} : ∀ {l : List α} {m : List β}, Paired F l m → Paired F l.dropLast m.dropLast
  | _, _, .nil => .nil
  | _, _, .cons h .nil => .nil
  | _, _, .cons h (.cons h2 t) => .cons h (Paired.dropLast (.cons h2 t))
def popT : MT := fun t ts cs => match t, ts with
  | .ref n, [] => (match cs[n]? with
    | some (.lst xs) => (match xs[xs.length - 1]? with
      | some x => .ok x (cs.set n (.lst xs.dropLast))
      | none => .stuck)
    | _ => .stuck)
  | _, _ => .stuck
theorem ok_pop {W : Wd} {K : PySem.W.Frag} : MOk W K "list" rPop isLst popT := ⟨fun _ _ _ _ _ _ => isLst_ty, fun φ Z cs H t ts v vs Q z cs' S r rs e k => by
  unfold popT at e
  split at e
  · rename_i n
    split at e
    · rename_i xs hc
      split at e
      · rename_i x hx
        cases e
        cases r with
        | ref ea =>
          obtain ⟨hz, ws, h1, h2⟩ := S.cell _ _ _ hc ea
          cases rs
          obtain ⟨y, hy, ry⟩ := Paired.get h2 hx
          obtain ⟨S3, x3⟩ := S.setCell hc ea hz (o := .lst ws.dropLast) (c := .lst xs.dropLast) ⟨hz, _, upd_same, Paired.dropLast h2⟩
          exact ⟨_, ws, y, rfl, rfl, h1, by rw [← Paired.len h2]; exact hy, k _ _ _ _ x3 S3 (ry.ext x3)⟩
      · cases e
    · cases e
  · cases e⟩
/-! extend by a list or a tuple -/
def rExtA (K : PySem.W.Frag) : V → List V → Hp → VK → Prop := fun x vs H Q => ∃ l b xs zs, x = .ref l ∧ vs = [.ref b] ∧ H l = some (.lst xs) ∧ (H b = some (.lst zs) ∨ SqT K H b zs) ∧ xs.length + zs.length ≤ sizeLine ∧ Q .non (upd H l (.lst (xs ++ zs)))
theorem extend_tupG (l : Addr) (items : Array Value) (n : Nat) (b : Addr) (items2 : Array Value) (n2 : Nat) (dct : Option Addr) (sl : Array (Option Value)) (hs0 : ¬(!items.isEmpty && Builtin.List.listTooLong (items.size + items2.size)) = true) (hs1 : items.size ≤ sizeLine) (hs2 : items.size + items2.size ≤ sizeLine + 1) :
    Meets (Builtin.«list.extend» ⟨[.ref l, .ref b], []⟩) (fun _ R s => s.heap.get? l = some { cls := .type "list", dict := none, data := .seq items n, slots := #[] } ∧ s.heap.get? b = some { cls := .type "tuple", dict := dct, data := .seq items2 n2, slots := sl } ∧ R (.ok (.ret Value.none)) { s with heap := s.heap.update l (Obj.mapSeq fun x => x ++ items2), toks := s.toks }) :=
  .of_wp fun prog w A R s h => by
    obtain ⟨hp, g, d, tk, os⟩ := s; obtain ⟨hl, hb, h⟩ := h; have f1 := AutoSeq1.idx_int; have f2 := AutoSeq1.sub_tuple_tuple; have f3 := AutoSeq1.sub_list_list; have f4 := AutoSeq1.sub_tuple_list; have f5 := AutoSeq1.sub_list_tuple;
    have hz' : (items ++ items2).size ≤ sizeLine + 1 := by rw [Array.size_append]; exact hs2
    wp_walk using (wpAny_updateSeq hl rfl (hz := hs1) (_hz' := hz')), AutoSeq1.wpAny_loadPart' hl, AutoSeq1.wpAny_loadPart' hb; exact ⟨_, rfl, h⟩
theorem mt_extendA {X : Cx} : MtR X "list.extend" (rExtA X.K) := by
  intro pins s σ H x vs v us Q I rx rv h
  obtain ⟨l, b, xs, zs, rfl, rfl, hH, hB, hz, q⟩ := h
  rcases hB with hB | hB
  · exact mt_extend pins s σ H _ _ v us Q I rx rv ⟨l, b, xs, zs, rfl, rfl, hH, hB, hz, q⟩
  cases rx
  obtain ⟨u, rfl, ru⟩ := rv.one
  cases ru
  obtain ⟨z, its, n, r, hl, e⟩ := I.lstM hH
  obtain ⟨its2, r2, ⟨⟨c2, d2, dt2, sl2⟩, e2, hc2, n2, hd2⟩, _⟩ := I.tuple hB
  replace hc2 : c2 = .type "tuple" := hc2
  replace hd2 : dt2 = .seq its2.toArray n2 := hd2
  subst hc2 hd2
  have l1 := r.length
  have l2 := r2.length
  have hsz : its.toArray.size + its2.toArray.size ≤ sizeLine := by rw [List.size_toArray, List.size_toArray]; omega
  have hlong : ¬ (!its.toArray.isEmpty && Builtin.List.listTooLong (its.toArray.size + its2.toArray.size)) = true := by
    rw [notLongL hsz, Bool.and_false]
    exact Bool.false_ne_true
  refine call_meets F.slot_list_extend ⟨_, e, rfl⟩ F.entry_list_extend (F.args_list_extend_2 _ _)
    (extend_tupG l its.toArray n b its2.toArray n2 d2 sl2 hlong (by rw [List.size_toArray]; omega) (by omega)) ⟨e, e2, ?_⟩
  refine ⟨.non, _, I.lset (its' := its ++ its2) hH e (by simp) (r.append r2) ?_, rfl, q⟩
  rw [List.length_append]
  omega
def extendT : MT := fun t ts cs => match t, ts with
  | .ref n, [u] => (match cs[n]? with
    | some (.lst xs) => (match u with
      | .d (.list ds) => if xs.length + ds.length ≤ sizeLine then .ok (.d .none) (cs.set n (.lst (xs ++ ds.map .d))) else .stuck
      | .d (.tuple ds) => if xs.length + ds.length ≤ sizeLine then .ok (.d .none) (cs.set n (.lst (xs ++ ds.map .d))) else .stuck
      | .ref m => (match cs[m]? with
        | some (.lst ys) => if xs.length + ys.length ≤ sizeLine then .ok (.d .none) (cs.set n (.lst (xs ++ ys))) else .stuck
        | _ => .stuck)
      | _ => .stuck)
    | _ => .stuck)
  | _, _ => .stuck
theorem ok_extend {W : Wd} {K : PySem.W.Frag} : MOk W K "list" (rExtA K) isLst extendT := ⟨fun _ _ _ _ _ _ => isLst_ty, fun φ Z cs H t ts v vs Q z cs' S r rs e k => by
  unfold extendT at e
  split at e
  · rename_i n u
    split at e
    · rename_i xs hc
      cases r with
      | @ref _ a ea =>
        obtain ⟨hz, ws, h1, h2⟩ := S.cell _ _ _ hc ea
        obtain ⟨y, rfl, ry⟩ := Reps.one rs
        have lw := Paired.len h2
        have fin : ∀ (ys : List T) (b : Addr) (zs : List V), y = .ref b → Reps W K φ Z ys zs → (H b = some (.lst zs) ∨ SqT K H b zs) → xs.length + ys.length ≤ sizeLine → cs' = cs.set n (.lst (xs ++ ys)) → z = .d .none → rExtA K (.ref a) [y] H Q := by
          rintro ys b zs rfl h3 h4 h5 rfl rfl
          have ly := Paired.len h3
          obtain ⟨S3, x3⟩ := S.setCell hc ea hz (o := .lst (ws ++ zs)) (c := .lst (xs ++ ys)) ⟨hz, _, upd_same, Paired.app h2 h3⟩
          exact ⟨_, b, ws, zs, rfl, rfl, h1, h4, by omega, k _ _ _ _ x3 S3 Rep.none⟩
        split at e
        · rename_i ds
          split at e
          · rename_i hl
            cases e
            cases ry with
            | d ry => cases ry with
              | lst h3 h4 => exact fin (ds.map .d) _ _ rfl (Reps.of_all h4) (.inl (S.sub _ _ h3)) (by simpa using hl) rfl rfl
          · cases e
        · rename_i ds
          split at e
          · rename_i hl
            cases e
            cases ry with
            | d ry => cases ry with
              | tup h3 h4 => exact fin (ds.map .d) _ _ rfl (Reps.of_all h4) (.inr (SqT.zmono S.sub h3)) (by simpa using hl) rfl rfl
          · cases e
        · rename_i m
          split at e
          · rename_i ys hm
            split at e
            · rename_i hl
              cases e
              cases ry with
              | ref eb =>
                obtain ⟨_, zs, h3, h4⟩ := S.cell _ _ _ hm eb
                exact fin ys _ zs rfl h4 (.inl h3) hl rfl rfl
            · cases e
          · cases e
        · cases e
    · cases e
  · cases e⟩
/-! join -/
def strsOf : List T → Option (List Str)
  | [] => some []
  | .d (.str s) :: r => (match strsOf r with
    | some ss => some (s :: ss)
    | none => none)
  | _ => none
theorem strs_rep {W : Wd} {K : PySem.W.Frag} {φ : List Addr} {Z : Hp} : ∀ {ts : List T} {vs : List V} {ss : List Str}, Reps W K φ Z ts vs → strsOf ts = some ss → vs = ss.map V.str
  | [], _, _, r, e => by cases r; cases e; rfl
  | t :: r, _, ss, h, e => by
    cases h with
    | cons h1 h2 =>
      unfold strsOf at e
      split at e
      · rename_i heq
        cases heq
      · rename_i s r' heq
        cases heq
        split at e
        · rename_i ss' hs
          cases e
          cases h1.dStr
          rw [strs_rep h2 hs]
          rfl
        · cases e
      · cases e
def joinT : MT := fun t ts cs => match t, ts with
  | .d (.str a), [u] => (match asQ cs u with
    | some xs => (match strsOf xs with
      | some ss => if (ss.map (·.length)).sum + ss.length * a.length ≤ 16777216 then .ok (.d (.str (Txt.join a ss))) cs else .stuck
      | none => .stuck)
    | none => .stuck)
  | _, _ => .stuck
theorem ok_join {W : Wd} {K : PySem.W.Frag} : MOk W K "str" (fun x xs H Q => ∃ a p, ∃ ys : List Str, x = .str a ∧ xs = [.ref p] ∧ (SqL K H p (ys.map V.str) ∨ SqT K H p (ys.map V.str)) ∧
    (ys.map (·.length)).sum + ys.length * a.length ≤ 16777216 ∧ Q (.str (Txt.join a ys)) H) isStr joinT := ⟨fun _ _ _ _ _ _ => isStr_ty, fun φ Z cs H t ts v vs Q z cs' S r rs e k => by
  unfold joinT at e
  split at e
  · rename_i a u
    split at e
    · rename_i xs hq
      split at e
      · rename_i ss hs
        split at e
        · rename_i hl
          cases e
          cases r.dStr
          obtain ⟨y, rfl, ry⟩ := Reps.one rs
          obtain ⟨p, ws, rfl, h1, h2⟩ := S.asQ ry hq
          have := strs_rep h2 hs
          subst this
          exact ⟨a, p, ss, rfl, rfl, h1, hl, k _ _ _ _ (Ext.refl _ _ _) S (Rep.str _)⟩
        · cases e
      · cases e
    · cases e
  · cases e⟩
/-! int - bool -/
theorem same_reflected_sub : reflectedDiffers (.type "int") (.type "bool") "sub" = pure false := by
  unfold reflectedDiffers
  show (typeLookup (.type "bool") (dunderR "sub") >>= fun rb => typeLookup (.type "int") (dunderR "sub") >>= fun ra => pure (rb.isSome && rb != ra)) = pure false
  rw [typeLookup_type, typeLookup_type, builtinLookup_eq_fast]; kernel_rfl
theorem op_sub_ib {X : Cx} : OpR X (binaryOp .Sub) (fun x y H Q => ∃ i k, x = .int i ∧ y = .bl k ∧ Q (.int (i - PyProof.Rows.b2i k)) H) := by
  intro pins s σ H x y v u Q I rx ry h
  obtain ⟨i, k, rfl, rfl, q⟩ := h
  obtain ⟨t, rfl⟩ := rx
  cases ry
  refine binaryOp_sub_gives (op := .Sub) (T := "int") (U := "bool") (by decide) (typeIs_int s i t) rfl F.fills_int_sub F.fills_bool_sub isSubtype_bool_int same_reflected_sub F.slot_int_sub F.entry_int_sub (F.args_int_sub_2 _ _)
    (AutoIntG7.int___sub___int_bool_0 i t k) trivial ?_
  exact ⟨.int (i - PyProof.Rows.b2i k), H, I.tok _, ⟨_, rfl⟩, q⟩
def rSubY : R2 := fun x y H Q => (rI0 (fun i j => .int (i - j)) x y H Q) ∨ (∃ i k, x = .int i ∧ y = .bl k ∧ Q (.int (i - PyProof.Rows.b2i k)) H)
theorem op_subY {X : Cx} : OpR X (binaryOp .Sub) rSubY := op_sub.or op_sub_ib
def subY : BT := fun t u cs => match t, u with
  | .d (.int a), .d (.int b) => .ok (.d (.int (a - b))) cs
  | .d (.int a), .d (.bool b) => .ok (.d (.int (a - (if b then 1 else 0)))) cs
  | _, _ => .stuck
theorem ok_sub {W : Wd} {K : PySem.W.Frag} : OpOk W K rSubY subY := by
  intro φ Z cs H t u v w Q z cs' S r1 r2 e k
  unfold subY at e
  split at e
  · cases e; cases r1.dInt; cases r2.dInt
    exact .inl ⟨_, _, rfl, rfl, fin0 S k (Rep.int _)⟩
  · cases e; cases r1.dInt; cases r2.dBool
    exact .inr ⟨_, _, rfl, rfl, fin0 S k (Rep.int _)⟩
  · cases e
/-! repr of data -/
theorem call_reprD {X : Cx} (hg : X.A.guards = some []) (hu : X.A.units + 64 < cLine) : CallR X (.builtin "repr") (fun xs H Q => ∃ v d, xs = [v] ∧ (∃ a, v = .ref a) ∧ Dp X.K H v d ∧ d.showable = true ∧ d.hasDict = false ∧ d.depth < 60 ∧ d.shown.length ≤ sizeLine ∧ Q (.str d.shown) H) := by
  intro pins s σ H xs us Q I r q
  obtain ⟨v, d, rfl, ⟨a, rfl⟩, hd, h1, h2, h3, h4, q⟩ := q
  obtain ⟨u, rfl, ru⟩ := vals1 r
  obtain ⟨as, rd⟩ := Dp.reads I d _ u hd ru
  cases ru
  exact repr_of_reads' rd h1 (fun h => by rw [h2] at h; cases h) hg (by omega) (fun b o e => e) (fun h' u tk hk => ⟨.str d.shown, H, I.kept (t' := tk) hk, ⟨_, rfl⟩, q⟩) h4
def reprT : CT := fun ts cs => match ts with
  | [t] => (match toD cs t with
    | some d => if isSeqD d = true ∧ d.showable = true ∧ d.hasDict = false ∧ d.depth < 60 ∧ d.shown.length ≤ sizeLine then .ok (.d (.str d.shown)) cs else .stuck
    | none => .stuck)
  | _ => .stuck
where isSeqD : PyData → Bool
  | .list _ => true
  | .tuple _ => true
  | _ => false
theorem ok_repr {W : Wd} {K : PySem.W.Frag} : ClOk W K (fun xs H Q => ∃ v d, xs = [v] ∧ (∃ a, v = .ref a) ∧ Dp K H v d ∧ d.showable = true ∧ d.hasDict = false ∧ d.depth < 60 ∧ d.shown.length ≤ sizeLine ∧ Q (.str d.shown) H) reprT := by
  intro φ Z cs H ts vs Q z cs' S rs e k
  unfold reprT at e
  split at e
  · rename_i t
    split at e
    · rename_i d hd
      split at e
      · rename_i hh
        obtain ⟨h0, h1, h2, h3, h4⟩ := hh
        cases e
        obtain ⟨v, rfl, rv⟩ := Reps.one rs
        have dp := S.toD rv hd
        refine ⟨v, d, rfl, ?_, dp, h1, h2, h3, h4, k _ _ _ _ (Ext.refl _ _ _) S (Rep.str _)⟩
        cases d with
        | list ds => cases dp with | lst => exact ⟨_, rfl⟩
        | tuple ds => cases dp with | tup => exact ⟨_, rfl⟩
        | _ => cases h0
      · cases e
    · cases e
  · cases e
end Y
end
section
set_option Elab.async false
set_option linter.all false
set_option maxRecDepth 100000
set_option maxHeartbeats 1000000
namespace YV
open PySem PySem.Spec PyProof.Rows L2 HT
section
variable {prog : Program} {w : World} {A : Around} {E : Value → Shared → Prop} {s : Shared}
theorem adjust_rev (n : Nat) : Builtin.Slice.sliceAdjust none none (-1) (n : Int) = ((n : Int) - 1, -1) := by
  unfold Builtin.Slice.sliceAdjust
  simp
theorem places_rev (n : Nat) : Builtin.Slice.slicePlaces ((n : Int) - 1) (-1) (-1) = n := by
  unfold Builtin.Slice.slicePlaces
  simp
  split <;> omega
theorem filterMap_map {α β : Type} {f : α → Option β} {g : α → β} : ∀ {l : List α}, (∀ m ∈ l, f m = some (g m)) → l.filterMap f = l.map g
  | [], _ => rfl
  | a :: l, h => by
    rw [List.filterMap_cons, h a List.mem_cons_self, List.map_cons, filterMap_map fun m hm => h m (List.mem_cons_of_mem _ hm)]
theorem sliceApplied_rev {sl : Addr} {t : Tok} {n : Nat} {Q : Int × Int × Nat → Shared → Prop} (hs : s.heap.IsSliceOf sl .none .none (.int (-1) t)) (h : Q ((n : Int) - 1, -1, n) s) : wpAny (model prog w) A (Builtin.Slice.sliceApplied (.ref sl) (pure (n : Int))) Q E s := by
  obtain ⟨os, hos, hcs, hds⟩ := id hs
  unfold Builtin.Slice.sliceApplied Builtin.Slice.sliceFields
  refine wpAny_bind (wpAny_bind (wpAny_field hos hds (x := .none) rfl (wpAny_bind (wpAny_field hos hds (x := .none) rfl (wpAny_bind (wpAny_field hos hds (x := .int (-1) t) rfl (wpAny_pure ?_)))))))
  refine wpAny_bind (slicePart_ (.int (-1) t) ?_)
  show wpAny _ _ (if ((-1 : Int) == 0) = true then _ else _) _ _ s
  rw [if_neg (by decide)]
  refine wpAny_bind (slicePart_ .none (wpAny_bind (slicePart_ .none (wpAny_bind (wpAny_pure ?_)))))
  show wpAny _ _ (match Builtin.Slice.sliceAdjust none none (-1) (n : Int) with | (lo, hi) => pure (lo, (-1 : Int), Builtin.Slice.slicePlaces lo hi (-1))) _ _ s
  rw [adjust_rev]
  show wpAny _ _ (pure ((n : Int) - 1, (-1 : Int), Builtin.Slice.slicePlaces ((n : Int) - 1) (-1) (-1))) _ _ s
  rw [places_rev]
  exact wpAny_pure h
theorem pick_rev (xs : Array Value) : ((List.range xs.size).filterMap fun (m : Nat) => xs[(((xs.size : Int) - 1) + (m : Int) * -1).toNat]?).toArray = xs.toList.reverse.toArray := by
  congr 1
  apply List.ext_getElem?
  intro i
  have e : ((List.range xs.size).filterMap fun (m : Nat) => xs[(((xs.size : Int) - 1) + (m : Int) * -1).toNat]?) = (List.range xs.size).map fun (m : Nat) => xs.toList.getD (xs.size - 1 - m) .none := by
    refine filterMap_map fun m hm => ?_
    have hm : m < xs.size := List.mem_range.mp hm
    have e1 : (((xs.size : Int) - 1) + (m : Int) * -1).toNat = xs.size - 1 - m := by omega
    rw [e1]
    have h2 : xs.size - 1 - m < xs.size := by omega
    simp [Array.getElem?_eq_getElem h2]
  rw [e]
  by_cases hi : i < xs.size
  · rw [List.getElem?_map, List.getElem?_range hi, List.getElem?_reverse (by simpa using hi)]
    have h2 : xs.size - 1 - i < xs.size := by omega
    simp [h2]
  · rw [List.getElem?_eq_none (by simp; omega), List.getElem?_eq_none (by simp; omega)]
theorem getItem_tuple_rev {t sl : Addr} {items : Array Value} {tk : Tok} {Q : Value → Shared → Prop} (ht : IsTup s.heap t items) (hs : s.heap.IsSliceOf sl .none .none (.int (-1) tk))
    (h : Q (.ref s.heap.objs.size) { s with heap := s.heap.push { cls := .type "tuple", data := .seq items.toList.reverse.toArray } }) (hsz : items.size ≤ sizeLine) : wpAny (model prog w) A (getItem (.ref t) (.ref sl)) Q E s := by
  have htake : sizeOk (.seq items.toList.reverse.toArray) := by
    show items.toList.reverse.toArray.size ≤ sizeLine
    simpa using hsz
  obtain ⟨os, hos, hcs, hds⟩ := id hs
  have hTs : s.TypeIs (.ref sl) "slice" := ⟨os, hos, hcs⟩
  unfold getItem
  try with_reducible refine wpAny_holding ?_
  first | refine wpAny_bind (wpAny_pure ?_) | skip
  refine wpAny_bind (wpAny_sequenceKey ht.typeIs (by decide) ?_)
  refine wpAny_bind (wpAny_callSpecial?_slot (name := Str.ofString "__getitem__") ht.typeIs PyProof.Rows.slot_tuple_getitem
    (wpAny_call_entry PyProof.Rows.slot_tuple_getitem ht.typeIs entry_tuple_getitem ?_ (args_tuple_getitem _ _)))
  show wpAny _ _ (Builtin.Tuple.tupleItemsOf (.ref t) >>= _) _ _ s
  refine wpAny_bind (tupleItemsOf_ ht ?_)
  refine wpAny_bind (wpAny_typeOf hTs ?_)
  rw [if_pos (by decide)]
  refine wpAny_bind (sliceApplied_rev hs ?_)
  have hno : ¬ ((((items.size : Int) - 1) == 0 && (-1 : Int) == 1 && items.size == items.size) = true) := by
    intro q
    rw [Bool.and_eq_true, Bool.and_eq_true] at q
    exact absurd q.1.2 (by decide)
  show wpAny _ _ (if (((items.size : Int) - 1) == 0 && (-1 : Int) == 1 && items.size == items.size) = true then _ else _) _ _ s
  rw [if_neg hno, pick_rev]
  first
    | exact wpAny_bind (m := Builtin.Tuple.tupleExact _) (wpAny_newObj_type (wpAny_pure ⟨_, rfl, wpAny_pure h⟩) htake)
    | exact wpAny_bind (m := Builtin.Tuple.tupleExact _) (wpAny_newObj_type (wpAny_bind (wpAny_pure (wpAny_pure ⟨_, rfl, wpAny_pure h⟩))) htake)
    | exact wpAny_bind (wpAny_bind (m := Builtin.Tuple.tupleExact _) (wpAny_newObj_type (wpAny_pure (wpAny_pure ⟨_, rfl, wpAny_pure h⟩)) htake))
    | exact wpAny_bind (wpAny_bind (m := Builtin.Tuple.tupleExact _) (wpAny_newObj_type (wpAny_pure ⟨_, rfl, wpAny_pure h⟩) htake))
end
/-- e[::-1], e a tuple -/
def tRevT (K : PySem.W.Frag) (te : TE) : TE := fun σ H Q => te σ H fun x H1 => ∃ a xs, x = .ref a ∧ SqT K H1 a xs ∧ ∀ p, H1 p = none → Q (.ref p) (upd H1 p (.tup xs.reverse))
theorem pe_revT {X : Cx} {e : Expr} {te : TE} {k : Nat} {p1 p2 p3 pos : Pos} (he : PE X e te) : PE X (.Subscript e (.Slice none none (some (.UnaryOp .USub (.Constant (.int 1) k p1) p2)) p3) pos) (tRevT X.K te) := by
  refine ⟨fun pins s σ H Q I h => ?_⟩
  refine Subscript_ (thn (he.run pins s σ H _ I h) fun v s1 ⟨x, H1, I1, r1, q1⟩ => ?_)
  obtain ⟨a, xs, ex, hx, q⟩ := q1
  subst ex
  cases r1
  have hst : PO X (some (.UnaryOp .USub (.Constant (.int 1) k p1) p2)) (tPart (tUn (rU fun i => .int (-i)) (tC (.int 1)))) := po_some (pe_un un_neg pe_int)
  refine wpAny_Slice (thn (po_none.run pins s1 σ H1 (fun o H2 => o = none ∧ H2 = H1) I1 ⟨rfl, rfl⟩) fun vl s2 ⟨l, H2, I2, pl, el, e2⟩ => ?_)
  subst el e2
  refine thn (po_none.run pins s2 σ H2 (fun o H3 => o = none ∧ H3 = H2) I2 ⟨rfl, rfl⟩) fun vu s3 ⟨u, H3, I3, pu, eu, e3⟩ => ?_
  subst eu e3
  refine thn (hst.run pins s3 σ H3 (fun o H4 => o = some (-1) ∧ H4 = H3) I3 ⟨1, rfl, -1, rfl, rfl, rfl⟩) fun vs s4 ⟨o, H4, I4, ps, eo, e4⟩ => ?_
  subst eo e4
  have I5 : Inv X pins σ H4 { s4 with heap := s4.heap.push { cls := .type "slice", data := .fields #[vl, vu, vs] } } := I4.kept (t' := s4.toks) fun b ob q => Heap.get?_push_of_some _ q
  obtain ⟨its, r, ht, hz⟩ := I5.tuple hx
  have hlen := r.length
  cases pl
  cases pu
  cases ps with
  | int i t =>
    show wpAny (model X.prog X.w) X.A (subscriptTail e (.Slice none none (some (.UnaryOp .USub (.Constant (.int 1) k p1) p2)) p3) (.ref a) (.ref s4.heap.objs.size)) (EP X pins σ Q) X.xe _
    refine tail_any (ops := [.ref a, .ref s4.heap.objs.size]) ht.typeIs (PyProof.Rows.slot_tuple_getitem.lookup) ?_ (by with_unfolding_all rfl)
    refine getItem_tuple_rev ht (Heap.IsSliceOf.new _ .none .none (.int (-1) t)) ?_ (by rw [List.size_toArray]; omega)
    refine ⟨.ref _, _, I5.laid (t' := s4.toks) (o := .tup xs.reverse) (fun b ob q => Heap.get?_push_of_some _ q) (Nat.le_refl _) ?_, rfl, q _ (I5.hok.fresh (Nat.le_refl _))⟩
    exact ⟨by rw [List.length_reverse]; exact hz, _, r.reverse, ⟨_, Heap.get?_push_size _ rfl, rfl, 0, by simp⟩⟩
end YV
end
section
set_option Elab.async false
set_option linter.all false
set_option maxRecDepth 100000
set_option maxHeartbeats 1000000
namespace YG
open PySem PySem.Spec PyProof.Rows L2
theorem RoomG.u1 {k : Nat} {A : Around} (r : RoomG k A) : A.units + 1 < cLine := by have := r.r.un; omega
theorem RoomG.u64 {k : Nat} {A : Around} (r : RoomG k A) : A.units + 64 < cLine := by have := r.r.un; omega
theorem RoomG.u65 {k : Nat} {A : Around} (r : RoomG k A) : A.units + 65 < cLine := by have := r.r.un; omega
end YG
namespace Y
open PySem PySem.Spec L2
section
variable {W : Wd} {X : Cx} {pos p apos : Pos} {x : Str} {e o : Expr} {es : List Expr}
theorem se_gint {i : Int} (hg : Gl X x) (hm : ∃ t, X.mg x = some (.int i t)) (hd : (x == ("__debug__" : Str)) = false := by decide +kernel) : SE W X (.Name x pos) (fun _ cs => .ok (.d (.int i)) cs) := by
  obtain ⟨t, h⟩ := hm
  exact se_glob (v := .int i) hg h ⟨t, rfl⟩ (fun _ _ => Rep.int i) hd
theorem se_gstr {z : Str} (hg : Gl X x) (hm : ∃ t, X.mg x = some (.str z t)) (hd : (x == ("__debug__" : Str)) = false := by decide +kernel) : SE W X (.Name x pos) (fun _ cs => .ok (.d (.str z)) cs) := by
  obtain ⟨t, h⟩ := hm
  exact se_glob (v := .str z) hg h ⟨t, rfl⟩ (fun _ _ => Rep.str z) hd
theorem se_gref {a : Addr} {t : T} (hg : Gl X x) (hm : X.mg x = some (.ref a)) (rt : ∀ φ Z, Rep W X.K φ Z t (.ref a)) (hd : (x == ("__debug__" : Str)) = false := by decide +kernel) : SE W X (.Name x pos) (fun _ cs => .ok t cs) :=
  se_glob (v := .ref a) hg hm rfl rt hd
/-! int * int, str * int -/
def repS (x : Str) (n : Int) : Str := if n < 1 then Str.empty else if (n == 1 || x.length == 0) = true then x else ⟨(List.replicate n.toNat x.cps).foldl (· ++ ·) #[]⟩
def repOk (x : Str) (n : Int) : Bool := decide (-1000 ≤ n ∧ n ≤ 1000 ∧ x.length ≤ 1000 ∧ (repS x n).length ≤ sizeLine)
theorem op_strrep : OpR X (binaryOp .Mult) (fun x y H Q => ∃ z n, x = .str z ∧ y = .int n ∧ repOk z n = true ∧ Q (.str (repS z n)) H) := by
  intro pins s σ H x y v u Q I rx ry h
  obtain ⟨z, n, rfl, rfl, hc, q⟩ := h
  obtain ⟨t, rfl⟩ := rx
  obtain ⟨tu, rfl⟩ := ry
  obtain ⟨h1, h2, h3, h4⟩ := of_decide_eq_true hc
  have hsl : sizeLine = 16777216 := sizeLine_eq
  refine P.mul_str (by simp; omega) (fun hn _ => ?_) (fun hn _ => ?_) ?_
  · have h5 : (1000 : Int) ≤ (2 ^ 63 - 1) / n := by
      rw [Int.le_ediv_iff_mul_le (by omega)]
      omega
    omega
  · show decide (z.length * n.toNat > sizeLine) = false
    have h6 : z.length * n.toNat ≤ 1000 * 1000 := Nat.mul_le_mul h3 (by omega)
    rw [decide_eq_false_iff_not]
    omega
  · unfold repS at q h4
    split
    · rename_i h; rw [if_pos h] at q
      exact ⟨by decide, ⟨.str Str.empty, H, I.tok _, ⟨_, rfl⟩, q⟩⟩
    · rename_i h; rw [if_neg h] at q h4
      split
      · rename_i h5; rw [if_pos h5] at q
        exact ⟨.str z, H, I, ⟨_, rfl⟩, q⟩
      · rename_i h5; rw [if_neg h5] at q h4
        exact ⟨h4, ⟨.str _, H, I.tok _, ⟨_, rfl⟩, q⟩⟩
def rMulY : R2 := fun x y H Q => (rI (fun a b => mulOk a b = true) (fun i j => .int (i * j)) x y H Q) ∨ (∃ z n, x = .str z ∧ y = .int n ∧ repOk z n = true ∧ Q (.str (repS z n)) H)
theorem op_mulA : OpR X (binaryOp .Mult) rMulY := op_mulY.or op_strrep
def mulA : BT := fun t u cs => match t, u with
  | .d (.int a), .d (.int b) => if mulOk a b = true then .ok (.d (.int (a * b))) cs else .stuck
  | .d (.str a), .d (.int b) => if repOk a b = true then .ok (.d (.str (repS a b))) cs else .stuck
  | _, _ => .stuck
theorem ok_mul {K : PySem.W.Frag} : OpOk W K rMulY mulA := by
  intro φ Z cs H t u v w Q z cs' S r1 r2 e k
  unfold mulA at e
  split at e
  · split at e
    · rename_i h
      cases e; cases r1.dInt; cases r2.dInt
      exact .inl ⟨_, _, rfl, rfl, h, fin0 S k (Rep.int _)⟩
    · cases e
  · split at e
    · rename_i h
      cases e; cases r1.dStr; cases r2.dInt
      exact .inr ⟨_, _, rfl, rfl, h, fin0 S k (Rep.str _)⟩
    · cases e
  · cases e
/-! e[::-1] -/
def revE (f : EF) : EF := fun ρ cs => (f ρ cs).bind fun t c => match t with
  | .d (.tuple ds) => .ok (.d (.tuple ds.reverse)) c
  | t => (match asL c t with
    | some xs => (match allD xs.reverse with
      | some ds => .ok (.d (.list ds)) c
      | none => .stuck)
    | none => .stuck)
theorem PE.or {e : Expr} {t t' : TE} (h : PE X e t) (h' : PE X e t') : PE X e (fun σ H Q => t σ H Q ∨ t' σ H Q) := ⟨fun pins s σ H Q I q => q.elim (fun q => h.run pins s σ H Q I q) fun q => h'.run pins s σ H Q I q⟩
theorem Paired.rev {α β : Type} {F : α → β → Prop} : ∀ {l : List α} {m : List β}, Paired F l m → Paired F l.reverse m.reverse
  | _, _, .nil => .nil
  | _, _, .cons h t => by rw [List.reverse_cons, List.reverse_cons]; exact Paired.app (Paired.rev t) (.cons h .nil)
theorem se_rev {f : EF} {k : Nat} {p1 p2 p3 : Pos} (h : SE W X e f) : SE W X (.Subscript e (.Slice none none (some (.UnaryOp .USub (.Constant (.int 1) k p1) p2)) p3) pos) (revE f) := PE.imp (PE.or (pe_revL h) (YV.pe_revT h)) fun σ H Q h => by
  obtain ⟨φ, Z, ρ, cs, S, L, t, cs', e0, kk⟩ := h
  obtain ⟨u, c, e1, e2⟩ := R.bind_inv e0
  split at e2
  · cases e2
    refine .inr ⟨φ, Z, ρ, cs, S, L, _, _, e1, fun φ1 Z1 H1 v x1 S1 r1 => ?_⟩
    obtain ⟨a, vs, rfl, _, h1, h2⟩ := S1.asT r1 rfl
    refine ⟨a, vs, rfl, h1, fun q hq => ?_⟩
    have h3 := Reps.all (W := W) (φ := φ1) (by rw [List.map_reverse]; exact Paired.rev (Reps.of_all h2))
    exact finT S1 h3 (fun φ' Z' H' x x' => kk φ' Z' H' x (x1.trans x')) q hq
  · rename_i hne
    split at e2
    · rename_i xs hx
      split at e2
      · rename_i ds hd
        cases e2
        refine .inl ⟨φ, Z, ρ, cs, S, L, _, _, e1, fun φ1 Z1 H1 v x1 S1 r1 => ?_⟩
        obtain ⟨a, vs, rfl, h1, h2⟩ := S1.asL r1 hx
        refine ⟨a, vs, rfl, h1, fun q hq => ?_⟩
        have h3 := Paired.rev h2
        rw [allD_eq hd] at h3
        exact finL S1 (Reps.all h3) (fun φ' Z' H' x x' => kk φ' Z' H' x (x1.trans x')) q hq
      · cases e2
    · cases e2
/-! displays of dicts -/
def pairsF : List (EF × EF) → Rho → Cs → R (List (T × T))
  | [], _, cs => .ok [] cs
  | (k, v) :: r, ρ, cs => (k ρ cs).bind fun t c1 => (v ρ c1).bind fun u c2 => (pairsF r ρ c2).bind fun ps c3 => .ok ((t, u) :: ps) c3
def keysOf : List (T × T) → Option (List (Key × T))
  | [] => some []
  | (t, u) :: r => (match keyT t, keysOf r with
    | some k, some ks => some ((k, u) :: ks)
    | _, _ => none)
def mergeT (acc more : List (Key × T)) : List (Key × T) := more.foldl (fun acc kv => setK acc kv.1 kv.2) acc
theorem RepKV.merge {K : PySem.W.Frag} {φ : List Addr} {Z : Hp} : ∀ {more : List (Key × T)} {ms : List (Key × V)} {acc : List (Key × T)} {as : List (Key × V)}, RepKV W K φ Z more ms → RepKV W K φ Z acc as → RepKV W K φ Z (mergeT acc more) (mergeK as ms)
  | _, _, _, _, .nil, h => h
  | _, _, _, _, .cons (a := (k, t)) (b := (k', v)) h r, q => by
    obtain ⟨h1, h2⟩ := h
    dsimp only at h1 h2
    subst h1
    have := RepKV.merge r (RepKV.setK (k := k) h2 q)
    exact this
def tPs (W : Wd) (K : PySem.W.Frag) (l : List (EF × EF)) : List (TE × TE) := l.map fun p => (tE W K p.1, tE W K p.2)
def SPs (W : Wd) (X : Cx) (pos : Pos) (keys : List (Option Expr)) (values : List Expr) (l : List (EF × EF)) : Prop := PPs X pos keys values (tPs W X.K l)
theorem sps_nil : SPs W X pos [] [] [] := pps_nil
theorem sps_cons {k v : Expr} {ks : List (Option Expr)} {vs : List Expr} {fk fv : EF} {l : List (EF × EF)} (hk : SE W X k fk) (hv : SE W X v fv) (hr : SPs W X pos ks vs l) : SPs W X pos (some k :: ks) (v :: vs) ((fk, fv) :: l) := pps_cons hk hv hr
abbrev RepP (W : Wd) (K : PySem.W.Frag) (φ : List Addr) (Z : Hp) : List (T × T) → List (V × V) → Prop := Paired fun p q => Rep W K φ Z p.1 q.1 ∧ Rep W K φ Z p.2 q.2
theorem tPairs_of {K : PySem.W.Frag} : ∀ {l : List (EF × EF)} {σ : St} {H : Hp} {Q : List (V × V) → Hp → Prop}, (∃ φ Z ρ cs, Sim W K φ Z cs H ∧ Slots W K φ Z ρ σ ∧ ∃ ps cs', pairsF l ρ cs = .ok ps cs' ∧ ∀ φ' Z' H' vs, Ext φ Z H φ' Z' H' → Sim W K φ' Z' cs' H' → RepP W K φ' Z' ps vs → Q vs H') → tPairs (tPs W K l) σ H Q
  | [], σ, H, Q, h => by
    obtain ⟨φ, Z, ρ, cs, S, L, ps, cs', e, kk⟩ := h
    cases e
    exact kk _ _ _ _ (Ext.refl _ _ _) S .nil
  | (fk, fv) :: l, σ, H, Q, h => by
    obtain ⟨φ, Z, ρ, cs, S, L, ps, cs', e, kk⟩ := h
    obtain ⟨t, c1, e1, e⟩ := R.bind_inv e
    obtain ⟨u, c2, e2, e⟩ := R.bind_inv e
    obtain ⟨qs, c3, e3, e⟩ := R.bind_inv e
    cases e
    refine ⟨φ, Z, ρ, cs, S, L, t, c1, e1, fun φ1 Z1 H1 x x1 S1 r1 => ⟨φ1, Z1, ρ, c1, S1, L.ext x1, u, c2, e2, fun φ2 Z2 H2 y x2 S2 r2 => ?_⟩⟩
    exact tPairs_of ⟨φ2, Z2, ρ, c2, S2, (L.ext x1).ext x2, qs, _, e3, fun φ3 Z3 H3 vs x3 S3 r3 => kk _ _ _ _ ((x1.trans x2).trans x3) S3 (.cons ⟨(r1.ext x2).ext x3, r2.ext x3⟩ r3)⟩
theorem keysOf_rep {K : PySem.W.Frag} {φ : List Addr} {Z : Hp} : ∀ {ps : List (T × T)} {vs : List (V × V)} {ks : List (Key × T)}, RepP W K φ Z ps vs → keysOf ps = some ks → ∃ kvs : List (Key × V), vs = kvs.map (fun kv => (kV kv.1, kv.2)) ∧ RepKV W K φ Z ks kvs
  | _, _, ks, .nil, e => by cases e; exact ⟨[], rfl, .nil⟩
  | _, _, ks, .cons (a := (t, u)) (b := (a, b)) h r, e => by
    unfold keysOf at e
    split at e
    · rename_i k ks' h1 h2
      cases e
      obtain ⟨kvs, rfl, r2⟩ := keysOf_rep r h2
      refine ⟨(k, b) :: kvs, ?_, .cons ⟨rfl, h.2⟩ r2⟩
      have : a = kV k := keyT_rep h.1 h1
      simp [this]
    · cases e
def dispC (l : List (EF × EF)) : EF := fun ρ cs => (pairsF l ρ cs).bind fun ps c => match keysOf ps with
  | some ks => if ks.length ≤ 15 then .ok (.ref c.length) (c ++ [.dk (mergeT [] ks)]) else .stuck
  | none => .stuck
theorem se_disp {keys : List (Option Expr)} {values : List Expr} {l : List (EF × EF)} (h : SPs W X pos keys values l) (hall : keys.all (·.isSome) = true := by rfl) (hl : keys.length = values.length := by rfl) (h0 : keys ≠ [] := by intro h; cases h) (h15 : keys.length ≤ 15 := by decide) : SE W X (.Dict keys values pos) (dispC l) :=
  PE.imp (pe_disp h hall hl h0 h15) fun σ H Q h => by
    obtain ⟨φ, Z, ρ, cs, S, L, t, cs', e0, kk⟩ := h
    obtain ⟨ps, c, e1, e2⟩ := R.bind_inv e0
    intro q hq
    have zq : Z q = none := by
      cases z : Z q with
      | none => rfl
      | some u => rw [S.sub _ _ z] at hq; cases hq
    have nq : q ∉ φ := fun hm => by
      obtain ⟨u, z⟩ := S.there q hm
      rw [hq] at z; cases z
    refine tPairs_of ⟨φ, Z, ρ, cs, S.beside (o := .dK []) nq zq (fun u h => by rw [hq] at h; cases h), L, ps, c, e1, fun φ1 Z1 H1 vs x1 S1 r1 => ?_⟩
    have hD := x1.fr (upd_same (H := H) (o := .dK [])) nq (fun _ h => by cases h)
    have n1 := x1.notin (upd_same (H := H) (o := .dK [])) nq
    have z1 := x1.znone (upd_same (H := H) (o := .dK [])) nq zq
    split at e2
    · rename_i ks hk
      split at e2
      · rename_i hl2
        cases e2
        obtain ⟨kvs, rfl, r2⟩ := keysOf_rep r1 hk
        refine ⟨hD, kvs, rfl, by rw [← Paired.len r2]; exact hl2, ?_⟩
        have xb := x1.but (upd_same (H := H) (o := .dK [])) nq
        rw [but_upd, but_none hq] at xb
        have S2 := S1.beside (o := .dK (mergeK [] kvs)) n1 z1 (fun u h => by rw [hD] at h; cases h; exact fun _ q => by cases q)
        have rm : RepKV W X.K (φ1 ++ [q]) Z1 (mergeT [] ks) (mergeK [] kvs) := RepKV.mono (List.prefix_append _ _) (fun _ _ h => h) (RepKV.merge r2 .nil)
        refine kk (φ1 ++ [q]) Z1 _ _ (Ext.adopt (D := q) (by rw [but_upd]; exact xb) hq) (S2.adopt upd_same n1 ⟨z1, _, upd_same, rm⟩) (.ref ?_)
        rw [← S1.len, List.getElem?_append_right (Nat.le_refl _)]
        simp
      · cases e2
    · cases e2
/-! d.get(k, x) -/
def getE (fd fk fx : EF) : EF := fun ρ cs => (fd ρ cs).bind fun d c1 => match d with
  | .ref n => (match c1[n]? with
    | some (.dk _) => (fk ρ c1).bind fun k c2 => (fx ρ c2).bind fun x c3 => (match c3[n]? with
      | some (.dk kvs) => (match keyT k with
        | some ky => .ok ((getK kvs ky).getD x) c3
        | none => .stuck)
      | _ => .stuck)
    | _ => .stuck)
  | _ => .stuck
theorem se_get2 {a b : Expr} {fd fk fx : EF} {cpos : Pos} (hu : X.A.units + 1 < cLine) (ho : SE W X o fd) (he : SE W X a fk) (hf : SE W X b fx) (m : M2 X o "get" apos a b cpos := by exact ⟨rfl, rfl, rfl, rfl⟩) : SE W X (.Call (.Attribute o "get" apos) [a, b] [] cpos) (getE fd fk fx) :=
  PE.imp (pe_dget2 hu ho he hf m) fun σ H Q h => by
    obtain ⟨φ, Z, ρ, cs, S, L, t, cs', e0, kk⟩ := h
    obtain ⟨d, c1, e1, e2⟩ := R.bind_inv e0
    refine ⟨φ, Z, ρ, cs, S, L, d, c1, e1, fun φ1 Z1 H1 v x1 S1 r1 => ?_⟩
    split at e2
    · rename_i n
      split at e2
      · rename_i kv0 hc
        obtain ⟨k, c2, e3, e2⟩ := R.bind_inv e2
        obtain ⟨x, c3, e4, e2⟩ := R.bind_inv e2
        cases r1 with
        | @ref _ a ea =>
          obtain ⟨_, vs0, h1, _⟩ := S1.cell _ _ _ hc ea
          refine ⟨a, rfl, .inl ⟨vs0, .inl h1⟩, φ1, Z1, ρ, c1, S1, L.ext x1, k, c2, e3, fun φ2 Z2 H2 y x2 S2 r2 => ⟨φ2, Z2, ρ, c2, S2, (L.ext x1).ext x2, x, c3, e4, fun φ3 Z3 H3 z x3 S3 r3 => ?_⟩⟩
          split at e2
          · rename_i kvs hc3
            split at e2
            · rename_i ky hk
              cases e2
              have ea3 := pre_get (x2.trans x3).pre ea
              obtain ⟨_, vs, h2, h3⟩ := S3.cell _ _ _ hc3 ea3
              rw [keyT_rep r2 hk]
              refine ⟨valV vs ky, DGet.k h2, kk _ _ _ _ ((x1.trans x2).trans x3) S3 ?_⟩
              have hg := RepKV.get ky h3
              have hv : valV vs ky = getK vs ky := rfl
              rw [hv]
              cases q : getK kvs ky with
              | none =>
                rw [q] at hg
                dsimp only at hg
                rw [hg]
                exact r3
              | some u =>
                rw [q] at hg
                dsimp only at hg
                obtain ⟨v, h4, h5⟩ := hg
                rw [h4]
                exact h5
            · cases e2
          · cases e2
      · cases e2
    · cases e2
end
end Y
end
section
set_option Elab.async false
set_option linter.all false
set_option maxRecDepth 100000
set_option maxHeartbeats 1000000
namespace YT
open PySem PySem.Spec PyProof.Rows L2
/-- enumerate of a text -/
def IteS (z : Str) : It :=
  ⟨fun i _ => i < z.cps.size, fun i H v H' => ∃ T ch, v = .ref T ∧ H T = none ∧ z.cps[i]? = some ch ∧ H' = upd H T (.tup [.int (i : Nat), .str ⟨#[ch]⟩]), fun i _ => z.cps.size ≤ i⟩
theorem turn_enumS {P : Program} {w : World} {K : PySem.W.Frag} {elts : List Expr} {kk : Nat} {tpos : Pos} (z : Str) (t : Tok) (e it : Addr) :
    Turn P w K (.Tuple elts kk tpos) (IteS z) [e, it] e (fun i h => (∃ old, IsEnum h e it ((i : Nat) : Int) old) ∧ h.IsStrIter it (strIterType z) z t i ∧ e ≠ it ∧ i ≤ z.cps.size) where
  mem := by simp
  obj := fun i h st b hb => by
    obtain ⟨⟨old, he⟩, ⟨o, ho, hc, hd⟩, _⟩ := st
    have e' : b = e ∨ b = it := by simpa using hb
    rcases e' with z | z
    · rw [z]; exact ⟨_, he, fun v q => nomatch q⟩
    · rw [z]; exact ⟨o, ho, fun v q => by rw [hd] at q; cases q⟩
  keep := fun i h h' st k => by
    obtain ⟨⟨old, he⟩, ⟨o, ho, hc, hd⟩, hne⟩ := st
    exact ⟨⟨old, k e (by simp) _ he⟩, ⟨o, k it (by simp) o ho, hc, hd⟩, hne⟩
  item := by
    intro X hP hw hK hc i pins s σ H E I hf st hg
    subst hP hw hK
    obtain ⟨⟨old, he⟩, hit, hne, hle⟩ := st
    have hlt : i < z.cps.size := hg
    have hel : e < s.heap.objs.size := Heap.lt_size he
    have hil : it < s.heap.objs.size := by obtain ⟨_, q, _⟩ := hit; exact Heap.lt_size q
    have D := Draws.text (prog := X.prog) (w := X.w) (A := X.A.in1) (I.ok.hd hc) it z t
    have hef : e ∉ [it] := by simp; exact hne
    refine wpAny_pyNext_enum_itemD D he hit hlt hne hef fun u' h' tk hPx ho hst' hT hsz hk => ?_
    obtain ⟨ch, tu, hch, rfl⟩ := hPx
    refine ⟨_, rfl, wpAny_letOwnedTupleGo_enum (s := { s with heap := h', toks := tk + 1 }) ho fun h'' he' sb => ?_⟩
    have hT2 : h''.get? s.heap.objs.size = some { cls := .type "tuple", data := .seq #[.int i tk, .str ⟨#[ch]⟩ tu] } := (sb.2 _ (Nat.ne_of_gt hel)).trans hT
    have new : ObjOk X.prog X.w (upd H s.heap.objs.size (.tup [.int (i : Nat), .str ⟨#[ch]⟩])) h'' s.heap.objs.size (.tup [.int (i : Nat), .str ⟨#[ch]⟩]) :=
      ⟨by show 2 ≤ sizeLine; decide, [.int i tk, .str ⟨#[ch]⟩ tu], .cons ⟨_, rfl⟩ (.cons ⟨_, rfl⟩ .nil), ⟨_, hT2, rfl, _, rfl⟩⟩
    have I1 : Inv X pins σ (upd H s.heap.objs.size (.tup [.int (i : Nat), .str ⟨#[ch]⟩])) { s with heap := h'', toks := tk + 1 } :=
      I.turnedNew (ch := [e, it]) (fun b ob hb q => (sb.2 b (fun z => hb (by simp [z]))).trans (hk b ob (fun z => hb (by simp [z])) (fun z => hb (by simp [z])) q)) hf (Nat.le_refl _) new
    refine ⟨.ref s.heap.objs.size, _, I1, rfl, ⟨_, ch, rfl, I.hok.fresh (Nat.le_refl _), hch, rfl⟩, ⟨⟨.str ⟨#[ch]⟩ tu, ?_⟩, ?_, hne, hlt⟩, fun b hb => ?_⟩
    · have e1 : ((i + 1 : Nat) : Int) = (i : Int) + 1 := by omega
      rw [e1]; exact he'
    · obtain ⟨o, ho', r⟩ := hst'
      exact ⟨o, (sb.2 it (Ne.symm hne)).trans ho', r⟩
    · have hb' : b < s.heap.objs.size := by
        have e' : b = e ∨ b = it := by simpa using hb
        rcases e' with z | z
        · rw [z]; exact hel
        · rw [z]; exact hil
      rw [upd_ne (Nat.ne_of_lt hb')]
      exact (hf b hb).1
  done := by
    intro X hP hw hK hc i pins s σ H E I hf st hg
    subst hP hw hK
    obtain ⟨⟨old, he⟩, hit, hne, hle⟩ := st
    have hge : z.cps.size ≤ i := hg
    have hi : i = z.cps.size := Nat.le_antisymm hle hge
    subst hi
    obtain ⟨f0, f1, f2, f3, f4, f5⟩ := hf it (by simp)
    have D := Draws.text (prog := X.prog) (w := X.w) (A := X.A.in1) (I.ok.hd hc) it z t
    exact wpAny_pyNext_enum_endD D he hit fun h' he' => ⟨rfl, I.turned (t' := s.toks) (fun b o hb q => he' b o hb q) f0 f1 f3 f4 f5⟩
  self := fun A i s Q E st h => let ⟨⟨_, he⟩, _⟩ := st; wpAny_pyIter_enum he h
def iEnumS (ta : TA) : TI := fun σ H R => ta σ H fun vs H1 => ∃ z, vs = [.str z] ∧ R (IteS z) H1
theorem pi_enumS {X : Cx} {e : Expr} {ta : TA} {p pos tpos : Pos} {elts : List Expr} {kk : Nat} (hg : Gl X "enumerate") (hm : X.mg "enumerate" = none) (ha : PA X [e] ta) (hs : starEach [e] X.env = [(false, eval e X.env)] := by rfl) :
    PI X (.Tuple elts kk tpos) (.Call (.Name "enumerate" p) [e] [] pos) (iEnumS ta) := by
  refine ⟨fun pins s σ H R I h => ?_⟩
  refine Call_ (ld_blt I hg hm boot_enumerate (PyProof.Rows.callWith_type1 (thn (ha.run pos pins s σ H _ I h) fun us s1 ⟨vs, H1, I1, r1, q1⟩ => ?_) hs rfl))
  obtain ⟨z, ex, q⟩ := q1
  subst ex
  cases r1 with
  | cons r rr =>
    cases rr
    obtain ⟨t, rfl⟩ := r
    have fp2 : ∀ b ∈ [s1.heap.objs.size + 1, s1.heap.objs.size], FpOk X pins H1 b := fun b hb => by
      have e' : b = s1.heap.objs.size + 1 ∨ b = s1.heap.objs.size := by simpa using hb
      have hle : s1.heap.objs.size ≤ b := by
        rcases e' with z | z
        · rw [z]; exact Nat.le_add_right _ _
        · rw [z]; exact Nat.le_refl _
      exact I1.fpOk hle (I1.hok.fresh hle)
    refine call_enumerate_str fun h' he hit hsz hk => wpAny_pyIter_enum he ?_
    have I2 : Inv X pins σ H1 { s1 with heap := h' } := I1.kept (t' := s1.toks) hk
    exact ⟨s1.heap.objs.size + 1, [s1.heap.objs.size + 1, s1.heap.objs.size], _, _, H1, rfl, I2, turn_enumS z t (s1.heap.objs.size + 1) s1.heap.objs.size, ⟨⟨.none, he⟩, hit, Nat.succ_ne_self _, Nat.zero_le _⟩, fp2, q⟩
end YT
namespace Y
open PySem PySem.Spec L2
def enumSI (g : AF) : IF := fun ρ cs => (g ρ cs).bind fun ts c => match ts with
  | [.d (.str z)] => .ok (enumL 0 (z.cps.toList.map fun k => .str ⟨#[k]⟩), fun _ => True) c
  | _ => .stuck
theorem si_enumS {W : Wd} {X : Cx} {pos : Pos} {a : Expr} {g : AF} {p tpos : Pos} {elts : List Expr} {kk : Nat} (hg : Gl X "enumerate") (hm : X.mg "enumerate" = none) (ha : SA W X [a] g) (hs : starEach [a] X.env = [(false, eval a X.env)] := by rfl) : SI W X (.Tuple elts kk tpos) (.Call (.Name "enumerate" p) [a] [] pos) (enumSI g) := PI.imp (YT.pi_enumS hg hm ha hs) fun σ H Rr h => by
  obtain ⟨φ, Z, ρ, cs, S, L, ts, keep, cs', e, k⟩ := h
  obtain ⟨us, c, e1, e⟩ := R.bind_inv e
  refine ⟨φ, Z, ρ, cs, S, L, us, c, e1, fun φ1 Z1 H1 vs x1 S1 r1 => ?_⟩
  split at e
  · rename_i z
    cases e
    obtain ⟨v, rfl, r2⟩ := Reps.one r1
    cases r2.dStr
    refine ⟨z, rfl, k φ1 Z1 H1 _ x1 S1 fun φ2 Z2 H2 cs2 x2 S2 _ => ?_⟩
    rw [enumL_len, List.length_map, Array.length_toList]
    refine ⟨fun i hi => hi, Nat.le_refl _, fun i x H' hi hy => ?_⟩
    obtain ⟨T, ch, rfl, hT', hch, rfl⟩ := hy
    obtain ⟨Z', x3, S3, r3⟩ := pairT (a := .int (i : Nat)) (b := .str ⟨#[ch]⟩) S2 hT' (Rep.int (i : Nat)) (Rep.str ⟨#[ch]⟩)
    refine ⟨_, Z', enumL_get 0 _ i (.str ⟨#[ch]⟩) (by rw [List.getElem?_map, Array.getElem?_toList, hch]; rfl), x3, S3, ?_⟩
    rw [show ((0 + i : Nat) : Int) = ((i : Nat) : Int) by omega]
    exact r3
  · cases e
/-! ### a def as it may be called -/
structure DefOk (W : Wd) (P : Program) (w : World) (K : PySem.W.Frag) (mg : Str → Option Value) (base : Heap) (k j : Nat) (ps : List Str) (dts : List T) (F : FF) : Prop where
  ex : ∃ (fd : FuncData) (dvs : List V) (ds : List Value), YG.FnG P w K mg base k (W.fad j) fd ps (spY W K ps.length F) ∧ Binds K fd ps ds ∧ Vals dvs ds ∧ (∀ φ Z, Reps W K φ Z dts dvs) ∧ PySem.W.keepIn K (.ref (W.fad j)) = true ∧ PySem.W.fnIn K (W.fad j) = true
  ar : Ar ps.length F
theorem DefOk.held {W : Wd} {P : Program} {w : World} {K : PySem.W.Frag} {mg : Str → Option Value} {base : Heap} {k j : Nat} {ps : List Str} {F : FF} (D : DefOk W P w K mg base k j ps [] F) : HeldY W P w K mg base k j F := by
  obtain ⟨fd, dvs, ds, h1, h2, h3, h4, h5, h6⟩ := D.ex
  have h7 := h4 [] (fun _ => none)
  cases h7
  cases h3
  exact ⟨fd, ps, h1, D.ar, h5, h2, h6⟩
def gk {α : Type} (n : Nat) (perm : List Nat) (us ws : List α) : List α := if us.length = 0 ∧ ws.length = n then perm.filterMap fun i => ws[i]? else []
structure DefK (W : Wd) (P : Program) (w : World) (K : PySem.W.Frag) (mg : Str → Option Value) (base : Heap) (k j : Nat) (ps ks : List Str) (perm : List Nat) (F : FF) : Prop where
  ex : ∃ (fd : FuncData), YG.FnG P w K mg base k (W.fad j) fd ps (spY W K ps.length F) ∧ KBinds K fd ps ks (gk ks.length perm) (gk ks.length perm) ∧ PySem.W.keepIn K (.ref (W.fad j)) = true
  ar : Ar ps.length F
theorem PK.imp {X : Cx} {kws : List Keyword} {t t' : TA} (h : PK X kws t) (k : ∀ σ H Q, t' σ H Q → t σ H Q) : PK X kws t' := ⟨fun pos pins s σ H Q I q => h.run pos pins s σ H Q I (k σ H Q q)⟩
def SK (W : Wd) (X : Cx) (kws : List Keyword) (g : AF) : Prop := PK X kws (tA W X.K g)
def callKE (n : Nat) (perm : List Nat) (F : FF) (g : AF) : EF := fun ρ cs => (g ρ cs).bind fun ts c => F (gk n perm [] ts) c
section
variable {W : Wd} {X : Cx} {pos p apos : Pos} {x m : Str} {e o : Expr} {es : List Expr} {k j ci : Nat} {ps ks : List Str} {perm : List Nat} {dts : List T} {F : FF} {g : AF} {fo : EF}
theorem sk_nil : SK W X [] nilA := PK.imp pk_nil fun σ H Q h => by
  obtain ⟨φ, Z, ρ, cs, S, L, ts, c, e1, kk⟩ := h
  cases e1
  exact kk _ _ _ _ (Ext.refl _ _ _) S .nil
theorem sk_cons {nm : Option Str} {kpos : Pos} {kws : List Keyword} {f : EF} (ha : SE W X e f) (hr : SK W X kws g) : SK W X (⟨nm, e, kpos⟩ :: kws) (consA f g) := PK.imp (pk_cons ha hr) fun σ H Q h => by
  obtain ⟨φ, Z, ρ, cs, S, L, ts, c, e1, kk⟩ := h
  obtain ⟨t, c1, e2, e1⟩ := R.bind_inv e1
  obtain ⟨us, c2, e3, e1⟩ := R.bind_inv e1
  cases e1
  exact ⟨φ, Z, ρ, cs, S, L, t, c1, e2, fun φ1 Z1 H1 v x1 S1 r1 => ⟨φ1, Z1, ρ, c1, S1, L.ext x1, us, _, e3, fun φ2 Z2 H2 vs x2 S2 r2 => kk _ _ _ _ (x1.trans x2) S2 (.cons (r1.ext x2) r2)⟩⟩
theorem Paired.pick {α β : Type} {F : α → β → Prop} {l : List α} {m : List β} (h : Paired F l m) : ∀ perm : List Nat, Paired F (perm.filterMap fun i => l[i]?) (perm.filterMap fun i => m[i]?)
  | [] => .nil
  | i :: r => by
    rw [List.filterMap_cons, List.filterMap_cons]
    have hl := Paired.len h
    cases q : l[i]? with
    | none =>
      have : m[i]? = none := by rw [List.getElem?_eq_none_iff] at q ⊢; omega
      rw [this]
      exact Paired.pick h r
    | some a =>
      obtain ⟨b, h1, h2⟩ := Paired.get h q
      rw [h1]
      exact .cons h2 (Paired.pick h r)
theorem gk_rep {α β : Type} {F : α → β → Prop} {l us : List α} {m vs : List β} (h0 : Paired F us vs) (h : Paired F l m) (n : Nat) (perm : List Nat) : Paired F (gk n perm us l) (gk n perm vs m) := by
  unfold gk
  rw [← Paired.len h, ← Paired.len h0]
  split
  · exact Paired.pick h perm
  · exact .nil
theorem se_callD (D : DefOk W X.prog X.w X.K X.mg X.base k j ps dts F) (hr : YG.RoomG k X.A) (hg : Gl X x) (hm : X.mg x = some (.ref (W.fad j))) (ha : SA W X (e :: es) g) (hdb : (x == ("__debug__" : Str)) = false := by decide +kernel)
    (he : starEach (e :: es) X.env = (false, eval e X.env) :: starEach es X.env := by rfl) (hpl : (backTo pos (starEach es X.env)).any (·.1) = false := by rfl) : SE W X (.Call (.Name x p) (e :: es) [] pos) (callE F dts g) := by
  obtain ⟨fd, dvs, ds, h1, h2, h3, h4, h5, h6⟩ := D.ex
  exact se_call h1 D.ar hr hg hm h5 h2 h3 h4 ha hdb he hpl
theorem se_callD0 (D : DefOk W X.prog X.w X.K X.mg X.base k j ps dts F) (hr : YG.RoomG k X.A) (hg : Gl X x) (hm : X.mg x = some (.ref (W.fad j))) (hdb : (x == ("__debug__" : Str)) = false := by decide +kernel) : SE W X (.Call (.Name x p) [] [] pos) (callE F dts nilA) := by
  obtain ⟨fd, dvs, ds, h1, h2, h3, h4, h5, h6⟩ := D.ex
  exact se_call0 h1 D.ar hr hg hm h5 h2 h3 h4 hdb
theorem se_callKD {n : Nat} {kws : List Keyword} (D : DefK W X.prog X.w X.K X.mg X.base k j ps ks perm F) (hr : YG.RoomG k X.A) (hg : Gl X x) (hm : X.mg x = some (.ref (W.fad j))) (hkw : SK W X kws g) (hall : (backToKw pos (keywordEach kws X.env)).all (·.1.isSome) = true := by rfl) (hks : (backToKw pos (keywordEach kws X.env)).filterMap (·.1) = ks := by rfl)
    (hdb : (x == ("__debug__" : Str)) = false := by decide +kernel) (hpl : ((backTo pos (starEach [] X.env)).any (·.1) || (backToKw pos (keywordEach kws X.env)).any (·.1.isNone)) = false := by rfl) (hn : ks.length = n := by rfl) : SE W X (.Call (.Name x p) [] kws pos) (callKE n perm F g) := by
  subst hn
  obtain ⟨fd, h1, h2, h3⟩ := D.ex
  refine PE.imp (YG.pe_callK0 h1 hr hg hm h3 h2 hkw hall hks hdb hpl) fun σ H Q h => ?_
  obtain ⟨φ, Z, ρ, cs, S, L, t, cs', e0, kk⟩ := h
  obtain ⟨ts, c, e1, e2⟩ := R.bind_inv e0
  exact ⟨φ, Z, ρ, cs, S, L, ts, c, e1, fun φ1 Z1 H1 vs x1 S1 r1 => ⟨φ1, Z1, gk ks.length perm [] ts, c, S1, gk_rep .nil r1 _ _, D.ar _ _ _ _ e2, t, cs', e2, fun φ' Z' H' v x' => kk φ' Z' H' v (x1.trans x')⟩⟩
theorem se_methD {pl : Sem Bool} (ho : SE W X o fo) (c : Cls X.K (W.cad ci)) (hm : Meth X.K (W.cad ci) m (W.fad j)) (D : DefOk W X.prog X.w X.K X.mg X.base k j ps dts F) (hr : YG.RoomG k X.A) (ha : SA W X (e :: es) g)
    (hst : starEach (e :: es) X.env = (false, eval e X.env) :: starEach es X.env := by rfl) (hpl : (backTo pos (starEach es X.env)).any (·.1) = false := by rfl)
    (ht : eval (.Call (.Attribute o m apos) (e :: es) [] pos) X.env = (do
      let ov ← eval o X.env
      standAt apos.atName
      let (f, first) ← holding [ov] (getMethod ov m pl)
      callWith pos f first (backTo pos (starEach (e :: es) X.env)) (backToKw pos (keywordEach [] X.env))) := by rfl) : SE W X (.Call (.Attribute o m apos) (e :: es) [] pos) (methE ci m F dts fo g) := by
  obtain ⟨fd, dvs, ds, h1, h2, h3, h4, h5, h6⟩ := D.ex
  exact se_meth (pl := pl) ho c hm h1 D.ar hr h2 h3 h4 ha hst hpl ht
theorem se_methD0 {pl : Sem Bool} (ho : SE W X o fo) (c : Cls X.K (W.cad ci)) (hm : Meth X.K (W.cad ci) m (W.fad j)) (D : DefOk W X.prog X.w X.K X.mg X.base k j ps dts F) (hr : YG.RoomG k X.A)
    (ht : eval (.Call (.Attribute o m apos) [] [] pos) X.env = (do
      let ov ← eval o X.env
      standAt apos.atName
      let (f, first) ← holding [ov] (getMethod ov m pl)
      callWith pos f first (backTo pos (starEach [] X.env)) (backToKw pos (keywordEach [] X.env))) := by rfl) : SE W X (.Call (.Attribute o m apos) [] [] pos) (methE ci m F dts fo nilA) := by
  obtain ⟨fd, dvs, ds, h1, h2, h3, h4, h5, h6⟩ := D.ex
  exact se_meth0 (pl := pl) ho c hm h1 D.ar hr h2 h3 h4 ht
theorem DefOk.mk' {W : Wd} {P : Program} {w : World} {K : PySem.W.Frag} {mg : Str → Option Value} {base : Heap} {k j : Nat} {ps : List Str} {F : FF} {x qual : Str} {params : Arguments} {body : List Stmt} {scope : Scope} (Fd : ∃ fd, FunD K x qual params body scope [] [] (W.fad j) fd) (hb : ∀ fd, FunD K x qual params body scope [] [] (W.fad j) fd → Binds K fd ps [])
    (hF : ∀ fd, FunD K x qual params body scope [] [] (W.fad j) fd → YG.FnG P w K mg base k (W.fad j) fd ps (spY W K ps.length F)) (ar : Ar ps.length F) : DefOk W P w K mg base k j ps [] F := by
  obtain ⟨fd, h⟩ := Fd
  refine ⟨⟨fd, [], [], hF fd h, hb fd h, .nil, fun _ _ => .nil, h.kp, ?_⟩, ar⟩
  obtain ⟨oc, od, dV, kV, doc, pm, an, cdv, ct, osl, rfl, lk, _⟩ := h.ex
  unfold PySem.W.fnIn
  rw [lk]
theorem DefK.mk' {W : Wd} {P : Program} {w : World} {K : PySem.W.Frag} {mg : Str → Option Value} {base : Heap} {k j : Nat} {ps ks : List Str} {perm : List Nat} {F : FF} {x qual : Str} {params : Arguments} {body : List Stmt} {scope : Scope} (Fd : ∃ fd, FunD K x qual params body scope [] [] (W.fad j) fd) (hp : ps ≠ [])
    (hb : ∀ (kV doc pm : Value) (an : Option Addr) (cdv ct : Value) (ws : List Value), ws.length = ks.length → bindArgs (PySem.W.fnOf x qual params body scope .none kV doc pm an cdv ct) ⟨[], ks.zip ws⟩ = pure (ps.zip (perm.filterMap fun i => ws[i]?)))
    (hF : ∀ fd, FunD K x qual params body scope [] [] (W.fad j) fd → YG.FnG P w K mg base k (W.fad j) fd ps (spY W K ps.length F)) (ar : Ar ps.length F) : DefK W P w K mg base k j ps ks perm F := by
  obtain ⟨fd, h⟩ := Fd
  refine ⟨⟨fd, hF fd h, ⟨fun s us ws X hl => ?_, fun r1 r2 => gk_rep r1 r2 _ _⟩, h.kp⟩, ar⟩
  obtain ⟨oc, od, dV, kV, doc, pm, an, cdv, ct, osl, rfl, lk, _, hD, _⟩ := h.ex
  rcases hD with ⟨_, rfl⟩ | ⟨z, _⟩
  · unfold gk at hl ⊢
    by_cases q : us.length = 0 ∧ ws.length = ks.length
    · rw [if_pos q]
      obtain ⟨q1, q2⟩ := q
      have : us = [] := List.length_eq_zero_iff.mp q1
      subst this
      exact BindsTo.of_eq (hb kV doc pm an cdv ct ws q2)
    · rw [if_neg q] at hl
      exact absurd (List.length_eq_zero_iff.mp hl.symm) hp
  · exact absurd rfl z
theorem stuck_bind {g : AF} {ci : Nat} {dts : List T} : makeE ci (fun _ _ => .stuck) dts g = fun ρ cs => (g ρ cs).bind fun _ _ => .stuck := by
  funext ρ cs
  unfold makeE
  rfl
/-- the level below: where there is none, nothing is promised -/
theorem se_makeD (M : Mk X.K (W.cad ci) (W.fad j)) (D : DefOk W X.prog X.w X.K X.mg X.base (k - 1) j ps dts F) (h0 : k = 0 → F = fun _ _ => .stuck) (hr : YG.RoomG k X.A) (hg : Gl X x) (hm : X.mg x = some (.ref (W.cad ci))) (ha : SA W X (e :: es) g)
    (hdb : (x == ("__debug__" : Str)) = false := by decide +kernel) (he : starEach (e :: es) X.env = (false, eval e X.env) :: starEach es X.env := by rfl) (hpl : (backTo pos (starEach es X.env)).any (·.1) = false := by rfl) : SE W X (.Call (.Name x p) (e :: es) [] pos) (makeE ci F dts g) := by
  obtain ⟨fd, dvs, ds, h1, h2, h3, h4, h5, h6⟩ := D.ex
  cases k with
  | zero =>
    rw [h0 rfl]
    refine PE.imp (se_never (W := W)) fun σ H Q h => ?_
    obtain ⟨φ, Z, ρ, cs, S, L, t, cs', e0, kk⟩ := h
    obtain ⟨ts, c, e1, e2⟩ := R.bind_inv e0
    cases e2
  | succ k => exact se_make M h1 D.ar hr hg hm h2 h3 h4 ha hdb he hpl
end
end Y
end
section
set_option Elab.async false
set_option linter.all false
set_option maxRecDepth 100000
set_option maxHeartbeats 1000000
namespace YH
open PySem PySem.Spec PyProof.Rows L2 Y He
/-! ### constants of the module, told by a check -/
mutual
def dzB (K : PySem.W.Frag) : PyData → Value → Bool
  | .none, u => (match u with
    | .none => true
    | _ => false)
  | .bool b, u => (match u with
    | .bool c => b == c
    | _ => false)
  | .int i, u => (match u with
    | .int j _ => decide (i = j)
    | _ => false)
  | .str x, u => (match u with
    | .str y _ => decide (x = y)
    | _ => false)
  | .tuple ds, u => (match u with
    | .ref a => (match K.lookup a with
      | some ⟨.type c, _, .seq its _, _⟩ => decide (c = "tuple") && (decide (its.size ≤ sizeLine) && dzAllB K ds its.toList)
      | _ => false)
    | _ => false)
  | _, _ => false
def dzAllB (K : PySem.W.Frag) : List PyData → List Value → Bool
  | [], [] => true
  | d :: ds, u :: us => dzB K d u && dzAllB K ds us
  | _, _ => false
end
mutual
theorem dzB_ok {K : PySem.W.Frag} : ∀ (d : PyData) (u : Value), dzB K d u = true → ∃ v, RelV v u ∧ ∀ Z, Dz K Z v d
  | .none, u, h => by
    cases u with
    | none => exact ⟨.non, rfl, fun _ => .non⟩
    | _ => simp [dzB] at h
  | .bool b, u, h => by
    cases u with
    | bool c =>
      simp only [dzB, beq_iff_eq] at h
      subst h
      exact ⟨.bl b, rfl, fun _ => .bl b⟩
    | _ => simp [dzB] at h
  | .int i, u, h => by
    cases u with
    | int j t =>
      simp only [dzB, decide_eq_true_eq] at h
      subst h
      exact ⟨.int i, ⟨t, rfl⟩, fun _ => .int i⟩
    | _ => simp [dzB] at h
  | .str i, u, h => by
    cases u with
    | str j t =>
      simp only [dzB, decide_eq_true_eq] at h
      subst h
      exact ⟨.str i, ⟨t, rfl⟩, fun _ => .str i⟩
    | _ => simp [dzB] at h
  | .tuple ds, u, h => by
    cases u with
    | ref a =>
      simp only [dzB] at h
      split at h
      · rename_i c od its n sl hl
        obtain ⟨h1, h2⟩ := ba h
        obtain ⟨h3, h4⟩ := ba h2
        obtain ⟨vs, r, hz⟩ := dzAllB_ok ds its.toList h4
        exact ⟨.ref a, rfl, fun Z => .tup (.inr ⟨_, its, n, hl, congrArg Value.type (of_decide_eq_true h1), rfl, of_decide_eq_true h3, r⟩) (hz Z)⟩
      · cases h
    | _ => simp [dzB] at h
  | .list _, u, h => by simp [dzB] at h
  | .dict _, u, h => by simp [dzB] at h
theorem dzAllB_ok {K : PySem.W.Frag} : ∀ (ds : List PyData) (us : List Value), dzAllB K ds us = true → ∃ vs, Vals vs us ∧ ∀ Z, DzAll K Z vs ds
  | [], [], _ => ⟨[], .nil, fun _ => .nil⟩
  | [], _ :: _, h => by simp [dzAllB] at h
  | _ :: _, [], h => by simp [dzAllB] at h
  | d :: ds, u :: us, h => by
    simp only [dzAllB] at h
    obtain ⟨h1, h2⟩ := ba h
    obtain ⟨v, r1, z1⟩ := dzB_ok d u h1
    obtain ⟨vs, r2, z2⟩ := dzAllB_ok ds us h2
    exact ⟨v :: vs, .cons r1 r2, fun Z => .cons (z1 Z) (z2 Z)⟩
end
/-- the module's name x is this tuple -/
theorem tup_rep {W : Wd} {K : PySem.W.Frag} {a : Addr} {ds : List PyData} (h : dzB K (.tuple ds) (.ref a) = true) (φ : List Addr) (Z : Hp) : Rep W K φ Z (.d (.tuple ds)) (.ref a) := by
  obtain ⟨v, r, hz⟩ := dzB_ok _ _ h
  have h2 := hz Z
  cases v with
  | ref b => cases r; exact .d h2
  | _ => cases h2
/-- a method that can be taken as a value -/
def bmB (K : PySem.W.Frag) (x m : Str) : Bool := decide (PySem.W.specialIn K (.ref (ma K (ga K x) m)) "__get__" = some (some (.builtin "function.__get__"))) && (decide (PySem.W.takesIn K (.ref (ma K (ga K x) m)) = some false) && PySem.W.fnIn K (ma K (ga K x) m))
theorem bmB_ok {K : PySem.W.Frag} {x m : Str} (h : bmB K x m = true) (hm : Meth K (ga K x) m (ma K (ga K x) m)) (hc : PySem.W.copiedNames.contains m = false := by decide +kernel) : BMeth K (ga K x) m (ma K (ga K x) m) := by
  obtain ⟨h1, h2⟩ := ba h
  obtain ⟨h3, h4⟩ := ba h2
  exact ⟨hm, of_decide_eq_true h1, of_decide_eq_true h3, hc, h4⟩
/-! ### dicts of the module -/
def valB (K : PySem.W.Frag) (a : Addr) (kvs : List (Str × PyData)) : Bool := kvs.all fun q => match PySem.W.nsIn K a q.1 with
  | some (some u) => dzB K q.2 u
  | _ => false
theorem key_mem : ∀ {l : List DictEntry} {P : Params} {ks : List Str}, l.map He.keyOf = keysIn P ks → ∀ e ∈ l, ∃ k t, e.key = .str k t ∧ k ∈ ks
  | [], _, _, _, e, he => by cases he
  | x :: l, P, [], h, e, he => by cases h
  | x :: l, P, k :: ks, h, e, he => by
    have h1 : He.keyOf x :: l.map He.keyOf = some (k, PyData.keyHash P k) :: keysIn P ks := h
    injection h1 with h2 h3
    rcases List.mem_cons.mp he with rfl | he
    · unfold He.keyOf at h2
      split at h2
      · rename_i y t q
        obtain ⟨h5, h6⟩ := Prod.mk.inj (Option.some.inj h2)
        exact ⟨y, t, q, by simp [h5]⟩
      · cases h2
    · obtain ⟨k', t, h4, h5⟩ := key_mem h3 e he
      exact ⟨k', t, h4, List.mem_cons_of_mem _ h5⟩
theorem ns_none {K : PySem.W.Frag} {P : Params} {a : Addr} {ks : List Str} {z : Str} (h : dicW K a = some (keysIn P ks)) (hz : z ∉ ks) : PySem.W.nsIn K a z = some none := by
  unfold dicW at h
  split at h
  · rename_i c es n sl hl
    split at h
    · have hk := Option.some.inj h
      have hm := key_mem hk
      unfold PySem.W.nsIn
      rw [hl]
      dsimp only
      have h1 : es.toList.find? (·.key.isStr z) = none := by
        rw [List.find?_eq_none]
        intro e he
        obtain ⟨k, t, h2, h3⟩ := hm e he
        rw [h2]
        have : k ≠ z := fun q => hz (q ▸ h3)
        simp [Value.isStr, this]
      have h4 : es.toList.any (·.refKey) = false := by
        rw [List.any_eq_false]
        intro e he
        obtain ⟨k, t, h2, h3⟩ := hm e he
        simp [DictEntry.refKey, h2]
      rw [h1, h4]
      rfl
    · cases h
  · cases h
/-- a written dict, as the layer asks it -/
theorem kd_ok {W : Wd} {K : PySem.W.Frag} {w : World} {a : Addr} {kvs : List (Str × PyData)} (h : dicW K a = some (keysIn w.params (kvs.map (·.1)))) (hv : valB K a kvs = true) :
    ∃ es n, K.lookup a = some ⟨.type "dict", none, .dict es n, #[]⟩ ∧ PySem.W.KeysLit w.params es.toList ∧ (a == sysModules) = false ∧ ∀ z : Str,
    (match getK (kvs.map fun q => (q.1, T.d q.2)) z with
    | some t => ∃ u v, PySem.W.nsIn K a z = some (some u) ∧ RelV v u ∧ ∀ φ Z, Rep W K φ Z t v
    | none => PySem.W.nsIn K a z = some none) := by
  obtain ⟨es, n, D⟩ := dicW_ok h
  refine ⟨es, n, D.at_, D.lit, D.low, fun z => ?_⟩
  have hg : getK (kvs.map fun q => (q.1, T.d q.2)) z = (kvs.find? fun kv => decide (kv.1 = z)).map fun q => T.d q.2 := by
    unfold getK
    rw [List.find?_map]
    have e : ((fun kv : Str × T => decide (kv.1 = z)) ∘ fun q : Str × PyData => (q.1, T.d q.2)) = fun kv => decide (kv.1 = z) := rfl
    rw [e]
    cases kvs.find? (fun kv => decide (kv.1 = z)) <;> rfl
  rw [hg]
  cases q : kvs.find? fun kv => decide (kv.1 = z) with
  | none =>
    refine ns_none h fun hm => ?_
    obtain ⟨p, hp, rfl⟩ := List.mem_map.mp hm
    have := List.find?_eq_none.mp q p hp
    simp at this
  | some p =>
    have hp := List.mem_of_find?_eq_some q
    have hz := List.find?_some q
    have hz : p.1 = z := of_decide_eq_true hz
    have h2 := List.all_eq_true.mp hv p hp
    dsimp only [Option.map]
    rw [hz] at h2
    cases e : PySem.W.nsIn K a z with
    | none => rw [e] at h2; cases h2
    | some r =>
      rw [e] at h2
      cases r with
      | none => cases h2
      | some u =>
        obtain ⟨v, r1, z1⟩ := dzB_ok _ _ h2
        exact ⟨u, v, rfl, r1, fun φ Z => .d (z1 Z)⟩
theorem tab_at {fa : List Fa} {fn : List DefD} {ts : List Tab} {w : World} {K : PySem.W.Frag} (c : SaysT fa fn ts w K) (i : Nat) {t : Tab} (h : ts[i]? = some t) : dicW K (t.1 K) = some (keysIn w.params t.2) := by
  have e : ts.map (fun t => dicW K (t.1 K)) = ts.map fun t => some (keysIn w.params t.2) := congrArg (fun z : AlT => z.2) c
  have e2 := congrArg (fun l => l[i]?) e
  simp only [List.getElem?_map, h, Option.map_some] at e2
  exact Option.some.inj e2
/-! ### the law's start -/
/-- the heap without its tables -/
def noTb (H : Hp) : Hp := fun b => match H b with
  | some (.tbl _) => none
  | o => o
theorem noTb_sub {H : Hp} {b : Addr} {o : HO} (h : noTb H b = some o) : H b = some o := by
  unfold noTb at h
  split at h
  · cases h
  · exact h
theorem noTb_of {H : Hp} {b : Addr} {o : HO} (h : H b = some o) (hn : ∀ ps, o ≠ .tbl ps) : noTb H b = some o := by
  unfold noTb
  split
  · rename_i ps e
    rw [h] at e
    exact absurd (Option.some.inj e) (hn ps)
  · exact h
theorem start_sp {W : Wd} {K : PySem.W.Frag} {F : FF} {H : Hp} {a : Addr} {ns : List Int} (hS : SqL K H a (ns.map V.int)) (hT : ∀ p ∈ W.tbs, H p.1 = some (.tbl #[])) (hF : ∃ c, F [.scr ns] [] = .ok (.d (.bool true)) c) : spY W K 1 F [.ref a] H (fun v _ => v = .bl true) fun _ _ _ => False := by
  obtain ⟨c, e⟩ := hF
  have hZ : SqL K (noTb H) a (ns.map V.int) := by
    rcases hS with h | h
    · refine .inl ?_
      rcases h with h | ⟨o, h⟩
      · exact .inl (noTb_of h fun _ q => by cases q)
      · exact .inr ⟨o, noTb_of h fun _ q => by cases q⟩
    · exact .inr h
  refine ⟨[], noTb H, [.scr ns], [], ⟨fun _ _ h => noTb_sub h, rfl, List.nodup_nil, (fun a h => by cases h), (fun n c a h => by simp at h), fun p hp => ⟨by unfold noTb; rw [hT p hp], #[], hT p hp, trivial, fun pos cv hc => by
    have z : PySem.codeAmong pos [] = some cv := hc
    simp [PySem.codeAmong] at z⟩⟩, .cons (.scr hZ) .nil, rfl, .d (.bool true), c, e, fun φ' Z' H' v x' S' r' => r'.dBool⟩
end YH
end
section
set_option Elab.async false
set_option linter.all false
set_option maxRecDepth 100000
set_option maxHeartbeats 1000000
namespace YH
open PySem PySem.Spec L2 Y He
/-! ### a copy of a written dict -/
structure KCopy (K : PySem.W.Frag) (w : World) (a : Addr) (kvs : List (Str × PyData)) : Prop where
  keys : dicW K a = some (keysIn w.params (kvs.map (·.1)))
  vals : valB K a kvs = true
  nd : (kvs.map (·.1)).Nodup
theorem key_head {e : DictEntry} {l : List DictEntry} {P : Params} {k : Str} {ks : List Str} (h : (e :: l).map He.keyOf = keysIn P (k :: ks)) : (∃ t, e.key = .str k t) ∧ e.hash = PyData.keyHash P k ∧ l.map He.keyOf = keysIn P ks := by
  have h1 : He.keyOf e :: l.map He.keyOf = some (k, PyData.keyHash P k) :: keysIn P ks := h
  injection h1 with h2 h3
  unfold He.keyOf at h2
  split at h2
  · rename_i y t q
    obtain ⟨h5, h6⟩ := Prod.mk.inj (Option.some.inj h2)
    subst h5
    exact ⟨⟨t, q⟩, h6, h3⟩
  · cases h2
/-- each entry is the first of its key -/
theorem find_key {P : Params} {k : Str} {v : Value} : ∀ {l : List DictEntry} {ks : List Str}, l.map He.keyOf = keysIn P ks → ks.Nodup → ∀ e ∈ l, e.key.isStr k = true → l.find? (·.key.isStr k) = some e
  | [], _, _, _, e, he, _ => by cases he
  | x :: l, [], h, _, _, _, _ => by cases h
  | x :: l, y :: ks, h, hn, e, he, hk => by
    obtain ⟨⟨t, h1⟩, h2, h3⟩ := key_head h
    rw [List.nodup_cons] at hn
    rw [List.find?_cons]
    rcases List.mem_cons.mp he with rfl | he
    · rw [hk]
    · have : x.key.isStr k = false := by
        cases q : x.key.isStr k with
        | false => rfl
        | true =>
          rw [h1] at q
          have q : (y == k) = true := q
          have q := beq_iff_eq.mp q
          subst q
          obtain ⟨k', t', h4, h5⟩ := key_mem h3 e he
          rw [h4] at hk
          have hk : (k' == y) = true := hk
          rw [beq_iff_eq.mp hk] at h5
          exact absurd h5 hn.1
      rw [this]
      exact find_key (v := v) h3 hn.2 e he hk
theorem copy_list {K : PySem.W.Frag} {w : World} {prog : Program} : ∀ {l : List DictEntry} {kvs : List (Str × PyData)}, l.map He.keyOf = keysIn w.params (kvs.map (·.1)) → (∀ p ∈ kvs, ∀ e ∈ l, e.key.isStr p.1 = true → dzB K p.2 e.val = true) →
    ∃ (vv : List (Key × V)) (uu : List (Key × Value)), PySem.Pairs (mixKind prog w) l uu ∧ uu.map (·.1) = (kvs.map (·.1)).map Sum.inr ∧ KV vv uu ∧ Paired (fun (p : Key × V) (q : Str × PyData) => p.1 = .inr q.1 ∧ ∀ Z, Dz K Z p.2 q.2) vv kvs
  | [], [], _, _ => ⟨[], [], .nil, rfl, .nil, .nil⟩
  | _ :: _, [], h, _ => by cases h
  | [], _ :: _, h, _ => by cases h
  | e :: l, (k, d) :: kvs, h, hv => by
    obtain ⟨⟨t, h1⟩, h2, h3⟩ := key_head h
    obtain ⟨vv, uu, a1, a2, a3, a4⟩ := copy_list (K := K) (prog := prog) h3 fun p hp e' he' => hv p (List.mem_cons_of_mem _ hp) e' (List.mem_cons_of_mem _ he')
    have h4 := hv (k, d) List.mem_cons_self e List.mem_cons_self (by rw [h1]; show (k == k) = true; exact beq_self_eq_true k)
    obtain ⟨v, r, z⟩ := dzB_ok _ _ h4
    exact ⟨(.inr k, v) :: vv, (.inr k, e.val) :: uu, .cons (by rw [h1]; exact mixKind_str prog w k t) rfl a1, by simp [a2], .cons ⟨rfl, r⟩ a3, .cons ⟨rfl, z⟩ a4⟩
theorem KCopy.of {K : PySem.W.Frag} {w : World} {prog : Program} {h : Heap} {a : Addr} {kvs : List (Str × PyData)} (X : K.In h) (c : KCopy K w a kvs) :
    ∃ (vv : List (Key × V)) (uu : List (Key × Value)), h.DictOf (mixKind prog w) a uu ∧ KV vv uu ∧ (a == sysModules) = false ∧ uu.length = kvs.length ∧ Paired (fun (p : Key × V) (q : Str × PyData) => p.1 = .inr q.1 ∧ ∀ Z, Dz K Z p.2 q.2) vv kvs := by
  obtain ⟨es, n, D⟩ := dicW_ok c.keys
  have hk : es.toList.map He.keyOf = keysIn w.params (kvs.map (·.1)) := by
    have := c.keys
    unfold dicW at this
    rw [D.at_] at this
    dsimp only at this
    split at this
    · exact Option.some.inj this
    · cases this
  obtain ⟨vv, uu, a1, a2, a3, a4⟩ := copy_list (K := K) (prog := prog) hk fun p hp e he hs => by
    have h1 := List.all_eq_true.mp c.vals p hp
    have h2 := find_key (v := .none) hk c.nd e he hs
    have h3 : PySem.W.nsIn K a p.1 = some (some e.val) := by
      unfold PySem.W.nsIn
      rw [D.at_]
      dsimp only
      rw [h2]
    rw [h3] at h1
    exact h1
  refine ⟨vv, uu, ⟨_, es, n, X _ _ D.at_, ⟨rfl, rfl, rfl⟩, rfl, fun e he => ?_, a1, ?_⟩, a3, D.low, ?_, a4⟩
  · obtain ⟨x, t, e1, e2⟩ := D.lit.all e (Array.mem_toList_iff.mpr he)
    exact ⟨.inr x, by rw [e1]; exact mixKind_str prog w x t, e2⟩
  · rw [a2]
    exact List.Pairwise.map _ (fun a b h q => h (Sum.inr.inj q)) c.nd
  · have := congrArg List.length a2
    simpa using this
theorem call_dictK {X : Cx} : CallR X (.type "dict") (fun xs H Q => ∃ (a : Addr) (kvs : List (Str × PyData)), xs = [.ref a] ∧ KCopy X.K X.w a kvs ∧ kvs.length ≤ sizeLine ∧ ∀ p vv, H p = none → Paired (fun (p : Key × V) (q : Str × PyData) => p.1 = .inr q.1 ∧ ∀ Z, Dz X.K Z p.2 q.2) vv kvs → Q (.ref p) (upd H p (.dK vv))) := by
  intro pins s σ H xs us Q I r q
  obtain ⟨a, kvs, ex, hc, hz, q⟩ := q
  subst ex
  obtain ⟨u, eu, rx⟩ := vals1 r
  subst eu
  cases rx
  obtain ⟨vv, uu, dd, kv, lo, hl, pr⟩ := hc.of (prog := X.prog) I.kIn
  have hlv : vv.length = uu.length := Paired.length kv
  refine kt_call_dict lo dd (by omega) fun h' d' hs => ?_
  have hm : (s.heap.objs.size == sysModules) = false := beq_eq_false_iff_ne.mpr (Nat.ne_of_gt I.big)
  exact ⟨.ref s.heap.objs.size, upd H s.heap.objs.size (.dK vv), I.laid (t' := s.toks) (fun b u e => (hs.2 b (Nat.ne_of_lt (Heap.lt_size e))).trans (Heap.get?_push_of_some _ e)) (Nat.le_refl _)
    (show ObjOk X.prog X.w _ _ _ (.dK vv) from ⟨by omega, hm, uu, kv, d'⟩), rfl, q _ _ (I.hok.fresh (Nat.le_refl _)) pr⟩
/-- the layer's dicts may be copied -/
structure WOk2 (W : Wd) (K : PySem.W.Frag) (w : World) : Prop where
  cp : ∀ i, W.kdv i ≠ [] → ∃ kvs : List (Str × PyData), W.kdv i = kvs.map (fun q => (q.1, T.d q.2)) ∧ KCopy K w (W.kad i) kvs ∧ kvs.length ≤ sizeLine
theorem call_dictY {X : Cx} : CallR X (.type "dict") (fun xs H Q => (∃ (a : Addr) (kvs : List (Str × PyData)), xs = [.ref a] ∧ KCopy X.K X.w a kvs ∧ kvs.length ≤ sizeLine ∧ ∀ p vv, H p = none → Paired (fun (p : Key × V) (q : Str × PyData) => p.1 = .inr q.1 ∧ ∀ Z, Dz X.K Z p.2 q.2) vv kvs → Q (.ref p) (upd H p (.dK vv))) ∨
    (∃ (a : Addr) (kvs : List (Key × V)), xs = [.ref a] ∧ Rd H a (.dK kvs) ∧ ∀ p, H p = none → Q (.ref p) (upd H p (.dK kvs)))) := fun pins s σ H xs us Q I r q => q.elim (fun q => call_dictK pins s σ H xs us Q I r q) fun q => call_dictD pins s σ H xs us Q I r q
def dictT (W : Wd) : CT := fun ts cs => match ts with
  | [.kd i] => if W.kdv i ≠ [] then .ok (.ref cs.length) (cs ++ [.dk ((W.kdv i).map fun q => (.inr q.1, q.2))]) else .stuck
  | [.ref n] => (match cs[n]? with
    | some (.dk kvs) => .ok (.ref cs.length) (cs ++ [.dk kvs])
    | _ => .stuck)
  | _ => .stuck
theorem ok_dict {W : Wd} {K : PySem.W.Frag} {w : World} (G : WOk2 W K w) : ClOk W K (fun xs H Q => (∃ (a : Addr) (kvs : List (Str × PyData)), xs = [.ref a] ∧ KCopy K w a kvs ∧ kvs.length ≤ sizeLine ∧ ∀ p vv, H p = none → Paired (fun (p : Key × V) (q : Str × PyData) => p.1 = .inr q.1 ∧ ∀ Z, Dz K Z p.2 q.2) vv kvs → Q (.ref p) (upd H p (.dK vv))) ∨
    (∃ (a : Addr) (kvs : List (Key × V)), xs = [.ref a] ∧ Rd H a (.dK kvs) ∧ ∀ p, H p = none → Q (.ref p) (upd H p (.dK kvs)))) (dictT W) := by
  intro φ Z cs H ts vs Q z cs' S rs e k
  unfold dictT at e
  split at e
  · rename_i i
    split at e
    · rename_i hne
      cases e
      obtain ⟨v, rfl, rv⟩ := Reps.one rs
      cases rv
      obtain ⟨kvs, e1, c, hl⟩ := G.cp i hne
      refine .inl ⟨_, kvs, rfl, c, hl, fun p vv hp pr => ?_⟩
      refine finDk S ?_ k p hp
      rw [e1]
      clear hl c e1 k
      induction pr with
      | nil => exact .nil
      | cons h _ ih => exact .cons ⟨h.1.symm, .d (h.2 Z)⟩ ih
    · cases e
  · rename_i n
    split at e
    · rename_i kvs hc
      cases e
      obtain ⟨v, rfl, rv⟩ := Reps.one rs
      cases rv with
      | ref ea =>
        obtain ⟨_, vs, h1, h2⟩ := S.cell _ _ _ hc ea
        exact .inr ⟨_, vs, rfl, .inl h1, fun p hp => finDk S h2 k p hp⟩
    · cases e
  · cases e
end YH
end
section
set_option Elab.async false
set_option linter.all false
set_option maxRecDepth 100000
set_option maxHeartbeats 1000000
namespace YH
open PySem PySem.Spec L2 Y He
/-! ### a cheaper look: the objects that the module's names reach, level by level, nothing compared -/
def kids (g : Addr → Option Obj) (a : Addr) : List Addr := match g a with
  | some o => (match o.data with
    | .seq its _ => its.toList.flatMap refV
    | .dict es _ => es.toList.flatMap fun e => refV e.val
    | .func fd => refV fd.code ++ refV fd.defaults
    | .cls cd => [cd.ns]
    | _ => [])
  | none => []
/-- the kids of classes and dicts and tuples below, of functions their code -/
def lvl (g : Addr → Option Obj) : Nat → List Addr → List Addr
  | 0, l => l
  | n + 1, l => l ++ lvl g n (l.flatMap (kids g))
def asP (g : Addr → Option Obj) (n : Nat) : List Addr := mainGlobals :: lvl g n (kids g mainGlobals)
structure SaysP (fa : List Fa) (fn : List DefD) (ts : List Tab) (ex : PySem.W.Frag → Bool) (w : World) (K : PySem.W.Frag) : Prop where
  t : SaysT fa fn ts w K
  more : ex K = true
def obsP (n : Nat) (fa : List Fa) (fn : List DefD) (ts : List Tab) (ex : PySem.W.Frag → Bool) (g : Addr → Option Obj) : AlT × Bool := (obsT fa fn ts (frG g (asP g n)), ex (frG g (asP g n)))
def hookP (n : Nat) (fa : List Fa) (fn : List DefD) (ts : List Tab) (ex : PySem.W.Frag → Bool) : PySem.W.Hook where
  α := AlT × Bool
  obs := fun s => obsP n fa fn ts ex s.heap.get?
  val := fun w => (valT fn ts w, true)
  says := fun w h => ∃ K : PySem.W.Frag, K.In h ∧ SaysP fa fn ts ex w K
  of := fun _ _ e => ⟨_, frG_in, ⟨congrArg (fun z : AlT × Bool => z.1) e, congrArg (fun z : AlT × Bool => z.2) e⟩⟩
  keeps := fun _ _ _ ⟨K, hK, c⟩ k => ⟨K, PySem.W.Frag.In.keeps hK k, c⟩
theorem obsP_eq {n : Nat} {fa : List Fa} {fn : List DefD} {ts : List Tab} {ex : PySem.W.Frag → Bool} {g : Addr → Option Obj} {s : Shared} (h : ∀ a, g a = s.heap.get? a) : obsP n fa fn ts ex g = (hookP n fa fn ts ex).obs s := by
  have e : g = s.heap.get? := funext h
  rw [e]
  rfl
end YH
end
section
set_option Elab.async false
set_option linter.all false
set_option maxRecDepth 100000
set_option maxHeartbeats 1000000
/-! lambdas that capture nothing, as values -/
namespace YG
open PySem PySem.Spec PyProof.Rows L2 Y
structure LamG (P : Program) (w : World) (K : PySem.W.Frag) (mg : Str → Option Value) (base : Heap) (k : Nat) (L : Lam) (ps : List Str) (sp : Sp) : Prop where
  len : ∀ vs H Q E, sp vs H Q E → vs.length = ps.length
  run : ∀ (A : Around) (outer : List Env) (s : Shared) (H : Hp) (f c : Addr) (us : List Value) (vs : List V) (Q : VK) (E : XK), RoomG k A → Env0 P w K mg base A outer s H → H f = some (LmO L c f) → H c = some (LamX.CodeO c L.qual) → Vals vs us → sp vs H Q E →
    codeAny (model P w) A (.call (.ref f) ⟨us, []⟩) (CR CX0 outer P w H s Q E) s
theorem lam_of {P : Program} {w : World} {K : PySem.W.Frag} {mg : Str → Option Value} {base : Heap} {k : Nat} {L : Lam} {N ps : List Str} {sp : Sp} (S : FnScope N ps L.scope)
    (hb : ∀ (pm ctv : Value) (c : Addr) (us : List Value), us.length = ps.length → bindArgs (PySem.W.kla_fn "<lambda>" L.qual L.params L.body L.scope [] pm (.ref c) ctv) ⟨us, []⟩ = pure (ps.zip us)) (len : ∀ vs H Q E, sp vs H Q E → vs.length = ps.length)
    (hbody : ∀ (f : Addr) (cdv : Value) (A : Around) (outer : List Env) (s : Shared) (H : Hp) (vs : List V) (Q : VK) (E : XK), RoomG k (A.deeper (envOfC L.qual L.scope s.heap.objs.size f cdv)) → sp vs H Q E →
      ∃ t, PE (cxOf CX0 P w K mg base N L.qual L.scope f cdv A outer s H E) L.body t ∧ t (L2.start N vs) H Q) :
    LamG P w K mg base (k + 1) L ps sp := by
  refine ⟨len, fun A outer s H f c us vs Q E hr e0 hf hc r hsp => ?_⟩
  have hl := len _ _ _ _ hsp
  obtain ⟨⟨pm, ctv, of1⟩, _, _⟩ := e0.hok f _ hf
  obtain ⟨⟨oc, xs, t0, hoc, hdc, hvc⟩, _, _⟩ := e0.hok c _ hc
  have lim : s.heap.NoLimit := e0.mod.nolimit.keeps fun b o e => (e0.bs b o e).1
  have hkind : ∀ y ∈ ps.zip us, L.scope.names.lookup y.1 = some .local ∨ (L.scope.names.lookup y.1 = some .cell ∧ ((cellsFrom (s.heap.objs.size + 1) L.scope.names []).lookup y.1).isSome = true) := fun ⟨n, v⟩ hy =>
    (S.par n (List.of_mem_zip hy).1).elim (fun q => .inl q) fun q => .inr ⟨q, PySem.W.cellsFrom_some _ _ _ (.inl q)⟩
  refine PySem.W.kla_callFunE hr.r.depth of1 rfl S.co S.gen rfl ⟨c, oc, xs, t0, rfl, hoc, hdc, hvc⟩ ?_
  rw [hb pm ctv c us (by rw [← r.length]; exact hl)]
  refine wpAny_pure (wpAny_newFunctionEnv_cells S.kind hkind fun env he s1 x => ?_)
  subst he
  refine ⟨lim.keeps x.toInCall.keep, PySem.W.kla_codeExpr ?_⟩
  obtain ⟨t, ht, hq⟩ := hbody f (.ref c) A outer s H vs Q E (hr.deeper _) hsp
  have I := inv_start (CX := CX0) (E := E) (f := f) (cd := .ref c) (qual := L.qual) S hr.r.hd e0 hl r x
  refine wpAny_mono (ht.run [] s1 (L2.start N vs) H Q I hq) (fun v s' hs => ?_) fun e s' hs => hs
  obtain ⟨w', H', J, rv, q⟩ := hs
  exact ⟨w', H', J.os, J.bare, J.base, J.hok, rv, q⟩
section
variable {X : Cx} {c P : Addr} {q : Str} {params : Arguments} {body : Expr} {scope : Scope} {pos : Pos}
theorem cloFrom_none {cells : List (Str × Addr)} : ∀ {names : List (Str × NameKind)} {acc : List (Str × Addr)}, (∀ y ∈ names, y.2 ≠ .free) → cloFrom cells names acc = acc
  | [], _, _ => rfl
  | (n, k) :: r, acc, h => by
    have hk : (k == NameKind.free) = false := by
      have := h (n, k) List.mem_cons_self
      cases k <;> first | rfl | exact absurd rfl this
    unfold cloFrom
    rw [hk]
    exact cloFrom_none fun y hy => h y (List.mem_cons_of_mem _ hy)
/-- the making of such a lambda -/
theorem pe_lam (TB : LamX.TabB X.base X.mg c P) (hcode : X.env.code = .ref c) (hq : X.env.qual ++ "<lambda>" = q) (hdef : defaultsOf params X.env = ([], [])) (hnf : ∀ y ∈ scope.names, y.2 ≠ .free) :
    PE X (.Lambda params body scope pos) (fun _ H Q => ∃ ps : Array Value, H P = some (.tbl ps) ∧ TriplesOk ps.toList ∧
      (∀ cv, codeAmong pos ps.toList = some cv → ∃ c2, cv = .ref c2 ∧ H c2 = some (LamX.CodeO c2 q) ∧ ∀ f, H f = none → Q (.ref f) (upd H f (LmO ⟨q, params, body, scope⟩ c2 f))) ∧
      (codeAmong pos ps.toList = none → ∀ c2 f, H c2 = none → H f = none → f ≠ c2 → Q (.ref f) (upd (upd (upd H P (.tbl (ps ++ #[rawInt pos.line, rawInt pos.col, .ref c2]))) c2 (LamX.CodeO c2 q)) f (LmO ⟨q, params, body, scope⟩ c2 f)))) := by
  subst hq
  refine ⟨fun pins s σ H Q I h => ?_⟩
  obtain ⟨ps, hP, ht, hit, miss⟩ := h
  have hcl : closureFor scope X.env = pure [] := by
    rw [closure_ok fun y hy e => absurd e (hnf y hy), cloFrom_none hnf]
  have hPs : s.heap.get? P = some { cls := .none, data := .fields ps } := I.hok P _ hP
  have bP : s.heap.BuiltinsAt X.mg P := TB.bm.keeps I.bk
  refine PySem.W.kla_eval hdef ?_
  cases hc : codeAmong pos ps.toList with
  | some cv =>
    obtain ⟨c2, rfl, hc2, kq⟩ := hit cv hc
    refine PySem.W.kla_makeFunctionHit (mg := X.mg) (c := c) (P := P) (ps := ps) hcl I.ok.glob (I.mod.glob.keeps I.bk) hcode (TB.code.keeps I.bk) hPs ht hc bP fun ctv h1 tk hx hsz => ?_
    have hf : H h1.objs.size = none := I.hok.fresh hsz
    refine ⟨.ref h1.objs.size, _, I.laidN (a := h1.objs.size) (o := LmO ⟨X.env.qual ++ "<lambda>", params, body, scope⟩ c2 h1.objs.size) (fun b u e => Heap.get?_push_of_some _ (hx b u e)) (Heap.get?_none_of_le hsz) hf ?_, rfl, kq _ hf⟩
    exact ⟨⟨_, _, Heap.get?_push_size _ rfl⟩, ⟨_, Heap.get?_push_size _ rfl⟩, fun h2 h3 ⟨pm, ct, e⟩ st => ⟨pm, ct, st _ e⟩⟩
  | none =>
    refine PySem.W.kla_makeFunction (mg := X.mg) (c := c) (P := P) (ps := ps) hcl I.ok.glob (I.mod.glob.keeps I.bk) hcode (TB.code.keeps I.bk) hPs ht hc TB.gP bP fun c2 ctv h1 tk hx hge hlt hrec htb => ?_
    obtain ⟨c3, oc, xs, t0, e3, hoc, hdc, hvc⟩ := hrec
    cases e3
    have nc : H c2 = none := I.hok.fresh hge
    have hsz : s.heap.objs.size ≤ h1.objs.size := Nat.le_trans hge (Nat.le_of_lt hlt)
    have nf : H h1.objs.size = none := I.hok.fresh hsz
    have I1 := LamX.inv_table (t' := tk) (more := #[rawInt pos.line, rawInt pos.col, .ref c2]) (h' := h1) (q := X.env.qual ++ "<lambda>") I hP hx htb hge ⟨oc, xs, t0, hoc, hdc, hvc⟩
    have nfc : h1.objs.size ≠ c2 := Nat.ne_of_gt hlt
    have nfP : h1.objs.size ≠ P := fun e => by rw [e, hP] at nf; cases nf
    have nf1 : upd (upd H P (.tbl (ps ++ #[rawInt pos.line, rawInt pos.col, .ref c2]))) c2 (LamX.CodeO c2 (X.env.qual ++ "<lambda>")) h1.objs.size = none := by rw [upd_ne nfc, upd_ne nfP]; exact nf
    refine ⟨.ref h1.objs.size, _, I1.laidN (a := h1.objs.size) (o := LmO ⟨X.env.qual ++ "<lambda>", params, body, scope⟩ c2 h1.objs.size) (fun b u e => Heap.get?_push_of_some _ e) (Heap.get?_none_of_le (Nat.le_refl _)) nf1 ?_, rfl, miss hc c2 _ nc nf nfc⟩
    exact ⟨⟨_, _, Heap.get?_push_size _ rfl⟩, ⟨_, Heap.get?_push_size _ rfl⟩, fun h2 h3 ⟨pm, ct, e⟩ st => ⟨pm, ct, st _ e⟩⟩
end
end YG
namespace Y
open PySem PySem.Spec L2
section
variable {W : Wd} {K : PySem.W.Frag} {φ : List Addr} {Z H : Hp} {cs : Cs}
/-- the table grown by a code object that is new -/
theorem Sim.table (S : Sim W K φ Z cs H) {P c : Addr} {q : Str} {ps : Array Value} {pos : Pos} (hm : (P, q) ∈ W.tbs) (hu : ∀ p ∈ W.tbs, p.1 = P → p.2 = q) (hP : H P = some (.tbl ps)) (ht : TriplesOk ps.toList) (hc : H c = none) :
    Sim W K φ (upd Z c (LamX.CodeO c q)) cs (upd (upd H P (.tbl (ps ++ #[PySem.rawInt pos.line, PySem.rawInt pos.col, .ref c]))) c (LamX.CodeO c q)) ∧
    Ext φ Z H φ (upd Z c (LamX.CodeO c q)) (upd (upd H P (.tbl (ps ++ #[PySem.rawInt pos.line, PySem.rawInt pos.col, .ref c]))) c (LamX.CodeO c q)) := by
  obtain ⟨S1, x1⟩ := S.frozen hc (LamX.CodeO c q)
  have nPc : P ≠ c := ne_of_none hP hc
  have zP : upd Z c (LamX.CodeO c q) P = none := by rw [upd_ne nPc]; exact (S.tb _ hm).1
  have eH : ∀ b, b ≠ P → upd (upd H P (.tbl (ps ++ #[PySem.rawInt pos.line, PySem.rawInt pos.col, .ref c]))) c (LamX.CodeO c q) b = upd H c (LamX.CodeO c q) b := fun b hb => by
    by_cases e : b = c
    · rw [e, upd_same, upd_same]
    · rw [upd_ne e, upd_ne e, upd_ne hb]
  have eP : upd (upd H P (.tbl (ps ++ #[PySem.rawInt pos.line, PySem.rawInt pos.col, .ref c]))) c (LamX.CodeO c q) P = some (.tbl (ps ++ #[PySem.rawInt pos.line, PySem.rawInt pos.col, .ref c])) := by rw [upd_ne nPc, upd_same]
  refine ⟨⟨fun a o h => ?_, S1.len, S1.nd, fun a ha => ?_, fun n x a h1 h2 => ?_, fun p hp => ?_⟩, ⟨x1.pre, x1.zsub, x1.znew, fun a o h ha => ?_, x1.fresh⟩⟩
  · have : a ≠ P := fun e => by rw [e, zP] at h; cases h
    rw [eH a this]; exact S1.sub _ _ h
  · by_cases e : a = P
    · exact ⟨_, by rw [e]; exact eP⟩
    · rw [eH a e]; exact S1.there a ha
  · by_cases e : a = P
    · have := S1.cell n x a h1 h2
      cases x with
      | dead => trivial
      | _ =>
        obtain ⟨u, e1, e2, _⟩ := this.old (by rw [e]; exact zP) (by intro h; cases h)
        rw [e, upd_ne nPc, hP] at e1
        cases e1
        exact absurd rfl (e2 _)
    · exact (S1.cell n x a h1 h2).stay (List.prefix_refl _) (fun _ _ h => h) (fun h => h) fun u h => by rw [eH a e]; exact h
  · obtain ⟨P2, q2⟩ := p
    by_cases e : P2 = P
    · subst e
      have e2 : q2 = q := hu _ hp rfl
      subst e2
      obtain ⟨_, ps2, h1, h2, h3⟩ := S.tb _ hp
      have e3 : ps2 = ps := by
        have h1 : H P2 = some (.tbl ps2) := h1
        rw [hP] at h1
        cases h1
        rfl
      subst e3
      have eL : (ps2 ++ #[PySem.rawInt pos.line, PySem.rawInt pos.col, Value.ref c]).toList = ps2.toList ++ [PySem.rawInt pos.line, PySem.rawInt pos.col, .ref c] := by simp
      refine ⟨zP, _, eP, by rw [eL]; exact PySem.TriplesOk_snoc _ _ _ _ ht, fun pos' cv hcv => ?_⟩
      rw [eL] at hcv
      rcases LamX.among_app _ ht hcv with z | z
      · obtain ⟨c0, e1, e2⟩ := h3 pos' cv z
        exact ⟨c0, e1, x1.zsub _ _ e2⟩
      · exact ⟨c, z, upd_same⟩
    · exact (S1.tb _ hp).stay (fun _ _ h => h) (S1.tb _ hp).1 (eH P2 e)
  · by_cases e : a = P
    · subst e
      rw [hP] at h
      cases h
      exact .inr ⟨_, _, rfl, eP⟩
    · rcases x1.frame a o h ha with q | ⟨p1, p2, e1, q⟩
      · exact .inl ((eH a e).trans q)
      · exact .inr ⟨p1, p2, e1, (eH a e).trans q⟩
end
section
variable {W : Wd} {X : Cx} {pos p : Pos} {k : Nat} {x : Str} {e : Expr} {es : List Expr} {g : AF}
theorem se_lam {i : Nat} {c P : Addr} {params : Arguments} {body : Expr} {scope : Scope} (TB : LamX.TabB X.base X.mg c P) (hcode : X.env.code = .ref c) (hL : W.lam i = ⟨X.env.qual ++ "<lambda>", params, body, scope⟩)
    (hm : (P, X.env.qual ++ "<lambda>") ∈ W.tbs) (hu : ∀ p ∈ W.tbs, p.1 = P → p.2 = X.env.qual ++ "<lambda>") (hdef : defaultsOf params X.env = ([], [])) (hnf : ∀ y ∈ scope.names, y.2 ≠ .free) :
    SE W X (.Lambda params body scope pos) (fun _ cs => .ok (.clo i []) cs) := PE.imp (YG.pe_lam TB hcode rfl hdef hnf) fun σ H Q h => by
  obtain ⟨φ, Z, ρ, cs, S, L, t, cs', e0, kk⟩ := h
  cases e0
  obtain ⟨_, ps, hP, ht, hps⟩ := S.tb _ hm
  refine ⟨ps, hP, ht, fun cv hcv => ?_, fun hn c2 f hc hf hfc => ?_⟩
  · obtain ⟨c2, e1, e2⟩ := hps pos cv hcv
    refine ⟨c2, e1, S.sub _ _ e2, fun f hf => ?_⟩
    obtain ⟨S1, x1⟩ := S.frozen hf (LmO (W.lam i) c2 f)
    rw [hL] at S1 x1
    refine kk _ _ _ _ x1 S1 (.clo (c := c2) (by rw [hL, upd_same]) (by rw [hL]; exact x1.zsub _ _ e2))
  · obtain ⟨S1, x1⟩ := S.table (pos := pos) hm hu hP ht hc
    have hf1 : upd (upd H P (.tbl (ps ++ #[PySem.rawInt pos.line, PySem.rawInt pos.col, .ref c2]))) c2 (LamX.CodeO c2 (X.env.qual ++ "<lambda>")) f = none := by
      rw [upd_ne hfc, upd_ne (fun e => by rw [e, hP] at hf; cases hf)]
      exact hf
    obtain ⟨S2, x2⟩ := S1.frozen hf1 (LmO (W.lam i) c2 f)
    rw [hL] at S2 x2
    exact kk _ _ _ _ (x1.trans x2) S2 (.clo (c := c2) (by rw [hL, upd_same]) (by rw [hL]; exact x2.zsub _ _ upd_same))
/-- a lambda's meaning -/
noncomputable def lamF (N n : Nat) (fb : EF) : FF := fun ts cs => if ts.length = n then leaveT cs (fb (startR N ts) cs) else .stuck
theorem ar_lamF {N n : Nat} {fb : EF} : Ar n (lamF N n fb) := fun ts c t c' e => by
  unfold lamF at e
  split at e
  · assumption
  · cases e
structure LamOk (W : Wd) (P : Program) (w : World) (K : PySem.W.Frag) (mg : Str → Option Value) (base : Heap) (k : Nat) (i : Nat) (F : FF) : Prop where
  ex : ∃ ps : List Str, YG.LamG P w K mg base k (W.lam i) ps (spY W K ps.length F) ∧ Ar ps.length F
theorem lam_ok {P : Program} {w : World} {K : PySem.W.Frag} {mg : Str → Option Value} {base : Heap} {i : Nat} {L : Lam} {N ps : List Str} (hL : W.lam i = L) (S : FnScope N ps L.scope)
    (hb : ∀ (pm ctv : Value) (c : Addr) (us : List Value), us.length = ps.length → bindArgs (PySem.W.kla_fn "<lambda>" L.qual L.params L.body L.scope [] pm (.ref c) ctv) ⟨us, []⟩ = pure (ps.zip us)) {fb : EF}
    (h : ∀ (f : Addr) (cdv : Value) (A : Around) (outer : List Env) (s : Shared) (H : Hp) (E : XK), YG.RoomG k (A.deeper (PyProof.Rows.envOfC L.qual L.scope s.heap.objs.size f cdv)) → SE W (cxOf CX0 P w K mg base N L.qual L.scope f cdv A outer s H E) L.body fb) :
    LamOk W P w K mg base (k + 1) i (lamF N.length ps.length fb) := by
  refine ⟨ps, ?_, ar_lamF⟩
  rw [hL]
  refine YG.lam_of S hb (fun vs H Q E h => spY_len h) fun f cdv A outer s H vs Q E hr hs => ⟨_, h f cdv A outer s H E hr, ?_⟩
  obtain ⟨φ, Z, ts, cs, Sm, r, hl, t, cs', e, kk⟩ := hs
  unfold lamF at e
  rw [if_pos hl] at e
  refine ⟨φ, Z, startR N.length ts, cs, Sm, Slots.start r, ?_⟩
  generalize hrs : fb (startR N.length ts) cs = rs at e
  cases rs with
  | ok t1 c1 =>
    refine ⟨t1, c1, rfl, fun φ' Z' H' v x' S' r' => ?_⟩
    obtain ⟨t', c', φ2, e2, x2, S2, r2⟩ := leave_keep (r := .ok t1 c1) Sm x' S' r' rfl
    rw [e] at e2
    cases e2
    exact kk _ _ _ _ x2 S2 r2
  | stuck => cases e
def callL (is : List Nat) (tab : Nat → FF) (i : Nat) (g : AF) : EF := fun ρ cs => (getV ρ i cs).bind fun u c1 => (g ρ c1).bind fun ts c2 => match u with
  | .clo j [] => if j ∈ is then tab j ts c2 else .stuck
  | _ => .stuck
theorem se_callL {is : List Nat} {tab : Nat → FF} {i : Nat} (hh : ∀ j ∈ is, LamOk W X.prog X.w X.K X.mg X.base k j (tab j)) (hr : YG.RoomG k X.A) (hN : X.N[i]? = some x) (hv : Vis X.env.scope x) (ha : SA W X (e :: es) g)
    (hdb : (x == ("__debug__" : Str)) = false := by decide +kernel) (hcd : (x == ("__classdict__" : Str)) = false := by decide +kernel) (he : starEach (e :: es) X.env = (false, eval e X.env) :: starEach es X.env := by rfl) (hpl : (backTo pos (starEach es X.env)).any (·.1) = false := by rfl) :
    SE W X (.Call (.Name x p) (e :: es) [] pos) (callL is tab i g) := ⟨fun pins s σ H Q I h => by
  rw [arm_eval_Call_Name']
  obtain ⟨φ, Z, ρ, cs, S, L, t, cs', e0, kk⟩ := h
  obtain ⟨u, c1, e1, e0⟩ := R.bind_inv e0
  obtain ⟨ts, c2, e2, e3⟩ := R.bind_inv e0
  have hi : ρ[i]? = some (some u) ∧ c1 = cs := by
    unfold getV at e1
    split at e1
    · cases e1; exact ⟨by assumption, rfl⟩
    · cases e1
  obtain ⟨hi, rfl⟩ := hi
  obtain ⟨v, hσ, rv⟩ := L.2 i u hi
  refine wpAny_bind (thn ((pe_var (pos := p) hN hv hdb hcd).run pins s σ H (fun y H1 => y = v ∧ H1 = H) I ⟨v, hσ, rfl, rfl⟩) fun fv s1 ⟨y, H1, I1, ry, ey, eH⟩ => ?_)
  subst ey eH
  split at e3
  · rename_i j
    split at e3
    · rename_i hj
      obtain ⟨ps, F, ar⟩ := (hh j hj).ex
      cases rv with
      | @clo _ f c zf zc =>
        cases ry
        obtain ⟨⟨pm, ctv, of1⟩, _, _⟩ := I1.hok f _ (S.sub _ _ zf)
        refine PySem.W.callWith_F (e := e) (rest := es) ⟨_, _, _, _, of1⟩ ?_ he hpl
        refine thn (ha.run pos pins s1 σ _ (fun vs H2 => H2 f = some (LmO (W.lam j) c f) ∧ H2 c = some (LamX.CodeO c (W.lam j).qual) ∧ spY W X.K ps.length (tab j) vs H2 Q E0) I1 ⟨φ, Z, ρ, c1, S, L, ts, c2, e2, fun φ1 Z1 H1 vs x1 S1 r1 => ⟨S1.sub _ _ (x1.zsub _ _ zf), S1.sub _ _ (x1.zsub _ _ zc), φ1, Z1, ts, c2, S1, r1, ar _ _ _ _ e3, t, cs', e3, fun φ' Z' H' v x' => kk φ' Z' H' v (x1.trans x')⟩⟩) fun us s2 ⟨vs, H2, I2, r2, h1, h2, h3⟩ => ?_
        obtain ⟨⟨pm2, ctv2, of2⟩, _, _⟩ := I2.hok f _ h1
        refine ⟨⟨_, _, _, _, of2⟩, wpAny_call (codeAny_mono (F.run X.A X.stack s2 H2 f c us vs Q E0 hr I2.env0 h1 h2 r2 h3) fun r s3 hq => ?_)⟩
        cases r with
        | error e => exact hq.elim
        | ok fl => cases fl with
          | ret u => exact I2.after hq
          | next => exact False.elim hq
          | brk => exact False.elim hq
          | cont => exact False.elim hq
    · cases e3
  · cases e3⟩
end
end Y
end
section
set_option Elab.async false
set_option linter.all false
set_option maxRecDepth 100000
set_option maxHeartbeats 1000000
namespace YG
open PySem PySem.Spec PyProof.Rows L2
section
variable {X : Cx}
def rEqDN : R2 := fun x y H Q => ∃ a b ks ls, x = .ref a ∧ y = .ref b ∧ H a = some (.dK ks) ∧ H b = some (.dK ls) ∧ ks.length ≠ ls.length ∧ Q (.bl false) H
theorem op_eqDN (hu : X.A.units < cLine) : OpR X (compareOp .Eq) rEqDN := by
  intro pins s σ H x y v u Q I rx ry h
  obtain ⟨a, b, ks, ls, rfl, rfl, ea, eb, hne, q⟩ := h
  obtain rfl : v = Value.ref a := rx
  obtain rfl : u = Value.ref b := ry
  obtain ⟨_, ya, va, ra, da⟩ := (show ObjOk X.prog X.w H s.heap a (.dK ks) from I.hok a _ ea)
  obtain ⟨_, yb, vb, rb, db⟩ := (show ObjOk X.prog X.w H s.heap b (.dK ls) from I.hok b _ eb)
  have hl : va.length ≠ vb.length := by rw [← ra.length, ← rb.length]; exact hne
  exact PySem.W.keq_eq (knd := mixKind X.prog X.w) (r := true) ya yb da db hu (fun e => absurd e hl) (fin_bl I q (by simp [hl]))
end
end YG
namespace Y
open PySem PySem.Spec L2
section
variable {W : Wd} {K : PySem.W.Frag} {X : Cx} {pos : Pos}
theorem Reps.keys {κ : Type} {φ : List Addr} {Z : Hp} : ∀ {kvs : List (κ × T)} {vs : List (κ × V)}, RepKV W K φ Z kvs vs → vs.map (·.1) = kvs.map (·.1)
  | _, _, .nil => rfl
  | _, _, .cons h t => by rw [List.map_cons, List.map_cons, h.1, Reps.keys t]
/-! min(d), sorted(d) of a dict with one key, a number -/
def minDT : CT := fun ts cs => match ts with
  | [.ref n] => (match cs[n]? with
    | some (.dk [(.inl i, _)]) => .ok (.d (.int i)) cs
    | _ => .stuck)
  | _ => .stuck
theorem ok_minD : ClOk W K rMinK minDT := by
  intro φ Z cs H ts vs Q z cs' S rs e k
  unfold minDT at e
  split at e
  · split at e
    · rename_i n i t hc
      cases e
      obtain ⟨v, rfl, r1⟩ := Reps.one rs
      cases r1 with
      | ref ea =>
        obtain ⟨_, ws, h1, h2⟩ := S.cell _ _ _ hc ea
        have hk := Reps.keys h2
        refine ⟨_, ws, [i], rfl, h1, hk, (by simp), fun m hm _ => ?_⟩
        have : m = i := by simpa using hm
        subst this
        exact fin0 S k (Rep.int _)
    · cases e
  · cases e
def sortDT : CT := fun ts cs => match ts with
  | [.ref n] => (match cs[n]? with
    | some (.dk [(.inl i, _)]) => .ok (.d (.list [.int i])) cs
    | _ => .stuck)
  | _ => .stuck
theorem ok_sortD : ClOk W K (fun xs H Q => ∃ (a : Addr) (kvs : List (Key × V)) (ks : List Int), xs = [.ref a] ∧ Rd H a (.dK kvs) ∧ kvs.map (·.1) = ks.map Sum.inl ∧ ks.length < 64 ∧
    ∀ (ys : List Int) (p : Addr), ys.Perm ks → ys.Pairwise (· ≤ ·) → H p = none → Q (.ref p) (upd H p (.lst (ys.map V.int)))) sortDT := by
  intro φ Z cs H ts vs Q z cs' S rs e k
  unfold sortDT at e
  split at e
  · split at e
    · rename_i n i t hc
      cases e
      obtain ⟨v, rfl, r1⟩ := Reps.one rs
      cases r1 with
      | ref ea =>
        obtain ⟨_, ws, h1, h2⟩ := S.cell _ _ _ hc ea
        have hk := Reps.keys h2
        refine ⟨_, ws, [i], rfl, .inl h1, hk, (by simp), fun ys p hp _ hn => ?_⟩
        have : ys = [i] := List.perm_singleton.mp hp
        subst this
        exact finL S (.cons (.int _) .nil) k p hn
    · cases e
  · cases e
/-! d == {} where it is not so -/
def eqDN : BT := fun t u cs => match t, u with
  | .ref n, .ref m => (match cs[n]?, cs[m]? with
    | some (.dk ks), some (.dk ls) => if ks.length ≠ ls.length then .ok (.d (.bool false)) cs else .stuck
    | _, _ => .stuck)
  | _, _ => .stuck
theorem ok_eqDN : OpOk W K YG.rEqDN eqDN := by
  intro φ Z cs H t u v w Q z cs' S r1 r2 e k
  unfold eqDN at e
  split at e
  · split at e
    · rename_i ks ls h1 h2
      split at e
      · rename_i hne
        cases e
        cases r1 with
        | ref ea =>
          cases r2 with
          | ref eb =>
            obtain ⟨_, vs, g1, g2⟩ := S.cell _ _ _ h1 ea
            obtain ⟨_, ws, g3, g4⟩ := S.cell _ _ _ h2 eb
            exact ⟨_, _, vs, ws, rfl, rfl, g1, g3, (by rw [← Paired.len g2, ← Paired.len g4]; exact hne), fin0 S k (Rep.bool _)⟩
      · cases e
    · cases e
  · cases e
/-! x, y = a, b where a name is a cell of the def -/
section
variable {g : AF}
theorem ss_parC {i j : Nat} {x y : Str} {a b : Expr} {px py pt : Pos} {kt k2 pt2} (hc : X.calm = true) (ha : SA W X [a, b] g) (hp : PGs X [.Name x px, .Name y py] (gCons (gName i) (gCons (gName j) gNil)))
    (hw : swappedStores [.Tuple [.Name x px, .Name y py] kt pt] (.Tuple [a, b] k2 pt2) X.env = pure none := by rfl)
    (hs : swapsWithSole [.Tuple [.Name x px, .Name y py] kt pt] (.Tuple [a, b] k2 pt2) pos.line X.env = pure false := by rfl) (hn : (assignEach [.Name x px, .Name y py] X.env).length = 2 := by rfl) (hst : (assignEach [.Name x px, .Name y py] X.env).findIdx? (·.1) = none := by rfl)
    (h1 : (assignEach [.Tuple [.Name x px, .Name y py] kt pt] X.env).map (·.2) = [assign (.Tuple [.Name x px, .Name y py] kt pt) X.env] := by rfl) :
    SS W X (.Assign [.Tuple [.Name x px, .Name y py] kt pt] (.Tuple [a, b] k2 pt2) pos) (parS i j g) := PS.imp (ps_asg (pe_tup ha) (pg_tup hc hp hn hst) hs hw h1) fun D σ H h => by
  obtain ⟨φ, Z, ρ, cs, S, L, h⟩ := h
  unfold parS at h
  split at h
  · rename_i t u c e1
    refine ⟨φ, Z, ρ, cs, S, L, _, c, e1, fun φ' Z' H' vs x' S' r' => ?_⟩
    obtain ⟨v, w, rfl, r1, r2⟩ := Reps.two r'
    have hz : sizeLine = 16777216 := sizeLine_eq
    refine ⟨by rw [hz]; simp, fun p hp => ?_⟩
    obtain ⟨S2, x2⟩ := S'.frozen hp (.tup [v, w])
    exact ⟨p, [v, w], rfl, .inl (.inl upd_same), rfl, v, [w], rfl, w, [], rfl, rfl, h _ _ _ _ (x'.trans x2) S2 (((L.ext (x'.trans x2)).set (r1.ext x2) i).set (r2.ext x2) j)⟩
  · exact h.elim
end
/-! {x: True for x in d if x in b}, two dicts -/
def dcAcc (ls : List (Key × T)) : List Key → List (Key × T) → List (Key × T)
  | [], acc => acc
  | k :: ks, acc => dcAcc ls ks (if (getK ls k).isSome then setK acc k (.d (.bool true)) else acc)
theorem dcAcc_cons {ls : List (Key × T)} {k : Key} {ks : List Key} {acc : List (Key × T)} : dcAcc ls (k :: ks) acc = dcAcc ls ks (if (getK ls k).isSome then setK acc k (.d (.bool true)) else acc) := rfl
def dcKK (v i j : Nat) : EF := fun ρ cs => (getV ρ i cs).bind fun t c1 => (getV ρ j c1).bind fun u c => match t, u with
  | .ref n, .ref m => (match c[n]?, c[m]? with
    | some (.dk ks), some (.dk ls) => if n ≠ m ∧ ks.length ≤ 1000 ∧ v < ρ.length then .ok (.ref c.length) (c ++ [.dk (dcAcc ls (ks.map (·.1)) [])]) else .stuck
    | _, _ => .stuck)
  | _, _ => .stuck
theorem setK_len {κ β : Type} [DecidableEq κ] (kvs : List (κ × β)) (k : κ) (v : β) : (setK kvs k v).length ≤ kvs.length + 1 := by
  unfold setK
  split
  · simp
  · simp
theorem getV_inv {ρ : Rho} {i : Nat} {cs c : Cs} {t : T} (h : getV ρ i cs = .ok t c) : ρ[i]? = some (some t) ∧ c = cs := by
  unfold getV at h
  split at h
  · cases h; exact ⟨by assumption, rfl⟩
  · cases h
theorem kV_inj {k k' : Key} (h : kV k = kV k') : k = k' := by
  cases k <;> cases k' <;> first | (injection h with h; subst h; rfl) | cases h
section
variable {kx vx tg iter : Expr} {ifs : List Expr} {scope : Scope} {own : List (Str × Nat)} {i j v : Nat}
theorem se_dcKK (hc : X.calm = true) (hN : X.N.Nodup) (ok : BlkOk X.N X.env.scope scope own) (hown : own.map (·.2) = [v]) (hiv : i ≠ v) (hjv : j ≠ v) (hi : PE X iter (tVar i))
    (hg : BlkAll X scope fun B => PG B tg (gName v)) (ht : BlkAll X scope fun B => PTs B ifs (tTest (tOp (rInY X true) (tVar v) (tVar j)))) (hk : BlkAll X scope fun B => PE B kx (tVar v)) (he : BlkAll X scope fun B => PE B vx (tC (.bl true)))
    (hs : ∀ x, foldedSetIterable iter X.env x = pure x := by intro _; rfl) : SE W X (.DictComp kx vx [⟨tg, iter, ifs, 0⟩] scope pos) (dcKK v i j) :=
  PE.imp (pe_lock (pe_dc (g := gName v) (tt := tTest (tOp (rInY X true) (tVar v) (tVar j))) (tk := tVar v) (tv := tC (.bl true)) hc hN (pi_keys hi) ok (fun s H C cl fp => hg s H C cl fp) (fun s H C cl fp => ht s H C cl fp) (fun s H C cl fp => hk s H C cl fp) (fun s H C cl fp => he s H C cl fp) hs)) fun σ H Q h => by
    obtain ⟨φ, Z, ρ, cs, S, L, t, cs', e0, kk⟩ := h
    unfold dcKK at e0
    obtain ⟨t1, c1, e1, ea⟩ := R.bind_inv e0
    obtain ⟨u1, c2, e2, eb0⟩ := R.bind_inv ea
    obtain ⟨p1, rfl⟩ := getV_inv e1
    obtain ⟨p2, rfl⟩ := getV_inv e2
    split at eb0
    case h_2 => cases eb0
    rename_i n m
    split at eb0
    case h_2 => cases eb0
    rename_i ks ls q1 q2
    split at eb0
    case isFalse => cases eb0
    rename_i hcd
    obtain ⟨hnm, hlen, hvr⟩ := hcd
    cases eb0
    obtain ⟨w1, s1, r1⟩ := L.2 _ _ p1
    obtain ⟨w2, s2, r2⟩ := L.2 _ _ p2
    cases r1 with
    | @ref _ d ed =>
    cases r2 with
    | @ref _ b eb =>
    obtain ⟨zd, vd, hd, rd⟩ := S.cell _ _ _ q1 ed
    obtain ⟨zb, vb, hb, rb⟩ := S.cell _ _ _ q2 eb
    have nbd : b ≠ d := fun e => by
      subst e
      obtain ⟨i1, j1⟩ := List.getElem?_eq_some_iff.mp ed
      obtain ⟨i2, j2⟩ := List.getElem?_eq_some_iff.mp eb
      exact hnm ((List.getElem_inj S.nd).mp (j1.trans j2.symm))
    refine ⟨d, _, hd, trivial, fun od => ?_⟩
    rw [hown]
    refine ⟨_, s1, d, od, rfl, .inl ⟨vd, upd_same, fun D hD => ?_⟩⟩
    have nDd : D ≠ d := fun e => by rw [e, upd_same] at hD; cases hD
    have nDb : D ≠ b := fun e => by rw [e, upd_ne nbd, hb] at hD; cases hD
    have hD0 : H D = none := by rw [upd_ne nDd] at hD; exact hD
    have hkeys : vd.map (·.1) = ks.map (·.1) := Reps.keys rd
    have hvl : vd.length = ks.length := (Paired.len rd).symm
    have wj : (wipe σ [v])[j]? = some (some (V.ref b)) := by
      rw [wipe_get, if_neg (by simpa using hjv)]
      exact s2
    -- what holds at each turn
    refine ⟨fun a mm H2 => mm = ks.length - a ∧ a ≤ ks.length ∧ ∃ acc vs, H2 = upd (upd H d (.frz od (.dK vd))) D (.dK vs) ∧ RepKV W X.K φ Z acc vs ∧ acc.length ≤ a ∧ dcAcc ls ((ks.map (·.1)).drop a) acc = dcAcc ls (ks.map (·.1)) [],
      ⟨ks.length, by simp, Nat.zero_le _, [], [], rfl, .nil, Nat.le_refl _, rfl⟩, ?_⟩
    rintro a mm H2 ⟨rfl, ha, acc, vs, rfl, ra, hal, eacc⟩
    have hfd : (upd (upd H d (.frz od (.dK vd))) D (.dK vs)) d = some (.frz od (.dK vd)) := by rw [upd_ne (Ne.symm nDd), upd_same]
    by_cases hlt : a < ks.length
    · have hlt' : a < (ks.map (·.1)).length := by simpa using hlt
      rw [List.drop_eq_getElem_cons hlt'] at eacc
      refine .inr ⟨⟨hfd, by omega⟩, fun H3 => a + 1 ≤ ks.length ∧ ∃ acc vs, H3 = upd (upd H d (.frz od (.dK vd))) D (.dK vs) ∧ RepKV W X.K φ Z acc vs ∧ acc.length ≤ a + 1 ∧ dcAcc ls ((ks.map (·.1)).drop (a + 1)) acc = dcAcc ls (ks.map (·.1)) [],
        fun H' q => ⟨ks.length - (a + 1), by omega, rfl, q.1, q.2⟩, fun x H' hy => ?_⟩
      obtain ⟨rfl, k, vv, hkv, rfl⟩ := hy
      have hkk : (ks.map (·.1))[a] = k := by
        have : (vd.map (·.1))[a]? = some k := by rw [List.getElem?_map, hkv]; rfl
        rw [hkeys, List.getElem?_eq_getElem hlt'] at this
        exact Option.some.inj this
      rw [hkk] at eacc
      have sx : ((wipe σ [v]).set v (some (kV k)))[v]? = some (some (kV k)) := by
        rw [List.getElem?_set_self]
        rw [wipe_length, ← L.1]
        exact hvr
      refine ⟨?_, ?_⟩
      · show wipe ((wipe σ [v]).set v _) [v] = wipe σ [v]
        simp only [wipe, List.set_set]
      refine ⟨_, sx, V.ref b, ?_, ?_⟩
      · rw [List.getElem?_set_ne (Ne.symm hjv)]; exact wj
      have hbH : (upd (upd H d (.frz od (.dK vd))) D (.dK vs)) b = some (.dK vb) := by rw [upd_ne (Ne.symm nDb), upd_ne nbd]; exact hb
      refine .inr (.inr (.inr (.inr (.inr ⟨b, valV vb k, rfl, DGet.k hbH, _, rfl, ?_⟩))))
      have hget := RepKV.get k rb
      have hsm : (valV vb k).isSome = (getK ls k).isSome := by
        have e4 : valV vb k = getK vb k := rfl
        rw [e4]
        cases q : getK ls k with
        | none => rw [q] at hget; dsimp only at hget; rw [hget]; rfl
        | some tt => rw [q] at hget; dsimp only at hget; obtain ⟨v0, h5, _⟩ := hget; rw [h5]; rfl
      rw [if_pos rfl, hsm]
      rw [dcAcc_cons] at eacc
      by_cases hq : (getK ls k).isSome = true
      · rw [if_pos hq] at eacc
        rw [hq]
        show (if true = true then _ else _)
        rw [if_pos rfl]
        refine ⟨_, sx, vs, k, rfl, upd_same, ?_, by omega, setK acc k (.d (.bool true)), putK vs k (.bl true), ?_, RepKV.setK (Rep.bool true) ra, ?_, eacc⟩
        · have := Paired.len ra
          have hz : sizeLine = 16777216 := sizeLine_eq
          omega
        · funext z
          by_cases hz : z = D
          · subst hz; rw [upd_same, upd_same]
          · rw [upd_ne hz, upd_ne hz, upd_ne hz]
        · have := setK_len acc k (T.d (.bool true)); omega
      · rw [if_neg hq] at eacc
        rw [Bool.not_eq_true] at hq
        rw [hq]
        show (if false = true then _ else _)
        rw [if_neg (by decide)]
        exact ⟨by omega, acc, vs, rfl, ra, by omega, eacc⟩
    · have ea : a = ks.length := by omega
      subst ea
      rw [List.drop_eq_nil_of_le (by simp)] at eacc
      refine .inl ⟨⟨hfd, by omega⟩, hfd, ?_⟩
      have eacc : acc = dcAcc ls (ks.map (·.1)) [] := eacc
      have eH : upd (upd (upd H d (.frz od (.dK vd))) D (.dK vs)) d (.dK vd) = upd H D (.dK vs) := by
        funext z
        by_cases hz : z = d
        · subst hz; rw [upd_same, upd_ne (Ne.symm nDd)]; exact hd.symm
        · rw [upd_ne hz]
          by_cases hz2 : z = D
          · subst hz2; rw [upd_same, upd_same]
          · rw [upd_ne hz2, upd_ne hz2, upd_ne hz]
      rw [eH]
      obtain ⟨S1, x1⟩ := S.newCell hD0 (o := .dK vs) (c := .dk acc) fun hz => ⟨hz, vs, upd_same, RepKV.mono (List.prefix_append _ _) (fun _ _ h => h) ra⟩
      rw [← eacc] at kk
      refine kk _ _ _ _ x1 S1 (.ref ?_)
      rw [← S.len, List.getElem?_append_right (Nat.le_refl _)]
      simp
end
end
end Y
end
section
set_option Elab.async false
set_option linter.all false
set_option maxRecDepth 100000
set_option maxHeartbeats 2000000
namespace YG
open PySem PySem.Spec PyProof.Rows L2
/-- the code object of a function object that stays -/
def cdOf (K : PySem.W.Frag) (f : Addr) : Addr := match K.lookup f with
  | some ⟨_, _, .func fd, _⟩ => (match fd.code with
    | .ref c => c
    | _ => 0)
  | _ => 0
/-- a def by its body, its code told -/
theorem fn_ofC {P : Program} {w : World} {K : PySem.W.Frag} {mg : Str → Option Value} {base : Heap} {k : Nat} {f : Addr} {name qual : Str} {params : Arguments} {body : List Stmt} {scope : Scope} {dvs : List V} {kws : List (Str × V)} {fd : FuncData}
    {N ps : List Str} {sp : Sp} (Fd : FunD K name qual params body scope dvs kws f fd) (S : FnScope N ps scope) (len : ∀ vs H Q E, sp vs H Q E → vs.length = ps.length)
    (hbody : ∀ (cdv : Value) (hcd : cdv = .ref (cdOf K f)) (A : Around) (outer : List Env) (s : Shared) (H : Hp) (vs : List V) (Q : VK) (E : XK), RoomG k (A.deeper (envOfC qual scope s.heap.objs.size f cdv)) → sp vs H Q E →
      ∃ t, PSs (cxOf CX0 P w K mg base N qual scope f cdv A outer s H E) body t ∧ t { nx := fun _ H' => Q .non H', rt := Q } (L2.start N vs) H) :
    FnG P w K mg base (k + 1) f fd ps sp := by
  obtain ⟨oc, od, dV, kV, doc, pm, an, cdv, ct, osl, rfl, lk, hcd, _, _⟩ := Fd.ex
  have hcode : cdv = .ref (cdOf K f) := by
    obtain ⟨c, rfl⟩ := He.codeIn_ref hcd
    unfold cdOf
    rw [lk]
  refine ⟨len, fun A outer s H args us vs Q E hr e0 hb r hsp => ?_⟩
  have hl := len _ _ _ _ hsp
  have KX : K.In s.heap := e0.mod.kin.keeps fun b o e => (e0.bs b o e).1
  have lim : s.heap.NoLimit := e0.mod.nolimit.keeps fun b o e => (e0.bs b o e).1
  have hkind : ∀ y ∈ ps.zip us, scope.names.lookup y.1 = some .local ∨ (scope.names.lookup y.1 = some .cell ∧ ((cellsFrom (s.heap.objs.size + 1) scope.names []).lookup y.1).isSome = true) := fun ⟨n, v⟩ hy => by
    rcases S.par n (List.of_mem_zip hy).1 with q | q
    · exact .inl q
    · exact .inr ⟨q, PySem.W.cellsFrom_some _ _ _ (.inl q)⟩
  refine codeAny_call_function hr.r.depth (KX _ _ lk) rfl S.co S.gen rfl (PySem.W.codeRec_of KX hcd) (hb _ _ _ _ ?_)
  refine wpAny_newFunctionEnv_cells S.kind hkind fun env he s1 x => ?_
  subst he
  refine ⟨lim.keeps x.toInCall.keep, codeAny_func ?_⟩
  obtain ⟨t, ht, hq⟩ := hbody cdv hcode A outer s H vs Q E (hr.deeper _) hsp
  have I : Inv (cxOf CX0 P w K mg base N qual scope f cdv A outer s H E) [] (L2.start N vs) H s1 := inv_start S hr.r.hd e0 hl r x
  refine wpAny_mono (ht.run [] s1 (L2.start N vs) H _ I hq) (fun fl s' hs => ?_) fun e s' hs => hs
  have fin : ∀ {σ' : L2.St} {H' : Hp} {v : V} {u : Value}, Inv (cxOf CX0 P w K mg base N qual scope f cdv A outer s H E) [] σ' H' s' → RelV v u → Q v H' → CE outer P w H s Q u s' :=
    fun {σ' H' v u} J rv q => ⟨v, H', J.os, J.bare, J.base, J.hok, rv, q⟩
  cases fl with
  | ret u =>
    obtain ⟨v, σ', H', J, rv, q⟩ := hs
    exact fin J rv q
  | next =>
    obtain ⟨σ', H', J, q⟩ := hs
    exact fin (v := V.non) (u := Value.none) J rfl q
  | brk =>
    obtain ⟨_, _, _, q⟩ := hs
    exact False.elim q
  | cont =>
    obtain ⟨_, _, _, q⟩ := hs
    exact False.elim q
/-- the law's end with tables of code objects: the promise is asked at the law's caller alone -/
theorem law_callT {P : Program} {w : World} {K : PySem.W.Frag} {mg mb : Str → Option Value} {k : Nat} {fa a : Addr} {cs : List (Addr × Addr)} {fd : FuncData} {x : Str} {sp : Sp} {s₁ : Shared} {vs : List Value} {ns : List Int}
    (KX : K.In s₁.heap) (hns : s₁.heap.Ns mainGlobals mg) (hb : s₁.heap.Ns builtinsNs mb) (hbb : ∀ x : Str, x ≠ "__name__" → mb x = bootBuiltins x) (hlim : s₁.heap.NoLimit) (hg : s₁.gens = #[])
    (hT : ∀ p ∈ cs, s₁.heap.get? p.2 = some { cls := .none, data := .fields #[] }) (nT : ∀ p ∈ cs, K.lookup p.2 = none) (C : ∀ p ∈ cs, PySem.W.CodeHd s₁.heap p.1 p.2)
    (hbm : ∃ (bm : Addr) (ob : Obj), mg "__builtins__" = some (.ref bm) ∧ bm ≠ builtinsNs ∧ s₁.heap.get? bm = some ob ∧ ob.cls = .type "module" ∧ ob.dict = some builtinsNs ∧ ob.data = .plain)
    (ha : s₁.heap.get? a = some { cls := .type "list", data := .seq vs.toArray }) (hi : IntsAre vs ns) (hl : ns.length ≤ sizeLine) (hr : RoomG k callerA)
    (F : ∀ base : Heap, K.In base → base.Ns mainGlobals mg → (∀ p ∈ cs, LamX.TabB base mg p.1 p.2) → FnG P w K mg base k fa fd [x] sp) (hbind : ∀ (s : Shared) (u : Value), BindsTo s fd ⟨[u], []⟩ [(x, u)])
    (hsp : ∀ H : Hp, (∀ p ∈ cs, H p.2 = some (.tbl #[])) → SqL K H a (ns.map V.int) → sp [.ref a] H (fun v _ => v = .bl true) fun _ _ _ => False) :
    codeAny (model P w) callerA (.call (.ref fa) ⟨[.ref a], []⟩) (fun r s' => r = .ok (.ret (.bool true)) ∧ PySem.OldK s₁.heap s'.heap ∧ s'.os = s₁.os ∧ AllBare s'.gens) s₁ := by
  have rv := vals_ints hi
  have lenV := hi.length
  let tb := cs.map (·.2)
  have isT : ∀ b : Addr, b ∈ tb → s₁.heap.get? b = some { cls := .none, data := .fields #[] } := fun b hb => by
    obtain ⟨p, hp, rfl⟩ := List.mem_map.mp hb
    exact hT p hp
  have aT : a ∉ tb := fun z => by
    have q := isT a z
    rw [ha] at q
    have z' : Data.seq vs.toArray _ = Data.fields #[] := congrArg Obj.data (Option.some.inj q)
    cases z'
  have memT : ∀ p ∈ cs, p.2 ∈ tb := fun p hp => List.mem_map.mpr ⟨p, hp, rfl⟩
  have core : ∀ H : Hp, (∀ p ∈ cs, H p.2 = some (.tbl #[])) → (∀ b, H b = none ∨ b ∈ tb ∨ ∃ o xs, H b = some (.frz o (.lst xs))) → SqL K H a (ns.map V.int) → HOk P w H s₁.heap → (∀ b, H b ≠ none → b = a ∨ b ∈ tb) → (H a ≠ none → K.lookup a = none) →
      codeAny (model P w) callerA (.call (.ref fa) ⟨[.ref a], []⟩) (fun r s' => r = .ok (.ret (.bool true)) ∧ PySem.OldK s₁.heap s'.heap ∧ s'.os = s₁.os ∧ AllBare s'.gens) s₁ := by
    intro H hH hO hS hok hA hK
    have base_of : ∀ {b : Addr} {o : Obj}, s₁.heap.get? b = some o → H b = none → (hidT s₁.heap H).get? b = some o := fun e n => hidT_get e n
    have noD : ∀ {b : Addr} {o : Obj}, s₁.heap.get? b = some o → (∀ vs n, o.data ≠ .seq vs n) → o.data ≠ .fields #[] → H b = none := fun {b o} e h1 h2 => by
      cases q : H b with
      | none => rfl
      | some u =>
        rcases hA b (by rw [q]; simp) with e' | e'
        · rw [e', ha] at e; cases e
          exact absurd rfl (h1 _ _)
        · rw [isT b e'] at e; cases e
          exact absurd rfl h2
    have noA : ∀ {b : Addr} {o : Obj} {es : Array DictEntry} {ep : Nat}, s₁.heap.get? b = some o → o.data = .dict es ep → H b = none := fun {b o es ep} e d => noD e (fun vs n z => by rw [d] at z; cases z) fun z => by rw [d] at z; cases z
    have nsK : ∀ {b : Addr} {m : Str → Option Value}, s₁.heap.Ns b m → (hidT s₁.heap H).Ns b m := fun {b m} ⟨o, es, ep, e, d, r⟩ => ⟨o, es, ep, base_of e (noA e d), d, r⟩
    have hKb : K.In (hidT s₁.heap H) := fun b o e => base_of (KX b o e) (by
      cases q : H b with
      | none => rfl
      | some u =>
        rcases hA b (by rw [q]; simp) with e' | e'
        · subst e'
          rw [hK (by rw [q]; simp)] at e; cases e
        · obtain ⟨p, hp, rfl⟩ := List.mem_map.mp e'
          rw [nT p hp] at e; cases e)
    have hM : Mod K mg (hidT s₁.heap H) := ⟨hKb, nsK hns, ⟨mb, nsK hb, hbb⟩, let ⟨mc, h1, h2⟩ := hlim; ⟨mc, nsK h1, h2⟩⟩
    have TB : ∀ p ∈ cs, LamX.TabB (hidT s₁.heap H) mg p.1 p.2 := fun p hp => by
      refine ⟨?_, ?_, fun z => ?_⟩
      · obtain ⟨o, us, file, tf, flags, tg, inF, text, tt, e1, r1, r2, r3, rest⟩ := C p hp
        exact ⟨o, us, file, tf, flags, tg, inF, text, tt, base_of e1 (noD e1 (fun vs n z => by rw [r2] at z; cases z) fun z => by rw [r2] at z; cases z; simp at r3), r1, r2, r3, rest⟩
      · obtain ⟨bm, ob, b1, b2, b3, b4, b5, b6⟩ := hbm
        refine ⟨bm, ob, b1, b2, fun q => ?_, fun q => ?_, base_of b3 (noD b3 (fun vs n z => by rw [b6] at z; cases z) fun z => by rw [b6] at z; cases z), b4, b5, b6⟩
        · obtain ⟨o, es, ep, e, hd, _⟩ := hns
          rw [q, e] at b3; cases b3
          rw [hd] at b6; cases b6
        · rw [q, hT p hp] at b3; cases b3
          cases b6
      · obtain ⟨o, es, ep, e, hd, _⟩ := hns
        rw [z, hT p hp] at e; cases e
        cases hd
    have e0 : Env0 P w K mg (hidT s₁.heap H) callerA [] s₁ H := ⟨rfl, hM, fun b o e => of_hidT e, Nat.le_of_eq (hidT_size _ _), trivial, fun b hb => absurd (show b ∈ ([] : List Addr) from hb) (by simp), hok, .of_eq hg⟩
    refine codeAny_mono ((F _ hKb (nsK hns) TB).run callerA [] s₁ H ⟨[.ref a], []⟩ [.ref a] [.ref a] _ _ hr e0 (hbind s₁ (.ref a)) (.cons rfl .nil) (hsp H hH hS)) fun r s' h => ?_
    cases r with
    | error e => exact (show False from h).elim
    | ok fl =>
      cases fl with
      | next => exact False.elim h
      | brk => exact False.elim h
      | cont => exact False.elim h
      | ret u =>
        obtain ⟨v, H', os, bare, un, hok', r', q⟩ := h
        have q' : v = .bl true := q
        subst q'
        obtain rfl : u = Value.bool true := r'
        have key : ∀ b o, b ∉ tb → s₁.heap.get? b = some o → s'.heap.get? b = some o := fun b o nb e => by
          cases q : H b with
          | none => exact un.keep b o e q (by intro z; exact absurd (show b ∈ ([] : List Addr) from z) (by simp)) (by simp)
          | some u =>
            rcases hO b with z | z | ⟨ob, xs, z⟩
            · rw [q] at z; cases z
            · exact absurd z nb
            · have z2 := un.frzs b ob _ z
              obtain ⟨e1, _⟩ := hok b _ z
              obtain ⟨e2, _⟩ := hok' b _ z2
              rw [e] at e1; cases e1
              exact e2
        have grown : ∀ p ∈ cs, ∃ more : Array Value, s'.heap.get? p.2 = some { cls := .none, data := .fields more } := fun p hp => by
          obtain ⟨more, z⟩ := un.tbls p.2 #[] (hH p hp)
          exact ⟨_, hok' p.2 _ z⟩
        refine ⟨rfl, ⟨fun b o e => ?_, fun b o e => ?_⟩, os, bare⟩
        · by_cases hb : b ∈ tb
          · obtain ⟨p, hp, rfl⟩ := List.mem_map.mp hb
            obtain ⟨more, hm⟩ := grown p hp
            rw [hT p hp] at e
            cases e
            exact .inr (.inl ⟨((C p hp).tab (hT p hp)).isCodeTable, rfl, #[], more, rfl, by rw [Array.empty_append]; exact hm⟩)
          · exact .inl (key b o hb e)
        · by_cases hb : b ∈ tb
          · obtain ⟨p, hp, rfl⟩ := List.mem_map.mp hb
            obtain ⟨more, hm⟩ := grown p hp
            exact ⟨_, hm⟩
          · exact ⟨o, key b o hb e⟩
  cases hk : K.lookup a with
  | some o =>
    have e := KX a o hk
    rw [ha] at e
    cases e
    refine core (fun b => if b ∈ tb then some (.tbl #[]) else none) (fun p hp => if_pos (memT p hp)) (fun b => ?_) (.inr ⟨_, vs.toArray, _, hk, rfl, rfl, rfl, by rw [List.size_toArray, lenV]; exact hl, by simpa using rv⟩) (fun b u z => ?_) (fun b z => ?_) fun z => absurd (show (if a ∈ tb then some (HO.tbl #[]) else none) = none from if_neg aT) z
    · by_cases hb : b ∈ tb
      · exact .inr (.inl hb)
      · exact .inl (if_neg hb)
    · by_cases hb : b ∈ tb
      · have z' := (if_pos hb).symm.trans z
        cases z'
        exact isT b hb
      · have z' := (if_neg hb).symm.trans z
        cases z'
    · by_cases hb : b ∈ tb
      · exact .inr hb
      · exact absurd (if_neg hb) z
  | none =>
    refine core (fun b => if b = a then some (.frz { cls := .type "list", data := .seq vs.toArray } (.lst (ns.map V.int))) else if b ∈ tb then some (.tbl #[]) else none) (fun p hp => (if_neg (show ¬ p.2 = a from fun z => aT (by rw [← z]; exact memT p hp))).trans (if_pos (memT p hp))) (fun b => ?_)
      (.inl (.inr ⟨{ cls := .type "list", data := .seq vs.toArray }, if_pos rfl⟩)) (fun b u z => ?_) (fun b z => ?_) fun _ => hk
    · by_cases hb : b = a
      · exact .inr (.inr ⟨_, _, if_pos hb⟩)
      · by_cases hb2 : b ∈ tb
        · exact .inr (.inl hb2)
        · exact .inl ((if_neg hb).trans (if_neg hb2))
    · by_cases hb : b = a
      · have z' := (if_pos hb).symm.trans z
        cases z'
        subst hb
        exact ⟨ha, by rw [List.length_map]; exact hl, vs, _, rv, ha⟩
      · have z1 := (if_neg hb).symm.trans z
        by_cases hb2 : b ∈ tb
        · have z' := (if_pos hb2).symm.trans z1
          cases z'
          exact isT b hb2
        · have z' := (if_neg hb2).symm.trans z1
          cases z'
    · by_cases hb : b = a
      · exact .inl hb
      · by_cases hb2 : b ∈ tb
        · exact .inr hb2
        · exact absurd ((if_neg hb).trans (if_neg hb2)) z
theorem walk_ofT {l : PySem.W.OpenLaw} {n k : Nat} {q : Program} {loose : List Str} {XP : (Str → Option Value) → Heap → Prop} {YP : World → Heap → Prop} {d : DefRec} {x : Str}
    (hn : l.most = some n) (hn2 : n ≤ sizeLine) (hdf : d.params.defaults = []) (hr : RoomG k callerA)
    (F : ∀ (w : World) (mg : Str → Option Value) (fa : Addr) (h : Heap), YP w h → h.Ns mainGlobals mg → mg d.name = some (.ref fa) →
      ∃ (K : PySem.W.Frag) (fd : FuncData) (cs : List (Addr × Addr)) (sp : Sp), K.In h ∧ (∀ p ∈ cs, h.get? p.2 = some { cls := .none, data := .fields #[] }) ∧ (∀ p ∈ cs, K.lookup p.2 = none) ∧ (∀ p ∈ cs, PySem.W.CodeHd h p.1 p.2) ∧
        (∀ (s : Shared) (u : Value), BindsTo s fd ⟨[u], []⟩ [(x, u)]) ∧
        (∀ (H : Hp) (a : Addr) (ns : List Int), ns.length ≤ n → (∀ p ∈ cs, H p.2 = some (.tbl #[])) → SqL K H a (ns.map V.int) → sp [.ref a] H (fun v _ => v = .bl true) fun _ _ _ => False) ∧
        ∀ base : Heap, K.In base → base.Ns mainGlobals mg → (∀ p ∈ cs, LamX.TabB base mg p.1 p.2) → FnG l.prog w K mg base k fa fd [x] sp) :
    PySem.W.WalkO q loose XP YP l.row.toRowW d [] (fun f vs => PySem.call f vs) := by
  refine Att.attach_call hn hdf fun w s₀ s₁ mg mb fa o pm cd doc a vs ns G Y ho hd hcd hmg hobj hints hlen hg => ?_
  obtain ⟨K, fd, cs, sp, KX, hT, nT, C, hb, hsp, hF⟩ := F w mg fa _ Y G.T.g hmg
  exact law_callT KX G.T.g G.T.b G.T.builtins G.T.nolimit hg hT nT C G.T.bmain hobj hints (Nat.le_trans hlen hn2) hr hF hb (fun H hH hS => hsp H a ns hlen hH hS)
end YG
namespace Y
open PySem PySem.Spec L2
open PyProof.Rows (envOfC)
section
variable {P : Program} {w : World} {W : Wd} {K : PySem.W.Frag} {mg : Str → Option Value} {base : Heap} {x qual : Str} {params : Arguments} {body : List Stmt} {scope : Scope} {dvs : List V} {kws : List (Str × V)} {f : Addr} {fd : FuncData} {N ps : List Str} {k : Nat}
theorem fn_okC (Fd : FunD K x qual params body scope dvs kws f fd) (S : FnScope N ps scope) {bf : SF}
    (hb : ∀ (cdv : Value) (hcd : cdv = .ref (YG.cdOf K f)) (A : Around) (outer : List Env) (s : Shared) (H : Hp) (E : XK), YG.RoomG k (A.deeper (envOfC qual scope s.heap.objs.size f cdv)) → SSs W (cxOf CX0 P w K mg base N qual scope f cdv A outer s H E).nox body bf) :
    YG.FnG P w K mg base (k + 1) f fd ps (spY W K ps.length (fnF N.length ps.length bf)) := by
  refine YG.fn_ofC Fd S (fun vs H Q E h => spY_len h) (fun cdv hcd A outer s H vs Q E hr h => ⟨_, PSs.nox (hb cdv hcd A outer s H E hr), ?_⟩)
  obtain ⟨φ, Z, ts, cs, Sm, r, hl, t, cs', e, kk⟩ := h
  unfold fnF at e
  rw [if_pos hl] at e
  refine ⟨φ, Z, startR N.length ts, cs, Sm, Slots.start r, ?_⟩
  generalize hrs : bf (startR N.length ts) cs = rs at e
  cases rs with
  | nx ρ c =>
    intro φ' Z' H' σ' x' S' L'
    obtain ⟨t', c', φ2, e2, x2, S2, r2⟩ := leave_keep (r := endF (.nx ρ c)) Sm x' S' (Rep.none) rfl
    rw [e] at e2
    cases e2
    exact kk _ _ _ _ x2 S2 r2
  | rt t c =>
    intro φ' Z' H' v x' S' r'
    obtain ⟨t', c', φ2, e2, x2, S2, r2⟩ := leave_keep (r := endF (.rt t c)) Sm x' S' r' rfl
    rw [e] at e2
    cases e2
    exact kk _ _ _ _ x2 S2 r2
  | bk ρ c => cases e
  | ct ρ c => cases e
  | stuck => cases e
theorem lamOk0 {i : Nat} {L : Lam} {ps : List Str} (hL : W.lam i = L) (hl : ps.length = ps.length) : LamOk W P w K mg base 0 i (fun _ _ => .stuck) := by
  refine ⟨ps, ⟨fun vs H Q E h => spY_len h, fun A outer s H f c us vs Q E hr e0 hf hc r h => ?_⟩, ar_stuck⟩
  obtain ⟨φ, Z, ts, cs, S, r, hl, t, cs', e, _⟩ := h
  cases e
end
end Y
namespace YH
open PySem PySem.Spec L2 Y He
/-! ### the look of YJ, with tables of code objects that are empty and not in K -/
structure SaysL (fa : List Fa) (fn : List DefD) (ts : List Tab) (tf : List Defn) (ex : PySem.W.Frag → Bool) (w : World) (h : Heap) (K : PySem.W.Frag) : Prop where
  t : SaysT fa fn ts w K
  more : ex K = true
  hd : ∀ p ∈ tf, PySem.W.codeHdIn K (cT K p).1 (cT K p).2 = true
  out : ∀ p ∈ tf, K.lookup (cT K p).2 = none
  empty : ∀ p ∈ tf, h.get? (cT K p).2 = some { cls := .none, data := .fields #[] }
def tabsL (g : Addr → Option Obj) (tf : List Defn) (K : PySem.W.Frag) : Bool := tf.all fun p => PySem.W.codeHdIn K (cT K p).1 (cT K p).2 && ((K.lookup (cT K p).2).isNone && (match g (cT K p).2 with
  | some o => emptyTab o
  | none => false))
theorem tabsL_ok {g : Addr → Option Obj} {tf : List Defn} {K : PySem.W.Frag} (h : tabsL g tf K = true) : ∀ p ∈ tf, PySem.W.codeHdIn K (cT K p).1 (cT K p).2 = true ∧ K.lookup (cT K p).2 = none ∧ g (cT K p).2 = some { cls := .none, data := .fields #[] } := fun p hp => by
  obtain ⟨h1, h2⟩ := ba (List.all_eq_true.mp h p hp)
  obtain ⟨h3, h4⟩ := ba h2
  refine ⟨h1, Option.isNone_iff_eq_none.mp h3, ?_⟩
  cases q : g (cT K p).2 with
  | none => rw [q] at h4; cases h4
  | some o => rw [q] at h4; rw [emptyTab_eq h4]
def obsL (n : Nat) (fa : List Fa) (fn : List DefD) (ts : List Tab) (tf : List Defn) (ex : PySem.W.Frag → Bool) (g : Addr → Option Obj) : AlT × Bool := (obsT fa fn ts (frG g (asP g n)), ex (frG g (asP g n)) && tabsL g tf (frG g (asP g n)))
theorem saysL_of {n : Nat} {fa : List Fa} {fn : List DefD} {ts : List Tab} {tf : List Defn} {ex : PySem.W.Frag → Bool} {w : World} {h : Heap} (e : obsL n fa fn ts tf ex h.get? = (valT fn ts w, true)) : SaysL fa fn ts tf ex w h (frG h.get? (asP h.get? n)) := by
  obtain ⟨h1, h2⟩ := ba (congrArg (fun z : AlT × Bool => z.2) e)
  have key := tabsL_ok h2
  exact ⟨congrArg (fun z : AlT × Bool => z.1) e, h1, fun p hp => (key p hp).1, fun p hp => (key p hp).2.1, fun p hp => (key p hp).2.2⟩
def hookL (n : Nat) (fa : List Fa) (fn : List DefD) (ts : List Tab) (tf : List Defn) (ex : PySem.W.Frag → Bool) : PySem.W.Hook where
  α := AlT × Bool
  obs := fun s => obsL n fa fn ts tf ex s.heap.get?
  val := fun w => (valT fn ts w, true)
  says := fun w h => ∃ K : PySem.W.Frag, K.In h ∧ SaysL fa fn ts tf ex w h K
  of := fun _ _ e => ⟨_, frG_in, saysL_of e⟩
  keeps := fun _ _ _ ⟨K, hK, c⟩ k => ⟨K, PySem.W.Frag.In.keeps hK k, ⟨c.t, c.more, c.hd, c.out, fun p hp => k _ _ (c.empty p hp)⟩⟩
theorem obsL_eq {n : Nat} {fa : List Fa} {fn : List DefD} {ts : List Tab} {tf : List Defn} {ex : PySem.W.Frag → Bool} {g : Addr → Option Obj} {s : Shared} (h : ∀ a, g a = s.heap.get? a) : obsL n fa fn ts tf ex g = (hookL n fa fn ts tf ex).obs s := by
  have e : g = s.heap.get? := funext h
  rw [e]
  rfl
end YH
namespace Y
open PySem PySem.Spec L2
/-- a def with defaults, called with the last ones lacking -/
theorem DefOk.mkD {W : Wd} {P : Program} {w : World} {K : PySem.W.Frag} {mg : Str → Option Value} {base : Heap} {k j jj : Nat} {ps : List Str} {dvs : List V} {dts : List T} {F : FF} {x qual : Str} {params : Arguments} {body : List Stmt} {scope : Scope} (Fd : ∃ fd, FunD K x qual params body scope dvs [] (W.fad j) fd)
    (hb : ∀ fd, FunD K x qual params body scope dvs [] (W.fad j) fd → ∃ ds, Vals (dvs.drop jj) ds ∧ Binds K fd ps ds) (hr : ∀ φ Z, Reps W K φ Z dts (dvs.drop jj))
    (hF : ∀ fd, FunD K x qual params body scope dvs [] (W.fad j) fd → YG.FnG P w K mg base k (W.fad j) fd ps (spY W K ps.length F)) (ar : Ar ps.length F) : DefOk W P w K mg base k j ps dts F := by
  obtain ⟨fd, h⟩ := Fd
  obtain ⟨ds, h1, h2⟩ := hb fd h
  refine ⟨⟨fd, dvs.drop jj, ds, hF fd h, h2, h1, hr, h.kp, ?_⟩, ar⟩
  obtain ⟨oc, od, dV, kV, doc, pm, an, cdv, ct, osl, rfl, lk, _⟩ := h.ex
  unfold PySem.W.fnIn
  rw [lk]
end Y
end
section
set_option Elab.async false
set_option linter.all false
set_option maxRecDepth 100000
set_option maxHeartbeats 2000000
/-! an own exception whose __init__ begins with super().__init__(..) -/
namespace ZX
open PySem PySem.Spec PyProof.Rows L2 PySem.W PySem.Calls NdefX
/-- what is told of such an __init__ -/
structure SupC (P : Program) (K : Frag) (mg : Str → Option Value) (f C : Addr) (F : NF) (ar : Str) : Prop where
  fn : ∃ oc od doc pm ctv osl, K.lookup f = some ⟨oc, od, .func (F.fd doc pm ctv), osl⟩
  cd : codeIn K (.ref F.c) F.qual = true
  file : ∃ ccl cdd vs ccs file tf, K.lookup F.c = some ⟨ccl, cdd, .fields vs, ccs⟩ ∧ vs[2]? = some (.str file tf) ∧ ((P.main.file : Str) == file) = true
  cell : ∃ cc cl cld csl, F.cl = [(("__class__" : Str), cc)] ∧ K.lookup cc = some ⟨cl, cld, .cell (some (.ref C)), csl⟩
  mgs : mg "super" = none
  ks : F.scope.names.lookup ("super" : Str) = some .globalImplicit
  kc : F.scope.names.lookup ("__class__" : Str) = some .free
  ka : F.scope.names.lookup ar = some .local
  hp : (F.params.posonlyargs ++ F.params.args).head?.map (·.arg) = some ar
  htop : (P.main.scope.names.lookup ("super" : Str)).isSome = false
  tp : nsIn K cStatics "thirdparty.any" = some none
  sub : mroIn K C (.ref C) = some true
  init : ks_superIn K C C "__init__" = some (some (.builtin "ValueError.__init__"))
  ve : subIn K (.ref C) (.type "ValueError") = some true
  X : OexC K C
theorem boot_super : bootBuiltins "super" = some (.type "super") := by decide +kernel
section
variable {X : Cx} {F : NF} {f L C a : Addr} {ar : Str} {pins : List (Addr × Obj)} {σ : L2.St} {H : Hp} {s : Shared} {p0 p1 p2 pos : Pos} {e : Expr} {es : List Expr} {body : List Stmt} {ta : TA} {Q' : Hp → Prop}
theorem drop_pin {p : Addr × Obj} (I : Inv X (p :: pins) σ H s) : Inv X pins σ H s := I.pins_of fun q hq => I.pin q (List.mem_append_right _ (List.mem_cons_of_mem _ hq))
theorem at_init {pl : Sem Bool} (S : SupC X.prog X.K X.mg f C F ar) (henv : X.env = envF F f L) (I : Inv X pins σ H s) (hN : X.N[0]? = some ar) (hσ : σ[0]? = some (some (.ref a))) (ea : H a = some (exo a C none))
    (ha : PA X (e :: es) ta) (h : ta σ H fun vs H1 => vs.length ≤ 1000 ∧ H1 a = some (exo a C none) ∧ Q' H1)
    (hs : starEach (e :: es) X.env = (false, eval e X.env) :: starEach es X.env := by rfl) (hpl : (backTo pos (starEach es X.env)).any (·.1) = false := by rfl)
    (hc : eval (.Call (.Attribute (.Call (.Name "super" p0) [] [] p1) "__init__" p2) (e :: es) [] pos) X.env = (do
      let ov ← attributeBase (.Call (.Name "super" p0) [] [] p1) "__init__" X.env (eval (.Call (.Name "super" p0) [] [] p1) X.env)
      standAt p2.atName
      let (f, first) ← holding [ov] (getMethod ov "__init__" pl)
      callWith pos f first (backTo pos (starEach (e :: es) X.env)) []) := by rfl) :
    _root_.PySem.wpAt (model X.prog X.w) X.A (.func body X.env) (eval (.Call (.Attribute (.Call (.Name "super" p0) [] [] p1) "__init__" p2) (e :: es) [] pos) X.env) (fun _ s' => ∃ H1, Inv X pins σ H1 s' ∧ Q' H1) X.xe s := by
  have hk : X.env.scope.kind = .function := I.ok.kind
  have hks : X.env.kindOf "super" = some .globalImplicit := by rw [henv]; exact S.ks
  have hkc : X.env.kindOf "__class__" = some .free := by rw [henv]; exact S.kc
  have hka : X.env.kindOf ar = some .local := by rw [henv]; exact S.ka
  obtain ⟨oc, od, doc, pm, ctv, osl, lkf⟩ := S.fn
  obtain ⟨ccl, cdd, vs, ccs, file, tf, lkc, hvs, hfile⟩ := S.file
  obtain ⟨cc, cl, cld, csl, hcl, lkcc⟩ := S.cell
  obtain ⟨ar', har, harg⟩ := Option.map_eq_some_iff.mp S.hp
  obtain ⟨nm, q, N, bs, bm, sn, sub, ab, col, dd, k0, k1, k2, k3, k5, hC, hbm⟩ := S.X.cls
  have hcls : PySem.W.clsIn X.K C = some { name := nm, bases := bs, mro := .ref C :: bm, ns := N, qualname := q, hasDict := true, slotNames := sn, subclasses := sub, abstract := ab, collection := col, hasDel := false } := by unfold PySem.W.clsIn; rw [hC] <;> rfl
  have KX := I.kIn
  obtain ⟨mb, hb, hb2⟩ := I.mod.blt
  obtain ⟨m, hn, hl⟩ := I.loc
  obtain ⟨u, ru, lk⟩ := hl 0 ar (.ref a) hN hσ (.inl hka)
  obtain rfl : u = .ref a := ru
  have hm : m ar = some (.ref a) := by
    rcases lk with ⟨_, z⟩ | ⟨z, _⟩
    · exact z
    · rw [hka] at z; rcases z with z | z <;> cases z
  obtain ⟨t1, ho⟩ := exo_at I.hok ea
  refine ks_wpAt_MethodCall (pl := pl) ?_ hc
  refine ks_wpAt_super_base (f := f) (cc := F.c) hks hkc (by decide) (by rw [henv]) (KX _ _ lkf) rfl har (by rw [henv]) (KX _ _ lkc) rfl hvs hfile S.htop ?_
  refine ks_loadName_global hk hks (loadGlobal_builtin (by rw [I.ok.glob]; exact I.mod.glob.keeps I.bk) S.mgs (by rw [I.ok.blt]; exact hb.keeps I.bk) ((hb2 _ (by decide)).trans boot_super) ⟨rfl, ?_⟩)
  refine wpAny_loadName_free hk hkc (c := cc) (by rw [henv]; show F.cl.lookup _ = _; rw [hcl]; rfl) ⟨_, KX _ _ lkcc, rfl⟩ ?_
  rw [harg]
  refine wpAny_loadName_local hk hka hn hm ?_
  refine ks_wpAny_isType_cls (KX _ _ hC) rfl ⟨rfl, ?_⟩
  obtain ⟨hp, g, d, t, os⟩ := s
  refine ks_wpAny_call_super (KX _ _ hC) rfl ho rfl (fun c e => by cases e) (looks_mroIn KX S.sub) (fun h1 e1 kk1 => ?_)
  have I1 : Inv X pins σ H ⟨h1, g, d, t, os⟩ := I.kept (t' := t) kk1
  have J : PySem.W.InstAt h1 a _ C none := ⟨kk1 _ _ ho, rfl, rfl, trivial⟩
  have hI : Looks (model X.prog X.w) h1 (isInstance (.ref a) (.type "ValueError")) true := J.type.andThen (looks_subIn I1.kIn S.ve)
  have hin := S.init
  unfold ks_superIn at hin
  rw [hcls] at hin
  refine kxs_getMethod kxs_ValueError e1 (looks_opaque I1.kIn S.tp) (l₀ := .ref C :: bm) ?_ rfl I1.kIn hin hI (ks_ne I1.kIn J hcls) (by decide) ?_
  · exact fun A Q E s k q => wpAny_bind ((looks_clsIn I1.kIn hcls) A _ E s k (wpAny_pure q))
  have I2 : Inv X pins σ H ⟨h1.push (kxs_mw "ValueError.__init__" a), g, d, t + 1, os⟩ := I1.kept (t' := t + 1) fun b o e => Heap.get?_push_of_some _ e
  have gu : (h1.push (kxs_mw "ValueError.__init__" a)).get? h1.objs.size = some (kxs_mw "ValueError.__init__" a) := Heap.get?_push_at rfl rfl
  have I3 : Inv X ((h1.objs.size, kxs_mw "ValueError.__init__" a) :: pins) σ H ⟨h1.push (kxs_mw "ValueError.__init__" a), g, d, t + 1, os⟩ := I2.pins_of fun q hq => by
    rcases List.mem_cons.mp hq with rfl | hq
    · refine ⟨gu, I1.hok.fresh (Nat.le_refl _), Nat.ne_of_gt I1.lt, I1.nofs (Nat.le_refl _), fun v z => by cases z⟩
    · exact I2.pin q (List.mem_append_right _ hq)
  show wpAny _ _ (callWith pos (Value.ref h1.objs.size) [] (backTo pos (starEach (e :: es) X.env)) []) _ _ _
  have hplain : (backTo pos (starEach (e :: es) X.env)).any (·.1) = false := by rw [hs]; show (false || (backTo pos (starEach es X.env)).any (·.1)) = false; rw [hpl]; rfl
  refine kxs_callWith (i := "ValueError.__init__") (x := a) hplain ?_
  have key : wpAny (model X.prog X.w) X.A (spliced (backTo pos (starEach (e :: es) X.env))) (fun us s₁ => KxsAt "ValueError.__init__" h1.objs.size a s₁.heap ∧ wpAny (model X.prog X.w) X.A (call (.ref h1.objs.size) ([] ++ us)) (fun _ s' => ∃ H1, Inv X pins σ H1 s' ∧ Q' H1) X.xe s₁) X.xe ⟨h1.push (kxs_mw "ValueError.__init__" a), g, d, t + 1, os⟩ := by
    refine thn (ha.run pos _ _ σ H _ I3 h) fun us s3 ⟨ws, H3, I4, r4, hlen, ea3, q4⟩ => ?_
    have p4 := (I4.pin (h1.objs.size, kxs_mw "ValueError.__init__" a) (List.mem_append_right _ List.mem_cons_self)).1
    refine ⟨p4, ?_⟩
    have hus : us.length ≤ sizeLine := by
      rw [← Paired.length r4, sizeLine_eq]
      omega
    obtain ⟨t3, ho3⟩ := exo_at I4.hok ea3
    have I5 := drop_pin I4
    have hC3 := I5.kIn _ _ hC
    obtain ⟨hp3, g3, d3, tk3, os3⟩ := s3
    refine wpAny_call (codeAny_of_tree ?_)
    show wpAny _ X.A.in1 (callAny (.ref h1.objs.size) ⟨us, []⟩) _ _ _
    simp only [callAny]
    refine wpAny_bind (wpAny_load p4 ?_)
    simp only [kxs_mw, show (Value.type "method-wrapper" == Value.type "method" || Value.type "method-wrapper" == Value.type "builtin_function_or_method" || Value.type "method-wrapper" == Value.type "method-wrapper") = true by decide, if_true]
    refine KFB.if_so (by decide) ?_
    refine wpAny_bind (check_bound_init PySem.F.excBase_ValueError.toExcCallFacts hC3 ho3 rfl ?_)
    refine wpAny_bind (wpAny_pure (wpAny_pure ?_))
    refine ⟨plainId_quiet PySem.F.excBase_ValueError.init.plain _, codeAny_builtin PySem.F.excBase_ValueError.initEntry ?_⟩
    refine exc_init_tree (cls := .ref C) (t0 := t3) (dv := none) (c2 := .none) (c3 := .none) (b4 := .bool false) ho3 hus fun h' k' hx _ => ?_
    have J5 := I5.write (t' := tk3) (x := a) (e := a) (o := exo a C none) (by rw [ea3]; exact True.intro) (.inl rfl) k' ⟨_, hx⟩ (exo_ok hx)
    have eu : upd H3 a (exo a C none) = H3 := by
      funext b
      by_cases hb : b = a
      · rw [hb, upd_same, ea3]
      · rw [upd_ne hb]
    rw [eu] at J5
    exact ⟨H3, J5, q4⟩
  rw [hs] at key ⊢
  exact evalArgs_plain key
end
end ZX
end
section
set_option Elab.async false
set_option linter.all false
set_option maxRecDepth 100000
set_option maxHeartbeats 2000000
/-! what such an __init__ promises -/
namespace ZX
open PySem PySem.Spec PyProof.Rows L2 PySem.W PySem.Calls NdefX YG
section
variable {P : Program} {w : World} {K : PySem.W.Frag} {mg : Str → Option Value} {base : Heap} {F : NF} {f C : Addr} {ar : Str} {N ps : List Str} {sp : Sp} {k : Nat} {p0 p1 p2 pos pos0 : Pos} {e : Expr} {es : List Expr} {rest : List Stmt}
theorem cells_at {s : Shared} {H : Hp} {A : Around} {outer : List Env} (S : SupC P K mg f C F ar) (e0 : Env0 P w K mg base A outer s H) : CellsAt F.cl ["__class__"] [none] s.heap H := by
  obtain ⟨cc, cl, cld, csl, hcl, lkcc⟩ := S.cell
  have hb := e0.bs cc _ (e0.mod.kin _ _ lkcc)
  have one : ∀ y c, F.cl.lookup y = some c → y = "__class__" ∧ c = cc := fun y c h => by
    rw [hcl] at h
    simp only [List.lookup] at h
    cases q : (y == ("__class__" : Str)) with
    | true => rw [q] at h; cases h; exact ⟨by simpa using q, rfl⟩
    | false => rw [q] at h; cases h
  refine ⟨rfl, fun y c h => ?_, fun x y c h1 h2 => (one x c h1).1.trans (one y c h2).1.symm, fun i y h => ?_⟩
  · obtain ⟨_, rfl⟩ := one y c h
    exact ⟨hb.2, some (.ref C), _, hb.1, rfl⟩
  · cases i with
    | zero =>
      cases h
      refine ⟨cc, by rw [hcl]; rfl, fun v z => by cases z⟩
    | succ j => cases h
theorem init_ok {oc : Value} {od : Option Addr} {doc pm ctv : Value} {osl : Array (Option Value)} {pl : Env → Sem Bool} (S : SupC P K mg f C F ar) (lkf : K.lookup f = some ⟨oc, od, .func (F.fd doc pm ctv), osl⟩) (Sc : NScope N ps ["__class__"] F.scope)
    (hbody : F.body = .Expr (.Call (.Attribute (.Call (.Name "super" p0) [] [] p1) "__init__" p2) (e :: es) [] pos) pos0 :: rest) (hN : N[0]? = some ar)
    (len : ∀ vs H Q E, sp vs H Q E → vs.length = ps.length)
    (hb : ∀ (A : Around) (outer : List Env) (s : Shared) (H : Hp) (vs : List V) (Q : VK) (E : XK), sp vs H Q E → ∃ a ta t, vs[0]? = some (.ref a) ∧ H a = some (exo a C none) ∧ PA (ncx CX0 P w K mg base N F f A outer s H E) (e :: es) ta ∧ PSs (ncx CX0 P w K mg base N F f A outer s H E) rest t ∧
      ta (startF N vs [none]) H fun us H1 => us.length ≤ 1000 ∧ H1 a = some (exo a C none) ∧ t { nx := fun _ H' => Q .non H', rt := Q } (startF N vs [none]) H1)
    (hs : ∀ env : Env, starEach (e :: es) env = (false, eval e env) :: starEach es env := by intro env; rfl) (hpl : ∀ env : Env, (backTo pos (starEach es env)).any (·.1) = false := by intro env; rfl)
    (hc : ∀ env : Env, eval (.Call (.Attribute (.Call (.Name "super" p0) [] [] p1) "__init__" p2) (e :: es) [] pos) env = (do
      let ov ← attributeBase (.Call (.Name "super" p0) [] [] p1) "__init__" env (eval (.Call (.Name "super" p0) [] [] p1) env)
      standAt p2.atName
      let (f, first) ← holding [ov] (getMethod ov "__init__" (pl env))
      callWith pos f first (backTo pos (starEach (e :: es) env)) []) := by intro env; rfl)
    (hsw : ∀ (ln : Int) (env : Env), swapsWith (.Call (.Attribute (.Call (.Name "super" p0) [] [] p1) "__init__" p2) (e :: es) [] pos) none pos0.line env = pure false := by intro ln env; rfl) (hint : ∀ L : Addr, interactive (envF F f L) = false := by intro L; rfl) :
    FnG P w K mg base (k + 1) f (F.fd doc pm ctv) ps sp := by
  refine ⟨len, fun A outer s H args us vs Q E hr e0 hbind r hsp => ?_⟩
  have hl := len _ _ _ _ hsp
  have KX : K.In s.heap := e0.mod.kin.keeps fun b o e => (e0.bs b o e).1
  have lim : s.heap.NoLimit := e0.mod.nolimit.keeps fun b o e => (e0.bs b o e).1
  refine ks_codeAny_call_defAt (fd := F.fd doc pm ctv) (body := F.body) (binds := ps.zip us) hr.r.depth (KX _ _ lkf) rfl lim (PySem.W.codeRec_of KX S.cd) rfl hbind Sc.nocell (fun ⟨n, _⟩ hy => Sc.par n (List.of_mem_zip hy).1) (fun h₁ hns hk₁ => ?_) Sc.co Sc.gen Sc.kind
  obtain ⟨a, ta, t, hv0, ea, hpa, hpt, hq⟩ := hb A outer s H vs Q E hsp
  have I : L2.Inv (ncx CX0 P w K mg base N F f A outer s H E) [] (startF N vs [none]) H { s with heap := h₁, toks := s.toks + (ps.zip us).length } := inv_startN Sc hr.r.hd e0 hl r (cells_at S e0) hns hk₁
  have hσ : (startF N vs [none])[0]? = some (some (.ref a)) := by
    cases vs with
    | nil => cases hv0
    | cons v r => cases hv0; rfl
  show _root_.PySem.wpAt (model P w) (A.deeper (envF F f s.heap.objs.size)) (.func F.body (envF F f s.heap.objs.size)) (execs F.body (envF F f s.heap.objs.size)) _ _ _
  have key := at_init (X := ncx CX0 P w K mg base N F f A outer s H E) (body := F.body) (pl := pl (envF F f s.heap.objs.size)) (p0 := p0) (p1 := p1) (p2 := p2) (pos := pos) (Q' := fun H1 => t { nx := fun _ H' => Q .non H', rt := Q } (startF N vs [none]) H1) S rfl I hN hσ ea hpa hq (hs _) (hpl _) (hc _)
  have done : ∀ {fl : Flow} {s' : Shared}, SP (ncx CX0 P w K mg base N F f A outer s H E) [] { nx := fun _ H' => Q .non H', rt := Q } fl s' → CR CX0 outer P w H s Q E (.ok (.ret (match fl with | .ret v => v | _ => .none))) s' := fun {fl s'} hs => by
    have fin : ∀ {σ' : L2.St} {H' : Hp} {v : V} {u : Value}, L2.Inv (ncx CX0 P w K mg base N F f A outer s H E) [] σ' H' s' → L2.RelV v u → Q v H' → CE outer P w H s Q u s' :=
      fun {σ' H' v u} J rv q => ⟨v, H', J.os, J.bare, J.base, J.hok, rv, q⟩
    cases fl with
    | ret u =>
      obtain ⟨v, σ', H', J, rv, q⟩ := hs
      exact fin J rv q
    | next =>
      obtain ⟨σ', H', J, q⟩ := hs
      exact fin (v := V.non) (u := Value.none) J rfl q
    | brk =>
      obtain ⟨_, _, _, q⟩ := hs
      exact False.elim q
    | cont =>
      obtain ⟨_, _, _, q⟩ := hs
      exact False.elim q
  have run : _root_.PySem.wpAt (model P w) (A.deeper (envF F f s.heap.objs.size)) (.func F.body (envF F f s.heap.objs.size)) (execs (.Expr (.Call (.Attribute (.Call (.Name "super" p0) [] [] p1) "__init__" p2) (e :: es) [] pos) pos0 :: rest) (envF F f s.heap.objs.size))
      (SP (ncx CX0 P w K mg base N F f A outer s H E) [] { nx := fun _ H' => Q .non H', rt := Q }) (ncx CX0 P w K mg base N F f A outer s H E).xe { s with heap := h₁, toks := s.toks + (ps.zip us).length } := by
    refine ks_wpAt_execs_cons (ks_wpAt_Expr_any (ks_wpAt_mono key (fun _ s' hh => ?_) fun _ _ z => z) (hint _) (hsw 0 _))
    obtain ⟨H1, I1, q⟩ := hh
    exact wpAt_of_wpAny (hpt.run [] s' _ H1 _ I1 q)
  rw [← hbody] at run
  exact ks_wpAt_mono run (fun fl s' hs => done hs) fun _ _ z => z
end
end ZX
end
section
set_option Elab.async false
set_option linter.all false
set_option maxRecDepth 100000
set_option maxHeartbeats 2000000
/-! an own exception made by keywords -/
namespace PySem
namespace ZXK
open PySem.W PySem.Calls PyProof.Rows PySem.HandSPX
section
variable {M : Model} {A : Around} {E : Value → Shared → Prop} {h : Heap} {g : Array GenState} {d : Drawn} {t : Nat} {os : OsState}
variable {nm q : Str} {C N : Addr} {bs bm bmB : List Value} {hdct : Bool} {sn : List Str} {sub : List Value} {ab : Bool} {col : Option Bool} {dd : Option Addr} {k0 k1 k2 k3 k5 : Option Value} {B newId initId : String}
theorem check_new_kw (F : ExcBaseFacts B newId initId bmB) (hT : ∀ X : String, bm.contains (.type X) = bmB.contains (.type X)) {rest : List Value} {kw : List (Str × Value)} {Q : Unit → Shared → Prop}
    (hC : h.get? C = some (excClassObj nm q C N bs bm hdct sn sub ab col dd k0 k1 k2 k3 k5 newId)) (hq : Q () ⟨h, g, d, t, os⟩) : wpAny M A (checkBuiltinCall newId ⟨.ref C :: rest, kw⟩) Q E ⟨h, g, d, t, os⟩ := by
  have hcont : (Value.ref C :: bm).contains (.type B) = true := by rw [List.contains_cons, hT, F.hasB, Bool.or_true]
  have hstar := F.noStar
  simp only [checkBuiltinCall, F.newKind, F.newSplit, F.newRow]
  repeat (first | refine wpAny_loadPart_at hC ?_ | (refine wpAny_isSubtype_exc hC ?_; rw [hcont]) | refine wpAny_staticBase_exc hC ?_ | refine wpAny_madeBy_exc hC ?_ | simp only [bne_self_eq_false, Bool.false_eq_true, if_false] | wp_step)
  exact hq
end
section
variable {prog : Program} {w : World} {A : Around} {E : Value → Shared → Prop} {R : Result → Shared → Prop} {h : Heap} {g : Array GenState} {d : Drawn} {t : Nat} {os : OsState}
variable {nm q : Str} {C N : Addr} {bs bm bmB : List Value} {hdct : Bool} {sn : List Str} {sub : List Value} {ab : Bool} {col : Option Bool} {dd : Option Addr} {k0 k1 k2 k3 k5 : Option Value} {B newId initId : String}
theorem new_kw (F : ExcBaseFacts B newId initId bmB) (hT : ∀ X : String, bm.contains (.type X) = bmB.contains (.type X)) {rest : List Value} {kw : List (Str × Value)}
    (hC : h.get? C = some (excClassObj nm q C N bs bm hdct sn sub ab col dd k0 k1 k2 k3 k5 newId))
    (hq : R (.ok (.ret (.ref (h.objs.size + 1)))) ⟨(h.push { cls := .type "tuple", data := .seq rest.toArray }).push
      { cls := .ref C, data := .fields #[.ref h.objs.size, .none, .none, .none, .bool false, .none] }, g, d, t, os⟩) (hrest : rest.length ≤ sizeLine) :
    codeAny (model prog w) A (.builtin newId ⟨.ref C :: rest, kw⟩) R ⟨h, g, d, t, os⟩ := by
  have hends := F.ends
  have hcB : (Value.ref C :: bm).contains (.type B) = true := by rw [List.contains_cons, hT, F.hasB, Bool.or_true]
  have hcA : (Value.ref C :: bm).contains (.type "AttributeError") = false := by rw [List.contains_cons, hT, F.noAttr]; rfl
  have hcN : (Value.ref C :: bm).contains (.type "NameError") = false := by rw [List.contains_cons, hT, F.noName]; rfl
  refine codeAny_builtinAt F.entry ?_
  unfold Builtin.«BaseException.__new__»
  refine wpAt_bind ?_
  show PySem.wpAt _ _ _ (stack >>= _) _ _ _
  refine wpAt_bind (wpAt_stack fun p below => wpAt_of_wpAny ?_)
  wp_walk
  refine wpAt_of_wpAny ?_
  rw [F.owner]
  repeat (first | with_reducible refine wpAny_madeHere_exc F.canon hC ?_ | with_reducible refine wpAny_loadPart_at hC ?_ | (with_reducible refine wpAny_isSubtype_exc hC ?_; first | rw [hcB] | rw [hcA] | rw [hcN]) | wp_step)
  show R _ _
  rw [Heap.size_push]
  exact hq

theorem type_call_kw (F : ExcBaseFacts B newId initId bmB) (hT : ∀ X : String, bm.contains (.type X) = bmB.contains (.type X)) {rest : List Value} {kw : List (Str × Value)} {fI : Addr} {Q : Fin → Shared → Prop}
    (hC : h.get? C = some (excClassObj nm q C N bs bm hdct sn sub ab col dd k0 k1 k2 k3 k5 newId))
    (hi : W.Looks (model prog w) h (typeLookup (.ref C) "__init__") (some (.ref fI))) (hb : ∀ self, W.Looks (model prog w) h (bindSpecial (.ref fI) self) (.ref fI, [self])) (hrest : rest.length ≤ sizeLine)
    (hq : codeAny (model prog w) A (.call (.ref fI) ⟨.ref (h.objs.size + 1) :: rest, kw⟩)
      (fun r s' => match r with | .ok (.ret v) => v = .none ∧ Q (.done (.ret (.ref (h.objs.size + 1)))) s' | .ok _ => False | .error e => E e s')
      ⟨(h.push (W.kdv_tup rest)).push (excO C h.objs.size), g, d, t, os⟩) :
    wpAny (model prog w) A (Builtin.«type.__call__» ⟨.ref C :: rest, kw⟩) Q E ⟨h, g, d, t, os⟩ := by
  repeat (first | with_reducible refine wpAny_loadPart_at hC ?_ | with_reducible refine wpAny_madeBy_exc hC ?_ | wp_step)
  refine codeAny_call_builtin_code (Code.quiet_builtin _ F.quiet) (check_new_kw F hT hC ?_)
  refine new_kw F hT hC ?_ hrest
  show wpAny _ _ _ _ _ _
  have k : ∀ b o, h.get? b = some o → ((h.push (W.kdv_tup rest)).push (excO C h.objs.size)).get? b = some o := fun b o e => Heap.get?_push_of_some _ (Heap.get?_push_of_some _ e)
  have hC₁ := k _ _ hC
  have hget : ((h.push (W.kdv_tup rest)).push (excO C h.objs.size)).get? (h.objs.size + 1) = some (excO C h.objs.size) := by heap_get
  have hcC : (Value.ref C :: bm).contains (.ref C) = true := by simp
  have i1 := hi.keeps k
  have b1 := (hb (.ref (h.objs.size + 1))).keeps k
  unfold isInstance
  repeat (first | with_reducible refine wpAny_loadPart_at hget ?_ | (with_reducible refine wpAny_isSubtype_exc hC₁ ?_; rw [hcC]) | wp_step)
  show wpAny _ _ (typeLookup (.ref C) _) _ _ _
  refine i1.at ?_
  refine wpAny_holding (wpAny_bind (b1.at ?_))
  refine wpAny_bind (wpAny_call (codeAny_mono hq fun r s' z => ?_))
  rcases r with e | (v | _ | _ | _) <;> first | exact z | exact z.elim | skip
  obtain ⟨rfl, z⟩ := z
  first
    | exact wpAny_pure (wpAny_pure z)
    | (wp_walk; exact z)

theorem check_type_kw {rest : List Value} {kw : List (Str × Value)} {newId : String} {Q : Unit → Shared → Prop}
    (hC : h.get? C = some (excClassObj nm q C N bs bm hdct sn sub ab col dd k0 k1 k2 k3 k5 newId)) (hq : Q () ⟨h, g, d, t, os⟩) :
    wpAny (model prog w) A (checkBuiltinCall "type.__call__" ⟨.ref C :: rest, kw⟩) Q E ⟨h, g, d, t, os⟩ := by
  have f3 := tc_sub
  have hT : (⟨h, g, d, t, os⟩ : Shared).TypeIs (.ref C) "type" := ⟨_, hC, rfl⟩
  simp only [checkBuiltinCall, tc_kind, tc_split]
  repeat (any_goals (first | assumption | with_reducible refine wpAny_loadPart_at hC ?_ | with_reducible refine wpAny_onRaise ?_ | with_reducible refine wpAny_map ?_ | wp_step))

theorem call_kw (F : ExcBaseFacts B newId initId bmB) (hT : ∀ X : String, bm.contains (.type X) = bmB.contains (.type X)) {rest : List Value} {kw : List (Str × Value)} {fI : Addr}
    (hC : h.get? C = some (excClassObj nm q C N bs bm hdct sn sub ab col dd k0 k1 k2 k3 k5 newId))
    (hi : W.Looks (model prog w) h (typeLookup (.ref C) "__init__") (some (.ref fI))) (hb : ∀ self, W.Looks (model prog w) h (bindSpecial (.ref fI) self) (.ref fI, [self])) (hrest : rest.length ≤ sizeLine)
    (hq : codeAny (model prog w) (A.under (.builtin "type.__call__" ⟨.ref C :: rest, kw⟩)) (.call (.ref fI) ⟨.ref (h.objs.size + 1) :: rest, kw⟩) (W.InitBack (h.objs.size + 1) R)
      ⟨(h.push (W.kdv_tup rest)).push (excO C h.objs.size), g, d, t, os⟩) :
    codeAny (model prog w) A (.call (.ref C) ⟨rest, kw⟩) R ⟨h, g, d, t, os⟩ := by
  have f1 := tc_lookup
  have f2 := tc_bind (.ref C)
  have hTy : (⟨h, g, d, t, os⟩ : Shared).TypeIs (.ref C) "type" := ⟨_, hC, rfl⟩
  refine codeAny_of_tree ?_
  show wpAny _ _ (callAny (.ref C) _) _ _ _
  repeat (any_goals (first | assumption | with_reducible refine wpAny_loadPart_at hC ?_ | wp_step))
  refine ⟨rfl, ?_⟩
  refine codeAny_call_builtin_at (Code.quiet_builtin _ (by decide +kernel)) entry_typeCall (check_type_kw hC (type_call_kw F hT hC hi hb hrest ?_))
  refine codeAny_mono hq fun r s' z => ?_
  rcases r with e | (v | _ | _ | _) <;> exact z
end
end ZXK
end PySem
end
section
set_option Elab.async false
set_option linter.all false
set_option maxRecDepth 100000
set_option maxHeartbeats 2000000
/-! own exceptions as values: made -/
namespace ZX
open PySem PySem.Spec PyProof.Rows L2 PySem.W PySem.Calls NdefX YG
/-! one attribute, two -/
def spX1 (C : Addr) (n : Str) : Sp := fun vs H Q _ => ∃ a y, vs = [.ref a, y] ∧ H a = some (exo a C none) ∧ ∀ dx, H dx = none → dx ≠ a → Q .non (upd (upd H dx (exd dx [(n, y)])) a (exo a C (some dx)))
def spX2 (C : Addr) (n m : Str) : Sp := fun vs H Q _ => ∃ a y z, vs = [.ref a, y, z] ∧ H a = some (exo a C none) ∧ ∀ dx, H dx = none → dx ≠ a → Q .non (upd (upd (upd H dx (exd dx [(n, y)])) a (exo a C (some dx))) dx (exd dx [(m, z), (n, y)]))
section
variable {P : Program} {w : World} {K : PySem.W.Frag} {mg : Str → Option Value} {base : Heap} {F : NF} {f C : Addr} {n m : Str} {k : Nat} {p0 p1 p2 p3 p4 p5 p6 p7 p8 p9 pA pos pos0 pos1 pos2 : Pos}
theorem init1 {oc : Value} {od : Option Addr} {doc pm ctv : Value} {osl : Array (Option Value)} {pl : Env → Sem Bool} (S : SupC P K mg f C F "self") (lkf : K.lookup f = some ⟨oc, od, .func (F.fd doc pm ctv), osl⟩) (Sc : NScope ["self", n, "__class__"] ["self", n] ["__class__"] F.scope)
    (hbody : F.body = [.Expr (.Call (.Attribute (.Call (.Name "super" p0) [] [] p1) "__init__" p2) [.Name n p3] [] pos) pos0, .Assign [.Attribute (.Name "self" p4) n p5] (.Name n p6) pos1])
    (hno : PySem.W.findIn K (.ref C) n = some none)
    (hd1 : (n == ("__debug__" : Str)) = false) (hd2 : (n == ("__classdict__" : Str)) = false)
    (hs : ∀ env : Env, starEach [.Name n p3] env = (false, eval (.Name n p3) env) :: starEach [] env := by intro env; rfl)
    (hc : ∀ env : Env, eval (.Call (.Attribute (.Call (.Name "super" p0) [] [] p1) "__init__" p2) [.Name n p3] [] pos) env = (do
      let ov ← attributeBase (.Call (.Name "super" p0) [] [] p1) "__init__" env (eval (.Call (.Name "super" p0) [] [] p1) env)
      standAt p2.atName
      let (f, first) ← holding [ov] (getMethod ov "__init__" (pl env))
      callWith pos f first (backTo pos (starEach [.Name n p3] env)) []) := by intro env; rfl)
    (hsw : ∀ (ln : Int) (env : Env), swapsWith (.Call (.Attribute (.Call (.Name "super" p0) [] [] p1) "__init__" p2) [.Name n p3] [] pos) none pos0.line env = pure false := by intro ln env; rfl)
    (hsw1 : ∀ env : Env, swapsWith (.Name n p6) (some (.Attribute (.Name "self" p4) n p5)) pos1.line env = pure false := by intro env; rfl)
    (hint : ∀ L : Addr, interactive (envF F f L) = false := by intro L; rfl) :
    FnG P w K mg base (k + 1) f (F.fd doc pm ctv) ["self", n] (spX1 C n) := by
  refine init_ok (pl := pl) S lkf Sc hbody rfl (fun vs H Q E h => ?_) (fun A outer s H vs Q E h => ?_) hs (fun env => rfl) hc hsw hint
  · obtain ⟨a, y, rfl, _⟩ := h
    rfl
  · obtain ⟨a, y, rfl, ea, hq⟩ := h
    have v0 : Vis (ncx CX0 P w K mg base ["self", n, "__class__"] F f A outer s H E).env.scope "self" := .inl (Sc.par _ (by simp))
    have v1 : Vis (ncx CX0 P w K mg base ["self", n, "__class__"] F f A outer s H E).env.scope n := .inl (Sc.par _ (by simp))
    refine ⟨a, tCons (tVar 1) tNil, tOst K n (tVar 0) (tVar 1), rfl, ea, pa_cons (pe_var (i := 1) rfl v1 hd1 hd2) pa_nil, pss_one (ps_ost (X := ncx CX0 P w K mg base ["self", n, "__class__"] F f A outer s H E) (pe_var (i := 0) rfl v0) (pe_var (i := 1) rfl v1 hd1 hd2) (hsw1 _)), ?_⟩
    refine ⟨y, rfl, ?_⟩
    refine ⟨by simp, ea, ?_⟩
    exact ⟨y, rfl, .ref a, rfl, a, C, rfl, S.X, hno, .inl ⟨ea, hq⟩⟩
theorem init2 {oc : Value} {od : Option Addr} {doc pm ctv : Value} {osl : Array (Option Value)} {pl : Env → Sem Bool} (S : SupC P K mg f C F "self") (lkf : K.lookup f = some ⟨oc, od, .func (F.fd doc pm ctv), osl⟩) (Sc : NScope ["self", n, m, "__class__"] ["self", n, m] ["__class__"] F.scope)
    (hbody : F.body = [.Expr (.Call (.Attribute (.Call (.Name "super" p0) [] [] p1) "__init__" p2) [.Name n p3, .Name m p7] [] pos) pos0, .Assign [.Attribute (.Name "self" p4) n p5] (.Name n p6) pos1, .Assign [.Attribute (.Name "self" p8) m p9] (.Name m pA) pos2])
    (hno : PySem.W.findIn K (.ref C) n = some none) (hno2 : PySem.W.findIn K (.ref C) m = some none)
    (hd1 : (n == ("__debug__" : Str)) = false) (hd2 : (n == ("__classdict__" : Str)) = false) (hd3 : (m == ("__debug__" : Str)) = false) (hd4 : (m == ("__classdict__" : Str)) = false)
    (hs : ∀ env : Env, starEach [.Name n p3, .Name m p7] env = (false, eval (.Name n p3) env) :: starEach [.Name m p7] env := by intro env; rfl)
    (hc : ∀ env : Env, eval (.Call (.Attribute (.Call (.Name "super" p0) [] [] p1) "__init__" p2) [.Name n p3, .Name m p7] [] pos) env = (do
      let ov ← attributeBase (.Call (.Name "super" p0) [] [] p1) "__init__" env (eval (.Call (.Name "super" p0) [] [] p1) env)
      standAt p2.atName
      let (f, first) ← holding [ov] (getMethod ov "__init__" (pl env))
      callWith pos f first (backTo pos (starEach [.Name n p3, .Name m p7] env)) []) := by intro env; rfl)
    (hsw : ∀ (ln : Int) (env : Env), swapsWith (.Call (.Attribute (.Call (.Name "super" p0) [] [] p1) "__init__" p2) [.Name n p3, .Name m p7] [] pos) none pos0.line env = pure false := by intro ln env; rfl)
    (hsw1 : ∀ env : Env, swapsWith (.Name n p6) (some (.Attribute (.Name "self" p4) n p5)) pos1.line env = pure false := by intro env; rfl)
    (hsw2 : ∀ env : Env, swapsWith (.Name m pA) (some (.Attribute (.Name "self" p8) m p9)) pos2.line env = pure false := by intro env; rfl)
    (hint : ∀ L : Addr, interactive (envF F f L) = false := by intro L; rfl) :
    FnG P w K mg base (k + 1) f (F.fd doc pm ctv) ["self", n, m] (spX2 C n m) := by
  refine init_ok (pl := pl) S lkf Sc hbody rfl (fun vs H Q E h => ?_) (fun A outer s H vs Q E h => ?_) hs (fun env => rfl) hc hsw hint
  · obtain ⟨a, y, z, rfl, _⟩ := h
    rfl
  · obtain ⟨a, y, z, rfl, ea, hq⟩ := h
    have v0 : Vis (ncx CX0 P w K mg base ["self", n, m, "__class__"] F f A outer s H E).env.scope "self" := .inl (Sc.par _ (by simp))
    have v1 : Vis (ncx CX0 P w K mg base ["self", n, m, "__class__"] F f A outer s H E).env.scope n := .inl (Sc.par _ (by simp))
    have v2 : Vis (ncx CX0 P w K mg base ["self", n, m, "__class__"] F f A outer s H E).env.scope m := .inl (Sc.par _ (by simp))
    refine ⟨a, tCons (tVar 1) (tCons (tVar 2) tNil), tSeq (tOst K n (tVar 0) (tVar 1)) (tOst K m (tVar 0) (tVar 2)), rfl, ea, pa_cons (pe_var (i := 1) rfl v1 hd1 hd2) (pa_cons (pe_var (i := 2) rfl v2 hd3 hd4) pa_nil),
      pss_cons (ps_ost (X := ncx CX0 P w K mg base ["self", n, m, "__class__"] F f A outer s H E) (pe_var (i := 0) rfl v0) (pe_var (i := 1) rfl v1 hd1 hd2) (hsw1 _))
        (pss_one (ps_ost (X := ncx CX0 P w K mg base ["self", n, m, "__class__"] F f A outer s H E) (pe_var (i := 0) rfl v0) (pe_var (i := 2) rfl v2 hd3 hd4) (hsw2 _))), ?_⟩
    refine ⟨y, rfl, z, rfl, ?_⟩
    refine ⟨by simp, ea, ?_⟩
    refine ⟨y, rfl, .ref a, rfl, a, C, rfl, S.X, hno, .inl ⟨ea, fun dx hdx hne => ?_⟩⟩
    exact ⟨z, rfl, .ref a, rfl, a, C, rfl, S.X, hno2, .inr ⟨dx, [(n, y)], upd_same, by rw [upd_ne hne, upd_same], by simp, hq dx hdx hne⟩⟩
end
/-! made by a call -/
section
variable {X : Cx} {C fI : Addr} {k : Nat} {fd : FuncData} {ps : List Str} {sp : Sp} {pins : List (Addr × Obj)} {σ : L2.St} {H : Hp} {s : Shared} {Q : VK} {us us2 : List Value} {vs : List V} {kw : List (Str × Value)} {x : Str} {p pos : Pos} {e : Expr} {es : List Expr} {ta tk : TA}
structure MkX (K : PySem.W.Frag) (C fI : Addr) : Prop where
  T : OexC K C
  iC : PySem.W.findIn K (.ref C) "__init__" = some (some (.ref fI))
  tI : PySem.W.typeIn K (.ref fI) = some (.type "function")
theorem run_mkx (M : MkX X.K C fI) (F1 : FnG X.prog X.w X.K X.mg X.base k fI fd ps sp) (hr : RoomG (k + 1) X.A) (I : L2.Inv X pins σ H s) (hb : ∀ (s' : Shared) (a : Addr), BindsTo s' fd ⟨.ref a :: us, kw⟩ (ps.zip (.ref a :: us2))) (r : Vals vs us2) (hus : us.length ≤ sizeLine)
    (h : ∀ a, H a = none → sp (.ref a :: vs) (upd H a (exo a C none)) (fun v H2 => v = .non ∧ Q (.ref a) H2) E0) : wpAny (model X.prog X.w) X.A (call (.ref C) us kw) (EP X pins σ Q) X.xe s := by
  obtain ⟨T, iC, tI⟩ := M
  obtain ⟨nm, q, N, bs, bm, sn, sub, ab, col, dd, k0, k1, k2, k3, k5, hC, hbm⟩ := T.cls
  obtain ⟨hp, g, dr, tk, os⟩ := s
  have hsz : hp.objs.size ≤ hp.objs.size + 1 := Nat.le_succ _
  have hn : H (hp.objs.size + 1) = none := I.hok.fresh hsz
  have hq := h (hp.objs.size + 1) hn
  have kk : ∀ b o, hp.get? b = some o → ((hp.push (PySem.W.kdv_tup us)).push (PySem.HandSPX.excO C hp.objs.size)).get? b = some o := fun b o e => Heap.get?_push_of_some _ (Heap.get?_push_of_some _ e)
  have hget : ((hp.push (PySem.W.kdv_tup us)).push (PySem.HandSPX.excO C hp.objs.size)).get? (hp.objs.size + 1) = some (PySem.HandSPX.excO C hp.objs.size) := by heap_get
  have I2 : L2.Inv X pins σ (upd H (hp.objs.size + 1) (exo (hp.objs.size + 1) C none)) ⟨(hp.push (PySem.W.kdv_tup us)).push (PySem.HandSPX.excO C hp.objs.size), g, dr, tk, os⟩ :=
    I.laid (t' := tk) (a := hp.objs.size + 1) (o := exo (hp.objs.size + 1) C none) (h' := (hp.push (PySem.W.kdv_tup us)).push (PySem.HandSPX.excO C hp.objs.size)) kk hsz (exo_ok hget)
  have r2 : Vals (V.ref (hp.objs.size + 1) :: vs) (Value.ref (hp.objs.size + 1) :: us2) := .cons rfl r
  refine wpAny_call (PySem.ZXK.call_kw F.excBase_ValueError (fun Y => PySem.HandSPX.refsVE_contains Y bm hbm) (I.kIn _ _ hC) (PySem.W.looks_findIn I.kIn iC) (fun self => PySem.W.bind_fn I.kIn self tI) hus
    (codeAny_mono (F1.run _ X.stack _ _ ⟨Value.ref (hp.objs.size + 1) :: us, kw⟩ (Value.ref (hp.objs.size + 1) :: us2) _ _ E0 (hr.make C us kw) (I2.env0.make C us kw) (hb _ _) r2 hq) fun r s' hq' => ?_))
  cases r with
  | error er => exact hq'.elim
  | ok fl =>
    cases fl with
    | ret u =>
      obtain ⟨v, H', I3, rv, ev, q3⟩ := I2.after hq'
      subst ev
      exact ⟨rv, ⟨V.ref (hp.objs.size + 1), H', I3, rfl, q3⟩⟩
    | next => exact False.elim hq'
    | brk => exact False.elim hq'
    | cont => exact False.elim hq'
def tMkx (C : Addr) (sp : Sp) (n : Nat) (ta : TA) : TE := fun σ H Q => ta σ H fun vs H1 => vs.length = n ∧ ∀ a, H1 a = none → sp (.ref a :: vs) (upd H1 a (exo a C none)) (fun v H2 => v = .non ∧ Q (.ref a) H2) E0
/-- the values of a call of so many are bound so -/
def BindX (fd : FuncData) (ps : List Str) (n : Nat) (ks : List Str) : Prop := ∀ us : List Value, us.length = n → ∀ (s' : Shared) (a : Addr), BindsTo s' fd (if ks.isEmpty then ⟨.ref a :: us, []⟩ else ⟨[.ref a], ks.zip us⟩) (ps.zip (.ref a :: us))
theorem pe_mkx {n : Nat} (M : MkX X.K C fI) (F1 : FnG X.prog X.w X.K X.mg X.base k fI fd ps sp) (hr : RoomG (k + 1) X.A) (hz : n ≤ 1000) (hb : BindX fd ps n []) (hg : Gl X x) (hm : X.mg x = some (.ref C)) (ha : PA X (e :: es) ta)
    (hdb : (x == ("__debug__" : Str)) = false := by decide +kernel) (he : starEach (e :: es) X.env = (false, eval e X.env) :: starEach es X.env := by rfl) (hpl : (backTo pos (starEach es X.env)).any (·.1) = false := by rfl) :
    PE X (.Call (.Name x p) (e :: es) [] pos) (tMkx C sp n ta) := by
  refine ⟨fun pins s σ H Q I h => ?_⟩
  refine wpAny_Call_Name_kw (ld_glob I hg hm ?_ hdb)
  refine PySem.W.callWith_K (h₀ := X.base) I.ok.mod.kin M.T.kC (thn (ha.run pos pins s σ H _ I h) fun us s1 ⟨vs, H1, I1, r1, hl, q1⟩ => ⟨I1.kIn, ?_⟩) he hpl
  have hl2 : us.length = n := by rw [← Paired.length r1]; exact hl
  exact run_mkx (us2 := us) M F1 hr I1 (fun s' a => hb us hl2 s' a) r1 (by rw [sizeLine_eq]; show us.length ≤ _; omega) q1
theorem pe_mkxK {ks : List Str} {kws : List Keyword} (M : MkX X.K C fI) (F1 : FnG X.prog X.w X.K X.mg X.base k fI fd ps sp) (hr : RoomG (k + 1) X.A) (hne : ks.isEmpty = false) (hb : BindX fd ps ks.length ks) (hg : Gl X x) (hm : X.mg x = some (.ref C)) (hkw : PK X kws tk)
    (hall : (backToKw pos (keywordEach kws X.env)).all (·.1.isSome) = true := by rfl) (hks : (backToKw pos (keywordEach kws X.env)).filterMap (·.1) = ks := by rfl)
    (hdb : (x == ("__debug__" : Str)) = false := by decide +kernel) (hpl : ((backTo pos (starEach [] X.env)).any (·.1) || (backToKw pos (keywordEach kws X.env)).any (·.1.isNone)) = false := by rfl) :
    PE X (.Call (.Name x p) [] kws pos) (tMkx C sp ks.length tk) := by
  refine ⟨fun pins s σ H Q I h => ?_⟩
  refine wpAny_Call_Name_kw (ld_glob I hg hm ?_ hdb)
  refine PySem.W.callWith_KW0 (h₀ := X.base) I.ok.mod.kin M.T.kC hall ?_ hpl
  refine thn (hkw.run pos pins s σ H _ I h) fun ws s2 ⟨zs, H2, I2, rz, hl, q2⟩ => ⟨I2.kIn, ?_⟩
  rw [hks]
  have hl2 : ws.length = ks.length := by rw [← Paired.length rz]; exact hl
  refine run_mkx (us := []) (us2 := ws) M F1 hr I2 (fun s' a => ?_) rz (Nat.zero_le _) q2
  have b := hb ws hl2 s' a
  rw [if_neg (by rw [hne]; exact Bool.false_ne_true)] at b
  exact b
/-- without an own __init__ -/
theorem pe_exc0 {bmB : List Value} {B newId initId : String} (F : ExcBaseFacts B newId initId bmB) (q : PySem.W.excIn X.K C bmB newId = true) (gC : X.mg x = some (.ref C)) (kC : PySem.W.keepIn X.K (.ref C) = true) (hg : Gl X x) (hdb : (x == ("__debug__" : Str)) = false := by decide +kernel) :
    PE X (.Call (.Name x p) [] [] pos) (fun σ H Q => ∀ a, H a = none → Q (.ref a) (upd H a (exo a C none))) := by
  refine ⟨fun pins s σ H Q I h => ?_⟩
  refine wpAny_Call_Name_kw (ld_glob I hg gC ?_ hdb)
  refine PySem.W.callWith_K0 I.kIn kC ?_
  show wpAny _ _ (call (.ref C) []) _ _ _
  obtain ⟨bm, N, nm, qn, bs, hdct, sn, sub, ab, col, dd, k0, k1, k2, k3, k5, mN, hC, hN, hni, T⟩ := exc_obj I.kIn q
  refine wpAny_call_exc_subT F T hC hN hni (fun h' a hm => ?_) (Nat.zero_le _)
  have hn : H a = none := I.hok.gone hm.new
  obtain ⟨t, ht, _, _⟩ := hm.there
  exact ⟨.ref a, upd H a (exo a C none), I.laidN (t' := s.toks) hm.keeps hm.new hn (exo_ok ht), rfl, h a hn⟩
end
end ZX
end
section
set_option Elab.async false
set_option linter.all false
set_option maxRecDepth 100000
set_option maxHeartbeats 2000000
/-! exceptions in the layer: made, read, asked -/
namespace Y
open PySem PySem.Spec L2 PyProof.Rows ZX
section
variable {W : Wd} {K : PySem.W.Frag} {φ : List Addr} {Z H : Hp} {cs : Cs}
/-- a new cell whose object stays as it is -/
theorem Sim.newZ (S : Sim W K φ Z cs H) {p : Addr} (hp : H p = none) (o : HO) {c : Cell} (hc : CellAt W K (φ ++ [p]) (upd Z p o) (upd H p o) p c) : Sim W K (φ ++ [p]) (upd Z p o) (cs ++ [c]) (upd H p o) ∧ Ext φ Z H (φ ++ [p]) (upd Z p o) (upd H p o) := by
  obtain ⟨S1, x1⟩ := S.frozen hp o
  have np : p ∉ φ := fun h => by
    obtain ⟨u, q⟩ := S.there p h
    rw [hp] at q; cases q
  refine ⟨S1.adopt upd_same np hc, ⟨List.prefix_append _ _, x1.zsub, x1.znew, x1.frame, fun a ha => ?_⟩⟩
  rcases List.mem_append.mp ha with h | h
  · exact .inl h
  · have e : a = p := by simpa using h
    subst e; exact .inr hp
end
def mkx0 (ci : Nat) : EF := fun _ cs => .ok (.ref cs.length) (cs ++ [.exn ci []])
def mkx1 (ci : Nat) (n : Str) (g : AF) : EF := fun ρ cs => (g ρ cs).bind fun ts c => match ts with
  | [t] => .ok (.ref c.length) (c ++ [.exn ci [(n, t)]])
  | _ => .stuck
def mkx2 (ci : Nat) (n m : Str) (g : AF) : EF := fun ρ cs => (g ρ cs).bind fun ts c => match ts with
  | [t, u] => .ok (.ref c.length) (c ++ [.exn ci [(m, u), (n, t)]])
  | _ => .stuck
section
variable {W : Wd} {X : Cx} {ci : Nat} {n m x : Str} {fI : Addr} {k : Nat} {fd : FuncData} {ps : List Str} {g : AF} {p pos : Pos} {e : Expr} {es : List Expr} {σ : L2.St} {H : Hp} {Q : VK}
theorem ref_end {φ : List Addr} {Z : Hp} {cs : Cs} {H : Hp} {a : Addr} (S : Sim W X.K φ Z cs H) {Z' : Hp} : Rep W X.K (φ ++ [a]) Z' (.ref cs.length) (.ref a) := .ref (by rw [← S.len, List.getElem?_append_right (Nat.le_refl _)]; simp)
theorem upd_three {H : Hp} {a dx : Addr} {o1 o2 o3 : HO} (ne : dx ≠ a) : upd (upd (upd H a o1) dx o2) a o3 = upd (upd H dx o2) a o3 := by
  funext b
  by_cases h : b = a
  · subst h; rw [upd_same, upd_same]
  · rw [upd_ne h, upd_ne h]
    by_cases h2 : b = dx
    · subst h2; rw [upd_same, upd_same]
    · rw [upd_ne h2, upd_ne h2, upd_ne h]
theorem upd_four {H : Hp} {a dx : Addr} {o1 o2 o3 o4 : HO} (ne : dx ≠ a) : upd (upd (upd (upd H a o1) dx o2) a o3) dx o4 = upd (upd H dx o4) a o3 := by
  funext b
  by_cases h : b = a
  · subst h; rw [upd_ne (Ne.symm ne), upd_same, upd_same]
  · by_cases h2 : b = dx
    · subst h2; rw [upd_same, upd_ne h, upd_same]
    · rw [upd_ne h2, upd_ne h, upd_ne h2, upd_ne h, upd_ne h, upd_ne h2]
theorem tMkx1_of (h : tE W X.K (mkx1 ci n g) σ H Q) : tMkx (W.cad ci) (spX1 (W.cad ci) n) 1 (tA W X.K g) σ H Q := by
  obtain ⟨φ, Z, ρ, cs, S, L, t, cs', e0, kk⟩ := h
  obtain ⟨ts, c, e1, e2⟩ := R.bind_inv e0
  refine ⟨φ, Z, ρ, cs, S, L, ts, c, e1, fun φ1 Z1 H1 vs x1 S1 r1 => ?_⟩
  split at e2
  · rename_i u
    cases e2
    obtain ⟨v, rfl, rv⟩ := Reps.one r1
    refine ⟨rfl, fun a hna => ⟨a, v, rfl, upd_same, fun dx hdx ne => ⟨rfl, ?_⟩⟩⟩
    rw [upd_ne ne] at hdx
    rw [upd_three ne]
    obtain ⟨S2, x2⟩ := S1.frozen hdx (exd dx [(n, v)])
    have ha2 : upd H1 dx (exd dx [(n, v)]) a = none := by rw [upd_ne (Ne.symm ne)]; exact hna
    obtain ⟨S3, x3⟩ := S2.newZ ha2 (exo a (W.cad ci) (some dx)) (c := .exn ci [(n, u)]) ⟨some dx, [(n, v)], upd_same, by show upd _ _ _ dx = _; rw [upd_ne ne, upd_same], .cons ⟨rfl, Rep.mono (List.prefix_append _ _) (fun b o h => by
      have : b ≠ a := fun z => by
        have := S2.sub _ _ h
        rw [z, ha2] at this; cases this
      rw [upd_ne this]; exact h) (rv.ext x2)⟩ .nil⟩
    exact kk _ _ _ _ (x1.trans (x2.trans x3)) S3 (ref_end S2)
  · cases e2
theorem tMkx2_of (h : tE W X.K (mkx2 ci n m g) σ H Q) : tMkx (W.cad ci) (spX2 (W.cad ci) n m) 2 (tA W X.K g) σ H Q := by
  obtain ⟨φ, Z, ρ, cs, S, L, t, cs', e0, kk⟩ := h
  obtain ⟨ts, c, e1, e2⟩ := R.bind_inv e0
  refine ⟨φ, Z, ρ, cs, S, L, ts, c, e1, fun φ1 Z1 H1 vs x1 S1 r1 => ?_⟩
  split at e2
  · rename_i u u2
    cases e2
    obtain ⟨v, v2, rfl, rv, rv2⟩ := Reps.two r1
    refine ⟨rfl, fun a hna => ⟨a, v, v2, rfl, upd_same, fun dx hdx ne => ⟨rfl, ?_⟩⟩⟩
    rw [upd_ne ne] at hdx
    rw [upd_four ne]
    obtain ⟨S2, x2⟩ := S1.frozen hdx (exd dx [(m, v2), (n, v)])
    have ha2 : upd H1 dx (exd dx [(m, v2), (n, v)]) a = none := by rw [upd_ne (Ne.symm ne)]; exact hna
    have hz : ∀ b o, upd Z1 dx (exd dx [(m, v2), (n, v)]) b = some o → upd (upd Z1 dx (exd dx [(m, v2), (n, v)])) a (exo a (W.cad ci) (some dx)) b = some o := fun b o h => by
      have : b ≠ a := fun z => by
        have := S2.sub _ _ h
        rw [z, ha2] at this; cases this
      rw [upd_ne this]; exact h
    obtain ⟨S3, x3⟩ := S2.newZ ha2 (exo a (W.cad ci) (some dx)) (c := .exn ci [(m, u2), (n, u)]) ⟨some dx, [(m, v2), (n, v)], upd_same, by show upd _ _ _ dx = _; rw [upd_ne ne, upd_same],
      .cons ⟨rfl, Rep.mono (List.prefix_append _ _) hz (rv2.ext x2)⟩ (.cons ⟨rfl, Rep.mono (List.prefix_append _ _) hz (rv.ext x2)⟩ .nil)⟩
    exact kk _ _ _ _ (x1.trans (x2.trans x3)) S3 (ref_end S2)
  · cases e2
theorem se_mkx1 (M : MkX X.K (W.cad ci) fI) (F1 : YG.FnG X.prog X.w X.K X.mg X.base k fI fd ps (spX1 (W.cad ci) n)) (hr : YG.RoomG (k + 1) X.A) (hb : BindX fd ps 1 []) (hg : Gl X x) (hm : X.mg x = some (.ref (W.cad ci))) (ha : SA W X [e] g)
    (hdb : (x == ("__debug__" : Str)) = false := by decide +kernel) (he : starEach [e] X.env = (false, eval e X.env) :: starEach [] X.env := by rfl) : SE W X (.Call (.Name x p) [e] [] pos) (mkx1 ci n g) :=
  PE.imp (pe_mkx M F1 hr (by omega) hb hg hm ha hdb he rfl) fun _ _ _ h => tMkx1_of h
theorem se_mkx2 {e2 : Expr} (M : MkX X.K (W.cad ci) fI) (F1 : YG.FnG X.prog X.w X.K X.mg X.base k fI fd ps (spX2 (W.cad ci) n m)) (hr : YG.RoomG (k + 1) X.A) (hb : BindX fd ps 2 []) (hg : Gl X x) (hm : X.mg x = some (.ref (W.cad ci))) (ha : SA W X [e, e2] g)
    (hdb : (x == ("__debug__" : Str)) = false := by decide +kernel) (he : starEach [e, e2] X.env = (false, eval e X.env) :: starEach [e2] X.env := by rfl) (hpl : (backTo pos (starEach [e2] X.env)).any (·.1) = false := by rfl) : SE W X (.Call (.Name x p) [e, e2] [] pos) (mkx2 ci n m g) :=
  PE.imp (pe_mkx M F1 hr (by omega) hb hg hm ha hdb he hpl) fun _ _ _ h => tMkx2_of h
theorem se_mkx1K {ks : List Str} {kws : List Keyword} (M : MkX X.K (W.cad ci) fI) (F1 : YG.FnG X.prog X.w X.K X.mg X.base k fI fd ps (spX1 (W.cad ci) n)) (hr : YG.RoomG (k + 1) X.A) (hl : ks.length = 1) (hb : BindX fd ps ks.length ks) (hg : Gl X x) (hm : X.mg x = some (.ref (W.cad ci))) (hkw : SK W X kws g)
    (hall : (backToKw pos (keywordEach kws X.env)).all (·.1.isSome) = true := by rfl) (hks : (backToKw pos (keywordEach kws X.env)).filterMap (·.1) = ks := by rfl) (hdb : (x == ("__debug__" : Str)) = false := by decide +kernel)
    (hpl : ((backTo pos (starEach [] X.env)).any (·.1) || (backToKw pos (keywordEach kws X.env)).any (·.1.isNone)) = false := by rfl) : SE W X (.Call (.Name x p) [] kws pos) (mkx1 ci n g) :=
  PE.imp (pe_mkxK M F1 hr (by cases ks with | nil => cases hl | cons => rfl) hb hg hm hkw hall hks hdb hpl) fun _ _ _ h => by rw [hl]; exact tMkx1_of h
theorem se_mkx2K {ks : List Str} {kws : List Keyword} (M : MkX X.K (W.cad ci) fI) (F1 : YG.FnG X.prog X.w X.K X.mg X.base k fI fd ps (spX2 (W.cad ci) n m)) (hr : YG.RoomG (k + 1) X.A) (hl : ks.length = 2) (hb : BindX fd ps ks.length ks) (hg : Gl X x) (hm : X.mg x = some (.ref (W.cad ci))) (hkw : SK W X kws g)
    (hall : (backToKw pos (keywordEach kws X.env)).all (·.1.isSome) = true := by rfl) (hks : (backToKw pos (keywordEach kws X.env)).filterMap (·.1) = ks := by rfl) (hdb : (x == ("__debug__" : Str)) = false := by decide +kernel)
    (hpl : ((backTo pos (starEach [] X.env)).any (·.1) || (backToKw pos (keywordEach kws X.env)).any (·.1.isNone)) = false := by rfl) : SE W X (.Call (.Name x p) [] kws pos) (mkx2 ci n m g) :=
  PE.imp (pe_mkxK M F1 hr (by cases ks with | nil => cases hl | cons => rfl) hb hg hm hkw hall hks hdb hpl) fun _ _ _ h => by rw [hl]; exact tMkx2_of h
theorem se_mkx0 {bmB : List Value} {B newId initId : String} (F : ExcBaseFacts B newId initId bmB) (q : PySem.W.excIn X.K (W.cad ci) bmB newId = true) (hm : X.mg x = some (.ref (W.cad ci))) (kC : PySem.W.keepIn X.K (.ref (W.cad ci)) = true) (hg : Gl X x) (hdb : (x == ("__debug__" : Str)) = false := by decide +kernel) :
    SE W X (.Call (.Name x p) [] [] pos) (mkx0 ci) := PE.imp (pe_exc0 F q hm kC hg hdb) fun σ H Q h => by
  obtain ⟨φ, Z, ρ, cs, S, L, t, cs', e0, kk⟩ := h
  unfold mkx0 at e0
  cases e0
  intro a ha
  obtain ⟨S1, x1⟩ := S.newZ ha (exo a (W.cad ci) none) (c := .exn ci []) ⟨none, [], upd_same, ⟨rfl, rfl⟩, .nil⟩
  exact kk _ _ _ _ x1 S1 (ref_end S)
end
/-! fields -/
structure XOk (W : Wd) (K : PySem.W.Frag) (xok : Nat → Str → Bool) : Prop where
  fld : ∀ ci n, xok ci n = true → XfC K (W.cad ci) ∧ PySem.W.findIn K (.ref (W.cad ci)) n = some none
def fldX (xok : Nat → Str → Bool) (f : Str) (fo : EF) : EF := fun ρ cs => (fo ρ cs).bind fun t c => match t with
  | .ref n => (match c[n]? with
    | some (.exn ci fs) => (match fs.lookup f with
      | some u => if xok ci f = true then .ok u c else .stuck
      | none => .stuck)
    | _ => .stuck)
  | _ => .stuck
section
variable {W : Wd} {X : Cx} {xok : Nat → Str → Bool} {e : Expr} {f : Str} {fo : EF} {pos : Pos} {pins : List (Addr × Obj)} {σ : L2.St} {H : Hp} {s : Shared}
/-- the dict of an exception object, where it has one -/
def DictAt (H : Hp) (vs : List (Str × V)) : Option Addr → Prop
  | none => True
  | some d => H d = some (exd d vs)
/-- an exception object of ours, as an instance -/
theorem exn_inst {a C : Addr} {od : Option Addr} {vs : List (Str × V)} (I : L2.Inv X pins σ H s) (ea : H a = some (exo a C od)) (ed : DictAt H vs od) :
    ∃ (ox : Obj) (oo : Option Obj), PySem.W.InstAt s.heap a ox C oo ∧ (∀ d, od = some d → ∃ mA oD, s.heap.Ns1 d mA ∧ (∀ f, RelO (vs.lookup f) (mA f)) ∧ s.heap.get? d = some oD ∧ oo = some oD) := by
  obtain ⟨t1, ho⟩ := exo_at I.hok ea
  cases od with
  | none => exact ⟨_, none, ⟨ho, rfl, rfl, trivial⟩, fun d e => by cases e⟩
  | some d =>
    obtain ⟨mA, hns, rel⟩ := exd_at I.hok ed
    obtain ⟨oD, es, ep, h1, h2⟩ := id hns
    exact ⟨_, some oD, ⟨ho, rfl, rfl, h1⟩, fun d' e => by cases e; exact ⟨mA, oD, hns, rel, h1, rfl⟩⟩
theorem pe_fldX {te : TE} (he : PE X e te) (hb : attributeBase e f X.env (eval e X.env) = eval e X.env := by rfl) :
    PE X (.Attribute e f pos) (fun σ H Q => te σ H fun x H1 => ∃ a C d vs v, x = .ref a ∧ H1 a = some (exo a C (some d)) ∧ H1 d = some (exd d vs) ∧ XfC X.K C ∧ PySem.W.findIn X.K (.ref C) f = some none ∧ vs.lookup f = some v ∧ Q v H1) := by
  refine ⟨fun pins s σ H Q I h => ?_⟩
  refine attr_of hb (thn (he.run pins s σ H _ I h) fun u s1 hh => ?_)
  obtain ⟨x, H1, I1, rx, a, C, d, vs, v, ex, ea, ed, T, hno, l, q⟩ := hh
  subst ex
  obtain rfl : u = Value.ref a := rx
  obtain ⟨ox, oo, J, hd⟩ := exn_inst (vs := vs) I1 ea ed
  obtain ⟨mA, oD, hns, hr, hg, rfl⟩ := hd d rfl
  obtain ⟨od, ho, hl⟩ := lookIn_ns hns
  rw [hg] at ho
  cases ho
  obtain ⟨u, hu, ru⟩ := RelO.some_of (v := v) (o := mA f) (by rw [← l]; exact hr f)
  exact HandSPX.exc_get I1.kIn J T.ga T.gg T.exC (PySem.W.findObj_own T.hdC hno rfl (by rw [hl, hu])) (handed_of ru) ⟨v, H1, I1.tok _, ru, q⟩
theorem se_fldX (G : XOk W X.K xok) (ho : SE W X e fo) (hb : attributeBase e f X.env (eval e X.env) = eval e X.env := by rfl) : SE W X (.Attribute e f pos) (fldX xok f fo) := PE.imp (pe_fldX ho hb) fun σ H Q h => by
  obtain ⟨φ, Z, ρ, cs, S, L, t, cs', e0, kk⟩ := h
  obtain ⟨u, c, e1, e2⟩ := R.bind_inv e0
  refine ⟨φ, Z, ρ, cs, S, L, u, c, e1, fun φ1 Z1 H1 v x1 S1 r1 => ?_⟩
  split at e2
  · rename_i n
    split at e2
    · rename_i ci fs hc
      split at e2
      · rename_i u hu
        split at e2
        · rename_i hk
          cases e2
          cases r1 with
          | ref ea =>
            obtain ⟨od, vs, h1, h2, r5⟩ := S1.cell n _ _ hc ea
            obtain ⟨c1, c2⟩ := G.fld ci f hk
            obtain ⟨v, e6, r6⟩ := (RepKV.lookup f r5).1 _ hu
            cases od with
            | none =>
              obtain ⟨rfl, _⟩ := h2
              cases hu
            | some d => exact ⟨_, _, d, vs, v, rfl, S1.sub _ _ h1, S1.sub _ _ h2, c1, c2, e6, kk φ1 Z1 H1 v x1 S1 r6⟩
        · cases e2
      · cases e2
    · cases e2
  · cases e2
end
end Y
end
section
set_option Elab.async false
set_option linter.all false
set_option maxRecDepth 100000
set_option maxHeartbeats 2000000
/-! isinstance of exceptions -/
namespace Y
open PySem PySem.Spec L2 PyProof.Rows ZX
section
variable {X : Cx}
theorem kit_at {K : PySem.W.Frag} {C a : Addr} {ox : Obj} {oo : Option Obj} (E : ExcC K C) : PySem.W.KitX K (.ref a) (.ref C) (fun h => PySem.W.InstAt h a ox C oo) := by
  obtain ⟨cd, hc, _⟩ := PySem.W.any_some E.hd
  exact PySem.W.kitx_exc (by rw [hc]; rfl) E.hg E.hk E.hs E.ha E.hn E.ht E.hm
def rIsX (K : PySem.W.Frag) : List V → Hp → VK → Prop := fun xs H Q => ∃ a C od vs c cv b, xs = [.ref a, c] ∧ H a = some (exo a C od) ∧ DictAt H vs od ∧ ExcC K C ∧ ClsV c cv ∧ PySem.W.kitOne K (.ref C) cv = some b ∧ Q (.bl b) H
theorem call_isX : CallR X (.builtin "isinstance") (rIsX X.K) := by
  intro pins s σ H xs us Q I r h
  obtain ⟨a, C, od, vs, c, cv, b, rfl, ea, ed, E, k, e, q⟩ := h
  obtain ⟨u1, u2, rfl, r1, r2⟩ := vals2 r
  have e2 := k.eq r2
  subst e2
  obtain rfl : u1 = Value.ref a := r1
  obtain ⟨ox, oo, J, _⟩ := exn_inst (vs := vs) I ea ed
  exact PySem.W.kia_one (kit_at E) I.kIn J e (fun z => nomatch z) fun tk => ⟨.bl b, H, I.tok tk, rfl, q⟩
def rIsXT (K : PySem.W.Frag) : List V → Hp → VK → Prop := fun xs H Q => ∃ a C od vs tp cs ws b, xs = [.ref a, .ref tp] ∧ H a = some (exo a C od) ∧ DictAt H vs od ∧ ExcC K C ∧ H tp = some (.tup cs) ∧ Paired ClsV cs ws ∧ PySem.W.kitAny K (.ref C) ws = some b ∧ Q (.bl b) H
theorem call_isXT : CallR X (.builtin "isinstance") (rIsXT X.K) := by
  intro pins s σ H xs us Q I r h
  obtain ⟨a, C, od, vs, tp, cs, ws, b, rfl, ea, ed, E, hT, k, e, q⟩ := h
  obtain ⟨u1, u2, rfl, r1, r2⟩ := vals2 r
  cases (show u2 = Value.ref tp from r2)
  obtain rfl : u1 = Value.ref a := r1
  obtain ⟨ox, oo, J, _⟩ := exn_inst (vs := vs) I ea ed
  obtain ⟨_, its, rv, o, h1, h2, n, h3⟩ := (show ObjOk X.prog X.w H s.heap tp (.tup cs) from I.hok tp _ hT)
  have e3 := ClsV.all k rv
  subst e3
  obtain ⟨oc, od', dt, sl⟩ := o
  simp only at h2 h3
  subst h2 h3
  exact PySem.W.kia_tup (kit_at E) I.kIn J h1 e (fun z => nomatch z) fun tk => ⟨.bl b, H, I.tok tk, rfl, q⟩
/-- the handled exception of the context -/
structure Pin (X : Cx) (a C : Addr) (d : Option Addr) : Prop where
  at_ : ∃ oe, (a, oe) ∈ X.pn ∧ oe.cls = .ref C ∧ oe.dict = d ∧ ∃ vs, oe.data = .fields vs
theorem Pin.inst {a C : Addr} {d : Option Addr} {pins : List (Addr × Obj)} {σ : L2.St} {H : Hp} {s : Shared} (P : Pin X a C d) (I : L2.Inv X pins σ H s) (hd : ∀ dd, d = some dd → ∃ fs, H dd = some (.xd fs)) : ∃ ox oo, PySem.W.InstAt s.heap a ox C oo := by
  obtain ⟨oe, hp, h1, h2, vs, h3⟩ := P.at_
  obtain ⟨ha, _⟩ := I.pin (a, oe) (List.mem_append_left _ hp)
  cases d with
  | none => exact ⟨oe, none, ha, h1, by unfold PySem.W.notCls; rw [h3] <;> rfl, by rw [h2]; trivial⟩
  | some dd =>
    obtain ⟨fs, ea⟩ := hd dd rfl
    obtain ⟨mA, ⟨oD, es, ep, hns, _⟩, _⟩ := (show ObjOk X.prog X.w H s.heap dd (.xd fs) from I.hok dd _ ea)
    exact ⟨oe, some oD, ha, h1, by unfold PySem.W.notCls; rw [h3] <;> rfl, by rw [h2]; exact hns⟩
def rIsH (K : PySem.W.Frag) (a C : Addr) (d : Option Addr) : List V → Hp → VK → Prop := fun xs H Q => ∃ c cv b, xs = [.ref a, c] ∧ (∀ dd, d = some dd → ∃ fs, H dd = some (.xd fs)) ∧ ExcC K C ∧ ClsV c cv ∧ PySem.W.kitOne K (.ref C) cv = some b ∧ Q (.bl b) H
theorem call_isH {a C : Addr} {d : Option Addr} (P : Pin X a C d) : CallR X (.builtin "isinstance") (rIsH X.K a C d) := by
  intro pins s σ H xs us Q I r h
  obtain ⟨c, cv, b, rfl, hd, E, k, e, q⟩ := h
  obtain ⟨u1, u2, rfl, r1, r2⟩ := vals2 r
  have e2 := k.eq r2
  subst e2
  obtain rfl : u1 = Value.ref a := r1
  obtain ⟨ox, oo, J⟩ := P.inst I hd
  exact PySem.W.kia_one (kit_at E) I.kIn J e (fun z => nomatch z) fun tk => ⟨.bl b, H, I.tok tk, rfl, q⟩
def rIsHT (K : PySem.W.Frag) (a C : Addr) (d : Option Addr) : List V → Hp → VK → Prop := fun xs H Q => ∃ tp cs ws b, xs = [.ref a, .ref tp] ∧ (∀ dd, d = some dd → ∃ fs, H dd = some (.xd fs)) ∧ ExcC K C ∧ H tp = some (.tup cs) ∧ Paired ClsV cs ws ∧ PySem.W.kitAny K (.ref C) ws = some b ∧ Q (.bl b) H
theorem call_isHT {a C : Addr} {d : Option Addr} (P : Pin X a C d) : CallR X (.builtin "isinstance") (rIsHT X.K a C d) := by
  intro pins s σ H xs us Q I r h
  obtain ⟨tp, cs, ws, b, rfl, hd, E, hT, k, e, q⟩ := h
  obtain ⟨u1, u2, rfl, r1, r2⟩ := vals2 r
  cases (show u2 = Value.ref tp from r2)
  obtain rfl : u1 = Value.ref a := r1
  obtain ⟨ox, oo, J⟩ := P.inst I hd
  obtain ⟨_, its, rv, o, h1, h2, n, h3⟩ := (show ObjOk X.prog X.w H s.heap tp (.tup cs) from I.hok tp _ hT)
  have e3 := ClsV.all k rv
  subst e3
  obtain ⟨oc, od', dt, sl⟩ := o
  simp only at h2 h3
  subst h2 h3
  exact PySem.W.kia_tup (kit_at E) I.kIn J h1 e (fun z => nomatch z) fun tk => ⟨.bl b, H, I.tok tk, rfl, q⟩
end
/-! in the layer: B tells by the class's number -/
def isX (B : List Bool) (f : EF) : EF := fun ρ cs => (f ρ cs).bind fun t c => match t with
  | .ref n => (match c[n]? with
    | some (.exn ci _) => (match B[ci]? with
      | some b => .ok (.d (.bool b)) c
      | none => .stuck)
    | _ => .stuck)
  | _ => .stuck
def isH (a0 : Addr) (ci0 : Nat) (d0 : Option Addr) (B : List Bool) (f : EF) : EF := fun ρ cs => (f ρ cs).bind fun t c => match t with
  | .exc a ci d => if a = a0 ∧ ci = ci0 ∧ d = d0 then (match B[ci]? with
    | some b => .ok (.d (.bool b)) c
    | none => .stuck) else .stuck
  | _ => .stuck
section
variable {W : Wd} {X : Cx} {B : List Bool} {e ce : Expr} {ces : List Expr} {f : EF} {c : V} {cv : Value} {cs : List V} {ws : List Value} {p pos p2 : Pos} {a0 : Addr} {ci0 : Nat} {d0 : Option Addr} {x1 : Nat} {tcs : TA}
theorem se_isX (G : ∀ ci, ci < B.length → ExcC X.K (W.cad ci)) (hB : ∀ ci b, B[ci]? = some b → PySem.W.kitOne X.K (.ref (W.cad ci)) cv = some b) (k : ClsV c cv) (hg : Gl X "isinstance") (hm : X.mg "isinstance" = none) (ha : PA X [e, ce] (tCons (tE W X.K f) (tCons (tC c) tNil)))
    (hs : starEach [e, ce] X.env = (false, eval e X.env) :: starEach [ce] X.env := by rfl) (hpl : (backTo pos (starEach [ce] X.env)).any (·.1) = false := by rfl) :
    SE W X (.Call (.Name "isinstance" p) [e, ce] [] pos) (isX B f) := PE.imp (pe_callB call_isX hg hm (by decide +kernel) ha (by decide +kernel) (by decide +kernel) hs hpl) fun σ H Q h => by
  obtain ⟨φ, Z, ρ, cs', S, L, t, cs2, e0, kk⟩ := h
  obtain ⟨u, c1, e1, e2⟩ := R.bind_inv e0
  refine ⟨φ, Z, ρ, cs', S, L, u, c1, e1, fun φ1 Z1 H1 v x1 S1 r1 => ?_⟩
  split at e2
  · rename_i n
    split at e2
    · rename_i ci fs hc
      split at e2
      · rename_i b hb
        cases e2
        cases r1 with
        | ref ea =>
          rename_i a
          obtain ⟨od, vs, h1, h2, r5⟩ := S1.cell n _ _ hc ea
          refine ⟨a, _, od, vs, c, cv, b, rfl, S1.sub _ _ h1, ?_, G ci (List.getElem?_eq_some_iff.mp hb).1, k, hB ci b hb, kk φ1 Z1 H1 _ x1 S1 (Rep.bool _)⟩
          cases od with
          | none => trivial
          | some d => exact S1.sub _ _ h2
      · cases e2
    · cases e2
  · cases e2
theorem se_isXT (G : ∀ ci, ci < B.length → ExcC X.K (W.cad ci)) (hB : ∀ ci b, B[ci]? = some b → PySem.W.kitAny X.K (.ref (W.cad ci)) ws = some b) (k : Paired ClsV cs ws) (hl : cs.length ≤ 1000) (hg : Gl X "isinstance") (hm : X.mg "isinstance" = none) (hcs : ∀ σ H Q, Q cs H → tcs σ H Q) (ha : PA X [e, .Tuple ces x1 p2] (tCons (tE W X.K f) (tCons (tTup tcs) tNil)))
    (hs : starEach [e, .Tuple ces x1 p2] X.env = (false, eval e X.env) :: starEach [.Tuple ces x1 p2] X.env := by rfl) (hpl : (backTo pos (starEach [.Tuple ces x1 p2] X.env)).any (·.1) = false := by rfl) :
    SE W X (.Call (.Name "isinstance" p) [e, .Tuple ces x1 p2] [] pos) (isX B f) := PE.imp (pe_callB call_isXT hg hm (by decide +kernel) ha (by decide +kernel) (by decide +kernel) hs hpl) fun σ H Q h => by
  obtain ⟨φ, Z, ρ, cs', S, L, t, cs2, e0, kk⟩ := h
  obtain ⟨u, c1, e1, e2⟩ := R.bind_inv e0
  refine ⟨φ, Z, ρ, cs', S, L, u, c1, e1, fun φ1 Z1 H1 v x1 S1 r1 => ?_⟩
  refine hcs _ _ _ ⟨by rw [sizeLine_eq]; omega, fun tp htp => ?_⟩
  obtain ⟨S2, x2⟩ := S1.frozen htp (.tup cs)
  have r2 := r1.ext x2
  split at e2
  · rename_i n
    split at e2
    · rename_i ci fs hc
      split at e2
      · rename_i b hb
        cases e2
        cases r2 with
        | ref ea =>
          rename_i a
          obtain ⟨od, vs, h1, h2, r5⟩ := S2.cell n _ _ hc ea
          refine ⟨a, _, od, vs, tp, cs, ws, b, rfl, S2.sub _ _ h1, ?_, G ci (List.getElem?_eq_some_iff.mp hb).1, upd_same, k, hB ci b hb, kk φ1 _ _ _ (x1.trans x2) S2 (Rep.bool _)⟩
          cases od with
          | none => trivial
          | some d => exact S2.sub _ _ h2
      · cases e2
    · cases e2
  · cases e2
theorem se_isH (P : Pin X a0 (W.cad ci0) d0) (G : ExcC X.K (W.cad ci0)) (hB : ∀ b, B[ci0]? = some b → PySem.W.kitOne X.K (.ref (W.cad ci0)) cv = some b) (k : ClsV c cv) (hg : Gl X "isinstance") (hm : X.mg "isinstance" = none) (ha : PA X [e, ce] (tCons (tE W X.K f) (tCons (tC c) tNil)))
    (hs : starEach [e, ce] X.env = (false, eval e X.env) :: starEach [ce] X.env := by rfl) (hpl : (backTo pos (starEach [ce] X.env)).any (·.1) = false := by rfl) :
    SE W X (.Call (.Name "isinstance" p) [e, ce] [] pos) (isH a0 ci0 d0 B f) := PE.imp (pe_callB (call_isH P) hg hm (by decide +kernel) ha (by decide +kernel) (by decide +kernel) hs hpl) fun σ H Q h => by
  obtain ⟨φ, Z, ρ, cs', S, L, t, cs2, e0, kk⟩ := h
  obtain ⟨u, c1, e1, e2⟩ := R.bind_inv e0
  refine ⟨φ, Z, ρ, cs', S, L, u, c1, e1, fun φ1 Z1 H1 v x1 S1 r1 => ?_⟩
  split at e2
  · split at e2
    · rename_i hh
      obtain ⟨rfl, rfl, rfl⟩ := hh
      split at e2
      · rename_i b hb
        cases e2
        cases r1 with
        | exc hd => exact ⟨c, cv, b, rfl, fun dd e => let ⟨fs, q⟩ := hd dd e; ⟨fs, S1.sub _ _ q⟩, G, k, hB b hb, kk φ1 Z1 H1 _ x1 S1 (Rep.bool _)⟩
      · cases e2
    · cases e2
  · cases e2
theorem se_isHT (P : Pin X a0 (W.cad ci0) d0) (G : ExcC X.K (W.cad ci0)) (hB : ∀ b, B[ci0]? = some b → PySem.W.kitAny X.K (.ref (W.cad ci0)) ws = some b) (k : Paired ClsV cs ws) (hl : cs.length ≤ 1000) (hg : Gl X "isinstance") (hm : X.mg "isinstance" = none) (hcs : ∀ σ H Q, Q cs H → tcs σ H Q) (ha : PA X [e, .Tuple ces x1 p2] (tCons (tE W X.K f) (tCons (tTup tcs) tNil)))
    (hs : starEach [e, .Tuple ces x1 p2] X.env = (false, eval e X.env) :: starEach [.Tuple ces x1 p2] X.env := by rfl) (hpl : (backTo pos (starEach [.Tuple ces x1 p2] X.env)).any (·.1) = false := by rfl) :
    SE W X (.Call (.Name "isinstance" p) [e, .Tuple ces x1 p2] [] pos) (isH a0 ci0 d0 B f) := PE.imp (pe_callB (call_isHT P) hg hm (by decide +kernel) ha (by decide +kernel) (by decide +kernel) hs hpl) fun σ H Q h => by
  obtain ⟨φ, Z, ρ, cs', S, L, t, cs2, e0, kk⟩ := h
  obtain ⟨u, c1, e1, e2⟩ := R.bind_inv e0
  refine ⟨φ, Z, ρ, cs', S, L, u, c1, e1, fun φ1 Z1 H1 v x1 S1 r1 => ?_⟩
  refine hcs _ _ _ ⟨by rw [sizeLine_eq]; omega, fun tp htp => ?_⟩
  obtain ⟨S2, x2⟩ := S1.frozen htp (.tup cs)
  have r2 := r1.ext x2
  split at e2
  · split at e2
    · rename_i hh
      obtain ⟨rfl, rfl, rfl⟩ := hh
      split at e2
      · rename_i b hb
        cases e2
        cases r2 with
        | exc hd => exact ⟨tp, cs, ws, b, rfl, fun dd e => let ⟨fs, q⟩ := hd dd e; ⟨fs, S2.sub _ _ q⟩, G, upd_same, k, hB b hb, kk φ1 _ _ _ (x1.trans x2) S2 (Rep.bool _)⟩
      · cases e2
    · cases e2
  · cases e2
end
end Y
end
section
set_option Elab.async false
set_option linter.all false
set_option maxRecDepth 100000
set_option maxHeartbeats 2000000
/-! functions called while an exception is handled -/
namespace Y
open PySem PySem.Spec L2 PyProof.Rows ZX L2H
/-- what a def promises while p's object is the exception that is handled -/
structure FnP (P : Program) (w : World) (K : PySem.W.Frag) (mg : Str → Option Value) (base : Heap) (p : Addr × Obj) (k : Nat) (f : Addr) (fd : FuncData) (ps : List Str) (sp : Sp) : Prop where
  len : ∀ vs H Q E, sp vs H Q E → vs.length = ps.length
  run : ∀ (A : Around) (outer : List Env) (s : Shared) (H : Hp) (args : Args) (us : List Value) (vs : List V) (Q : VK) (E : XK), RoomH k A → Hot1 A p → PinOk outer H s p → Env0 P w K mg base A outer s H → BindsTo s fd args (ps.zip us) → Vals vs us → sp vs H Q E →
    codeAny (model P w) A (.call (.ref f) args) (CR CX0 outer P w H s Q E) s
theorem fnP_of {P : Program} {w : World} {K : PySem.W.Frag} {mg : Str → Option Value} {base : Heap} {k : Nat} {f : Addr} {name qual : Str} {params : Arguments} {body : List Stmt} {scope : Scope} {dvs : List V} {kws : List (Str × V)} {fd : FuncData}
    {N ps : List Str} {sp : Sp} {p : Addr × Obj} (Fd : FunD K name qual params body scope dvs kws f fd) (S : FnScope N ps scope) (len : ∀ vs H Q E, sp vs H Q E → vs.length = ps.length)
    (hbody : ∀ (cdv : Value) (A : Around) (outer : List Env) (s : Shared) (H : Hp) (vs : List V) (Q : VK) (E : XK), Hot1 A p → RoomH k (A.deeper (envOfC qual scope s.heap.objs.size f cdv)) → sp vs H Q E →
      ∃ t, PSs (cxH CX0 P w K mg base N qual scope f cdv A outer s H E p) body t ∧ t { nx := fun _ H' => Q .non H', rt := Q } (L2.start N vs) H) :
    FnP P w K mg base p (k + 1) f fd ps sp := by
  obtain ⟨oc, od, dV, kV, doc, pm, an, cdv, ct, osl, rfl, lk, hcd, _, _⟩ := Fd.ex
  refine ⟨len, fun A outer s H args us vs Q E hr hot hpin e0 hb r hsp => ?_⟩
  have hl := len _ _ _ _ hsp
  have KX : K.In s.heap := e0.mod.kin.keeps fun b o e => (e0.bs b o e).1
  have lim : s.heap.NoLimit := e0.mod.nolimit.keeps fun b o e => (e0.bs b o e).1
  have hkind : ∀ y ∈ ps.zip us, scope.names.lookup y.1 = some .local ∨ (scope.names.lookup y.1 = some .cell ∧ ((cellsFrom (s.heap.objs.size + 1) scope.names []).lookup y.1).isSome = true) := fun ⟨n, v⟩ hy => by
    rcases S.par n (List.of_mem_zip hy).1 with q | q
    · exact .inl q
    · exact .inr ⟨q, PySem.W.cellsFrom_some _ _ _ (.inl q)⟩
  refine codeAny_call_function hr.depth (KX _ _ lk) rfl S.co S.gen rfl (PySem.W.codeRec_of KX hcd) (hb _ _ _ _ ?_)
  refine wpAny_newFunctionEnv_cells S.kind hkind fun env he s1 x => ?_
  subst he
  refine ⟨lim.keeps x.toInCall.keep, codeAny_func ?_⟩
  obtain ⟨t, ht, hq⟩ := hbody cdv A outer s H vs Q E hot (hr.deeper _) hsp
  have I : L2.Inv (cxH CX0 P w K mg base N qual scope f cdv A outer s H E p) [] (L2.start N vs) H s1 := inv_startH S hpin e0 hl r x
  refine wpAny_mono (ht.run [] s1 (L2.start N vs) H _ I hq) (fun fl s' hs => ?_) fun e s' hs => hs
  have fin : ∀ {σ' : L2.St} {H' : Hp} {v : V} {u : Value}, L2.Inv (cxH CX0 P w K mg base N qual scope f cdv A outer s H E p) [] σ' H' s' → RelV v u → Q v H' → CE outer P w H s Q u s' :=
    fun {σ' H' v u} J rv q => ⟨v, H', J.os, J.bare, J.base, J.hok, rv, q⟩
  cases fl with
  | ret u =>
    obtain ⟨v, σ', H', J, rv, q⟩ := hs
    exact fin J rv q
  | next =>
    obtain ⟨σ', H', J, q⟩ := hs
    exact fin (v := V.non) (u := Value.none) J rfl q
  | brk =>
    obtain ⟨_, _, _, q⟩ := hs
    exact False.elim q
  | cont =>
    obtain ⟨_, _, _, q⟩ := hs
    exact False.elim q
section
variable {X : Cx} {p : Addr × Obj} {k : Nat} {f : Addr} {fd : FuncData} {ps : List Str} {sp : Sp} {x : Str} {q pos : Pos} {e : Expr} {es : List Expr} {t : TA} {W : Wd} {F : FF} {g : AF}
theorem pe_callP (F : FnP X.prog X.w X.K X.mg X.base p k f fd ps sp) (hr : RoomH k X.A) (hot : Hot1 X.A p) (hp : p ∈ X.pn) (hg : Gl X x) (hm : X.mg x = some (.ref f)) (hk : PySem.W.keepIn X.K (.ref f) = true) (hb : L2.Binds X.K fd ps [])
    (ha : PA X (e :: es) t) (hdb : (x == ("__debug__" : Str)) = false := by decide +kernel) (he : starEach (e :: es) X.env = (false, eval e X.env) :: starEach es X.env := by rfl) (hpl : (backTo pos (starEach es X.env)).any (·.1) = false := by rfl) :
    PE X (.Call (.Name x q) (e :: es) [] pos) (tCall sp [] E0 t) := by
  refine ⟨fun pins s σ H Q I h => ?_⟩
  refine wpAny_Call_Name_kw (ld_glob I hg hm ?_ hdb)
  refine PySem.W.callWith_K (h₀ := X.base) I.ok.mod.kin hk (thn (ha.run pos pins s σ H _ I h) fun us s1 ⟨vs, H1, I1, r, hsp⟩ => ⟨I1.kIn, ?_⟩) he hpl
  have hsp : sp (vs ++ []) H1 Q E0 := hsp
  rw [List.append_nil] at hsp
  have hl : us.length = ps.length := by rw [← r.length]; exact F.len _ _ _ _ hsp
  have b := hb s1 us I1.kIn (by rw [List.append_nil]; exact hl)
  rw [List.append_nil] at b
  have P1 := I1.pin p (List.mem_append_left _ hp)
  have hpin : PinOk X.stack H1 s1 p := ⟨P1.1, P1.2.1, fun hm => (List.mem_cons.mp (I1.stkSub p.1 hm)).elim P1.2.2.1 P1.2.2.2.1, P1.2.2.2.2⟩
  refine wpAny_call (codeAny_mono (F.run X.A X.stack s1 H1 ⟨us, []⟩ us vs Q E0 hr hot hpin I1.env0 b r hsp) fun r s' hq => ?_)
  cases r with
  | error e => exact hq.elim
  | ok fl =>
    cases fl with
    | ret u => exact I1.after hq
    | next => exact False.elim hq
    | brk => exact False.elim hq
    | cont => exact False.elim hq
theorem se_callP (hF : FnP X.prog X.w X.K X.mg X.base p k f fd ps (spY W X.K ps.length F)) (hl : Ar ps.length F) (hr : RoomH k X.A) (hot : Hot1 X.A p) (hp : p ∈ X.pn) (hg : Gl X x) (hm : X.mg x = some (.ref f)) (hk : PySem.W.keepIn X.K (.ref f) = true) (hb : L2.Binds X.K fd ps []) (ha : SA W X (e :: es) g)
    (hdb : (x == ("__debug__" : Str)) = false := by decide +kernel) (he : starEach (e :: es) X.env = (false, eval e X.env) :: starEach es X.env := by rfl) (hpl : (backTo pos (starEach es X.env)).any (·.1) = false := by rfl) :
    SE W X (.Call (.Name x q) (e :: es) [] pos) (callE F [] g) := PE.imp (pe_callP hF hr hot hp hg hm hk hb ha hdb he hpl) fun σ H Q h => tCall_of (dts := []) (dvs := []) (n := ps.length) (fun _ _ => .nil) (fun _ => trivial) hl h
end
section
variable {P : Program} {w : World} {W : Wd} {K : PySem.W.Frag} {mg : Str → Option Value} {base : Heap} {x qual : Str} {params : Arguments} {body : List Stmt} {scope : Scope} {dvs : List V} {kws : List (Str × V)} {f : Addr} {fd : FuncData} {N ps : List Str} {k : Nat} {p : Addr × Obj}
theorem fn_okP (Fd : FunD K x qual params body scope dvs kws f fd) (S : FnScope N ps scope) {bf : SF}
    (hb : ∀ (cdv : Value) (A : Around) (outer : List Env) (s : Shared) (H : Hp) (E : XK), Hot1 A p → RoomH k (A.deeper (envOfC qual scope s.heap.objs.size f cdv)) → SSs W (cxH CX0 P w K mg base N qual scope f cdv A outer s H E p).nox body bf) :
    FnP P w K mg base p (k + 1) f fd ps (spY W K ps.length (fnF N.length ps.length bf)) := by
  refine fnP_of Fd S (fun vs H Q E h => spY_len h) (fun cdv A outer s H vs Q E hot hr h => ⟨_, PSs.nox (hb cdv A outer s H E hot hr), ?_⟩)
  obtain ⟨φ, Z, ts, cs, Sm, r, hl, t, cs', e, kk⟩ := h
  unfold fnF at e
  rw [if_pos hl] at e
  refine ⟨φ, Z, startR N.length ts, cs, Sm, Slots.start r, ?_⟩
  generalize hrs : bf (startR N.length ts) cs = rs at e
  cases rs with
  | nx ρ c =>
    intro φ' Z' H' σ' x' S' L'
    obtain ⟨t', c', φ2, e2, x2, S2, r2⟩ := leave_keep (r := endF (.nx ρ c)) Sm x' S' (Rep.none) rfl
    rw [e] at e2
    cases e2
    exact kk _ _ _ _ x2 S2 r2
  | rt t c =>
    intro φ' Z' H' v x' S' r'
    obtain ⟨t', c', φ2, e2, x2, S2, r2⟩ := leave_keep (r := endF (.rt t c)) Sm x' S' r' rfl
    rw [e] at e2
    cases e2
    exact kk _ _ _ _ x2 S2 r2
  | bk ρ c => cases e
  | ct ρ c => cases e
  | stuck => cases e
end
end Y
end
section
set_option Elab.async false
set_option linter.all false
set_option maxRecDepth 100000
set_option maxHeartbeats 2000000
/-! raise, try .. except .. as -/
namespace ZX
open PySem PySem.Spec PyProof.Rows L2 PySem.W PySem.Calls NdefX YG
section
variable {X : Cx} {C fI : Addr} {k : Nat} {fd : FuncData} {ps : List Str} {sp : Sp} {pins : List (Addr × Obj)} {σ : L2.St} {H : Hp} {s : Shared} {Q : XK} {us us2 : List Value} {vs : List V} {kw : List (Str × Value)} {x : Str} {p pos : Pos} {e : Expr} {es : List Expr} {ta tk : TA}
/-- what the __init__ must leave -/
def Left (C a : Addr) (H1 : Hp) (Q : XK) : VK := fun v H2 => v = .non ∧ ∃ (d : Addr) (fs : List (Str × V)), H2 a = some (exo a C (some d)) ∧ H2 d = some (exd d fs) ∧ H1 d = none ∧ Q (.ref C) (some d) (upd (del H2 a) d (.xd fs))
theorem run_pmkx (M : MkX X.K C fI) (F1 : FnG X.prog X.w X.K X.mg X.base k fI fd ps sp) (hr : RoomG (k + 1) X.A) (I : L2.Inv X pins σ H s) (hb : ∀ (s' : Shared) (a : Addr), BindsTo s' fd ⟨.ref a :: us, kw⟩ (ps.zip (.ref a :: us2))) (r : Vals vs us2) (hus : us.length ≤ sizeLine)
    (h : ∀ a, H a = none → sp (.ref a :: vs) (upd H a (exo a C none)) (Left C a H Q) E0) : wpAny (model X.prog X.w) X.A (call (.ref C) us kw) (L2N.MkP X pins σ Q) X.xe s := by
  obtain ⟨T, iC, tI⟩ := M
  obtain ⟨nm, q, N, bs, bm, sn, sub, ab, col, dd, k0, k1, k2, k3, k5, hC, hbm⟩ := T.cls
  obtain ⟨hp, g, dr, tk, os⟩ := s
  have hsz : hp.objs.size ≤ hp.objs.size + 1 := Nat.le_succ _
  have hn : H (hp.objs.size + 1) = none := I.hok.fresh hsz
  have hq := h (hp.objs.size + 1) hn
  have kk : ∀ b o, hp.get? b = some o → ((hp.push (PySem.W.kdv_tup us)).push (PySem.HandSPX.excO C hp.objs.size)).get? b = some o := fun b o e => Heap.get?_push_of_some _ (Heap.get?_push_of_some _ e)
  have hget : ((hp.push (PySem.W.kdv_tup us)).push (PySem.HandSPX.excO C hp.objs.size)).get? (hp.objs.size + 1) = some (PySem.HandSPX.excO C hp.objs.size) := by heap_get
  have I2 : L2.Inv X pins σ (upd H (hp.objs.size + 1) (exo (hp.objs.size + 1) C none)) ⟨(hp.push (PySem.W.kdv_tup us)).push (PySem.HandSPX.excO C hp.objs.size), g, dr, tk, os⟩ :=
    I.laid (t' := tk) (a := hp.objs.size + 1) (o := exo (hp.objs.size + 1) C none) (h' := (hp.push (PySem.W.kdv_tup us)).push (PySem.HandSPX.excO C hp.objs.size)) kk hsz (exo_ok hget)
  have r2 : Vals (V.ref (hp.objs.size + 1) :: vs) (Value.ref (hp.objs.size + 1) :: us2) := .cons rfl r
  refine wpAny_call (PySem.ZXK.call_kw F.excBase_ValueError (fun Y => PySem.HandSPX.refsVE_contains Y bm hbm) (I.kIn _ _ hC) (PySem.W.looks_findIn I.kIn iC) (fun self => PySem.W.bind_fn I.kIn self tI) hus
    (codeAny_mono (F1.run _ X.stack _ _ ⟨Value.ref (hp.objs.size + 1) :: us, kw⟩ (Value.ref (hp.objs.size + 1) :: us2) _ _ E0 (hr.make C us kw) (I2.env0.make C us kw) (hb _ _) r2 hq) fun r s' hq' => ?_))
  cases r with
  | error er => exact hq'.elim
  | ok fl =>
    cases fl with
    | ret u =>
      obtain ⟨v, H2, os2, bare2, un2, hok2, rv, ev, d, fs, ea, ed, hd1, q2⟩ := hq'
      subst ev
      obtain ⟨h2, g2, d2, t2, os'⟩ := s'
      obtain ⟨t0, G, J, kG, ge, hoe, na⟩ := mk_end0 (d2 := d2) (t2 := t2) I hsz kk un2 hok2 os2 bare2 ea ed hd1
      exact ⟨rv, hp.objs.size + 1, _, _, ⟨G, g2, d2, t2, os'⟩, _, .ref C, some d, rfl, J, kG, ge, hoe, ⟨rfl, rfl, fun vs e => by cases e; rfl⟩, rfl, rfl, na, rfl, bare2, raises_own T.exC T.tyC, q2⟩
    | next => exact False.elim hq'
    | brk => exact False.elim hq'
    | cont => exact False.elim hq'
def tPmk (C : Addr) (sp : Sp) (n : Nat) (ta : TA) : L2.St → Hp → XK → Prop := fun σ H Q => ta σ H fun vs H1 => vs.length = n ∧ ∀ a, H1 a = none → sp (.ref a :: vs) (upd H1 a (exo a C none)) (Left C a H1 Q) E0
theorem pmk_mkx {n : Nat} (M : MkX X.K C fI) (F1 : FnG X.prog X.w X.K X.mg X.base k fI fd ps sp) (hr : RoomG (k + 1) X.A) (hz : n ≤ 1000) (hb : BindX fd ps n []) (hg : Gl X x) (hm : X.mg x = some (.ref C)) (ha : PA X (e :: es) ta)
    (hdb : (x == ("__debug__" : Str)) = false := by decide +kernel) (he : starEach (e :: es) X.env = (false, eval e X.env) :: starEach es X.env := by rfl) (hpl : (backTo pos (starEach es X.env)).any (·.1) = false := by rfl) :
    L2N.PMk X (.Call (.Name x p) (e :: es) [] pos) (tPmk C sp n ta) := by
  intro pins s σ H Q I h
  refine wpAny_Call_Name_kw (ld_glob I hg hm ?_ hdb)
  refine PySem.W.callWith_K (h₀ := X.base) I.ok.mod.kin M.T.kC (thn (ha.run pos pins s σ H _ I h) fun us s1 ⟨vs, H1, I1, r1, hl, q1⟩ => ⟨I1.kIn, ?_⟩) he hpl
  have hl2 : us.length = n := by rw [← Paired.length r1]; exact hl
  exact run_pmkx (us2 := us) M F1 hr I1 (fun s' a => hb us hl2 s' a) r1 (by rw [sizeLine_eq]; show us.length ≤ _; omega) q1
theorem pmk_mkxK {ks : List Str} {kws : List Keyword} (M : MkX X.K C fI) (F1 : FnG X.prog X.w X.K X.mg X.base k fI fd ps sp) (hr : RoomG (k + 1) X.A) (hne : ks.isEmpty = false) (hb : BindX fd ps ks.length ks) (hg : Gl X x) (hm : X.mg x = some (.ref C)) (hkw : PK X kws tk)
    (hall : (backToKw pos (keywordEach kws X.env)).all (·.1.isSome) = true := by rfl) (hks : (backToKw pos (keywordEach kws X.env)).filterMap (·.1) = ks := by rfl)
    (hdb : (x == ("__debug__" : Str)) = false := by decide +kernel) (hpl : ((backTo pos (starEach [] X.env)).any (·.1) || (backToKw pos (keywordEach kws X.env)).any (·.1.isNone)) = false := by rfl) :
    L2N.PMk X (.Call (.Name x p) [] kws pos) (tPmk C sp ks.length tk) := by
  intro pins s σ H Q I h
  refine wpAny_Call_Name_kw (ld_glob I hg hm ?_ hdb)
  refine PySem.W.callWith_KW0 (h₀ := X.base) I.ok.mod.kin M.T.kC hall ?_ hpl
  refine thn (hkw.run pos pins s σ H _ I h) fun ws s2 ⟨zs, H2, I2, rz, hl, q2⟩ => ⟨I2.kIn, ?_⟩
  rw [hks]
  have hl2 : ws.length = ks.length := by rw [← Paired.length rz]; exact hl
  refine run_pmkx (us := []) (us2 := ws) M F1 hr I2 (fun s' a => ?_) rz (Nat.zero_le _) q2
  have b := hb ws hl2 s' a
  rw [if_neg (by rw [hne]; exact Bool.false_ne_true)] at b
  exact b
theorem pmk_exc0 {bmB : List Value} {B newId initId : String} (F : ExcBaseFacts B newId initId bmB) (q : PySem.W.excIn X.K C bmB newId = true) (gC : X.mg x = some (.ref C)) (kC : PySem.W.keepIn X.K (.ref C) = true) (r : Raises X (.ref C)) (hg : Gl X x) (hdb : (x == ("__debug__" : Str)) = false := by decide +kernel) :
    L2N.PMk X (.Call (.Name x p) [] [] pos) (fun _ H Q => Q (.ref C) none H) := by
  intro pins s σ H Q I h
  refine wpAny_Call_Name_kw (ld_glob I hg gC ?_ hdb)
  refine PySem.W.callWith_K0 I.kIn kC ?_
  show wpAny _ _ (call (.ref C) []) _ _ _
  obtain ⟨bm, N, nm, qn, bs, hdct, sn, sub, ab, col, dd, k0, k1, k2, k3, k5, mN, hC, hN, hni, T⟩ := exc_obj I.kIn q
  exact wpAny_call_exc_subT F T hC hN hni (fun h' a hm => L2N.mk_of I hm r h (I.hok.gone hm.new)) (Nat.zero_le _)
end
end ZX
namespace Y
open PySem PySem.Spec L2 PyProof.Rows ZX L2H
/-- a suite that raises: the class, the state -/
abbrev XF := Rho → Cs → Option (Nat × Rho × Cs)
def tX (W : Wd) (K : PySem.W.Frag) (bm : XF) (Wx : WX) : TS := fun _ σ H => ∃ φ Z ρ cs, Sim W K φ Z cs H ∧ Slots W K φ Z ρ σ ∧ ∃ ci ρ1 cs1, bm ρ cs = some (ci, ρ1, cs1) ∧
  ∀ φ' Z' H' σ' d, Ext φ Z H φ' Z' H' → Sim W K φ' Z' cs1 H' → Slots W K φ' Z' ρ1 σ' → (∀ dd, d = some dd → ∃ fs, Z' dd = some (.xd fs)) → Wx (.ref (W.cad ci)) d σ' H'
def SXs (W : Wd) (X : Cx) (b : List Stmt) (bm : XF) : Prop := ∀ Wx : WX, L2N.Takes X Wx → PSs X b (tX W X.K bm Wx)
def rX (ci n : Nat) (g : AF) : XF := fun ρ cs => match g ρ cs with
  | .ok ts c => if ts.length = n then some (ci, ρ, c) else none
  | .stuck => none
def rX0 (ci : Nat) : XF := fun ρ cs => some (ci, ρ, cs)
def ifX (b : BF) (t u : XF) : XF := fun ρ cs => match b ρ cs with
  | .ok true c => t ρ c
  | .ok false c => u ρ c
  | .stuck => none
section
variable {W : Wd} {X : Cx} {ci : Nat} {n m x : Str} {fI : Addr} {k : Nat} {fd : FuncData} {ps : List Str} {g : AF} {p pos pos2 : Pos} {e : Expr} {es : List Expr} {σ : L2.St} {H : Hp} {Wx : WX} {D : Ends}
theorem upd_left {H : Hp} {a dx : Addr} {o1 o2 o3 o4 : HO} (na : H a = none) (ne : dx ≠ a) : upd (del (upd (upd (upd H a o1) dx o2) a o3) a) dx o4 = upd H dx o4 := by
  funext b
  by_cases h2 : b = dx
  · subst h2; rw [upd_same, upd_same]
  · rw [upd_ne h2, upd_ne h2]
    by_cases h : b = a
    · subst h; rw [del_same, na]
    · rw [del_ne h, upd_ne h, upd_ne h2, upd_ne h]
theorem upd_left2 {H : Hp} {a dx : Addr} {o1 o2 o3 o4 o5 : HO} (na : H a = none) (ne : dx ≠ a) : upd (del (upd (upd (upd (upd H a o1) dx o2) a o3) dx o5) a) dx o4 = upd H dx o4 := by
  funext b
  by_cases h2 : b = dx
  · subst h2; rw [upd_same, upd_same]
  · rw [upd_ne h2, upd_ne h2]
    by_cases h : b = a
    · subst h; rw [del_same, na]
    · rw [del_ne h, upd_ne h2, upd_ne h, upd_ne h2, upd_ne h]
theorem tPmk1_of (h : tX W X.K (rX ci 1 g) Wx D σ H) : tPmk (W.cad ci) (spX1 (W.cad ci) n) 1 (tA W X.K g) σ H fun cls d H' => Wx cls d σ H' := by
  obtain ⟨φ, Z, ρ, cs, S, L, c0, ρ1, cs1, e0, kk⟩ := h
  unfold rX at e0
  split at e0
  · rename_i ts c e1
    split at e0
    · rename_i hl
      cases e0
      refine ⟨φ, Z, ρ, cs, S, L, ts, _, e1, fun φ1 Z1 H1 vs x1 S1 r1 => ⟨by rw [← Paired.len r1, hl], fun a hna => ?_⟩⟩
      cases r1 with
      | nil => cases hl
      | cons rv rn =>
        rename_i v _ _
        cases rn with
        | cons _ _ => cases hl
        | nil =>
          refine ⟨a, _, rfl, upd_same, fun dx hdx ne => ⟨rfl, dx, _, upd_same, by rw [upd_ne ne, upd_same], ?_, ?_⟩⟩
          · rw [upd_ne ne] at hdx; exact hdx
          · rw [upd_ne ne] at hdx
            rw [upd_left hna ne]
            obtain ⟨S2, x2⟩ := S1.frozen hdx (.xd [(n, _)])
            exact kk _ _ _ _ _ (x1.trans x2) S2 (L.ext (x1.trans x2)) fun dd e => by cases e; exact ⟨_, upd_same⟩
    · cases e0
  · cases e0
theorem tPmk2_of (h : tX W X.K (rX ci 2 g) Wx D σ H) : tPmk (W.cad ci) (spX2 (W.cad ci) n m) 2 (tA W X.K g) σ H fun cls d H' => Wx cls d σ H' := by
  obtain ⟨φ, Z, ρ, cs, S, L, c0, ρ1, cs1, e0, kk⟩ := h
  unfold rX at e0
  split at e0
  · rename_i ts c e1
    split at e0
    · rename_i hl
      cases e0
      refine ⟨φ, Z, ρ, cs, S, L, ts, _, e1, fun φ1 Z1 H1 vs x1 S1 r1 => ⟨by rw [← Paired.len r1, hl], fun a hna => ?_⟩⟩
      cases r1 with
      | nil => cases hl
      | cons rv rn =>
        cases rn with
        | nil => cases hl
        | cons rw rn =>
          cases rn with
          | cons _ _ => cases hl
          | nil =>
            refine ⟨a, _, _, rfl, upd_same, fun dx hdx ne => ⟨rfl, dx, _, by rw [upd_ne (Ne.symm ne), upd_same], upd_same, ?_, ?_⟩⟩
            · rw [upd_ne ne] at hdx; exact hdx
            · rw [upd_ne ne] at hdx
              rw [upd_left2 hna ne]
              obtain ⟨S2, x2⟩ := S1.frozen hdx (.xd [(m, _), (n, _)])
              exact kk _ _ _ _ _ (x1.trans x2) S2 (L.ext (x1.trans x2)) fun dd e => by cases e; exact ⟨_, upd_same⟩
    · cases e0
  · cases e0
theorem sx_of {t : L2.St → Hp → XK → Prop} {bm : XF} (hc : X.calm = true) (he : L2N.PMk X e t) (h : ∀ Wx D σ H, tX W X.K bm Wx D σ H → t σ H fun cls d H' => Wx cls d σ H') : SXs W X [.Raise (some e) none pos] bm :=
  fun Wx tk => PSs.imp (pss_one (L2N.ps_raise hc tk he)) fun D σ H q => h Wx D σ H q
theorem sx_raise1 (hc : X.calm = true) (M : MkX X.K (W.cad ci) fI) (F1 : YG.FnG X.prog X.w X.K X.mg X.base k fI fd ps (spX1 (W.cad ci) n)) (hr : YG.RoomG (k + 1) X.A) (hb : BindX fd ps 1 []) (hg : Gl X x) (hm : X.mg x = some (.ref (W.cad ci))) (ha : SA W X [e] g)
    (hdb : (x == ("__debug__" : Str)) = false := by decide +kernel) (he : starEach [e] X.env = (false, eval e X.env) :: starEach [] X.env := by rfl) : SXs W X [.Raise (some (.Call (.Name x p) [e] [] pos)) none pos2] (rX ci 1 g) :=
  sx_of hc (pmk_mkx M F1 hr (by omega) hb hg hm ha hdb he rfl) fun Wx D σ H q => tPmk1_of q
theorem sx_raise1K {ks : List Str} {kws : List Keyword} (hc : X.calm = true) (M : MkX X.K (W.cad ci) fI) (F1 : YG.FnG X.prog X.w X.K X.mg X.base k fI fd ps (spX1 (W.cad ci) n)) (hr : YG.RoomG (k + 1) X.A) (hl : ks.length = 1) (hb : BindX fd ps ks.length ks) (hg : Gl X x) (hm : X.mg x = some (.ref (W.cad ci))) (hkw : SK W X kws g)
    (hall : (backToKw pos (keywordEach kws X.env)).all (·.1.isSome) = true := by rfl) (hks : (backToKw pos (keywordEach kws X.env)).filterMap (·.1) = ks := by rfl) (hdb : (x == ("__debug__" : Str)) = false := by decide +kernel)
    (hpl : ((backTo pos (starEach [] X.env)).any (·.1) || (backToKw pos (keywordEach kws X.env)).any (·.1.isNone)) = false := by rfl) : SXs W X [.Raise (some (.Call (.Name x p) [] kws pos)) none pos2] (rX ci 1 g) :=
  sx_of hc (pmk_mkxK M F1 hr (by cases ks with | nil => cases hl | cons => rfl) hb hg hm hkw hall hks hdb hpl) fun Wx D σ H q => by rw [hl]; exact tPmk1_of q
theorem sx_raise2K {ks : List Str} {kws : List Keyword} (hc : X.calm = true) (M : MkX X.K (W.cad ci) fI) (F1 : YG.FnG X.prog X.w X.K X.mg X.base k fI fd ps (spX2 (W.cad ci) n m)) (hr : YG.RoomG (k + 1) X.A) (hl : ks.length = 2) (hb : BindX fd ps ks.length ks) (hg : Gl X x) (hm : X.mg x = some (.ref (W.cad ci))) (hkw : SK W X kws g)
    (hall : (backToKw pos (keywordEach kws X.env)).all (·.1.isSome) = true := by rfl) (hks : (backToKw pos (keywordEach kws X.env)).filterMap (·.1) = ks := by rfl) (hdb : (x == ("__debug__" : Str)) = false := by decide +kernel)
    (hpl : ((backTo pos (starEach [] X.env)).any (·.1) || (backToKw pos (keywordEach kws X.env)).any (·.1.isNone)) = false := by rfl) : SXs W X [.Raise (some (.Call (.Name x p) [] kws pos)) none pos2] (rX ci 2 g) :=
  sx_of hc (pmk_mkxK M F1 hr (by cases ks with | nil => cases hl | cons => rfl) hb hg hm hkw hall hks hdb hpl) fun Wx D σ H q => by rw [hl]; exact tPmk2_of q
theorem sx_raise0 {bmB : List Value} {B newId initId : String} (hc : X.calm = true) (F : ExcBaseFacts B newId initId bmB) (q : PySem.W.excIn X.K (W.cad ci) bmB newId = true) (gC : X.mg x = some (.ref (W.cad ci))) (kC : PySem.W.keepIn X.K (.ref (W.cad ci)) = true) (r : Raises X (.ref (W.cad ci))) (hg : Gl X x) (hdb : (x == ("__debug__" : Str)) = false := by decide +kernel) :
    SXs W X [.Raise (some (.Call (.Name x p) [] [] pos)) none pos2] (rX0 ci) := sx_of hc (pmk_exc0 F q gC kC r hg hdb) fun Wx D σ H h => by
  obtain ⟨φ, Z, ρ, cs, S, L, c0, ρ1, cs1, e0, kk⟩ := h
  cases e0
  exact kk φ Z H σ none (Ext.refl _ _ _) S L fun dd e => by cases e
theorem sx_if {c : Expr} {f : BF} {p rest : List Stmt} {bA bR : XF} (hb : SB W X c f) (ha : SXs W X p bA) (hr : SXs W X rest bR) : SXs W X (.If c p [] pos :: rest) (ifX f bA bR) := fun Wx tk =>
  PSs.imp (pss_cons (ps_if hb (ha Wx tk) pss_nil) (hr Wx tk)) fun D σ H h => by
    obtain ⟨φ, Z, ρ, cs, S, L, ci, ρ1, cs1, e0, kk⟩ := h
    unfold ifX at e0
    split at e0
    · rename_i c e1
      exact ⟨φ, Z, ρ, cs, S, L, true, c, e1, fun φ' Z' H' x' S' => ⟨φ', Z', ρ, c, S', L.ext x', ci, ρ1, cs1, e0, fun φ2 Z2 H2 σ2 d x2 => kk φ2 Z2 H2 σ2 d (x'.trans x2)⟩⟩
    · rename_i c e1
      exact ⟨φ, Z, ρ, cs, S, L, false, c, e1, fun φ' Z' H' x' S' => ⟨φ', Z', ρ, c, S', L.ext x', ci, ρ1, cs1, e0, fun φ2 Z2 H2 σ2 d x2 => kk φ2 Z2 H2 σ2 d (x'.trans x2)⟩⟩
    · cases e0
/-- the body raises, the clause catches, its suite returns -/
def tryS (nX : Nat) (bm : XF) (r : Nat → Rho → Cs → R T) : SF := fun ρ cs => match bm ρ cs with
  | some (ci, ρ1, cs1) => if ci < nX then (match r ci ρ1 cs1 with
    | .ok t c => .rt t c
    | .stuck => .stuck) else .stuck
  | none => .stuck
theorem ss_try {nX i : Nat} {bm : XF} {r : Nat → Rho → Cs → R T} {su : Addr → Nat → Option Addr → SF} {body suite : List Stmt} {b₀ : Stmt} {np pos' : Pos} {c : Value} (hs : X.stack = X.env :: X.outer) (hf : X.env.frame = some X.env.locals) (hN : X.N.Nodup) (hi : X.N[i]? = some n) (hln : X.env.kindOf n = some .local) (hc : Names X x c)
    (hcat : ∀ ci, ci < nX → PySem.W.exmOne X.K (.ref (W.cad ci)) c = some true)
    (hb : ∀ (pn : List (Addr × Obj)) (xe : Value → Shared → Prop), SXs W (X.tr pn xe) body bm)
    (hsu : ∀ (a : Addr) (oe : Obj) (ci : Nat) (d : Option Addr) (pn : List (Addr × Obj)), ci < nX → L2N.Zn (.ref (W.cad ci)) d oe → (∃ vs, oe.data = .fields vs) → SSs W (X.suite a ((a, oe) :: pn)) (b₀ :: suite) (su a ci d))
    (hr : ∀ a ci d ρ cs t c', r ci ρ cs = .ok t c' → su a ci d (ρ.set i (some (.exc a ci d))) cs = .rt t c') :
    SS W X (.Try body [.ExceptHandler (some (.Name x np)) (some n) (b₀ :: suite) pos'] [] [] pos) (tryS nX bm r) := by
  refine PS.imp (L2N.ps_try_as (Wout := fun _ _ _ _ => False) (ts := fun a cls d D σ H => ∃ ci, cls = .ref (W.cad ci) ∧ ci < nX ∧ tS W X.K (su a ci d) D σ H) (tb := fun Wx => tX W X.K bm Wx) hs hf hN hi hln hc
    (fun u s' ⟨_, _, _, _, _, _, _, _, _, _, _, _, _, _, _, _, w⟩ => w.elim) (fun Wx pn xe tk' _ => hb pn xe Wx tk') (fun a oe cls d pn hz hfd => ⟨fun pins s σ H D I q => ?_⟩)) fun D σ H h => ?_
  · obtain ⟨ci, rfl, hlt, q⟩ := q
    exact (hsu a oe ci d pn hlt hz hfd).run pins s σ H D I q
  · obtain ⟨φ, Z, ρ, cs, S, L, h⟩ := h
    unfold tryS at h
    split at h
    · rename_i ci ρ1 cs1 e0
      split at h
      · rename_i hlt
        split at h
        · rename_i t c' e1
          refine ⟨φ, Z, ρ, cs, S, L, ci, ρ1, cs1, e0, fun φ' Z' H' σ' d x' S' L' hd => ⟨true, hcat ci hlt, fun _ a ha => ⟨ci, rfl, hlt, φ', Z', ρ1.set i (some (.exc a ci d)), cs1, S', L'.set (.exc hd) i, ?_⟩, fun z => nomatch z⟩⟩
          rw [hr a ci d ρ1 cs1 t c' e1]
          intro φ2 Z2 H2 v x2 S2 r2
          exact h φ2 Z2 H2 v (x'.trans x2) S2 r2
        · exact h.elim
      · exact h.elim
    · exact h.elim
end
end Y
end
section
set_option Elab.async false
set_option linter.all false
set_option maxRecDepth 100000
set_option maxHeartbeats 2000000
/-! further rules: either of two meanings, repr of anything, {} as data, is of bools, for over a tuple just made -/
namespace Y
open PySem PySem.Spec L2 PyProof.Rows
def altE (f g : EF) : EF := fun ρ cs => match f ρ cs with
  | .ok t c => .ok t c
  | .stuck => g ρ cs
section
variable {W : Wd} {X : Cx} {e : Expr} {f g : EF} {pos : Pos}
theorem se_alt (hf : SE W X e f) (hg : SE W X e g) : SE W X e (altE f g) := ⟨fun pins s σ H Q I h => by
  obtain ⟨φ, Z, ρ, cs, S, L, t, cs', e0, k⟩ := h
  unfold altE at e0
  split at e0
  · rename_i t1 c1 e1
    cases e0
    exact hf.run pins s σ H Q I ⟨φ, Z, ρ, cs, S, L, _, _, e1, k⟩
  · exact hg.run pins s σ H Q I ⟨φ, Z, ρ, cs, S, L, _, _, e0, k⟩⟩
/-- {} as data -/
def dicF : EF := fun _ cs => .ok (.d (.dict [])) cs
theorem se_dicF : SE W X (.Dict [] [] pos) dicF := PE.imp pe_dnewK fun σ H Q h => by
  obtain ⟨φ, Z, ρ, cs, S, L, ts, cs', e, k⟩ := h
  cases e
  intro p hp
  obtain ⟨S1, x1⟩ := S.frozen hp (.dK [])
  exact k _ _ _ _ x1 S1 (.d (.edc upd_same))
/-! is, of bools -/
theorem op_isB : OpR X (compareOp .Is) (fun x y H Q => ∃ a b, x = .bl a ∧ y = .bl b ∧ Q (.bl (a == b)) H) := by
  intro pins s σ H x y v u Q I rx ry h
  obtain ⟨a, b, rfl, rfl, q⟩ := h
  cases rx
  cases ry
  exact wpAny_is_plain (by cases a <;> cases b <;> rfl) ⟨.bl (a == b), H, I, by cases a <;> cases b <;> rfl, q⟩
def isB : BT := fun t u cs => match t, u with
  | .d (.bool a), .d (.bool b) => .ok (.d (.bool (a == b))) cs
  | _, _ => .stuck
theorem ok_isB {K : PySem.W.Frag} : OpOk W K (fun x y H Q => ∃ a b, x = .bl a ∧ y = .bl b ∧ Q (.bl (a == b)) H) isB := by
  intro φ Z cs H t u v w Q z cs' S r1 r2 e k
  unfold isB at e
  split at e
  · cases e; cases r1.dBool; cases r2.dBool
    exact ⟨_, _, rfl, rfl, fin0 S k (Rep.bool _)⟩
  · cases e
/-! for over a tuple just made -/
def tupI (g : AF) : IF := fun ρ cs => (g ρ cs).bind fun ts c => if ts.length ≤ sizeLine then .ok (ts, fun _ => True) c else .stuck
theorem walk_tupD {K : PySem.W.Frag} {φ : List Addr} {Z H : Hp} {a : Addr} {ts : List T} {vs : List V} {keep : Cs → Prop} (hz : Z a = some (.tup vs)) (r : Reps W K φ Z ts vs) : WalkY W K φ Z H (Itt K a) ts keep := by
  intro φ1 Z1 H1 cs1 x1 S1 hk
  have h1 : SqT K H1 a vs := .inl (.inl (S1.sub _ _ (x1.zsub _ _ hz)))
  have h2 := Reps.ext x1 r
  have hl := Paired.len h2
  refine ⟨fun i hi => ⟨vs, vs[i]'(by omega), h1, by simp [show i < vs.length by omega]⟩, ⟨vs, h1, by omega⟩, fun i x H' hi hy => ?_⟩
  obtain ⟨rfl, hy⟩ := hy
  have h3 := hy vs h1
  obtain ⟨y, h4, h5⟩ := Paired.get h2 (List.getElem?_eq_getElem hi)
  rw [h4] at h3
  cases h3
  exact ⟨_, Z1, List.getElem?_eq_getElem hi, Ext.refl _ _ _, S1, h5⟩
theorem si_tupD {tg : Expr} {es : List Expr} {g : AF} {x1 : Nat} (ha : SA W X es g) : SI W X tg (.Tuple es x1 pos) (tupI g) := PI.imp (pi_seq (pe_tup ha)) fun σ H Rr h => by
  obtain ⟨φ, Z, ρ, cs, S, L, ts, keep, cs', e, k⟩ := h
  obtain ⟨ts', c, e1, e⟩ := R.bind_inv e
  split at e
  · rename_i hl
    cases e
    refine ⟨φ, Z, ρ, cs, S, L, _, _, e1, fun φ1 Z1 H1 vs x1 S1 r1 => ⟨by rw [← Paired.len r1]; exact hl, fun p hp => ?_⟩⟩
    obtain ⟨S2, x2⟩ := S1.frozen hp (.tup vs)
    exact ⟨p, rfl, .inr ⟨⟨vs, .inl (.inl upd_same)⟩, k _ _ _ _ (x1.trans x2) S2 (walk_tupD upd_same (Reps.ext x2 r1))⟩⟩
  · cases e
end
/-! repr -/
section
variable {X : Cx} {pins : List (Addr × Obj)} {σ : L2.St} {H : Hp} {s : Shared}
mutual
theorem Dz.reads (I : L2.Inv X pins σ H s) : ∀ (d : PyData) (v : V) (u : Value), Dz X.K H v d → RelV v u → ∃ as, Reads s.heap u d as ∧ (∀ a ∈ as, ∃ o, H a = some o)
  | .none, _, _, h, r => by cases h; cases r; exact ⟨_, Reads.none, fun a ha => by cases ha⟩
  | .bool b, _, _, h, r => by cases h; cases r; exact ⟨_, Reads.bool b, fun a ha => by cases ha⟩
  | .int i, _, _, h, r => by cases h; obtain ⟨t, rfl⟩ := r; exact ⟨_, Reads.int i t, fun a ha => by cases ha⟩
  | .str x, _, _, h, r => by cases h; obtain ⟨t, rfl⟩ := r; exact ⟨_, Reads.str x t, fun a ha => by cases ha⟩
  | .list ds, _, _, h, r => by
    cases h with
    | lst hs ha =>
      cases r
      obtain ⟨its, rv, ⟨o, n, ho, hc, _, hd⟩, _⟩ := I.list (SqL.of hs)
      obtain ⟨as, hr, hm⟩ := Dz.readsAll I ds _ its ha rv
      exact ⟨_, Reads.list ho hc hd hr, fun b hb => by
        rcases List.mem_cons.mp hb with rfl | hb
        · exact ⟨_, hs⟩
        · exact hm b hb⟩
  | .tuple ds, _, _, h, r => by
    cases h with
    | tup hs ha =>
      cases r
      obtain ⟨its, rv, ⟨o, ho, hc, n, hd⟩, _⟩ := I.tuple hs
      obtain ⟨as, hr, hm⟩ := Dz.readsAll I ds _ its ha rv
      exact ⟨_, Reads.tuple ho hc hd hr, hm⟩
  | .dict kvs, _, _, h, r => by
    cases h with
    | edc he =>
      cases r
      obtain ⟨_, _, vs, rel, o, es, ep, ho, hx, hd, hm⟩ := dk_of I.hok he
      cases rel
      refine ⟨_, Reads.dict (kvs := []) (as := []) (bs := []) (es := es) (n := ep) ho hx.1 hd ?_ ?_, fun b hb => ?_⟩
      · obtain ⟨_, hp, _⟩ := hm
        generalize es.toList = l at hp
        cases l with
        | nil => exact ReadsAll.nil
        | cons e r => cases hp
      · obtain ⟨_, hp, _⟩ := hm
        generalize es.toList = l at hp
        cases l with
        | nil => exact ReadsAll.nil
        | cons e r => cases hp
      · rw [List.append_nil] at hb
        rw [List.mem_singleton.mp hb]
        exact ⟨_, he⟩
theorem Dz.readsAll (I : L2.Inv X pins σ H s) : ∀ (ds : List PyData) (vs : List V) (us : List Value), DzAll X.K H vs ds → Vals vs us → ∃ as, ReadsAll s.heap us ds as ∧ (∀ a ∈ as, ∃ o, H a = some o)
  | [], _, _, h, r => by cases h; cases r; exact ⟨_, ReadsAll.nil, fun a ha => by cases ha⟩
  | d :: ds, _, _, h, r => by
    cases h with
    | cons h1 h2 =>
      cases r with
      | cons r1 r2 =>
        obtain ⟨as, q1, m1⟩ := Dz.reads I d _ _ h1 r1
        obtain ⟨bs, q2, m2⟩ := Dz.readsAll I ds _ _ h2 r2
        refine ⟨_, ReadsAll.cons q1 q2, fun b hb => (List.mem_append.mp hb).elim (m1 b) (m2 b)⟩
end
end
section
variable {W : Wd} {X : Cx}
def rReprX (K : PySem.W.Frag) : List V → Hp → VK → Prop := fun xs H Q => ∃ v d, xs = [v] ∧ Dz K H v d ∧ d.showable = true ∧ d.depth < 60 ∧ d.shown.length ≤ sizeLine ∧ Q (.str d.shown) H
theorem call_reprX (hg : X.A.guards = some []) (hu : X.A.units + 64 < cLine) (hsm : ∃ o, X.K.lookup sysModules = some o) : CallR X (.builtin "repr") (rReprX X.K) := by
  intro pins s σ H xs us Q I r q
  obtain ⟨v, d, rfl, hd, h1, h3, h4, q⟩ := q
  obtain ⟨u, rfl, ru⟩ := vals1 r
  obtain ⟨as, rd, hm⟩ := Dz.reads I d _ u hd ru
  have hns : d.hasDict = true → sysModules ∉ as := fun _ hin => by
    obtain ⟨o, hk⟩ := hsm
    obtain ⟨o', ho⟩ := hm _ hin
    have := (I.bs _ _ (I.ok.mod.kin _ _ hk)).2
    rw [ho] at this
    cases this
  have big : ∀ {a : Addr}, Reads s.heap (.ref a) d as → wpAny (model X.prog X.w) X.A (call (.builtin "repr") [.ref a]) (EP X pins σ Q) X.xe s := fun rd =>
    repr_of_reads' rd h1 hns hg (by omega) (fun b o e => e) (fun h' u tk hk => ⟨.str d.shown, H, I.kept (t' := tk) hk, ⟨_, rfl⟩, q⟩) h4
  cases rd with
  | none => exact PySem.P.repr_of_none ⟨.str _, H, I.tok _, ⟨_, rfl⟩, q⟩
  | bool b => exact PySem.P.repr_of_bool ⟨.str _, H, I.tok _, ⟨_, rfl⟩, q⟩
  | int i t => exact PySem.P.repr_of_int (by simpa [PyData.showable] using h1) ⟨.str _, H, I.tok _, ⟨_, rfl⟩, q⟩
  | str x t => exact PySem.P.repr_of_str ⟨.str _, H, I.tok _, ⟨_, rfl⟩, q⟩ h4
  | list a1 a2 a3 a4 => exact big (.list a1 a2 a3 a4)
  | tuple a1 a2 a3 a4 => exact big (.tuple a1 a2 a3 a4)
  | dict a1 a2 a3 a4 a5 => exact big (.dict a1 a2 a3 a4 a5)
def reprX : CT := fun ts cs => match ts with
  | [t] => (match toZ cs t with
    | some d => if d.showable = true ∧ d.depth < 60 ∧ d.shown.length ≤ sizeLine then .ok (.d (.str d.shown)) cs else .stuck
    | none => .stuck)
  | _ => .stuck
theorem Sim.toZ {K : PySem.W.Frag} {φ : List Addr} {Z H : Hp} {cs : Cs} (S : Sim W K φ Z cs H) {t : T} {v : V} {x : PyData} (r : Rep W K φ Z t v) (e : toZ cs t = some x) : Dz K H v x := by
  unfold Y.toZ at e
  split at e
  · cases e
    cases r with
    | d h => exact Dz.zmono S.sub _ _ h
  · split at e
    · rename_i q
      cases r with
      | ref h =>
        obtain ⟨_, vs, h1, h2⟩ := S.cell _ _ _ q h
        obtain ⟨ds, h3, h4⟩ := Option.map_eq_some_iff.mp e
        cases h4
        rw [allD_eq h3] at h2
        exact .lst h1 (DzAll.zmono S.sub _ _ (Reps.all h2))
    · cases e
  · cases e
theorem ok_reprX {K : PySem.W.Frag} : ClOk W K (rReprX K) reprX := by
  intro φ Z cs H ts vs Q z cs' S rs e k
  unfold reprX at e
  split at e
  · rename_i t
    split at e
    · rename_i d hd
      split at e
      · rename_i hh
        obtain ⟨h1, h3, h4⟩ := hh
        cases e
        obtain ⟨v, rfl, rv⟩ := Reps.one rs
        exact ⟨v, d, rfl, S.toZ rv hd, h1, h3, h4, k _ _ _ _ (Ext.refl _ _ _) S (Rep.str _)⟩
      · cases e
    · cases e
  · cases e
end
end Y
end
section
set_option Elab.async false
set_option linter.all false
set_option maxRecDepth 100000
set_option maxHeartbeats 2000000
/-! what the look at the head tells of exception classes -/
namespace ZX
open PySem PySem.Spec PyProof.Rows L2 NdefX He YH Y
structure ED where
  name : Str
  qual : Str
  params : Arguments
  body : List Stmt
  scope : Scope
abbrev FnE : Type := Option (Str × Str × Arguments × FuncBody × Scope × Addr × List Str × Addr)
def fnE (K : PySem.W.Frag) (f : Addr) : FnE := match K.lookup f with
  | some ⟨_, _, .func fd, _⟩ => some (fd.name, fd.qualname, fd.params, fd.body, fd.scope, fd.globals, fd.closure.map (·.1), fd.builtins)
  | _ => none
def ED.val (d : ED) : FnE := some ("__init__", d.qual, d.params, .stmts d.body, d.scope, mainGlobals, [("__class__" : Str)], builtinsNs)
abbrev ED.f (d : ED) (K : PySem.W.Frag) : Addr := ma K (ga K d.name) "__init__"
def ccOf (K : PySem.W.Frag) (f : Addr) : Addr := match K.lookup f with
  | some ⟨_, _, .func fd, _⟩ => (match fd.closure with
    | [(_, c)] => c
    | _ => 0)
  | _ => 0
def cdA (K : PySem.W.Frag) (f : Addr) : Addr := match K.lookup f with
  | some ⟨_, _, .func fd, _⟩ => (match fd.code with
    | .ref c => c
    | _ => 0)
  | _ => 0
abbrev ED.nf (d : ED) (K : PySem.W.Frag) : NF := ⟨"__init__", d.qual, d.params, d.body, d.scope, [(("__class__" : Str), ccOf K (d.f K))], cdA K (d.f K)⟩
def fileB (K : PySem.W.Frag) (c : Addr) (pf : Str) : Bool := match K.lookup c with
  | some ⟨_, _, .fields vs, _⟩ => (match (vs[2]? : Option Value) with
    | some (.str file _) => pf == file
    | _ => false)
  | _ => false
def cellB (K : PySem.W.Frag) (cc C : Addr) : Bool := match K.lookup cc with
  | some ⟨_, _, .cell (some (.ref D)), _⟩ => D == C
  | _ => false
def restB (K : PySem.W.Frag) (f : Addr) : Bool := match K.lookup f with
  | some ⟨_, _, .func fd, _⟩ => decide (fd.defaults = .none) && (decide (fd.kwdefaults = .none) && (fd.annotations.isNone && decide (fd.code = .ref (cdA K f))))
  | _ => false
def oexB (K : PySem.W.Frag) (C : Addr) : Bool := (match K.lookup C with
  | some ⟨.type "type", _, .cls cd, sl⟩ => (match cd.mro, sl.toList with
    | .ref C' :: bm, [_, _, _, _, some (.builtin n), _] => C' == C && (n == "ValueError.__new__" && (!cd.hasDel && (cd.hasDict && PySem.HandSPX.refsVE bm)))
    | _, _ => false)
  | _ => false) && (eqO (PySem.W.findIn K (.ref C) "__setattr__") (some (some (.builtin "object.__setattr__"))) && (decide (PySem.W.subIn K (.ref C) (.type "BaseException") = some true) && (decide (PySem.W.typeIn K (.ref C) = some (.type "type")) && PySem.W.keepIn K (.ref C))))
theorem oexB_ok {K : PySem.W.Frag} {C : Addr} (h : oexB K C = true) : OexC K C := by
  obtain ⟨h1, h⟩ := ba h
  obtain ⟨h2, h⟩ := ba h
  obtain ⟨h3, h⟩ := ba h
  obtain ⟨h4, h5⟩ := ba h
  refine ⟨?_, eqO_ok h2, of_decide_eq_true h3, of_decide_eq_true h4, h5⟩
  split at h1
  · rename_i dd cd sl ho
    split at h1
    · rename_i C' bm k0 k1 k2 k3 n k5 hm hs
      simp only [Bool.and_eq_true, beq_iff_eq, Bool.not_eq_true'] at h1
      obtain ⟨rfl, rfl, hdel, hdct, ht⟩ := h1
      obtain ⟨nm, bs, mro, ns, qn, hd, sn, sub, ab, col, del⟩ := cd
      dsimp only at hm hdel hdct
      subst hm hdel hdct
      have hsl : sl = #[k0, k1, k2, k3, some (.builtin "ValueError.__new__"), k5] := by
        obtain ⟨l⟩ := sl
        simp only at hs
        rw [hs]
      subst hsl
      exact ⟨nm, qn, ns, bs, bm, sn, sub, ab, col, dd, k0, k1, k2, k3, k5, ho, ht⟩
    · cases h1
  · cases h1
/-- what is decided of a class with an own __init__ -/
def supB (pf : Str) (K : PySem.W.Frag) (d : ED) : Bool :=
  eqO (PySem.W.findIn K (.ref (ga K d.name)) "__init__") (some (some (.ref (d.f K)))) && (decide (PySem.W.typeIn K (.ref (d.f K)) = some (.type "function")) && (restB K (d.f K) && (PySem.W.codeIn K (.ref (cdA K (d.f K))) d.qual && (fileB K (cdA K (d.f K)) pf && (cellB K (ccOf K (d.f K)) (ga K d.name) &&
    (eqO (PySem.W.nsIn K PySem.cStatics "thirdparty.any") (some none) && (decide (PySem.W.mroIn K (ga K d.name) (.ref (ga K d.name)) = some true) && (eqO (PySem.W.ks_superIn K (ga K d.name) (ga K d.name) "__init__") (some (some (.builtin "ValueError.__init__"))) && decide (PySem.W.subIn K (.ref (ga K d.name)) (.type "ValueError") = some true)))))))))
section
variable {P : Program} {K : PySem.W.Frag} {mg : Str → Option Value} {d : ED} {pf ar : Str}
theorem sup_ok (e : fnE K (d.f K) = d.val) (h : supB pf K d = true) (hx : oexB K (ga K d.name) = true) (hpf : (P.main.file : Str) = pf) (mgs : mg "super" = none)
    (ks : d.scope.names.lookup ("super" : Str) = some .globalImplicit) (kc : d.scope.names.lookup ("__class__" : Str) = some .free) (ka : d.scope.names.lookup ar = some .local)
    (hp : (d.params.posonlyargs ++ d.params.args).head?.map (·.arg) = some ar) (htop : (P.main.scope.names.lookup ("super" : Str)).isSome = false) : SupC P K mg (d.f K) (ga K d.name) (d.nf K) ar ∧ MkX K (ga K d.name) (d.f K) := by
  unfold supB at h
  obtain ⟨h1, h⟩ := ba h
  obtain ⟨h2, h⟩ := ba h
  obtain ⟨h3, h⟩ := ba h
  obtain ⟨h4, h⟩ := ba h
  obtain ⟨h5, h⟩ := ba h
  obtain ⟨h6, h⟩ := ba h
  obtain ⟨h7, h⟩ := ba h
  obtain ⟨h8, h⟩ := ba h
  obtain ⟨h9, h10⟩ := ba h
  refine ⟨⟨?_, h4, ?_, ?_, mgs, ks, kc, ka, hp, htop, eqO_ok h7, of_decide_eq_true h8, eqO_ok h9, of_decide_eq_true h10, oexB_ok hx⟩, ⟨oexB_ok hx, eqO_ok h1, of_decide_eq_true h2⟩⟩
  · show ∃ oc od doc pm ctv osl, K.lookup (d.f K) = some ⟨oc, od, .func (NF.fd ⟨"__init__", d.qual, d.params, d.body, d.scope, [(("__class__" : Str), ccOf K (d.f K))], cdA K (d.f K)⟩ doc pm ctv), osl⟩
    unfold fnE at e
    unfold restB at h3
    unfold ccOf
    cases q : K.lookup (d.f K) with
    | none => rw [q] at h3; cases h3
    | some o =>
      rw [q] at h3 e
      obtain ⟨oc, od, dt, osl⟩ := o
      cases dt with
      | func fd =>
        obtain ⟨r1, r⟩ := ba h3
        obtain ⟨r2, r⟩ := ba r
        obtain ⟨r3, r4⟩ := ba r
        have r1 := of_decide_eq_true r1
        have r2 := of_decide_eq_true r2
        have r4 := of_decide_eq_true r4
        have r3 : fd.annotations = none := by
          cases z : fd.annotations with
          | none => rfl
          | some _ => rw [z] at r3; cases r3
        have e := Option.some.inj e
        simp only [Prod.mk.injEq] at e
        obtain ⟨e1, e2, e3, e4, e5, e6, e7, e8⟩ := e
        dsimp only
        cases hcl : fd.closure with
        | nil => rw [hcl] at e7; cases e7
        | cons c1 r5 =>
          obtain ⟨cn, cc⟩ := c1
          rw [hcl] at e7
          cases r5 with
          | cons _ _ => cases e7
          | nil =>
            have e7 : cn = ("__class__" : Str) := by injection e7
            subst e7
            refine ⟨oc, od, fd.doc, fd.pyModule, fd.closureTuple, osl, ?_⟩
            congr 3
            obtain ⟨x1, x2, x3, x4, x5, x6, x7, x8, x9, x10, x11, x12, x13, x14, x15⟩ := fd
            dsimp only at *
            subst_vars
            rfl
      | _ => cases h3
  · unfold fileB at h5
    split at h5
    · rename_i oc od vs sl ho
      split at h5
      · rename_i file tf hv
        exact ⟨oc, od, vs, sl, file, tf, ho, hv, by rw [hpf]; exact h5⟩
      · cases h5
    · cases h5
  · unfold cellB at h6
    split at h6
    · rename_i oc od D sl ho
      have : D = ga K d.name := by simpa using h6
      subst this
      exact ⟨_, oc, od, sl, rfl, ho⟩
    · cases h6
end
end ZX
end
section
set_option Elab.async false
set_option linter.all false
set_option maxRecDepth 100000
set_option maxHeartbeats 2000000
/-! the look, and what it tells -/
namespace ZX
open PySem PySem.Spec PyProof.Rows L2 He YH Y
def cloA (g : Addr → Option Obj) (a : Addr) : List Addr := match g a with
  | some o => (match o.data with
    | .func fd => fd.closure.map (·.2)
    | _ => [])
  | none => []
def asE (g : Addr → Option Obj) (n : Nat) : List Addr := sysModules :: PySem.cStatics :: (asP g n ++ (asP g n).flatMap (cloA g))
structure SaysE (fa : List Fa) (fn : List DefD) (ts : List Tab) (ex : PySem.W.Frag → Bool) (eds : List ED) (w : World) (K : PySem.W.Frag) : Prop where
  t : SaysT fa fn ts w K
  more : ex K = true
  es : eds.map (fun d => fnE K (d.f K)) = eds.map ED.val
abbrev AlE : Type := AlT × (Bool × List FnE)
def obsE (n : Nat) (fa : List Fa) (fn : List DefD) (ts : List Tab) (ex : PySem.W.Frag → Bool) (eds : List ED) (g : Addr → Option Obj) : AlE := (obsT fa fn ts (frG g (asE g n)), (ex (frG g (asE g n)), eds.map fun d => fnE (frG g (asE g n)) (d.f (frG g (asE g n)))))
def hookE (n : Nat) (fa : List Fa) (fn : List DefD) (ts : List Tab) (ex : PySem.W.Frag → Bool) (eds : List ED) : PySem.W.Hook where
  α := AlE
  obs := fun s => obsE n fa fn ts ex eds s.heap.get?
  val := fun w => (valT fn ts w, (true, eds.map ED.val))
  says := fun w h => ∃ K : PySem.W.Frag, K.In h ∧ SaysE fa fn ts ex eds w K
  of := fun _ _ e => ⟨_, frG_in, ⟨congrArg (fun z : AlE => z.1) e, congrArg (fun z : AlE => z.2.1) e, congrArg (fun z : AlE => z.2.2) e⟩⟩
  keeps := fun _ _ _ ⟨K, hK, c⟩ k => ⟨K, PySem.W.Frag.In.keeps hK k, c⟩
theorem obsE_eq {n : Nat} {fa : List Fa} {fn : List DefD} {ts : List Tab} {ex : PySem.W.Frag → Bool} {eds : List ED} {g : Addr → Option Obj} {s : Shared} (h : ∀ a, g a = s.heap.get? a) : obsE n fa fn ts ex eds g = (hookE n fa fn ts ex eds).obs s := by
  have e : g = s.heap.get? := funext h
  rw [e]
  rfl
theorem SaysE.ed {fa : List Fa} {fn : List DefD} {ts : List Tab} {ex : PySem.W.Frag → Bool} {eds : List ED} {w : World} {K : PySem.W.Frag} (c : SaysE fa fn ts ex eds w K) (i : Nat) {d : ED} (h : eds[i]? = some d) : fnE K (d.f K) = d.val := by
  have e := congrArg (fun l => l[i]?) c.es
  simp only [List.getElem?_map, h, Option.map_some] at e
  exact Option.some.inj e
/-! checks -/
def exccB (K : PySem.W.Frag) (C : Addr) : Bool := eqO (PySem.W.findIn K (.ref C) "__getattribute__") (some (some (.builtin "BaseException.__getattribute__"))) && (eqO (PySem.W.findIn K (.ref C) "__getattr__") (some none) && (decide (PySem.W.subIn K (.ref C) (.type "BaseException") = some true) && (PySem.W.hasDictIn K C &&
  (eqO (PySem.W.findIn K (.ref C) "__class__") (some (some (.builtin "object.__class__"))) && (eqO (PySem.W.specialIn K (.builtin "object.__class__") "__get__") (some (some (.builtin "getset_descriptor.__get__"))) && (decide (PySem.W.takesIn K (.builtin "object.__class__") = some true) && decide (PySem.W.mroIn K C (.type "object") = some true)))))))
theorem exccB_ok {K : PySem.W.Frag} {C : Addr} (h : exccB K C = true) : ExcC K C := by
  unfold exccB at h
  obtain ⟨h1, h⟩ := ba h
  obtain ⟨h2, h⟩ := ba h
  obtain ⟨h3, h⟩ := ba h
  obtain ⟨h4, h⟩ := ba h
  obtain ⟨h5, h⟩ := ba h
  obtain ⟨h6, h⟩ := ba h
  obtain ⟨h7, h8⟩ := ba h
  exact ⟨eqO_ok h1, eqO_ok h2, of_decide_eq_true h3, h4, eqO_ok h5, eqO_ok h6, of_decide_eq_true h7, of_decide_eq_true h8⟩
/-- for each of the classes -/
def allC (n : Nat) (p : Nat → Bool) : Bool := (List.range n).all p
theorem allC_ok {n : Nat} {p : Nat → Bool} (h : allC n p = true) (ci : Nat) (hc : ci < n) : p ci = true := List.all_eq_true.mp h ci (List.mem_range.mpr hc)
def oneT (K : PySem.W.Frag) (cad : Nat → Addr) (n : Nat) (cv : Value) (B : List Bool) : Bool := allC n fun ci => decide (PySem.W.kitOne K (.ref (cad ci)) cv = some (B.getD ci false))
theorem oneT_ok {K : PySem.W.Frag} {cad : Nat → Addr} {n : Nat} {cv : Value} {B : List Bool} (h : oneT K cad n cv B = true) (hl : B.length = n) (ci : Nat) (b : Bool) (e : B[ci]? = some b) : PySem.W.kitOne K (.ref (cad ci)) cv = some b := by
  have hc := (List.getElem?_eq_some_iff.mp e).1
  have q := of_decide_eq_true (allC_ok h ci (by omega))
  rw [q]
  simp [List.getD, e]
def anyT (K : PySem.W.Frag) (cad : Nat → Addr) (n : Nat) (ws : List Value) (B : List Bool) : Bool := allC n fun ci => decide (PySem.W.kitAny K (.ref (cad ci)) ws = some (B.getD ci false))
theorem anyT_ok {K : PySem.W.Frag} {cad : Nat → Addr} {n : Nat} {ws : List Value} {B : List Bool} (h : anyT K cad n ws B = true) (hl : B.length = n) (ci : Nat) (b : Bool) (e : B[ci]? = some b) : PySem.W.kitAny K (.ref (cad ci)) ws = some b := by
  have hc := (List.getElem?_eq_some_iff.mp e).1
  have q := of_decide_eq_true (allC_ok h ci (by omega))
  rw [q]
  simp [List.getD, e]
def fldB (K : PySem.W.Frag) (C : Addr) (ns : List Str) : Bool := xfB K C && ns.all fun n => eqO (PySem.W.findIn K (.ref C) n) (some none)
theorem fldB_ok {K : PySem.W.Frag} {C : Addr} {ns : List Str} (h : fldB K C ns = true) : XfC K C ∧ ∀ n ∈ ns, PySem.W.findIn K (.ref C) n = some none :=
  let ⟨h1, h2⟩ := ba h; ⟨xfB_ok h1, fun n hn => eqO_ok (List.all_eq_true.mp h2 n hn)⟩
end ZX
end
section
set_option Elab.async false
set_option linter.all false
set_option maxRecDepth 100000
set_option maxHeartbeats 2000000
/-! classes with an __init__, packed -/
namespace Y
open PySem PySem.Spec L2 PyProof.Rows ZX L2H
structure XI1 (P : Program) (w : World) (K : PySem.W.Frag) (mg : Str → Option Value) (C : Addr) (n : Str) : Prop where
  ex : ∃ f fd, MkX K C f ∧ (∀ base k, YG.FnG P w K mg base (k + 1) f fd ["self", n] (spX1 C n)) ∧ BindX fd ["self", n] 1 [] ∧ BindX fd ["self", n] 1 [n]
structure XI2 (P : Program) (w : World) (K : PySem.W.Frag) (mg : Str → Option Value) (C : Addr) (n m : Str) : Prop where
  ex : ∃ f fd, MkX K C f ∧ (∀ base k, YG.FnG P w K mg base (k + 1) f fd ["self", n, m] (spX2 C n m)) ∧ BindX fd ["self", n, m] 2 [] ∧ BindX fd ["self", n, m] 2 [n, m]
theorem bindX_of {fd : FuncData} {ps ks : List Str} {n : Nat} (h : ∀ (us : List Value), us.length = n → ∀ a : Addr, bindArgs fd (if ks.isEmpty then ⟨.ref a :: us, []⟩ else ⟨[.ref a], ks.zip us⟩) = pure (ps.zip (.ref a :: us))) : BindX fd ps n ks := fun us hl s' a M A Q E q => by
  rw [h us hl a]
  exact wpAny_pure q
section
variable {W : Wd} {X : Cx} {ci : Nat} {n m x : Str} {k : Nat} {g : AF} {p pos pos2 : Pos} {e e2 : Expr} {kws : List Keyword}
theorem se_x1 (I : XI1 X.prog X.w X.K X.mg (W.cad ci) n) (hr : YG.RoomG (k + 2) X.A) (hg : Gl X x) (hm : X.mg x = some (.ref (W.cad ci))) (ha : SA W X [e] g)
    (hdb : (x == ("__debug__" : Str)) = false := by decide +kernel) (he : starEach [e] X.env = (false, eval e X.env) :: starEach [] X.env := by rfl) : SE W X (.Call (.Name x p) [e] [] pos) (mkx1 ci n g) := by
  obtain ⟨f, fd, M, F, b1, b2⟩ := I.ex
  exact se_mkx1 M (F X.base 0) (hr.mono (by omega)) b1 hg hm ha hdb he
theorem se_x1K (I : XI1 X.prog X.w X.K X.mg (W.cad ci) n) (hr : YG.RoomG (k + 2) X.A) (hg : Gl X x) (hm : X.mg x = some (.ref (W.cad ci))) (hkw : SK W X kws g)
    (hall : (backToKw pos (keywordEach kws X.env)).all (·.1.isSome) = true := by rfl) (hks : (backToKw pos (keywordEach kws X.env)).filterMap (·.1) = [n] := by rfl) (hdb : (x == ("__debug__" : Str)) = false := by decide +kernel)
    (hpl : ((backTo pos (starEach [] X.env)).any (·.1) || (backToKw pos (keywordEach kws X.env)).any (·.1.isNone)) = false := by rfl) : SE W X (.Call (.Name x p) [] kws pos) (mkx1 ci n g) := by
  obtain ⟨f, fd, M, F, b1, b2⟩ := I.ex
  exact se_mkx1K (ks := [n]) M (F X.base 0) (hr.mono (by omega)) rfl b2 hg hm hkw hall hks hdb hpl
theorem se_x2 (I : XI2 X.prog X.w X.K X.mg (W.cad ci) n m) (hr : YG.RoomG (k + 2) X.A) (hg : Gl X x) (hm : X.mg x = some (.ref (W.cad ci))) (ha : SA W X [e, e2] g)
    (hdb : (x == ("__debug__" : Str)) = false := by decide +kernel) (he : starEach [e, e2] X.env = (false, eval e X.env) :: starEach [e2] X.env := by rfl) (hpl : (backTo pos (starEach [e2] X.env)).any (·.1) = false := by rfl) : SE W X (.Call (.Name x p) [e, e2] [] pos) (mkx2 ci n m g) := by
  obtain ⟨f, fd, M, F, b1, b2⟩ := I.ex
  exact se_mkx2 M (F X.base 0) (hr.mono (by omega)) b1 hg hm ha hdb he hpl
theorem se_x2K (I : XI2 X.prog X.w X.K X.mg (W.cad ci) n m) (hr : YG.RoomG (k + 2) X.A) (hg : Gl X x) (hm : X.mg x = some (.ref (W.cad ci))) (hkw : SK W X kws g)
    (hall : (backToKw pos (keywordEach kws X.env)).all (·.1.isSome) = true := by rfl) (hks : (backToKw pos (keywordEach kws X.env)).filterMap (·.1) = [n, m] := by rfl) (hdb : (x == ("__debug__" : Str)) = false := by decide +kernel)
    (hpl : ((backTo pos (starEach [] X.env)).any (·.1) || (backToKw pos (keywordEach kws X.env)).any (·.1.isNone)) = false := by rfl) : SE W X (.Call (.Name x p) [] kws pos) (mkx2 ci n m g) := by
  obtain ⟨f, fd, M, F, b1, b2⟩ := I.ex
  exact se_mkx2K (ks := [n, m]) M (F X.base 0) (hr.mono (by omega)) rfl b2 hg hm hkw hall hks hdb hpl
theorem sx_1 (hc : X.calm = true) (I : XI1 X.prog X.w X.K X.mg (W.cad ci) n) (hr : YG.RoomG (k + 2) X.A) (hg : Gl X x) (hm : X.mg x = some (.ref (W.cad ci))) (ha : SA W X [e] g)
    (hdb : (x == ("__debug__" : Str)) = false := by decide +kernel) (he : starEach [e] X.env = (false, eval e X.env) :: starEach [] X.env := by rfl) : SXs W X [.Raise (some (.Call (.Name x p) [e] [] pos)) none pos2] (rX ci 1 g) := by
  obtain ⟨f, fd, M, F, b1, b2⟩ := I.ex
  exact sx_raise1 hc M (F X.base 0) (hr.mono (by omega)) b1 hg hm ha hdb he
theorem sx_1K (hc : X.calm = true) (I : XI1 X.prog X.w X.K X.mg (W.cad ci) n) (hr : YG.RoomG (k + 2) X.A) (hg : Gl X x) (hm : X.mg x = some (.ref (W.cad ci))) (hkw : SK W X kws g)
    (hall : (backToKw pos (keywordEach kws X.env)).all (·.1.isSome) = true := by rfl) (hks : (backToKw pos (keywordEach kws X.env)).filterMap (·.1) = [n] := by rfl) (hdb : (x == ("__debug__" : Str)) = false := by decide +kernel)
    (hpl : ((backTo pos (starEach [] X.env)).any (·.1) || (backToKw pos (keywordEach kws X.env)).any (·.1.isNone)) = false := by rfl) : SXs W X [.Raise (some (.Call (.Name x p) [] kws pos)) none pos2] (rX ci 1 g) := by
  obtain ⟨f, fd, M, F, b1, b2⟩ := I.ex
  exact sx_raise1K (ks := [n]) hc M (F X.base 0) (hr.mono (by omega)) rfl b2 hg hm hkw hall hks hdb hpl
theorem sx_2K (hc : X.calm = true) (I : XI2 X.prog X.w X.K X.mg (W.cad ci) n m) (hr : YG.RoomG (k + 2) X.A) (hg : Gl X x) (hm : X.mg x = some (.ref (W.cad ci))) (hkw : SK W X kws g)
    (hall : (backToKw pos (keywordEach kws X.env)).all (·.1.isSome) = true := by rfl) (hks : (backToKw pos (keywordEach kws X.env)).filterMap (·.1) = [n, m] := by rfl) (hdb : (x == ("__debug__" : Str)) = false := by decide +kernel)
    (hpl : ((backTo pos (starEach [] X.env)).any (·.1) || (backToKw pos (keywordEach kws X.env)).any (·.1.isNone)) = false := by rfl) : SXs W X [.Raise (some (.Call (.Name x p) [] kws pos)) none pos2] (rX ci 2 g) := by
  obtain ⟨f, fd, M, F, b1, b2⟩ := I.ex
  exact sx_raise2K (ks := [n, m]) hc M (F X.base 0) (hr.mono (by omega)) rfl b2 hg hm hkw hall hks hdb hpl
end
/-- a def that is never asked -/
theorem fnOkK {P : Program} {w : World} {W : Wd} {K : PySem.W.Frag} {mg : Str → Option Value} {base : Heap} {f : Addr} {fd : FuncData} {ps : List Str} (k : Nat) : YG.FnG P w K mg base k f fd ps (spY W K ps.length fun _ _ => .stuck) :=
  ⟨fun vs H Q E h => spY_len h, fun A outer s H args us vs Q E hr he hb hv h => by
    obtain ⟨φ, Z, ts, cs, S, r, hl, t, cs', e, _⟩ := h
    cases e⟩
theorem fnPK {P : Program} {w : World} {W : Wd} {K : PySem.W.Frag} {mg : Str → Option Value} {base : Heap} {f : Addr} {fd : FuncData} {ps : List Str} {p : Addr × Obj} (k : Nat) : FnP P w K mg base p k f fd ps (spY W K ps.length fun _ _ => .stuck) :=
  ⟨fun vs H Q E h => spY_len h, fun A outer s H args us vs Q E p _ hr he hb hv h => by
    obtain ⟨φ, Z, ts, cs, S, r, hl, t, cs', e, _⟩ := h
    cases e⟩
end Y
end
section
set_option Elab.async false
set_option linter.all false
set_option maxRecDepth 100000
set_option maxHeartbeats 1000000
namespace G
open PySem Y
variable {W : Wd} {cs : Cs}
theorem gv0 {t : T} {ρ : Rho} : getV (some t :: ρ) 0 cs = .ok t cs := rfl
theorem gv1 {x : Option T} {ρ : Rho} : getV (x :: ρ) 1 cs = getV ρ 0 cs := rfl
theorem gv2 {x : Option T} {ρ : Rho} : getV (x :: ρ) 2 cs = getV ρ 1 cs := rfl
theorem gv3 {x : Option T} {ρ : Rho} : getV (x :: ρ) 3 cs = getV ρ 2 cs := rfl
theorem gv4 {x : Option T} {ρ : Rho} : getV (x :: ρ) 4 cs = getV ρ 3 cs := rfl
theorem leave_same {x : PyData} {cs : Cs} : leaveT cs (.ok (.d x) cs) = .ok (.d x) cs := by
  unfold leaveT
  simp [isData]
theorem leave_len {c : Cs} {t : T} (h : c.length = cs.length) : leaveT cs (.ok t c) = .ok t c := by
  unfold leaveT
  dsimp only
  rw [List.take_of_length_le (Nat.le_of_eq h)]
  split <;> rfl
theorem leave_ref {n : Nat} {c : Cs} : leaveT cs (.ok (.ref n) c) = .ok (.ref n) c := by
  unfold leaveT
  simp [isData]
theorem seq_nx {a b : SF} {ρ ρ1 : Rho} {c c1 : Cs} (h : a ρ c = .nx ρ1 c1) : seqS a b ρ c = b ρ1 c1 := by
  unfold seqS
  rw [h]
theorem seq_rt {a b : SF} {ρ : Rho} {c c1 : Cs} {t : T} (h : a ρ c = .rt t c1) : seqS a b ρ c = .rt t c1 := by
  unfold seqS
  rw [h]
theorem ret_of {f : EF} {ρ : Rho} {c c1 : Cs} {t : T} (h : f ρ c = .ok t c1) : retS f ρ c = .rt t c1 := by
  unfold retS
  rw [h]
theorem set_of {f : EF} {i : Nat} {ρ : Rho} {c c1 : Cs} {t : T} (h : f ρ c = .ok t c1) : setS i f ρ c = .nx (ρ.set i (some t)) c1 := by
  unfold setS
  rw [h]
theorem fn_rt {N n : Nat} {body : SF} {ts : List T} {c c1 : Cs} {t : T} (hn : ts.length = n) (h : body (startR N ts) c = .rt t c1) : fnF N n body ts c = leaveT c (.ok t c1) := by
  unfold fnF
  rw [if_pos hn, h]
  rfl
theorem call1 {F : FF} {f : EF} {ρ : Rho} {c c1 : Cs} {t : T} (h : f ρ c = .ok t c1) : callE F [] (consA f nilA) ρ c = F [t] c1 := by
  unfold callE consA nilA
  rw [h]
  rfl
theorem call2 {F : FF} {f g : EF} {ρ : Rho} {c c1 c2 : Cs} {t u : T} (h : f ρ c = .ok t c1) (h2 : g ρ c1 = .ok u c2) : callE F [] (consA f (consA g nilA)) ρ c = F [t, u] c2 := by
  unfold callE consA
  rw [h]
  dsimp only [R.bind]
  rw [h2]
  rfl
theorem bin_of {op : BT} {f g : EF} {ρ : Rho} {c c1 c2 : Cs} {t u : T} {r : Y.R T} (h : f ρ c = .ok t c1) (h2 : g ρ c1 = .ok u c2) (h3 : op t u c2 = r) : bin op f g ρ c = r := by
  rw [← h3]
  unfold bin
  rw [h]
  dsimp only [R.bind]
  rw [h2]
theorem cons_of {f : EF} {g : AF} {ρ : Rho} {c c1 c2 : Cs} {t : T} {ts : List T} (h : f ρ c = .ok t c1) (h2 : g ρ c1 = .ok ts c2) : consA f g ρ c = .ok (t :: ts) c2 := by
  unfold consA
  rw [h]
  dsimp only [R.bind]
  rw [h2]
theorem nil_of {ρ : Rho} {c : Cs} : nilA ρ c = .ok [] c := rfl
theorem app_one {g : CT} {f : EF} {ρ : Rho} {c c1 : Cs} {t : T} (h1 : f ρ c = .ok t c1) : app g (consA f nilA) ρ c = g [t] c1 := by
  unfold app
  rw [cons_of h1 nil_of]
  rfl
theorem app_two {g : CT} {f h : EF} {ρ : Rho} {c c1 c2 : Cs} {t u : T} (h1 : f ρ c = .ok t c1) (h2 : h ρ c1 = .ok u c2) : app g (consA f (consA h nilA)) ρ c = g [t, u] c2 := by
  unfold app
  rw [cons_of h1 (cons_of h2 nil_of)]
  rfl
theorem tst_of {f : EF} {ρ : Rho} {c c1 : Cs} {b : Bool} (h : f ρ c = .ok (.d (.bool b)) c1) : tst f ρ c = .ok b c1 := by
  unfold tst
  rw [h]
  rfl
theorem val_of {f : EF} {ρ : Rho} {c c1 : Cs} {b : Bool} (h : f ρ c = .ok (.d (.bool b)) c1) : val f ρ c = .ok b c1 := by
  unfold val
  rw [h]
  rfl
theorem not_of {f : BF} {ρ : Rho} {c c1 : Cs} {b : Bool} (h : f ρ c = .ok b c1) : notB f ρ c = .ok (!b) c1 := by
  unfold notB
  rw [h]
  rfl
theorem or_ff {f g : BF} {ρ : Rho} {c c1 c2 : Cs} {b : Bool} (h : f ρ c = .ok false c1) (h2 : g ρ c1 = .ok b c2) : orB f g ρ c = .ok b c2 := by
  unfold orB
  rw [h]
  exact h2
theorem and_tt {f g : BF} {ρ : Rho} {c c1 c2 : Cs} {b : Bool} (h : f ρ c = .ok true c1) (h2 : g ρ c1 = .ok b c2) : andB f g ρ c = .ok b c2 := by
  unfold andB
  rw [h]
  exact h2
theorem and_ff {f g : BF} {ρ : Rho} {c c1 : Cs} (h : f ρ c = .ok false c1) : andB f g ρ c = .ok false c1 := by
  unfold andB
  rw [h]
  rfl
theorem if_ff {t : BF} {a b : SF} {ρ : Rho} {c c1 : Cs} (h : t ρ c = .ok false c1) : ifS t a b ρ c = b ρ c1 := by
  unfold ifS
  rw [h]
  rfl
theorem if_tt {t : BF} {a b : SF} {ρ : Rho} {c c1 : Cs} (h : t ρ c = .ok true c1) : ifS t a b ρ c = a ρ c1 := by
  unfold ifS
  rw [h]
  rfl
theorem ifE_tt {t : BF} {f g : EF} {ρ : Rho} {c c1 : Cs} (h : t ρ c = .ok true c1) : ifE t f g ρ c = f ρ c1 := by
  unfold ifE
  rw [h]
  rfl
theorem ifE_ff {t : BF} {f g : EF} {ρ : Rho} {c c1 : Cs} (h : t ρ c = .ok false c1) : ifE t f g ρ c = g ρ c1 := by
  unfold ifE
  rw [h]
  rfl
theorem andE_tt {f g : EF} {ρ : Rho} {c c1 : Cs} (h : f ρ c = .ok (.d (.bool true)) c1) : andE f g ρ c = g ρ c1 := by
  unfold andE
  rw [h]
  rfl
/-! isinstance -/
theorem isX0 {B : List Bool} {f : EF} {ρ : Rho} {c : Cs} {n ci : Nat} {fs : List (Str × T)} {b : Bool} (hf : f ρ c = .ok (.ref n) c) (hn : c[n]? = some (.exn ci fs)) (hb : B[ci]? = some b) : isX B f ρ c = .ok (.d (.bool b)) c := by
  unfold isX
  rw [hf]
  simp only [R.bind_ok, hn, hb]
theorem isH0 {B : List Bool} {f : EF} {ρ : Rho} {c : Cs} {a : Addr} {ci : Nat} {d : Option Addr} {b : Bool} (hf : f ρ c = .ok (.exc a ci d) c) (hb : B[ci]? = some b) : isH a ci d B f ρ c = .ok (.d (.bool b)) c := by
  unfold isH
  rw [hf]
  simp only [R.bind_ok, hb, and_self, if_true]
/-- bits in a row -/
theorem bits_of {g : AF} {ρ : Rho} {c : Cs} {bs : List Bool} (h : g ρ c = .ok (bs.map fun b => T.d (.bool b)) c) (hl : bs.length ≤ 100) : lstE g ρ c = .ok (.d (.list (bs.map .bool))) c := by
  have e : ∀ l : List Bool, allD (l.map fun b => T.d (.bool b)) = some (l.map .bool) := fun l => by
    induction l with
    | nil => rfl
    | cons x l ih => simp only [List.map_cons, allD, ih]
  unfold lstE
  rw [h]
  dsimp only [R.bind]
  rw [e]
  dsimp only
  rw [if_pos (by rw [List.length_map, sizeLine_eq]; omega)]
end G
end
section
set_option Elab.async false
set_option linter.all false
set_option maxRecDepth 100000
set_option maxHeartbeats 0
namespace G
open PySem PySem.Spec L2 Y ZX L2H
open PyProof.Rows (envOfC)
abbrev Lv := Nat → FF
def top (i : Nat) : Stmt := PySem.Challenge.pw_scaletongue_k01_errors_each_of_its_own.main.body.getD i (.Pass ⟨0, 0, 0, 0⟩)
def xok (ci : Nat) (n : Str) : Bool := decide (ci < 21) && decide (n ∈ (["given", "index", "row", "word", "reason"] : List Str))
abbrev BL_0 : List Bool := [true, true, true, true, true, true, true, true, true, true, true, true, true, true, true, true, true, true, true, true, true]
abbrev BL_1 : List Bool := [false, true, false, false, false, false, false, false, false, false, false, false, false, false, false, false, false, false, false, false, false]
abbrev BL_2 : List Bool := [false, false, true, false, false, false, false, false, false, false, false, false, false, false, false, false, false, false, false, false, false]
abbrev BL_3 : List Bool := [false, false, false, true, false, false, false, false, false, false, false, false, false, false, false, false, false, false, false, false, false]
abbrev BL_4 : List Bool := [false, false, false, false, true, false, false, false, false, false, false, false, false, false, false, false, false, false, false, false, false]
abbrev BL_5 : List Bool := [false, false, false, false, false, true, false, false, false, false, false, false, false, false, false, false, false, false, false, false, false]
abbrev BL_6 : List Bool := [false, false, false, false, false, false, true, false, false, false, false, false, false, false, false, false, false, false, false, false, false]
abbrev BL_7 : List Bool := [false, false, false, false, false, false, false, true, false, false, false, false, false, false, false, false, false, false, false, false, false]
abbrev BL_8 : List Bool := [false, false, false, false, false, false, false, false, true, false, false, false, false, false, false, false, false, false, false, false, false]
abbrev BL_9 : List Bool := [false, false, false, false, false, false, false, false, false, true, false, false, false, false, false, false, false, false, false, false, false]
abbrev BL_10 : List Bool := [false, false, false, false, false, false, false, false, false, false, true, false, false, false, false, false, false, false, false, false, false]
abbrev BL_11 : List Bool := [false, false, false, false, false, false, false, false, false, false, false, true, false, false, false, false, false, false, false, false, false]
abbrev BL_12 : List Bool := [false, false, false, false, false, false, false, false, false, false, false, false, true, false, false, false, false, false, false, false, false]
abbrev BL_13 : List Bool := [false, false, false, false, false, false, false, false, false, false, false, false, false, true, false, false, false, false, false, false, false]
abbrev BL_14 : List Bool := [false, false, false, false, false, false, false, false, false, false, false, false, false, false, true, false, false, false, false, false, false]
abbrev BL_15 : List Bool := [false, false, false, false, false, false, false, false, false, false, false, false, false, false, false, true, false, false, false, false, false]
abbrev BL_16 : List Bool := [false, false, false, false, false, false, false, false, false, false, false, false, false, false, false, false, true, false, false, false, false]
abbrev BL_17 : List Bool := [false, false, false, false, false, false, false, false, false, false, false, false, false, false, false, false, false, true, false, false, false]
abbrev BL_18 : List Bool := [false, false, false, false, false, false, false, false, false, false, false, false, false, false, false, false, false, false, true, false, false]
abbrev BL_19 : List Bool := [false, false, false, false, false, false, false, false, false, false, false, false, false, false, false, false, false, false, false, true, false]
abbrev BL_20 : List Bool := [false, false, false, false, false, false, false, false, false, false, false, false, false, false, false, false, false, false, false, false, true]
abbrev BL_V : List Bool := [true, true, true, true, true, true, true, true, true, true, true, true, true, true, true, true, true, true, true, true, true]
abbrev BL_T : List Bool := [false, false, false, false, false, false, false, false, false, false, false, false, false, false, false, false, false, false, false, false, false]
/-- what the suite tells -/
def rCaught (ci : Nat) (ρ : Rho) (cs : Cs) : R T := match ρ with
  | [some (.d (.int w)), some _, _] => if (w, ci) ∈ ([(0, 1), (1, 14), (2, 15), (3, 17), (4, 18)] : List (Int × Nat)) then .ok (.d (.bool true)) cs else .stuck
  | _ => .stuck
/-! 0: _law_purse -/
abbrev st_0 : Stmt := top 23
abbrev N_0 : List Str := ["cells", "at", "cell", "seed", "other"]
abbrev ps_0 : List Str := ["cells", "at"]
noncomputable def b_0 (W : Wd) (M : Lv) : SF := (seqS (setS 2 (ifE (tst (bin (inb fun i j => decide (i < j)) (fun ρ cs => getV ρ 1 cs) (app lenT (consA (fun ρ cs => getV ρ 0 cs) nilA)))) (bin (itemT W) (fun ρ cs => getV ρ 0 cs) (fun ρ cs => getV ρ 1 cs)) (fun _ cs => .ok (.d (.int (0))) cs))) (seqS (setS 3 (bin modT (app intT (consA (bin addT (bin addT (bin mulA (fun ρ cs => getV ρ 2 cs) (fun _ cs => .ok (.d (.int (19013))) cs)) (bin mulA (fun ρ cs => getV ρ 1 cs) (fun _ cs => .ok (.d (.int (83003))) cs))) (fun _ cs => .ok (.d (.int (907))) cs)) nilA)) (fun _ cs => .ok (.d (.int (2147483549))) cs))) (seqS (forS (seqI (ifE (tst (bin (inb fun i j => decide (j ≤ i)) (fun ρ cs => getV ρ 1 cs) (app lenT (consA (fun ρ cs => getV ρ 0 cs) nilA)))) (sliceE slcT (fun ρ cs => getV ρ 0 cs) noO (someO (fun _ cs => .ok (.d (.int (4))) cs))) (lstE nilA))) (.nm 4) (setS 3 (bin modT (app intT (consA (bin addT (bin mulA (fun ρ cs => getV ρ 3 cs) (fun _ cs => .ok (.d (.int (12007))) cs)) (fun ρ cs => getV ρ 4 cs)) nilA)) (fun _ cs => .ok (.d (.int (2147483549))) cs)))) (retS (lstC (consA (ifE (tst (bin (inb fun i j => decide (j ≤ i)) (app absT (consA (fun ρ cs => getV ρ 2 cs) nilA)) (bin powT (fun _ cs => .ok (.d (.int (10))) cs) (fun _ cs => .ok (.d (.int (18))) cs)))) (bin modT (app intT (consA (app absT (consA (fun ρ cs => getV ρ 2 cs) nilA)) nilA)) (bin mulA (bin mulA (bin powT (fun _ cs => .ok (.d (.int (10))) cs) (fun _ cs => .ok (.d (.int (64))) cs)) (bin powT (fun _ cs => .ok (.d (.int (10))) cs) (fun _ cs => .ok (.d (.int (64))) cs))) (bin powT (fun _ cs => .ok (.d (.int (10))) cs) (fun _ cs => .ok (.d (.int (64))) cs)))) (fun _ cs => .ok (.d (.int (0))) cs)) (consA (fun ρ cs => getV ρ 3 cs) (consA (fun _ cs => .ok (.d (.int (0))) cs) nilA))))))))
theorem fs_0 : FnScope N_0 ps_0 (defScope st_0) := ⟨rfl, rfl, rfl, by decide +kernel, rfl, by decide +kernel, by decide +kernel⟩
/-! 1: _law_take -/
abbrev st_1 : Stmt := top 24
abbrev N_1 : List Str := ["draws", "many", "figures", "seed", "turn"]
abbrev ps_1 : List Str := ["draws", "many"]
noncomputable def b_1 (W : Wd) (M : Lv) : SF := (seqS (asgG (tupG 3 (consG (patG (.nm 2)) (consG (patG (.nm 3)) (consG (patG (.nm 4)) nilG)))) (fun ρ cs => getV ρ 0 cs)) (seqS (asgG (subG (fun ρ cs => getV ρ 0 cs) (fun _ cs => .ok (.d (.int (1))) cs)) (bin modT (app intT (consA (bin addT (bin addT (bin mulA (fun ρ cs => getV ρ 3 cs) (bin addT (fun _ cs => .ok (.d (.int (81013))) cs) (bin mulA (fun _ cs => .ok (.d (.int (6))) cs) (fun ρ cs => getV ρ 4 cs)))) (bin mulA (fun _ cs => .ok (.d (.int (44017))) cs) (fun ρ cs => getV ρ 4 cs))) (fun _ cs => .ok (.d (.int (30211))) cs)) nilA)) (fun _ cs => .ok (.d (.int (2147483549))) cs))) (seqS (asgG (subG (fun ρ cs => getV ρ 0 cs) (fun _ cs => .ok (.d (.int (2))) cs)) (bin addT (fun ρ cs => getV ρ 4 cs) (fun _ cs => .ok (.d (.int (1))) cs))) (seqS (ifS (tst (bin (inb fun i j => decide (j < i)) (fun ρ cs => getV ρ 2 cs) (fun _ cs => .ok (.d (.int (0))) cs))) (seqS (asgG (subG (fun ρ cs => getV ρ 0 cs) (fun _ cs => .ok (.d (.int (0))) cs)) (bin fdivT (app intT (consA (fun ρ cs => getV ρ 2 cs) nilA)) (fun ρ cs => getV ρ 1 cs))) (retS (bin modT (app intT (consA (fun ρ cs => getV ρ 2 cs) nilA)) (fun ρ cs => getV ρ 1 cs)))) passS) (retS (bin modT (app intT (consA (bin fdivT (bin (itemT W) (fun ρ cs => getV ρ 0 cs) (fun _ cs => .ok (.d (.int (1))) cs)) (fun _ cs => .ok (.d (.int (128))) cs)) nilA)) (fun ρ cs => getV ρ 1 cs)))))))
theorem fs_1 : FnScope N_1 ps_1 (defScope st_1) := ⟨rfl, rfl, rfl, by decide +kernel, rfl, by decide +kernel, by decide +kernel⟩
/-! 2: _law_pick -/
abbrev st_2 : Stmt := top 25
abbrev N_2 : List Str := ["draws", "some"]
abbrev ps_2 : List Str := ["draws", "some"]
noncomputable def b_2 (W : Wd) (M : Lv) : SF := (retS (bin (itemT W) (fun ρ cs => getV ρ 1 cs) (callE (M 1) [] (consA (fun ρ cs => getV ρ 0 cs) (consA (app lenT (consA (fun ρ cs => getV ρ 1 cs) nilA)) nilA)))))
theorem fs_2 : FnScope N_2 ps_2 (defScope st_2) := ⟨rfl, rfl, rfl, by decide +kernel, rfl, by decide +kernel, by decide +kernel⟩
/-! 3: _law_given_ones -/
abbrev st_3 : Stmt := top 26
abbrev N_3 : List Str := ["thing"]
abbrev ps_3 : List Str := ["thing"]
noncomputable def b_3 (W : Wd) (M : Lv) : SF := (retS (lstC (consA (lstC (consA (fun _ cs => .ok (.d (.str "given")) cs) (consA (mkx1 1 "given" (consA (fun ρ cs => getV ρ 0 cs) nilA)) (consA (mkx1 1 "given" (consA (fun ρ cs => getV ρ 0 cs) nilA)) nilA)))) (consA (lstC (consA (fun _ cs => .ok (.d (.str "given")) cs) (consA (mkx1 2 "given" (consA (fun ρ cs => getV ρ 0 cs) nilA)) (consA (mkx1 2 "given" (consA (fun ρ cs => getV ρ 0 cs) nilA)) nilA)))) (consA (lstC (consA (fun _ cs => .ok (.d (.str "given")) cs) (consA (mkx1 3 "given" (consA (fun ρ cs => getV ρ 0 cs) nilA)) (consA (mkx1 3 "given" (consA (fun ρ cs => getV ρ 0 cs) nilA)) nilA)))) (consA (lstC (consA (fun _ cs => .ok (.d (.str "given")) cs) (consA (mkx1 4 "given" (consA (fun ρ cs => getV ρ 0 cs) nilA)) (consA (mkx1 4 "given" (consA (fun ρ cs => getV ρ 0 cs) nilA)) nilA)))) (consA (lstC (consA (fun _ cs => .ok (.d (.str "given")) cs) (consA (mkx1 5 "given" (consA (fun ρ cs => getV ρ 0 cs) nilA)) (consA (mkx1 5 "given" (consA (fun ρ cs => getV ρ 0 cs) nilA)) nilA)))) (consA (lstC (consA (fun _ cs => .ok (.d (.str "given")) cs) (consA (mkx1 6 "given" (consA (fun ρ cs => getV ρ 0 cs) nilA)) (consA (mkx1 6 "given" (consA (fun ρ cs => getV ρ 0 cs) nilA)) nilA)))) (consA (lstC (consA (fun _ cs => .ok (.d (.str "given")) cs) (consA (mkx1 7 "given" (consA (fun ρ cs => getV ρ 0 cs) nilA)) (consA (mkx1 7 "given" (consA (fun ρ cs => getV ρ 0 cs) nilA)) nilA)))) (consA (lstC (consA (fun _ cs => .ok (.d (.str "given")) cs) (consA (mkx1 8 "given" (consA (fun ρ cs => getV ρ 0 cs) nilA)) (consA (mkx1 8 "given" (consA (fun ρ cs => getV ρ 0 cs) nilA)) nilA)))) (consA (lstC (consA (fun _ cs => .ok (.d (.str "given")) cs) (consA (mkx1 9 "given" (consA (fun ρ cs => getV ρ 0 cs) nilA)) (consA (mkx1 9 "given" (consA (fun ρ cs => getV ρ 0 cs) nilA)) nilA)))) (consA (lstC (consA (fun _ cs => .ok (.d (.str "given")) cs) (consA (mkx1 10 "given" (consA (fun ρ cs => getV ρ 0 cs) nilA)) (consA (mkx1 10 "given" (consA (fun ρ cs => getV ρ 0 cs) nilA)) nilA)))) (consA (lstC (consA (fun _ cs => .ok (.d (.str "given")) cs) (consA (mkx1 11 "given" (consA (fun ρ cs => getV ρ 0 cs) nilA)) (consA (mkx1 11 "given" (consA (fun ρ cs => getV ρ 0 cs) nilA)) nilA)))) (consA (lstC (consA (fun _ cs => .ok (.d (.str "given")) cs) (consA (mkx1 12 "given" (consA (fun ρ cs => getV ρ 0 cs) nilA)) (consA (mkx1 12 "given" (consA (fun ρ cs => getV ρ 0 cs) nilA)) nilA)))) (consA (lstC (consA (fun _ cs => .ok (.d (.str "given")) cs) (consA (mkx1 13 "given" (consA (fun ρ cs => getV ρ 0 cs) nilA)) (consA (mkx1 13 "given" (consA (fun ρ cs => getV ρ 0 cs) nilA)) nilA)))) nilA)))))))))))))))
theorem fs_3 : FnScope N_3 ps_3 (defScope st_3) := ⟨rfl, rfl, rfl, by decide +kernel, rfl, by decide +kernel, by decide +kernel⟩
/-! 4: _law_index_ones -/
abbrev st_4 : Stmt := top 27
abbrev N_4 : List Str := ["thing"]
abbrev ps_4 : List Str := ["thing"]
noncomputable def b_4 (W : Wd) (M : Lv) : SF := (retS (lstC (consA (lstC (consA (fun _ cs => .ok (.d (.str "row")) cs) (consA (mkx2 14 "row" "word" (consA (fun ρ cs => getV ρ 0 cs) (consA (altE (lstE (consA (fun ρ cs => getV ρ 0 cs) nilA)) (lstC (consA (fun ρ cs => getV ρ 0 cs) nilA))) nilA))) (consA (mkx2 14 "row" "word" (consA (fun ρ cs => getV ρ 0 cs) (consA (altE (lstE (consA (fun ρ cs => getV ρ 0 cs) nilA)) (lstC (consA (fun ρ cs => getV ρ 0 cs) nilA))) nilA))) nilA)))) (consA (lstC (consA (fun _ cs => .ok (.d (.str "index")) cs) (consA (mkx1 15 "index" (consA (fun ρ cs => getV ρ 0 cs) nilA)) (consA (mkx1 15 "index" (consA (fun ρ cs => getV ρ 0 cs) nilA)) nilA)))) (consA (lstC (consA (fun _ cs => .ok (.d (.str "index")) cs) (consA (mkx1 16 "index" (consA (fun ρ cs => getV ρ 0 cs) nilA)) (consA (mkx1 16 "index" (consA (fun ρ cs => getV ρ 0 cs) nilA)) nilA)))) (consA (lstC (consA (fun _ cs => .ok (.d (.str "reason")) cs) (consA (mkx1 17 "reason" (consA (fun ρ cs => getV ρ 0 cs) nilA)) (consA (mkx1 17 "reason" (consA (fun ρ cs => getV ρ 0 cs) nilA)) nilA)))) (consA (lstC (consA (fun _ cs => .ok (.d (.str "")) cs) (consA (mkx0 18) (consA (mkx0 18) nilA)))) (consA (lstC (consA (fun _ cs => .ok (.d (.str "")) cs) (consA (mkx0 19) (consA (mkx0 19) nilA)))) (consA (lstC (consA (fun _ cs => .ok (.d (.str "")) cs) (consA (mkx0 20) (consA (mkx0 20) nilA)))) nilA)))))))))
theorem fs_4 : FnScope N_4 ps_4 (defScope st_4) := ⟨rfl, rfl, rfl, by decide +kernel, rfl, by decide +kernel, by decide +kernel⟩
/-! 5: _law_kinds -/
abbrev st_5 : Stmt := top 28
abbrev N_5 : List Str := ["e", "found"]
abbrev ps_5 : List Str := ["e"]
noncomputable def bH_5 (W : Wd) (a0 : Addr) (ci0 : Nat) (d0 : Option Addr) : SF := (seqS (setS 1 (lstE (consA (isH a0 ci0 d0 BL_1 (fun ρ cs => getV ρ 0 cs)) (consA (isH a0 ci0 d0 BL_2 (fun ρ cs => getV ρ 0 cs)) (consA (isH a0 ci0 d0 BL_3 (fun ρ cs => getV ρ 0 cs)) (consA (isH a0 ci0 d0 BL_4 (fun ρ cs => getV ρ 0 cs)) (consA (isH a0 ci0 d0 BL_5 (fun ρ cs => getV ρ 0 cs)) (consA (isH a0 ci0 d0 BL_6 (fun ρ cs => getV ρ 0 cs)) (consA (isH a0 ci0 d0 BL_7 (fun ρ cs => getV ρ 0 cs)) (consA (isH a0 ci0 d0 BL_8 (fun ρ cs => getV ρ 0 cs)) (consA (isH a0 ci0 d0 BL_9 (fun ρ cs => getV ρ 0 cs)) (consA (isH a0 ci0 d0 BL_10 (fun ρ cs => getV ρ 0 cs)) (consA (isH a0 ci0 d0 BL_11 (fun ρ cs => getV ρ 0 cs)) nilA))))))))))))) (retS (bin addT (fun ρ cs => getV ρ 1 cs) (lstE (consA (isH a0 ci0 d0 BL_12 (fun ρ cs => getV ρ 0 cs)) (consA (isH a0 ci0 d0 BL_13 (fun ρ cs => getV ρ 0 cs)) (consA (isH a0 ci0 d0 BL_14 (fun ρ cs => getV ρ 0 cs)) (consA (isH a0 ci0 d0 BL_15 (fun ρ cs => getV ρ 0 cs)) (consA (isH a0 ci0 d0 BL_16 (fun ρ cs => getV ρ 0 cs)) (consA (isH a0 ci0 d0 BL_17 (fun ρ cs => getV ρ 0 cs)) (consA (isH a0 ci0 d0 BL_18 (fun ρ cs => getV ρ 0 cs)) (consA (isH a0 ci0 d0 BL_19 (fun ρ cs => getV ρ 0 cs)) (consA (isH a0 ci0 d0 BL_20 (fun ρ cs => getV ρ 0 cs)) nilA)))))))))))))
noncomputable def fH_5 (W : Wd) (a0 : Addr) (ci0 : Nat) (d0 : Option Addr) : FF := fnF N_5.length ps_5.length (bH_5 W a0 ci0 d0)
noncomputable def b_5 (W : Wd) (M : Lv) : SF := (seqS (setS 1 (lstE (consA (isX BL_1 (fun ρ cs => getV ρ 0 cs)) (consA (isX BL_2 (fun ρ cs => getV ρ 0 cs)) (consA (isX BL_3 (fun ρ cs => getV ρ 0 cs)) (consA (isX BL_4 (fun ρ cs => getV ρ 0 cs)) (consA (isX BL_5 (fun ρ cs => getV ρ 0 cs)) (consA (isX BL_6 (fun ρ cs => getV ρ 0 cs)) (consA (isX BL_7 (fun ρ cs => getV ρ 0 cs)) (consA (isX BL_8 (fun ρ cs => getV ρ 0 cs)) (consA (isX BL_9 (fun ρ cs => getV ρ 0 cs)) (consA (isX BL_10 (fun ρ cs => getV ρ 0 cs)) (consA (isX BL_11 (fun ρ cs => getV ρ 0 cs)) nilA))))))))))))) (retS (bin addT (fun ρ cs => getV ρ 1 cs) (lstE (consA (isX BL_12 (fun ρ cs => getV ρ 0 cs)) (consA (isX BL_13 (fun ρ cs => getV ρ 0 cs)) (consA (isX BL_14 (fun ρ cs => getV ρ 0 cs)) (consA (isX BL_15 (fun ρ cs => getV ρ 0 cs)) (consA (isX BL_16 (fun ρ cs => getV ρ 0 cs)) (consA (isX BL_17 (fun ρ cs => getV ρ 0 cs)) (consA (isX BL_18 (fun ρ cs => getV ρ 0 cs)) (consA (isX BL_19 (fun ρ cs => getV ρ 0 cs)) (consA (isX BL_20 (fun ρ cs => getV ρ 0 cs)) nilA)))))))))))))
theorem fs_5 : FnScope N_5 ps_5 (defScope st_5) := ⟨rfl, rfl, rfl, by decide +kernel, rfl, by decide +kernel, by decide +kernel⟩
/-! 6: _law_kept -/
abbrev st_6 : Stmt := top 29
abbrev N_6 : List Str := ["word", "e"]
abbrev ps_6 : List Str := ["word", "e"]
noncomputable def b_6 (W : Wd) (M : Lv) : SF := (seqS (ifS (tst (bin eqT (fun ρ cs => getV ρ 0 cs) (fun _ cs => .ok (.d (.str "given")) cs))) (retS (fldX xok "given" (fun ρ cs => getV ρ 1 cs))) passS) (seqS (ifS (tst (bin eqT (fun ρ cs => getV ρ 0 cs) (fun _ cs => .ok (.d (.str "index")) cs))) (retS (fldX xok "index" (fun ρ cs => getV ρ 1 cs))) passS) (seqS (ifS (tst (bin eqT (fun ρ cs => getV ρ 0 cs) (fun _ cs => .ok (.d (.str "row")) cs))) (retS (ifE (tst (bin eqT (app reprX (consA (fldX xok "word" (fun ρ cs => getV ρ 1 cs)) nilA)) (app reprX (consA (lstE (consA (fldX xok "row" (fun ρ cs => getV ρ 1 cs)) nilA)) nilA)))) (fldX xok "row" (fun ρ cs => getV ρ 1 cs)) (fun _ cs => .ok (.d (.str "another word")) cs))) passS) (retS (ifE (tst (bin eqT (fun ρ cs => getV ρ 0 cs) (fun _ cs => .ok (.d (.str "reason")) cs))) (fldX xok "reason" (fun ρ cs => getV ρ 1 cs)) (fun _ cs => .ok (.d .none) cs))))))
theorem fs_6 : FnScope N_6 ps_6 (defScope st_6) := ⟨rfl, rfl, rfl, by decide +kernel, rfl, by decide +kernel, by decide +kernel⟩
/-! 7: _law_is_plain -/
abbrev st_7 : Stmt := top 30
abbrev N_7 : List Str := ["e"]
abbrev ps_7 : List Str := ["e"]
noncomputable def bH_7 (W : Wd) (a0 : Addr) (ci0 : Nat) (d0 : Option Addr) : SF := (seqS (ifS (orB (notB (val (isH a0 ci0 d0 BL_0 (fun ρ cs => getV ρ 0 cs)))) (notB (val (isH a0 ci0 d0 BL_V (fun ρ cs => getV ρ 0 cs))))) (retS (fun _ cs => .ok (.d (.bool false)) cs)) passS) (retS (notE (isH a0 ci0 d0 BL_T (fun ρ cs => getV ρ 0 cs)))))
noncomputable def fH_7 (W : Wd) (a0 : Addr) (ci0 : Nat) (d0 : Option Addr) : FF := fnF N_7.length ps_7.length (bH_7 W a0 ci0 d0)
noncomputable def b_7 (W : Wd) (M : Lv) : SF := (seqS (ifS (orB (notB (val (isX BL_0 (fun ρ cs => getV ρ 0 cs)))) (notB (val (isX BL_V (fun ρ cs => getV ρ 0 cs))))) (retS (fun _ cs => .ok (.d (.bool false)) cs)) passS) (retS (notE (isX BL_T (fun ρ cs => getV ρ 0 cs)))))
theorem fs_7 : FnScope N_7 ps_7 (defScope st_7) := ⟨rfl, rfl, rfl, by decide +kernel, rfl, by decide +kernel, by decide +kernel⟩
/-! 8: _law_is_caught -/
abbrev st_8 : Stmt := top 31
abbrev N_8 : List Str := ["way", "thing", "e"]
abbrev ps_8 : List Str := ["way", "thing"]
noncomputable def su_8 (W : Wd) (a : Addr) (ci : Nat) (d : Option Addr) : SF := (retS (andE (bin (itemT W) (callE (fH_5 W a ci d) [] (consA (fun ρ cs => getV ρ 2 cs) nilA)) (bin (itemT W) (tupE (consA (fun _ cs => .ok (.d (.int (0))) cs) (consA (fun _ cs => .ok (.d (.int (13))) cs) (consA (fun _ cs => .ok (.d (.int (14))) cs) (consA (fun _ cs => .ok (.d (.int (16))) cs) (consA (fun _ cs => .ok (.d (.int (17))) cs) nilA)))))) (fun ρ cs => getV ρ 0 cs))) (callE (fH_7 W a ci d) [] (consA (fun ρ cs => getV ρ 2 cs) nilA))))
noncomputable def b_8 (W : Wd) (M : Lv) : SF := (seqS (tryS 21 (ifX (tst (bin eqT (fun ρ cs => getV ρ 0 cs) (fun _ cs => .ok (.d (.int (0))) cs))) (rX 1 1 (consA (fun ρ cs => getV ρ 1 cs) nilA)) (ifX (tst (bin eqT (fun ρ cs => getV ρ 0 cs) (fun _ cs => .ok (.d (.int (1))) cs))) (rX 14 2 (consA (fun ρ cs => getV ρ 1 cs) (consA (fun _ cs => .ok (.d (.int (0))) cs) nilA))) (ifX (tst (bin eqT (fun ρ cs => getV ρ 0 cs) (fun _ cs => .ok (.d (.int (2))) cs))) (rX 15 1 (consA (fun ρ cs => getV ρ 1 cs) nilA)) (ifX (tst (bin eqT (fun ρ cs => getV ρ 0 cs) (fun _ cs => .ok (.d (.int (3))) cs))) (rX 17 1 (consA (fun ρ cs => getV ρ 1 cs) nilA)) (rX0 18))))) rCaught) (retS (fun _ cs => .ok (.d (.bool false)) cs)))
theorem fs_8 : FnScope N_8 ps_8 (defScope st_8) := ⟨rfl, rfl, rfl, by decide +kernel, rfl, by decide +kernel, by decide +kernel⟩
/-! 9: _law_right -/
abbrev st_9 : Stmt := top 32
abbrev N_9 : List Str := ["draws", "plain", "thing", "spot", "row", "made", "word", "one", "two", "e", "way", "at"]
abbrev ps_9 : List Str := ["draws"]
noncomputable def b_9 (W : Wd) (M : Lv) : SF := (seqS (ifS (orB (notB (val (callE (M 7) [] (consA (mkx0 0) nilA)))) (tst (bin (inT W) (fun _ cs => .ok (.d (.bool true)) cs) (callE (M 5) [] (consA (mkx0 0) nilA))))) (retS (fun _ cs => .ok (.d (.bool false)) cs)) passS) (seqS (setS 1 (tupE (consA (fun _ cs => .ok (.d .none) cs) (consA (fun _ cs => .ok (.d (.bool true)) cs) (consA (fun _ cs => .ok (.d (.bool false)) cs) (consA (fun _ cs => .ok (.d (.int (0))) cs) (consA (fun _ cs => .ok (.d (.int (1))) cs) (consA (un negT (fun _ cs => .ok (.d (.int (1))) cs)) (consA (bin powT (fun _ cs => .ok (.d (.int (10))) cs) (fun _ cs => .ok (.d (.int (29))) cs)) (consA (fun _ cs => .ok (.d (.str "")) cs) (consA (fun _ cs => .ok (.d (.str "a")) cs) (consA (tupE nilA) (consA (tupE (consA (fun _ cs => .ok (.d (.int (1))) cs) (consA (fun _ cs => .ok (.d (.str "good")) cs) nilA))) (consA (lstE nilA) (consA dicF (consA (tupE (consA (tupE (consA (fun _ cs => .ok (.d (.int (1))) cs) (consA (fun _ cs => .ok (.d (.str "a")) cs) nilA))) nilA)) (consA (tupE (consA (fun _ cs => .ok (.d (.bool true)) cs) (consA (fun _ cs => .ok (.d (.int (0))) cs) nilA))) nilA))))))))))))))))) (seqS (setS 2 (callE (M 2) [] (consA (fun ρ cs => getV ρ 0 cs) (consA (fun ρ cs => getV ρ 1 cs) nilA)))) (seqS (setS 2 (callE (M 2) [] (consA (fun ρ cs => getV ρ 0 cs) (consA (tupE (consA (fun ρ cs => getV ρ 2 cs) (consA (tupE (consA (fun ρ cs => getV ρ 2 cs) (consA (fun ρ cs => getV ρ 2 cs) nilA))) (consA (lstE (consA (fun ρ cs => getV ρ 2 cs) nilA)) (consA (fun _ cs => .ok (.d (.str "a text")) cs) (consA (un negT (fun _ cs => .ok (.d (.int (7))) cs)) (consA (tupE (consA (tupE nilA) (consA (tupE (consA (fun ρ cs => getV ρ 2 cs) nilA)) nilA))) nilA))))))) nilA)))) (seqS (setS 3 (fun _ cs => .ok (.d (.int (0))) cs)) (seqS (forS (seqI (bin addC (callE (M 3) [] (consA (fun ρ cs => getV ρ 2 cs) nilA)) (callE (M 4) [] (consA (fun ρ cs => getV ρ 2 cs) nilA)))) (.tp [(.nm 6), (.nm 7), (.nm 8)]) (seqS (forS (tupI (consA (fun ρ cs => getV ρ 7 cs) (consA (fun ρ cs => getV ρ 8 cs) nilA))) (.nm 9) (seqS (ifS (orB (tst (bin neT (callE (M 5) [] (consA (fun ρ cs => getV ρ 9 cs) nilA)) (lcE (rng1I (consA (fun _ cs => .ok (.d (.int (20))) cs) nilA)) [11] (.nm 11) yesB (bin eqT (fun ρ cs => getV ρ 11 cs) (fun ρ cs => getV ρ 3 cs))))) (notB (val (callE (M 7) [] (consA (fun ρ cs => getV ρ 9 cs) nilA))))) (retS (fun _ cs => .ok (.d (.bool false)) cs)) passS) (ifS (tst (bin neT (app reprX (consA (callE (M 6) [] (consA (fun ρ cs => getV ρ 6 cs) (consA (fun ρ cs => getV ρ 9 cs) nilA))) nilA)) (app reprX (consA (ifE (tst (bin neT (fun ρ cs => getV ρ 6 cs) (fun _ cs => .ok (.d (.str "")) cs))) (fun ρ cs => getV ρ 2 cs) (fun _ cs => .ok (.d .none) cs)) nilA)))) (retS (fun _ cs => .ok (.d (.bool false)) cs)) passS))) (setS 3 (bin addT (fun ρ cs => getV ρ 3 cs) (fun _ cs => .ok (.d (.int (1))) cs))))) (seqS (setS 4 (lstC (consA (callE (M 1) [] (consA (fun ρ cs => getV ρ 0 cs) (consA (fun _ cs => .ok (.d (.int (9))) cs) nilA))) nilA))) (seqS (setS 5 (bin addC (callE (M 3) [] (consA (fun ρ cs => getV ρ 4 cs) nilA)) (callE (M 4) [] (consA (fun ρ cs => getV ρ 4 cs) nilA)))) (seqS (expS (bmE isLst appendT (fun ρ cs => getV ρ 4 cs) (consA (callE (M 1) [] (consA (fun ρ cs => getV ρ 0 cs) (consA (fun _ cs => .ok (.d (.int (9))) cs) nilA))) nilA))) (seqS (forS (seqI (fun ρ cs => getV ρ 5 cs)) (.tp [(.nm 6), (.nm 7), (.nm 8)]) (ifS (andB (tst (bin (ninT W) (fun ρ cs => getV ρ 6 cs) (tupE (consA (fun _ cs => .ok (.d (.str "")) cs) (consA (fun _ cs => .ok (.d (.str "row")) cs) nilA))))) (orB (tst (bin neT (callE (M 6) [] (consA (fun ρ cs => getV ρ 6 cs) (consA (fun ρ cs => getV ρ 7 cs) nilA))) (fun ρ cs => getV ρ 4 cs))) (tst (bin neT (callE (M 6) [] (consA (fun ρ cs => getV ρ 6 cs) (consA (fun ρ cs => getV ρ 8 cs) nilA))) (fun ρ cs => getV ρ 4 cs))))) (retS (fun _ cs => .ok (.d (.bool false)) cs)) passS)) (retS (app allT (consA (lcE (rng1I (consA (fun _ cs => .ok (.d (.int (5))) cs) nilA)) [10] (.nm 10) yesB (bin isB (callE (M 8) [] (consA (fun ρ cs => getV ρ 10 cs) (consA (fun ρ cs => getV ρ 2 cs) nilA))) (fun _ cs => .ok (.d (.bool true)) cs))) nilA)))))))))))))
theorem fs_9 : FnScope N_9 ps_9 (defScope st_9) := ⟨rfl, rfl, rfl, by decide +kernel, rfl, by decide +kernel, by decide +kernel⟩
/-! 10: law -/
abbrev st_10 : Stmt := top 33
abbrev N_10 : List Str := ["cells", "at"]
abbrev ps_10 : List Str := ["cells"]
noncomputable def b_10 (W : Wd) (M : Lv) : SF := (retS (app allT (consA (lcE (rng1I (consA (app max2T (consA (fun _ cs => .ok (.d (.int (2))) cs) (consA (app min2T (consA (app lenT (consA (fun ρ cs => getV ρ 0 cs) nilA)) (consA (fun _ cs => .ok (.d (.int (3))) cs) nilA))) nilA))) nilA)) [1] (.nm 1) yesB (callE (M 9) [] (consA (callE (M 0) [] (consA (fun ρ cs => getV ρ 0 cs) (consA (fun ρ cs => getV ρ 1 cs) nilA))) nilA))) nilA)))
theorem fs_10 : FnScope N_10 ps_10 (defScope st_10) := ⟨rfl, rfl, rfl, by decide +kernel, rfl, by decide +kernel, by decide +kernel⟩
structure Txt (W : Wd) (P : Program) (w : World) (K : PySem.W.Frag) (mg : Str → Option Value) : Prop where
  G : WOk W K w
  m__law_purse : mg "_law_purse" = some (.ref (W.fad 0))
  m__law_take : mg "_law_take" = some (.ref (W.fad 1))
  m__law_pick : mg "_law_pick" = some (.ref (W.fad 2))
  m__law_given_ones : mg "_law_given_ones" = some (.ref (W.fad 3))
  m__law_index_ones : mg "_law_index_ones" = some (.ref (W.fad 4))
  m__law_kinds : mg "_law_kinds" = some (.ref (W.fad 5))
  m__law_kept : mg "_law_kept" = some (.ref (W.fad 6))
  m__law_is_plain : mg "_law_is_plain" = some (.ref (W.fad 7))
  m__law_is_caught : mg "_law_is_caught" = some (.ref (W.fad 8))
  m__law_right : mg "_law_right" = some (.ref (W.fad 9))
  m_law : mg "law" = some (.ref (W.fad 10))
  n_ArithmeticError : mg "ArithmeticError" = none
  n_AttributeError : mg "AttributeError" = none
  n_LookupError : mg "LookupError" = none
  n_RuntimeError : mg "RuntimeError" = none
  n_TypeError : mg "TypeError" = none
  n_ValueError : mg "ValueError" = none
  n_abs : mg "abs" = none
  n_all : mg "all" = none
  n_int : mg "int" = none
  n_isinstance : mg "isinstance" = none
  n_len : mg "len" = none
  n_max : mg "max" = none
  n_min : mg "min" = none
  n_range : mg "range" = none
  n_repr : mg "repr" = none
  xk_0 : mg "ScaleError" = some (.ref (W.cad 0))
  xk_1 : mg "InvalidText" = some (.ref (W.cad 1))
  xk_2 : mg "InvalidBook" = some (.ref (W.cad 2))
  xk_3 : mg "InvalidTree" = some (.ref (W.cad 3))
  xk_4 : mg "InvalidName" = some (.ref (W.cad 4))
  xk_5 : mg "InvalidNumber" = some (.ref (W.cad 5))
  xk_6 : mg "InvalidGiven" = some (.ref (W.cad 6))
  xk_7 : mg "InvalidCells" = some (.ref (W.cad 7))
  xk_8 : mg "InvalidSigns" = some (.ref (W.cad 8))
  xk_9 : mg "InvalidChange" = some (.ref (W.cad 9))
  xk_10 : mg "InvalidDemands" = some (.ref (W.cad 10))
  xk_11 : mg "InvalidCode" = some (.ref (W.cad 11))
  xk_12 : mg "InvalidLine" = some (.ref (W.cad 12))
  xk_13 : mg "NotADesk" = some (.ref (W.cad 13))
  xk_14 : mg "NotWellRead" = some (.ref (W.cad 14))
  xk_15 : mg "InvalidRows" = some (.ref (W.cad 15))
  xk_16 : mg "InvalidDeed" = some (.ref (W.cad 16))
  xk_17 : mg "Barred" = some (.ref (W.cad 17))
  xk_18 : mg "NothingToUndo" = some (.ref (W.cad 18))
  xk_19 : mg "NotLedOver" = some (.ref (W.cad 19))
  xk_20 : mg "TooGreat" = some (.ref (W.cad 20))
  xG : ∀ ci, ci < 21 → L2.ExcC K (W.cad ci)
  xO : XOk W K xok
  xC : ∀ ci, ci < 21 → PySem.W.exmOne K (.ref (W.cad ci)) (.ref (W.cad 0)) = some true
  xsm : ∃ o, K.lookup sysModules = some o
  xB_0 : ∀ ci b, BL_0[ci]? = some b → PySem.W.kitOne K (.ref (W.cad ci)) (.ref (W.cad 0)) = some b
  xB_1 : ∀ ci b, BL_1[ci]? = some b → PySem.W.kitOne K (.ref (W.cad ci)) (.ref (W.cad 1)) = some b
  xB_2 : ∀ ci b, BL_2[ci]? = some b → PySem.W.kitOne K (.ref (W.cad ci)) (.ref (W.cad 2)) = some b
  xB_3 : ∀ ci b, BL_3[ci]? = some b → PySem.W.kitOne K (.ref (W.cad ci)) (.ref (W.cad 3)) = some b
  xB_4 : ∀ ci b, BL_4[ci]? = some b → PySem.W.kitOne K (.ref (W.cad ci)) (.ref (W.cad 4)) = some b
  xB_5 : ∀ ci b, BL_5[ci]? = some b → PySem.W.kitOne K (.ref (W.cad ci)) (.ref (W.cad 5)) = some b
  xB_6 : ∀ ci b, BL_6[ci]? = some b → PySem.W.kitOne K (.ref (W.cad ci)) (.ref (W.cad 6)) = some b
  xB_7 : ∀ ci b, BL_7[ci]? = some b → PySem.W.kitOne K (.ref (W.cad ci)) (.ref (W.cad 7)) = some b
  xB_8 : ∀ ci b, BL_8[ci]? = some b → PySem.W.kitOne K (.ref (W.cad ci)) (.ref (W.cad 8)) = some b
  xB_9 : ∀ ci b, BL_9[ci]? = some b → PySem.W.kitOne K (.ref (W.cad ci)) (.ref (W.cad 9)) = some b
  xB_10 : ∀ ci b, BL_10[ci]? = some b → PySem.W.kitOne K (.ref (W.cad ci)) (.ref (W.cad 10)) = some b
  xB_11 : ∀ ci b, BL_11[ci]? = some b → PySem.W.kitOne K (.ref (W.cad ci)) (.ref (W.cad 11)) = some b
  xB_12 : ∀ ci b, BL_12[ci]? = some b → PySem.W.kitOne K (.ref (W.cad ci)) (.ref (W.cad 12)) = some b
  xB_13 : ∀ ci b, BL_13[ci]? = some b → PySem.W.kitOne K (.ref (W.cad ci)) (.ref (W.cad 13)) = some b
  xB_14 : ∀ ci b, BL_14[ci]? = some b → PySem.W.kitOne K (.ref (W.cad ci)) (.ref (W.cad 14)) = some b
  xB_15 : ∀ ci b, BL_15[ci]? = some b → PySem.W.kitOne K (.ref (W.cad ci)) (.ref (W.cad 15)) = some b
  xB_16 : ∀ ci b, BL_16[ci]? = some b → PySem.W.kitOne K (.ref (W.cad ci)) (.ref (W.cad 16)) = some b
  xB_17 : ∀ ci b, BL_17[ci]? = some b → PySem.W.kitOne K (.ref (W.cad ci)) (.ref (W.cad 17)) = some b
  xB_18 : ∀ ci b, BL_18[ci]? = some b → PySem.W.kitOne K (.ref (W.cad ci)) (.ref (W.cad 18)) = some b
  xB_19 : ∀ ci b, BL_19[ci]? = some b → PySem.W.kitOne K (.ref (W.cad ci)) (.ref (W.cad 19)) = some b
  xB_20 : ∀ ci b, BL_20[ci]? = some b → PySem.W.kitOne K (.ref (W.cad ci)) (.ref (W.cad 20)) = some b
  xV : ∀ ci b, BL_V[ci]? = some b → PySem.W.kitOne K (.ref (W.cad ci)) (.type "ValueError") = some b
  xT : ∀ ci b, BL_T[ci]? = some b → PySem.W.kitAny K (.ref (W.cad ci)) [.type "LookupError", .type "ArithmeticError", .type "TypeError", .type "AttributeError", .type "RuntimeError"] = some b
  xr : ∀ ci, ci < 21 → PySem.W.subIn K (.ref (W.cad ci)) (.type "BaseException") = some true ∧ PySem.W.typeIn K (.ref (W.cad ci)) = some (.type "type")
  xe_0 : PySem.W.excIn K (W.cad 0) He.veBase "ValueError.__new__" = true ∧ PySem.W.keepIn K (.ref (W.cad 0)) = true
  x_1 : XI1 P w K mg (W.cad 1) "given"
  x_2 : XI1 P w K mg (W.cad 2) "given"
  x_3 : XI1 P w K mg (W.cad 3) "given"
  x_4 : XI1 P w K mg (W.cad 4) "given"
  x_5 : XI1 P w K mg (W.cad 5) "given"
  x_6 : XI1 P w K mg (W.cad 6) "given"
  x_7 : XI1 P w K mg (W.cad 7) "given"
  x_8 : XI1 P w K mg (W.cad 8) "given"
  x_9 : XI1 P w K mg (W.cad 9) "given"
  x_10 : XI1 P w K mg (W.cad 10) "given"
  x_11 : XI1 P w K mg (W.cad 11) "given"
  x_12 : XI1 P w K mg (W.cad 12) "given"
  x_13 : XI1 P w K mg (W.cad 13) "given"
  x_14 : XI2 P w K mg (W.cad 14) "row" "word"
  x_15 : XI1 P w K mg (W.cad 15) "index"
  x_16 : XI1 P w K mg (W.cad 16) "index"
  x_17 : XI1 P w K mg (W.cad 17) "reason"
  xe_18 : PySem.W.excIn K (W.cad 18) He.veBase "ValueError.__new__" = true ∧ PySem.W.keepIn K (.ref (W.cad 18)) = true
  xe_19 : PySem.W.excIn K (W.cad 19) He.veBase "ValueError.__new__" = true ∧ PySem.W.keepIn K (.ref (W.cad 19)) = true
  xe_20 : PySem.W.excIn K (W.cad 20) He.veBase "ValueError.__new__" = true ∧ PySem.W.keepIn K (.ref (W.cad 20)) = true
structure Fds (W : Wd) (K : PySem.W.Frag) : Prop where
  f_0 : ∃ fd, FunD K "_law_purse" "_law_purse" (defArgs st_0) (defBody st_0) (defScope st_0) [] [] (W.fad 0) fd
  f_1 : ∃ fd, FunD K "_law_take" "_law_take" (defArgs st_1) (defBody st_1) (defScope st_1) [] [] (W.fad 1) fd
  f_2 : ∃ fd, FunD K "_law_pick" "_law_pick" (defArgs st_2) (defBody st_2) (defScope st_2) [] [] (W.fad 2) fd
  f_3 : ∃ fd, FunD K "_law_given_ones" "_law_given_ones" (defArgs st_3) (defBody st_3) (defScope st_3) [] [] (W.fad 3) fd
  f_4 : ∃ fd, FunD K "_law_index_ones" "_law_index_ones" (defArgs st_4) (defBody st_4) (defScope st_4) [] [] (W.fad 4) fd
  f_5 : ∃ fd, FunD K "_law_kinds" "_law_kinds" (defArgs st_5) (defBody st_5) (defScope st_5) [] [] (W.fad 5) fd
  f_6 : ∃ fd, FunD K "_law_kept" "_law_kept" (defArgs st_6) (defBody st_6) (defScope st_6) [] [] (W.fad 6) fd
  f_7 : ∃ fd, FunD K "_law_is_plain" "_law_is_plain" (defArgs st_7) (defBody st_7) (defScope st_7) [] [] (W.fad 7) fd
  f_8 : ∃ fd, FunD K "_law_is_caught" "_law_is_caught" (defArgs st_8) (defBody st_8) (defScope st_8) [] [] (W.fad 8) fd
  f_9 : ∃ fd, FunD K "_law_right" "_law_right" (defArgs st_9) (defBody st_9) (defScope st_9) [] [] (W.fad 9) fd
  f_10 : ∃ fd, FunD K "law" "law" (defArgs st_10) (defBody st_10) (defScope st_10) [] [] (W.fad 10) fd
structure Lvl (W : Wd) (P : Program) (w : World) (K : PySem.W.Frag) (mg : Str → Option Value) (base : Heap) (k : Nat) (M : Lv) : Prop where
  d_0 : DefOk W P w K mg base (k + 2) 0 ps_0 [] (M 0)
  d_1 : DefOk W P w K mg base (k + 2) 1 ps_1 [] (M 1)
  d_2 : DefOk W P w K mg base (k + 2) 2 ps_2 [] (M 2)
  d_3 : DefOk W P w K mg base (k + 2) 3 ps_3 [] (M 3)
  d_4 : DefOk W P w K mg base (k + 2) 4 ps_4 [] (M 4)
  d_5 : DefOk W P w K mg base (k + 2) 5 ps_5 [] (M 5)
  d_6 : DefOk W P w K mg base (k + 2) 6 ps_6 [] (M 6)
  d_7 : DefOk W P w K mg base (k + 2) 7 ps_7 [] (M 7)
  d_8 : DefOk W P w K mg base (k + 2) 8 ps_8 [] (M 8)
  d_9 : DefOk W P w K mg base (k + 2) 9 ps_9 [] (M 9)
  d_10 : DefOk W P w K mg base (k + 2) 10 ps_10 [] (M 10)
section
variable {W : Wd} {P : Program} {w : World} {K : PySem.W.Frag} {mg : Str → Option Value} {base : Heap} {k : Nat} {M : Lv}
theorem bd_0 {f : Addr} {fd : FuncData} (F : FunD K "_law_purse" "_law_purse" (defArgs st_0) (defBody st_0) (defScope st_0) [] [] f fd) : L2.Binds K fd ps_0 [] := F.bindsN fun _ _ _ _ _ _ us hl => match us, hl with | [_, _], _ => rfl
theorem bd_1 {f : Addr} {fd : FuncData} (F : FunD K "_law_take" "_law_take" (defArgs st_1) (defBody st_1) (defScope st_1) [] [] f fd) : L2.Binds K fd ps_1 [] := F.bindsN fun _ _ _ _ _ _ us hl => match us, hl with | [_, _], _ => rfl
theorem bd_2 {f : Addr} {fd : FuncData} (F : FunD K "_law_pick" "_law_pick" (defArgs st_2) (defBody st_2) (defScope st_2) [] [] f fd) : L2.Binds K fd ps_2 [] := F.bindsN fun _ _ _ _ _ _ us hl => match us, hl with | [_, _], _ => rfl
theorem bd_3 {f : Addr} {fd : FuncData} (F : FunD K "_law_given_ones" "_law_given_ones" (defArgs st_3) (defBody st_3) (defScope st_3) [] [] f fd) : L2.Binds K fd ps_3 [] := F.bindsN fun _ _ _ _ _ _ us hl => match us, hl with | [_], _ => rfl
theorem bd_4 {f : Addr} {fd : FuncData} (F : FunD K "_law_index_ones" "_law_index_ones" (defArgs st_4) (defBody st_4) (defScope st_4) [] [] f fd) : L2.Binds K fd ps_4 [] := F.bindsN fun _ _ _ _ _ _ us hl => match us, hl with | [_], _ => rfl
theorem bd_5 {f : Addr} {fd : FuncData} (F : FunD K "_law_kinds" "_law_kinds" (defArgs st_5) (defBody st_5) (defScope st_5) [] [] f fd) : L2.Binds K fd ps_5 [] := F.bindsN fun _ _ _ _ _ _ us hl => match us, hl with | [_], _ => rfl
theorem bd_6 {f : Addr} {fd : FuncData} (F : FunD K "_law_kept" "_law_kept" (defArgs st_6) (defBody st_6) (defScope st_6) [] [] f fd) : L2.Binds K fd ps_6 [] := F.bindsN fun _ _ _ _ _ _ us hl => match us, hl with | [_, _], _ => rfl
theorem bd_7 {f : Addr} {fd : FuncData} (F : FunD K "_law_is_plain" "_law_is_plain" (defArgs st_7) (defBody st_7) (defScope st_7) [] [] f fd) : L2.Binds K fd ps_7 [] := F.bindsN fun _ _ _ _ _ _ us hl => match us, hl with | [_], _ => rfl
theorem bd_8 {f : Addr} {fd : FuncData} (F : FunD K "_law_is_caught" "_law_is_caught" (defArgs st_8) (defBody st_8) (defScope st_8) [] [] f fd) : L2.Binds K fd ps_8 [] := F.bindsN fun _ _ _ _ _ _ us hl => match us, hl with | [_, _], _ => rfl
theorem bd_9 {f : Addr} {fd : FuncData} (F : FunD K "_law_right" "_law_right" (defArgs st_9) (defBody st_9) (defScope st_9) [] [] f fd) : L2.Binds K fd ps_9 [] := F.bindsN fun _ _ _ _ _ _ us hl => match us, hl with | [_], _ => rfl
theorem bd_10 {f : Addr} {fd : FuncData} (F : FunD K "law" "law" (defArgs st_10) (defBody st_10) (defScope st_10) [] [] f fd) : L2.Binds K fd ps_10 [] := F.bindsN fun _ _ _ _ _ _ us hl => match us, hl with | [_], _ => rfl
theorem okH_5 (T : Txt W P w K mg) {a0 : Addr} {ci0 : Nat} {d0 : Option Addr} {oe : Obj} (hci : ci0 < 21) (hz1 : oe.cls = .ref (W.cad ci0)) (hz2 : oe.dict = d0) (hz3 : ∃ vs, oe.data = .fields vs) (f : Addr) (cdv : Value) (A : Around) (outer : List Env) (s : Shared) (H : Hp) (E : XK) :
    SSs W (cxH CX0 P w K mg base N_5 "_law_kinds" (defScope st_5) f cdv A outer s H E (a0, oe)).nox (defBody st_5) (bH_5 W a0 ci0 d0) := by
  unfold bH_5
  have hP : Pin (cxH CX0 P w K mg base N_5 "_law_kinds" (defScope st_5) f cdv A outer s H E (a0, oe)).nox a0 (W.cad ci0) d0 := ⟨oe, List.mem_cons_self, hz1, hz2, hz3⟩
  exact (sss_cons (ss_set (i := 1) fs_5.nd rfl (by first | exact Or.inl rfl | exact Or.inr rfl) (se_lst (sa_cons (se_isH hP (T.xG ci0 hci) (T.xB_1 ci0) (.own _) (by rfl) T.n_isinstance (pa_cons (se_name (i := 0) rfl (by first | exact Or.inl rfl | exact Or.inr (Or.inl rfl) | exact Or.inr (Or.inr rfl))) (pa_cons (pe_glob (v := .ref (W.cad 1)) (by rfl) T.xk_1 rfl) pa_nil))) (sa_cons (se_isH hP (T.xG ci0 hci) (T.xB_2 ci0) (.own _) (by rfl) T.n_isinstance (pa_cons (se_name (i := 0) rfl (by first | exact Or.inl rfl | exact Or.inr (Or.inl rfl) | exact Or.inr (Or.inr rfl))) (pa_cons (pe_glob (v := .ref (W.cad 2)) (by rfl) T.xk_2 rfl) pa_nil))) (sa_cons (se_isH hP (T.xG ci0 hci) (T.xB_3 ci0) (.own _) (by rfl) T.n_isinstance (pa_cons (se_name (i := 0) rfl (by first | exact Or.inl rfl | exact Or.inr (Or.inl rfl) | exact Or.inr (Or.inr rfl))) (pa_cons (pe_glob (v := .ref (W.cad 3)) (by rfl) T.xk_3 rfl) pa_nil))) (sa_cons (se_isH hP (T.xG ci0 hci) (T.xB_4 ci0) (.own _) (by rfl) T.n_isinstance (pa_cons (se_name (i := 0) rfl (by first | exact Or.inl rfl | exact Or.inr (Or.inl rfl) | exact Or.inr (Or.inr rfl))) (pa_cons (pe_glob (v := .ref (W.cad 4)) (by rfl) T.xk_4 rfl) pa_nil))) (sa_cons (se_isH hP (T.xG ci0 hci) (T.xB_5 ci0) (.own _) (by rfl) T.n_isinstance (pa_cons (se_name (i := 0) rfl (by first | exact Or.inl rfl | exact Or.inr (Or.inl rfl) | exact Or.inr (Or.inr rfl))) (pa_cons (pe_glob (v := .ref (W.cad 5)) (by rfl) T.xk_5 rfl) pa_nil))) (sa_cons (se_isH hP (T.xG ci0 hci) (T.xB_6 ci0) (.own _) (by rfl) T.n_isinstance (pa_cons (se_name (i := 0) rfl (by first | exact Or.inl rfl | exact Or.inr (Or.inl rfl) | exact Or.inr (Or.inr rfl))) (pa_cons (pe_glob (v := .ref (W.cad 6)) (by rfl) T.xk_6 rfl) pa_nil))) (sa_cons (se_isH hP (T.xG ci0 hci) (T.xB_7 ci0) (.own _) (by rfl) T.n_isinstance (pa_cons (se_name (i := 0) rfl (by first | exact Or.inl rfl | exact Or.inr (Or.inl rfl) | exact Or.inr (Or.inr rfl))) (pa_cons (pe_glob (v := .ref (W.cad 7)) (by rfl) T.xk_7 rfl) pa_nil))) (sa_cons (se_isH hP (T.xG ci0 hci) (T.xB_8 ci0) (.own _) (by rfl) T.n_isinstance (pa_cons (se_name (i := 0) rfl (by first | exact Or.inl rfl | exact Or.inr (Or.inl rfl) | exact Or.inr (Or.inr rfl))) (pa_cons (pe_glob (v := .ref (W.cad 8)) (by rfl) T.xk_8 rfl) pa_nil))) (sa_cons (se_isH hP (T.xG ci0 hci) (T.xB_9 ci0) (.own _) (by rfl) T.n_isinstance (pa_cons (se_name (i := 0) rfl (by first | exact Or.inl rfl | exact Or.inr (Or.inl rfl) | exact Or.inr (Or.inr rfl))) (pa_cons (pe_glob (v := .ref (W.cad 9)) (by rfl) T.xk_9 rfl) pa_nil))) (sa_cons (se_isH hP (T.xG ci0 hci) (T.xB_10 ci0) (.own _) (by rfl) T.n_isinstance (pa_cons (se_name (i := 0) rfl (by first | exact Or.inl rfl | exact Or.inr (Or.inl rfl) | exact Or.inr (Or.inr rfl))) (pa_cons (pe_glob (v := .ref (W.cad 10)) (by rfl) T.xk_10 rfl) pa_nil))) (sa_cons (se_isH hP (T.xG ci0 hci) (T.xB_11 ci0) (.own _) (by rfl) T.n_isinstance (pa_cons (se_name (i := 0) rfl (by first | exact Or.inl rfl | exact Or.inr (Or.inl rfl) | exact Or.inr (Or.inr rfl))) (pa_cons (pe_glob (v := .ref (W.cad 11)) (by rfl) T.xk_11 rfl) pa_nil))) sa_nil)))))))))))))
    (sss_one (ss_ret (se_bin op_addY ok_add (se_name (i := 1) rfl (by first | exact Or.inl rfl | exact Or.inr (Or.inl rfl) | exact Or.inr (Or.inr rfl))) (se_lst (sa_cons (se_isH hP (T.xG ci0 hci) (T.xB_12 ci0) (.own _) (by rfl) T.n_isinstance (pa_cons (se_name (i := 0) rfl (by first | exact Or.inl rfl | exact Or.inr (Or.inl rfl) | exact Or.inr (Or.inr rfl))) (pa_cons (pe_glob (v := .ref (W.cad 12)) (by rfl) T.xk_12 rfl) pa_nil))) (sa_cons (se_isH hP (T.xG ci0 hci) (T.xB_13 ci0) (.own _) (by rfl) T.n_isinstance (pa_cons (se_name (i := 0) rfl (by first | exact Or.inl rfl | exact Or.inr (Or.inl rfl) | exact Or.inr (Or.inr rfl))) (pa_cons (pe_glob (v := .ref (W.cad 13)) (by rfl) T.xk_13 rfl) pa_nil))) (sa_cons (se_isH hP (T.xG ci0 hci) (T.xB_14 ci0) (.own _) (by rfl) T.n_isinstance (pa_cons (se_name (i := 0) rfl (by first | exact Or.inl rfl | exact Or.inr (Or.inl rfl) | exact Or.inr (Or.inr rfl))) (pa_cons (pe_glob (v := .ref (W.cad 14)) (by rfl) T.xk_14 rfl) pa_nil))) (sa_cons (se_isH hP (T.xG ci0 hci) (T.xB_15 ci0) (.own _) (by rfl) T.n_isinstance (pa_cons (se_name (i := 0) rfl (by first | exact Or.inl rfl | exact Or.inr (Or.inl rfl) | exact Or.inr (Or.inr rfl))) (pa_cons (pe_glob (v := .ref (W.cad 15)) (by rfl) T.xk_15 rfl) pa_nil))) (sa_cons (se_isH hP (T.xG ci0 hci) (T.xB_16 ci0) (.own _) (by rfl) T.n_isinstance (pa_cons (se_name (i := 0) rfl (by first | exact Or.inl rfl | exact Or.inr (Or.inl rfl) | exact Or.inr (Or.inr rfl))) (pa_cons (pe_glob (v := .ref (W.cad 16)) (by rfl) T.xk_16 rfl) pa_nil))) (sa_cons (se_isH hP (T.xG ci0 hci) (T.xB_17 ci0) (.own _) (by rfl) T.n_isinstance (pa_cons (se_name (i := 0) rfl (by first | exact Or.inl rfl | exact Or.inr (Or.inl rfl) | exact Or.inr (Or.inr rfl))) (pa_cons (pe_glob (v := .ref (W.cad 17)) (by rfl) T.xk_17 rfl) pa_nil))) (sa_cons (se_isH hP (T.xG ci0 hci) (T.xB_18 ci0) (.own _) (by rfl) T.n_isinstance (pa_cons (se_name (i := 0) rfl (by first | exact Or.inl rfl | exact Or.inr (Or.inl rfl) | exact Or.inr (Or.inr rfl))) (pa_cons (pe_glob (v := .ref (W.cad 18)) (by rfl) T.xk_18 rfl) pa_nil))) (sa_cons (se_isH hP (T.xG ci0 hci) (T.xB_19 ci0) (.own _) (by rfl) T.n_isinstance (pa_cons (se_name (i := 0) rfl (by first | exact Or.inl rfl | exact Or.inr (Or.inl rfl) | exact Or.inr (Or.inr rfl))) (pa_cons (pe_glob (v := .ref (W.cad 19)) (by rfl) T.xk_19 rfl) pa_nil))) (sa_cons (se_isH hP (T.xG ci0 hci) (T.xB_20 ci0) (.own _) (by rfl) T.n_isinstance (pa_cons (se_name (i := 0) rfl (by first | exact Or.inl rfl | exact Or.inr (Or.inl rfl) | exact Or.inr (Or.inr rfl))) (pa_cons (pe_glob (v := .ref (W.cad 20)) (by rfl) T.xk_20 rfl) pa_nil))) sa_nil))))))))))))))
theorem okH_7 (T : Txt W P w K mg) {a0 : Addr} {ci0 : Nat} {d0 : Option Addr} {oe : Obj} (hci : ci0 < 21) (hz1 : oe.cls = .ref (W.cad ci0)) (hz2 : oe.dict = d0) (hz3 : ∃ vs, oe.data = .fields vs) (f : Addr) (cdv : Value) (A : Around) (outer : List Env) (s : Shared) (H : Hp) (E : XK) :
    SSs W (cxH CX0 P w K mg base N_7 "_law_is_plain" (defScope st_7) f cdv A outer s H E (a0, oe)).nox (defBody st_7) (bH_7 W a0 ci0 d0) := by
  unfold bH_7
  have hP : Pin (cxH CX0 P w K mg base N_7 "_law_is_plain" (defScope st_7) f cdv A outer s H E (a0, oe)).nox a0 (W.cad ci0) d0 := ⟨oe, List.mem_cons_self, hz1, hz2, hz3⟩
  exact (sss_cons (ss_if (SW.sb (sw_or (sb_not (sb_val (se_isH hP (T.xG ci0 hci) (T.xB_0 ci0) (.own _) (by rfl) T.n_isinstance (pa_cons (se_name (i := 0) rfl (by first | exact Or.inl rfl | exact Or.inr (Or.inl rfl) | exact Or.inr (Or.inr rfl))) (pa_cons (pe_glob (v := .ref (W.cad 0)) (by rfl) T.xk_0 rfl) pa_nil))))) (sw_or1 (sb_not (sb_val (se_isH hP (T.xG ci0 hci) (T.xV ci0) (.ty _) (by rfl) T.n_isinstance (pa_cons (se_name (i := 0) rfl (by first | exact Or.inl rfl | exact Or.inr (Or.inl rfl) | exact Or.inr (Or.inr rfl))) (pa_cons (pe_bltn (v := .ty "ValueError") (by rfl) T.n_ValueError (by decide +kernel) rfl) pa_nil)))))))) (sss_one (ss_ret se_bool)) sss_nil)
    (sss_one (ss_ret (se_not (se_isHT hP (T.xG ci0 hci) (T.xT ci0) (.cons (.ty _) (.cons (.ty _) (.cons (.ty _) (.cons (.ty _) (.cons (.ty _) (.nil)))))) (by decide) (by rfl) T.n_isinstance (fun _ _ _ q => q) (pa_cons (se_name (i := 0) rfl (by first | exact Or.inl rfl | exact Or.inr (Or.inl rfl) | exact Or.inr (Or.inr rfl))) (pa_cons (pe_tup (pa_cons (pe_bltn (v := .ty "LookupError") (by rfl) T.n_LookupError (by decide +kernel) rfl) (pa_cons (pe_bltn (v := .ty "ArithmeticError") (by rfl) T.n_ArithmeticError (by decide +kernel) rfl) (pa_cons (pe_bltn (v := .ty "TypeError") (by rfl) T.n_TypeError (by decide +kernel) rfl) (pa_cons (pe_bltn (v := .ty "AttributeError") (by rfl) T.n_AttributeError (by decide +kernel) rfl) (pa_cons (pe_bltn (v := .ty "RuntimeError") (by rfl) T.n_RuntimeError (by decide +kernel) rfl) pa_nil)))))) pa_nil)))))))
theorem ok_0 (T : Txt W P w K mg) (FF : Fds W K) (D : Lvl W P w K mg base k M) (f : Addr) (cdv : Value) (A : Around) (outer : List Env) (s : Shared) (H : Hp) (E : XK) (hr : YG.RoomG (k + 2) (A.deeper (envOfC "_law_purse" (defScope st_0) s.heap.objs.size f cdv))) :
    SSs W (cxOf CX0 P w K mg base N_0 "_law_purse" (defScope st_0) f cdv A outer s H E).nox (defBody st_0) (b_0 W M) := by
  unfold b_0
  exact (sss_cons (ss_set (i := 2) fs_0.nd rfl (by first | exact Or.inl rfl | exact Or.inr rfl) (se_if (sb_cmp op_lt ok_inb (se_name (i := 1) rfl (by first | exact Or.inl rfl | exact Or.inr (Or.inl rfl) | exact Or.inr (Or.inr rfl))) (se_callB ok_len call_len (by rfl) T.n_len (by decide +kernel) (sa_cons (se_name (i := 0) rfl (by first | exact Or.inl rfl | exact Or.inr (Or.inl rfl) | exact Or.inr (Or.inr rfl))) sa_nil)) (nomark _)) (se_item T.G hr.u1 (se_name (i := 0) rfl (by first | exact Or.inl rfl | exact Or.inr (Or.inl rfl) | exact Or.inr (Or.inr rfl))) (se_name (i := 1) rfl (by first | exact Or.inl rfl | exact Or.inr (Or.inl rfl) | exact Or.inr (Or.inr rfl)))) se_int))
    (sss_cons (ss_set (i := 3) fs_0.nd rfl (by first | exact Or.inl rfl | exact Or.inr rfl) (se_bin op_modY ok_iniC (se_callTy ok_int call_intY (by rfl) T.n_int (by decide +kernel) (sa_cons (se_bin op_addY ok_add (se_bin op_addY ok_add (se_bin op_mulA ok_mul (se_name (i := 2) rfl (by first | exact Or.inl rfl | exact Or.inr (Or.inl rfl) | exact Or.inr (Or.inr rfl))) se_int) (se_bin op_mulA ok_mul (se_name (i := 1) rfl (by first | exact Or.inl rfl | exact Or.inr (Or.inl rfl) | exact Or.inr (Or.inr rfl))) se_int)) se_int) sa_nil)) se_int))
    (sss_cons (ss_for rfl (si_seq (se_if (sb_cmp op_ge ok_inb (se_name (i := 1) rfl (by first | exact Or.inl rfl | exact Or.inr (Or.inl rfl) | exact Or.inr (Or.inr rfl))) (se_callB ok_len call_len (by rfl) T.n_len (by decide +kernel) (sa_cons (se_name (i := 0) rfl (by first | exact Or.inl rfl | exact Or.inr (Or.inl rfl) | exact Or.inr (Or.inr rfl))) sa_nil)) (nomark _)) (se_slice ok_slc (se_name (i := 0) rfl (by first | exact Or.inl rfl | exact Or.inr (Or.inl rfl) | exact Or.inr (Or.inr rfl))) so_none (so_some se_int)) (se_lst sa_nil))) (sg_name (i := 4) fs_0.nd rfl (by first | exact Or.inl rfl | exact Or.inr rfl)) (sss_one (ss_set (i := 3) fs_0.nd rfl (by first | exact Or.inl rfl | exact Or.inr rfl) (se_bin op_modY ok_iniC (se_callTy ok_int call_intY (by rfl) T.n_int (by decide +kernel) (sa_cons (se_bin op_addY ok_add (se_bin op_mulA ok_mul (se_name (i := 3) rfl (by first | exact Or.inl rfl | exact Or.inr (Or.inl rfl) | exact Or.inr (Or.inr rfl))) se_int) (se_name (i := 4) rfl (by first | exact Or.inl rfl | exact Or.inr (Or.inl rfl) | exact Or.inr (Or.inr rfl)))) sa_nil)) se_int))))
    (sss_one (ss_ret (se_lstC (sa_cons (se_if (sb_cmp op_ge ok_inb (se_callB ok_abs call_abs (by rfl) T.n_abs (by decide +kernel) (sa_cons (se_name (i := 2) rfl (by first | exact Or.inl rfl | exact Or.inr (Or.inl rfl) | exact Or.inr (Or.inr rfl))) sa_nil)) (se_bin op_powY ok_iniC se_int se_int) (nomark _)) (se_bin op_modY ok_iniC (se_callTy ok_int call_intY (by rfl) T.n_int (by decide +kernel) (sa_cons (se_callB ok_abs call_abs (by rfl) T.n_abs (by decide +kernel) (sa_cons (se_name (i := 2) rfl (by first | exact Or.inl rfl | exact Or.inr (Or.inl rfl) | exact Or.inr (Or.inr rfl))) sa_nil)) sa_nil)) (se_bin op_mulA ok_mul (se_bin op_mulA ok_mul (se_bin op_powY ok_iniC se_int se_int) (se_bin op_powY ok_iniC se_int se_int)) (se_bin op_powY ok_iniC se_int se_int))) se_int) (sa_cons (se_name (i := 3) rfl (by first | exact Or.inl rfl | exact Or.inr (Or.inl rfl) | exact Or.inr (Or.inr rfl))) (sa_cons se_int sa_nil)))))))))
theorem ok_1 (T : Txt W P w K mg) (FF : Fds W K) (D : Lvl W P w K mg base k M) (f : Addr) (cdv : Value) (A : Around) (outer : List Env) (s : Shared) (H : Hp) (E : XK) (hr : YG.RoomG (k + 2) (A.deeper (envOfC "_law_take" (defScope st_1) s.heap.objs.size f cdv))) :
    SSs W (cxOf CX0 P w K mg base N_1 "_law_take" (defScope st_1) f cdv A outer s H E).nox (defBody st_1) (b_1 W M) := by
  unfold b_1
  exact (sss_cons (ss_asgG (se_name (i := 0) rfl (by first | exact Or.inl rfl | exact Or.inr (Or.inl rfl) | exact Or.inr (Or.inr rfl))) (sgg_tup rfl (sggs_cons (sgg_pat (sg_name (i := 2) fs_1.nd rfl (by first | exact Or.inl rfl | exact Or.inr rfl))) (sggs_cons (sgg_pat (sg_name (i := 3) fs_1.nd rfl (by first | exact Or.inl rfl | exact Or.inr rfl))) (sggs_cons (sgg_pat (sg_name (i := 4) fs_1.nd rfl (by first | exact Or.inl rfl | exact Or.inr rfl))) sggs_nil)))))
    (sss_cons (ss_asgG (se_bin op_modY ok_iniC (se_callTy ok_int call_intY (by rfl) T.n_int (by decide +kernel) (sa_cons (se_bin op_addY ok_add (se_bin op_addY ok_add (se_bin op_mulA ok_mul (se_name (i := 3) rfl (by first | exact Or.inl rfl | exact Or.inr (Or.inl rfl) | exact Or.inr (Or.inr rfl))) (se_bin op_addY ok_add se_int (se_bin op_mulA ok_mul se_int (se_name (i := 4) rfl (by first | exact Or.inl rfl | exact Or.inr (Or.inl rfl) | exact Or.inr (Or.inr rfl)))))) (se_bin op_mulA ok_mul se_int (se_name (i := 4) rfl (by first | exact Or.inl rfl | exact Or.inr (Or.inl rfl) | exact Or.inr (Or.inr rfl))))) se_int) sa_nil)) se_int) (sgg_sub hr.u1 (se_name (i := 0) rfl (by first | exact Or.inl rfl | exact Or.inr (Or.inl rfl) | exact Or.inr (Or.inr rfl))) se_int))
    (sss_cons (ss_asgG (se_bin op_addY ok_add (se_name (i := 4) rfl (by first | exact Or.inl rfl | exact Or.inr (Or.inl rfl) | exact Or.inr (Or.inr rfl))) se_int) (sgg_sub hr.u1 (se_name (i := 0) rfl (by first | exact Or.inl rfl | exact Or.inr (Or.inl rfl) | exact Or.inr (Or.inr rfl))) se_int))
    (sss_cons (ss_if (sb_cmp op_gt ok_inb (se_name (i := 2) rfl (by first | exact Or.inl rfl | exact Or.inr (Or.inl rfl) | exact Or.inr (Or.inr rfl))) se_int (nomark _)) (sss_cons (ss_asgG (se_bin op_fdivY ok_iniC (se_callTy ok_int call_intY (by rfl) T.n_int (by decide +kernel) (sa_cons (se_name (i := 2) rfl (by first | exact Or.inl rfl | exact Or.inr (Or.inl rfl) | exact Or.inr (Or.inr rfl))) sa_nil)) (se_name (i := 1) rfl (by first | exact Or.inl rfl | exact Or.inr (Or.inl rfl) | exact Or.inr (Or.inr rfl)))) (sgg_sub hr.u1 (se_name (i := 0) rfl (by first | exact Or.inl rfl | exact Or.inr (Or.inl rfl) | exact Or.inr (Or.inr rfl))) se_int))
    (sss_one (ss_ret (se_bin op_modY ok_iniC (se_callTy ok_int call_intY (by rfl) T.n_int (by decide +kernel) (sa_cons (se_name (i := 2) rfl (by first | exact Or.inl rfl | exact Or.inr (Or.inl rfl) | exact Or.inr (Or.inr rfl))) sa_nil)) (se_name (i := 1) rfl (by first | exact Or.inl rfl | exact Or.inr (Or.inl rfl) | exact Or.inr (Or.inr rfl))))))) sss_nil)
    (sss_one (ss_ret (se_bin op_modY ok_iniC (se_callTy ok_int call_intY (by rfl) T.n_int (by decide +kernel) (sa_cons (se_bin op_fdivY ok_iniC (se_item T.G hr.u1 (se_name (i := 0) rfl (by first | exact Or.inl rfl | exact Or.inr (Or.inl rfl) | exact Or.inr (Or.inr rfl))) se_int) se_int) sa_nil)) (se_name (i := 1) rfl (by first | exact Or.inl rfl | exact Or.inr (Or.inl rfl) | exact Or.inr (Or.inr rfl))))))))))
theorem ok_2 (T : Txt W P w K mg) (FF : Fds W K) (D : Lvl W P w K mg base k M) (f : Addr) (cdv : Value) (A : Around) (outer : List Env) (s : Shared) (H : Hp) (E : XK) (hr : YG.RoomG (k + 2) (A.deeper (envOfC "_law_pick" (defScope st_2) s.heap.objs.size f cdv))) :
    SSs W (cxOf CX0 P w K mg base N_2 "_law_pick" (defScope st_2) f cdv A outer s H E).nox (defBody st_2) (b_2 W M) := by
  unfold b_2
  exact (sss_one (ss_ret (se_item T.G hr.u1 (se_name (i := 1) rfl (by first | exact Or.inl rfl | exact Or.inr (Or.inl rfl) | exact Or.inr (Or.inr rfl))) (se_callD D.d_1 hr (by rfl) T.m__law_take (sa_cons (se_name (i := 0) rfl (by first | exact Or.inl rfl | exact Or.inr (Or.inl rfl) | exact Or.inr (Or.inr rfl))) (sa_cons (se_callB ok_len call_len (by rfl) T.n_len (by decide +kernel) (sa_cons (se_name (i := 1) rfl (by first | exact Or.inl rfl | exact Or.inr (Or.inl rfl) | exact Or.inr (Or.inr rfl))) sa_nil)) sa_nil))))))
theorem ok_3 (T : Txt W P w K mg) (FF : Fds W K) (D : Lvl W P w K mg base k M) (f : Addr) (cdv : Value) (A : Around) (outer : List Env) (s : Shared) (H : Hp) (E : XK) (hr : YG.RoomG (k + 2) (A.deeper (envOfC "_law_given_ones" (defScope st_3) s.heap.objs.size f cdv))) :
    SSs W (cxOf CX0 P w K mg base N_3 "_law_given_ones" (defScope st_3) f cdv A outer s H E).nox (defBody st_3) (b_3 W M) := by
  unfold b_3
  exact (sss_one (ss_ret (se_lstC (sa_cons (se_lstC (sa_cons se_str (sa_cons (se_x1 T.x_1 hr (by rfl) T.xk_1 (sa_cons (se_name (i := 0) rfl (by first | exact Or.inl rfl | exact Or.inr (Or.inl rfl) | exact Or.inr (Or.inr rfl))) sa_nil)) (sa_cons (se_x1K T.x_1 hr (by rfl) T.xk_1 (sk_cons (se_name (i := 0) rfl (by first | exact Or.inl rfl | exact Or.inr (Or.inl rfl) | exact Or.inr (Or.inr rfl))) sk_nil)) sa_nil)))) (sa_cons (se_lstC (sa_cons se_str (sa_cons (se_x1 T.x_2 hr (by rfl) T.xk_2 (sa_cons (se_name (i := 0) rfl (by first | exact Or.inl rfl | exact Or.inr (Or.inl rfl) | exact Or.inr (Or.inr rfl))) sa_nil)) (sa_cons (se_x1K T.x_2 hr (by rfl) T.xk_2 (sk_cons (se_name (i := 0) rfl (by first | exact Or.inl rfl | exact Or.inr (Or.inl rfl) | exact Or.inr (Or.inr rfl))) sk_nil)) sa_nil)))) (sa_cons (se_lstC (sa_cons se_str (sa_cons (se_x1 T.x_3 hr (by rfl) T.xk_3 (sa_cons (se_name (i := 0) rfl (by first | exact Or.inl rfl | exact Or.inr (Or.inl rfl) | exact Or.inr (Or.inr rfl))) sa_nil)) (sa_cons (se_x1K T.x_3 hr (by rfl) T.xk_3 (sk_cons (se_name (i := 0) rfl (by first | exact Or.inl rfl | exact Or.inr (Or.inl rfl) | exact Or.inr (Or.inr rfl))) sk_nil)) sa_nil)))) (sa_cons (se_lstC (sa_cons se_str (sa_cons (se_x1 T.x_4 hr (by rfl) T.xk_4 (sa_cons (se_name (i := 0) rfl (by first | exact Or.inl rfl | exact Or.inr (Or.inl rfl) | exact Or.inr (Or.inr rfl))) sa_nil)) (sa_cons (se_x1K T.x_4 hr (by rfl) T.xk_4 (sk_cons (se_name (i := 0) rfl (by first | exact Or.inl rfl | exact Or.inr (Or.inl rfl) | exact Or.inr (Or.inr rfl))) sk_nil)) sa_nil)))) (sa_cons (se_lstC (sa_cons se_str (sa_cons (se_x1 T.x_5 hr (by rfl) T.xk_5 (sa_cons (se_name (i := 0) rfl (by first | exact Or.inl rfl | exact Or.inr (Or.inl rfl) | exact Or.inr (Or.inr rfl))) sa_nil)) (sa_cons (se_x1K T.x_5 hr (by rfl) T.xk_5 (sk_cons (se_name (i := 0) rfl (by first | exact Or.inl rfl | exact Or.inr (Or.inl rfl) | exact Or.inr (Or.inr rfl))) sk_nil)) sa_nil)))) (sa_cons (se_lstC (sa_cons se_str (sa_cons (se_x1 T.x_6 hr (by rfl) T.xk_6 (sa_cons (se_name (i := 0) rfl (by first | exact Or.inl rfl | exact Or.inr (Or.inl rfl) | exact Or.inr (Or.inr rfl))) sa_nil)) (sa_cons (se_x1K T.x_6 hr (by rfl) T.xk_6 (sk_cons (se_name (i := 0) rfl (by first | exact Or.inl rfl | exact Or.inr (Or.inl rfl) | exact Or.inr (Or.inr rfl))) sk_nil)) sa_nil)))) (sa_cons (se_lstC (sa_cons se_str (sa_cons (se_x1 T.x_7 hr (by rfl) T.xk_7 (sa_cons (se_name (i := 0) rfl (by first | exact Or.inl rfl | exact Or.inr (Or.inl rfl) | exact Or.inr (Or.inr rfl))) sa_nil)) (sa_cons (se_x1K T.x_7 hr (by rfl) T.xk_7 (sk_cons (se_name (i := 0) rfl (by first | exact Or.inl rfl | exact Or.inr (Or.inl rfl) | exact Or.inr (Or.inr rfl))) sk_nil)) sa_nil)))) (sa_cons (se_lstC (sa_cons se_str (sa_cons (se_x1 T.x_8 hr (by rfl) T.xk_8 (sa_cons (se_name (i := 0) rfl (by first | exact Or.inl rfl | exact Or.inr (Or.inl rfl) | exact Or.inr (Or.inr rfl))) sa_nil)) (sa_cons (se_x1K T.x_8 hr (by rfl) T.xk_8 (sk_cons (se_name (i := 0) rfl (by first | exact Or.inl rfl | exact Or.inr (Or.inl rfl) | exact Or.inr (Or.inr rfl))) sk_nil)) sa_nil)))) (sa_cons (se_lstC (sa_cons se_str (sa_cons (se_x1 T.x_9 hr (by rfl) T.xk_9 (sa_cons (se_name (i := 0) rfl (by first | exact Or.inl rfl | exact Or.inr (Or.inl rfl) | exact Or.inr (Or.inr rfl))) sa_nil)) (sa_cons (se_x1K T.x_9 hr (by rfl) T.xk_9 (sk_cons (se_name (i := 0) rfl (by first | exact Or.inl rfl | exact Or.inr (Or.inl rfl) | exact Or.inr (Or.inr rfl))) sk_nil)) sa_nil)))) (sa_cons (se_lstC (sa_cons se_str (sa_cons (se_x1 T.x_10 hr (by rfl) T.xk_10 (sa_cons (se_name (i := 0) rfl (by first | exact Or.inl rfl | exact Or.inr (Or.inl rfl) | exact Or.inr (Or.inr rfl))) sa_nil)) (sa_cons (se_x1K T.x_10 hr (by rfl) T.xk_10 (sk_cons (se_name (i := 0) rfl (by first | exact Or.inl rfl | exact Or.inr (Or.inl rfl) | exact Or.inr (Or.inr rfl))) sk_nil)) sa_nil)))) (sa_cons (se_lstC (sa_cons se_str (sa_cons (se_x1 T.x_11 hr (by rfl) T.xk_11 (sa_cons (se_name (i := 0) rfl (by first | exact Or.inl rfl | exact Or.inr (Or.inl rfl) | exact Or.inr (Or.inr rfl))) sa_nil)) (sa_cons (se_x1K T.x_11 hr (by rfl) T.xk_11 (sk_cons (se_name (i := 0) rfl (by first | exact Or.inl rfl | exact Or.inr (Or.inl rfl) | exact Or.inr (Or.inr rfl))) sk_nil)) sa_nil)))) (sa_cons (se_lstC (sa_cons se_str (sa_cons (se_x1 T.x_12 hr (by rfl) T.xk_12 (sa_cons (se_name (i := 0) rfl (by first | exact Or.inl rfl | exact Or.inr (Or.inl rfl) | exact Or.inr (Or.inr rfl))) sa_nil)) (sa_cons (se_x1K T.x_12 hr (by rfl) T.xk_12 (sk_cons (se_name (i := 0) rfl (by first | exact Or.inl rfl | exact Or.inr (Or.inl rfl) | exact Or.inr (Or.inr rfl))) sk_nil)) sa_nil)))) (sa_cons (se_lstC (sa_cons se_str (sa_cons (se_x1 T.x_13 hr (by rfl) T.xk_13 (sa_cons (se_name (i := 0) rfl (by first | exact Or.inl rfl | exact Or.inr (Or.inl rfl) | exact Or.inr (Or.inr rfl))) sa_nil)) (sa_cons (se_x1K T.x_13 hr (by rfl) T.xk_13 (sk_cons (se_name (i := 0) rfl (by first | exact Or.inl rfl | exact Or.inr (Or.inl rfl) | exact Or.inr (Or.inr rfl))) sk_nil)) sa_nil)))) sa_nil))))))))))))))))
theorem ok_4 (T : Txt W P w K mg) (FF : Fds W K) (D : Lvl W P w K mg base k M) (f : Addr) (cdv : Value) (A : Around) (outer : List Env) (s : Shared) (H : Hp) (E : XK) (hr : YG.RoomG (k + 2) (A.deeper (envOfC "_law_index_ones" (defScope st_4) s.heap.objs.size f cdv))) :
    SSs W (cxOf CX0 P w K mg base N_4 "_law_index_ones" (defScope st_4) f cdv A outer s H E).nox (defBody st_4) (b_4 W M) := by
  unfold b_4
  exact (sss_one (ss_ret (se_lstC (sa_cons (se_lstC (sa_cons se_str (sa_cons (se_x2 T.x_14 hr (by rfl) T.xk_14 (sa_cons (se_name (i := 0) rfl (by first | exact Or.inl rfl | exact Or.inr (Or.inl rfl) | exact Or.inr (Or.inr rfl))) (sa_cons (se_alt (se_lst (sa_cons (se_name (i := 0) rfl (by first | exact Or.inl rfl | exact Or.inr (Or.inl rfl) | exact Or.inr (Or.inr rfl))) sa_nil)) (se_lstC (sa_cons (se_name (i := 0) rfl (by first | exact Or.inl rfl | exact Or.inr (Or.inl rfl) | exact Or.inr (Or.inr rfl))) sa_nil))) sa_nil))) (sa_cons (se_x2K T.x_14 hr (by rfl) T.xk_14 (sk_cons (se_name (i := 0) rfl (by first | exact Or.inl rfl | exact Or.inr (Or.inl rfl) | exact Or.inr (Or.inr rfl))) (sk_cons (se_alt (se_lst (sa_cons (se_name (i := 0) rfl (by first | exact Or.inl rfl | exact Or.inr (Or.inl rfl) | exact Or.inr (Or.inr rfl))) sa_nil)) (se_lstC (sa_cons (se_name (i := 0) rfl (by first | exact Or.inl rfl | exact Or.inr (Or.inl rfl) | exact Or.inr (Or.inr rfl))) sa_nil))) sk_nil))) sa_nil)))) (sa_cons (se_lstC (sa_cons se_str (sa_cons (se_x1 T.x_15 hr (by rfl) T.xk_15 (sa_cons (se_name (i := 0) rfl (by first | exact Or.inl rfl | exact Or.inr (Or.inl rfl) | exact Or.inr (Or.inr rfl))) sa_nil)) (sa_cons (se_x1K T.x_15 hr (by rfl) T.xk_15 (sk_cons (se_name (i := 0) rfl (by first | exact Or.inl rfl | exact Or.inr (Or.inl rfl) | exact Or.inr (Or.inr rfl))) sk_nil)) sa_nil)))) (sa_cons (se_lstC (sa_cons se_str (sa_cons (se_x1 T.x_16 hr (by rfl) T.xk_16 (sa_cons (se_name (i := 0) rfl (by first | exact Or.inl rfl | exact Or.inr (Or.inl rfl) | exact Or.inr (Or.inr rfl))) sa_nil)) (sa_cons (se_x1K T.x_16 hr (by rfl) T.xk_16 (sk_cons (se_name (i := 0) rfl (by first | exact Or.inl rfl | exact Or.inr (Or.inl rfl) | exact Or.inr (Or.inr rfl))) sk_nil)) sa_nil)))) (sa_cons (se_lstC (sa_cons se_str (sa_cons (se_x1 T.x_17 hr (by rfl) T.xk_17 (sa_cons (se_name (i := 0) rfl (by first | exact Or.inl rfl | exact Or.inr (Or.inl rfl) | exact Or.inr (Or.inr rfl))) sa_nil)) (sa_cons (se_x1K T.x_17 hr (by rfl) T.xk_17 (sk_cons (se_name (i := 0) rfl (by first | exact Or.inl rfl | exact Or.inr (Or.inl rfl) | exact Or.inr (Or.inr rfl))) sk_nil)) sa_nil)))) (sa_cons (se_lstC (sa_cons se_str (sa_cons (se_mkx0 F.excBase_ValueError T.xe_18.1 T.xk_18 T.xe_18.2 (by rfl)) (sa_cons (se_mkx0 F.excBase_ValueError T.xe_18.1 T.xk_18 T.xe_18.2 (by rfl)) sa_nil)))) (sa_cons (se_lstC (sa_cons se_str (sa_cons (se_mkx0 F.excBase_ValueError T.xe_19.1 T.xk_19 T.xe_19.2 (by rfl)) (sa_cons (se_mkx0 F.excBase_ValueError T.xe_19.1 T.xk_19 T.xe_19.2 (by rfl)) sa_nil)))) (sa_cons (se_lstC (sa_cons se_str (sa_cons (se_mkx0 F.excBase_ValueError T.xe_20.1 T.xk_20 T.xe_20.2 (by rfl)) (sa_cons (se_mkx0 F.excBase_ValueError T.xe_20.1 T.xk_20 T.xe_20.2 (by rfl)) sa_nil)))) sa_nil))))))))))
theorem ok_5 (T : Txt W P w K mg) (FF : Fds W K) (D : Lvl W P w K mg base k M) (f : Addr) (cdv : Value) (A : Around) (outer : List Env) (s : Shared) (H : Hp) (E : XK) (hr : YG.RoomG (k + 2) (A.deeper (envOfC "_law_kinds" (defScope st_5) s.heap.objs.size f cdv))) :
    SSs W (cxOf CX0 P w K mg base N_5 "_law_kinds" (defScope st_5) f cdv A outer s H E).nox (defBody st_5) (b_5 W M) := by
  unfold b_5
  exact (sss_cons (ss_set (i := 1) fs_5.nd rfl (by first | exact Or.inl rfl | exact Or.inr rfl) (se_lst (sa_cons (se_isX T.xG T.xB_1 (.own _) (by rfl) T.n_isinstance (pa_cons (se_name (i := 0) rfl (by first | exact Or.inl rfl | exact Or.inr (Or.inl rfl) | exact Or.inr (Or.inr rfl))) (pa_cons (pe_glob (v := .ref (W.cad 1)) (by rfl) T.xk_1 rfl) pa_nil))) (sa_cons (se_isX T.xG T.xB_2 (.own _) (by rfl) T.n_isinstance (pa_cons (se_name (i := 0) rfl (by first | exact Or.inl rfl | exact Or.inr (Or.inl rfl) | exact Or.inr (Or.inr rfl))) (pa_cons (pe_glob (v := .ref (W.cad 2)) (by rfl) T.xk_2 rfl) pa_nil))) (sa_cons (se_isX T.xG T.xB_3 (.own _) (by rfl) T.n_isinstance (pa_cons (se_name (i := 0) rfl (by first | exact Or.inl rfl | exact Or.inr (Or.inl rfl) | exact Or.inr (Or.inr rfl))) (pa_cons (pe_glob (v := .ref (W.cad 3)) (by rfl) T.xk_3 rfl) pa_nil))) (sa_cons (se_isX T.xG T.xB_4 (.own _) (by rfl) T.n_isinstance (pa_cons (se_name (i := 0) rfl (by first | exact Or.inl rfl | exact Or.inr (Or.inl rfl) | exact Or.inr (Or.inr rfl))) (pa_cons (pe_glob (v := .ref (W.cad 4)) (by rfl) T.xk_4 rfl) pa_nil))) (sa_cons (se_isX T.xG T.xB_5 (.own _) (by rfl) T.n_isinstance (pa_cons (se_name (i := 0) rfl (by first | exact Or.inl rfl | exact Or.inr (Or.inl rfl) | exact Or.inr (Or.inr rfl))) (pa_cons (pe_glob (v := .ref (W.cad 5)) (by rfl) T.xk_5 rfl) pa_nil))) (sa_cons (se_isX T.xG T.xB_6 (.own _) (by rfl) T.n_isinstance (pa_cons (se_name (i := 0) rfl (by first | exact Or.inl rfl | exact Or.inr (Or.inl rfl) | exact Or.inr (Or.inr rfl))) (pa_cons (pe_glob (v := .ref (W.cad 6)) (by rfl) T.xk_6 rfl) pa_nil))) (sa_cons (se_isX T.xG T.xB_7 (.own _) (by rfl) T.n_isinstance (pa_cons (se_name (i := 0) rfl (by first | exact Or.inl rfl | exact Or.inr (Or.inl rfl) | exact Or.inr (Or.inr rfl))) (pa_cons (pe_glob (v := .ref (W.cad 7)) (by rfl) T.xk_7 rfl) pa_nil))) (sa_cons (se_isX T.xG T.xB_8 (.own _) (by rfl) T.n_isinstance (pa_cons (se_name (i := 0) rfl (by first | exact Or.inl rfl | exact Or.inr (Or.inl rfl) | exact Or.inr (Or.inr rfl))) (pa_cons (pe_glob (v := .ref (W.cad 8)) (by rfl) T.xk_8 rfl) pa_nil))) (sa_cons (se_isX T.xG T.xB_9 (.own _) (by rfl) T.n_isinstance (pa_cons (se_name (i := 0) rfl (by first | exact Or.inl rfl | exact Or.inr (Or.inl rfl) | exact Or.inr (Or.inr rfl))) (pa_cons (pe_glob (v := .ref (W.cad 9)) (by rfl) T.xk_9 rfl) pa_nil))) (sa_cons (se_isX T.xG T.xB_10 (.own _) (by rfl) T.n_isinstance (pa_cons (se_name (i := 0) rfl (by first | exact Or.inl rfl | exact Or.inr (Or.inl rfl) | exact Or.inr (Or.inr rfl))) (pa_cons (pe_glob (v := .ref (W.cad 10)) (by rfl) T.xk_10 rfl) pa_nil))) (sa_cons (se_isX T.xG T.xB_11 (.own _) (by rfl) T.n_isinstance (pa_cons (se_name (i := 0) rfl (by first | exact Or.inl rfl | exact Or.inr (Or.inl rfl) | exact Or.inr (Or.inr rfl))) (pa_cons (pe_glob (v := .ref (W.cad 11)) (by rfl) T.xk_11 rfl) pa_nil))) sa_nil)))))))))))))
    (sss_one (ss_ret (se_bin op_addY ok_add (se_name (i := 1) rfl (by first | exact Or.inl rfl | exact Or.inr (Or.inl rfl) | exact Or.inr (Or.inr rfl))) (se_lst (sa_cons (se_isX T.xG T.xB_12 (.own _) (by rfl) T.n_isinstance (pa_cons (se_name (i := 0) rfl (by first | exact Or.inl rfl | exact Or.inr (Or.inl rfl) | exact Or.inr (Or.inr rfl))) (pa_cons (pe_glob (v := .ref (W.cad 12)) (by rfl) T.xk_12 rfl) pa_nil))) (sa_cons (se_isX T.xG T.xB_13 (.own _) (by rfl) T.n_isinstance (pa_cons (se_name (i := 0) rfl (by first | exact Or.inl rfl | exact Or.inr (Or.inl rfl) | exact Or.inr (Or.inr rfl))) (pa_cons (pe_glob (v := .ref (W.cad 13)) (by rfl) T.xk_13 rfl) pa_nil))) (sa_cons (se_isX T.xG T.xB_14 (.own _) (by rfl) T.n_isinstance (pa_cons (se_name (i := 0) rfl (by first | exact Or.inl rfl | exact Or.inr (Or.inl rfl) | exact Or.inr (Or.inr rfl))) (pa_cons (pe_glob (v := .ref (W.cad 14)) (by rfl) T.xk_14 rfl) pa_nil))) (sa_cons (se_isX T.xG T.xB_15 (.own _) (by rfl) T.n_isinstance (pa_cons (se_name (i := 0) rfl (by first | exact Or.inl rfl | exact Or.inr (Or.inl rfl) | exact Or.inr (Or.inr rfl))) (pa_cons (pe_glob (v := .ref (W.cad 15)) (by rfl) T.xk_15 rfl) pa_nil))) (sa_cons (se_isX T.xG T.xB_16 (.own _) (by rfl) T.n_isinstance (pa_cons (se_name (i := 0) rfl (by first | exact Or.inl rfl | exact Or.inr (Or.inl rfl) | exact Or.inr (Or.inr rfl))) (pa_cons (pe_glob (v := .ref (W.cad 16)) (by rfl) T.xk_16 rfl) pa_nil))) (sa_cons (se_isX T.xG T.xB_17 (.own _) (by rfl) T.n_isinstance (pa_cons (se_name (i := 0) rfl (by first | exact Or.inl rfl | exact Or.inr (Or.inl rfl) | exact Or.inr (Or.inr rfl))) (pa_cons (pe_glob (v := .ref (W.cad 17)) (by rfl) T.xk_17 rfl) pa_nil))) (sa_cons (se_isX T.xG T.xB_18 (.own _) (by rfl) T.n_isinstance (pa_cons (se_name (i := 0) rfl (by first | exact Or.inl rfl | exact Or.inr (Or.inl rfl) | exact Or.inr (Or.inr rfl))) (pa_cons (pe_glob (v := .ref (W.cad 18)) (by rfl) T.xk_18 rfl) pa_nil))) (sa_cons (se_isX T.xG T.xB_19 (.own _) (by rfl) T.n_isinstance (pa_cons (se_name (i := 0) rfl (by first | exact Or.inl rfl | exact Or.inr (Or.inl rfl) | exact Or.inr (Or.inr rfl))) (pa_cons (pe_glob (v := .ref (W.cad 19)) (by rfl) T.xk_19 rfl) pa_nil))) (sa_cons (se_isX T.xG T.xB_20 (.own _) (by rfl) T.n_isinstance (pa_cons (se_name (i := 0) rfl (by first | exact Or.inl rfl | exact Or.inr (Or.inl rfl) | exact Or.inr (Or.inr rfl))) (pa_cons (pe_glob (v := .ref (W.cad 20)) (by rfl) T.xk_20 rfl) pa_nil))) sa_nil))))))))))))))
theorem ok_6 (T : Txt W P w K mg) (FF : Fds W K) (D : Lvl W P w K mg base k M) (f : Addr) (cdv : Value) (A : Around) (outer : List Env) (s : Shared) (H : Hp) (E : XK) (hr : YG.RoomG (k + 2) (A.deeper (envOfC "_law_kept" (defScope st_6) s.heap.objs.size f cdv))) :
    SSs W (cxOf CX0 P w K mg base N_6 "_law_kept" (defScope st_6) f cdv A outer s H E).nox (defBody st_6) (b_6 W M) := by
  unfold b_6
  exact (sss_cons (ss_if (sb_cmp (op_eqY hr.u64) ok_eq (se_name (i := 0) rfl (by first | exact Or.inl rfl | exact Or.inr (Or.inl rfl) | exact Or.inr (Or.inr rfl))) se_str (nomark _)) (sss_one (ss_ret (se_fldX T.xO (se_name (i := 1) rfl (by first | exact Or.inl rfl | exact Or.inr (Or.inl rfl) | exact Or.inr (Or.inr rfl)))))) sss_nil)
    (sss_cons (ss_if (sb_cmp (op_eqY hr.u64) ok_eq (se_name (i := 0) rfl (by first | exact Or.inl rfl | exact Or.inr (Or.inl rfl) | exact Or.inr (Or.inr rfl))) se_str (nomark _)) (sss_one (ss_ret (se_fldX T.xO (se_name (i := 1) rfl (by first | exact Or.inl rfl | exact Or.inr (Or.inl rfl) | exact Or.inr (Or.inr rfl)))))) sss_nil)
    (sss_cons (ss_if (sb_cmp (op_eqY hr.u64) ok_eq (se_name (i := 0) rfl (by first | exact Or.inl rfl | exact Or.inr (Or.inl rfl) | exact Or.inr (Or.inr rfl))) se_str (nomark _)) (sss_one (ss_ret (se_if (sb_cmp (op_eqY hr.u64) ok_eq (se_callB ok_reprX (call_reprX hr.gd hr.u64 T.xsm) (by rfl) T.n_repr (by decide +kernel) (sa_cons (se_fldX T.xO (se_name (i := 1) rfl (by first | exact Or.inl rfl | exact Or.inr (Or.inl rfl) | exact Or.inr (Or.inr rfl)))) sa_nil)) (se_callB ok_reprX (call_reprX hr.gd hr.u64 T.xsm) (by rfl) T.n_repr (by decide +kernel) (sa_cons (se_lst (sa_cons (se_fldX T.xO (se_name (i := 1) rfl (by first | exact Or.inl rfl | exact Or.inr (Or.inl rfl) | exact Or.inr (Or.inr rfl)))) sa_nil)) sa_nil)) (nomark _)) (se_fldX T.xO (se_name (i := 1) rfl (by first | exact Or.inl rfl | exact Or.inr (Or.inl rfl) | exact Or.inr (Or.inr rfl)))) se_str))) sss_nil)
    (sss_one (ss_ret (se_if (sb_cmp (op_eqY hr.u64) ok_eq (se_name (i := 0) rfl (by first | exact Or.inl rfl | exact Or.inr (Or.inl rfl) | exact Or.inr (Or.inr rfl))) se_str (nomark _)) (se_fldX T.xO (se_name (i := 1) rfl (by first | exact Or.inl rfl | exact Or.inr (Or.inl rfl) | exact Or.inr (Or.inr rfl)))) se_none))))))
theorem ok_7 (T : Txt W P w K mg) (FF : Fds W K) (D : Lvl W P w K mg base k M) (f : Addr) (cdv : Value) (A : Around) (outer : List Env) (s : Shared) (H : Hp) (E : XK) (hr : YG.RoomG (k + 2) (A.deeper (envOfC "_law_is_plain" (defScope st_7) s.heap.objs.size f cdv))) :
    SSs W (cxOf CX0 P w K mg base N_7 "_law_is_plain" (defScope st_7) f cdv A outer s H E).nox (defBody st_7) (b_7 W M) := by
  unfold b_7
  exact (sss_cons (ss_if (SW.sb (sw_or (sb_not (sb_val (se_isX T.xG T.xB_0 (.own _) (by rfl) T.n_isinstance (pa_cons (se_name (i := 0) rfl (by first | exact Or.inl rfl | exact Or.inr (Or.inl rfl) | exact Or.inr (Or.inr rfl))) (pa_cons (pe_glob (v := .ref (W.cad 0)) (by rfl) T.xk_0 rfl) pa_nil))))) (sw_or1 (sb_not (sb_val (se_isX T.xG T.xV (.ty _) (by rfl) T.n_isinstance (pa_cons (se_name (i := 0) rfl (by first | exact Or.inl rfl | exact Or.inr (Or.inl rfl) | exact Or.inr (Or.inr rfl))) (pa_cons (pe_bltn (v := .ty "ValueError") (by rfl) T.n_ValueError (by decide +kernel) rfl) pa_nil)))))))) (sss_one (ss_ret se_bool)) sss_nil)
    (sss_one (ss_ret (se_not (se_isXT T.xG T.xT (.cons (.ty _) (.cons (.ty _) (.cons (.ty _) (.cons (.ty _) (.cons (.ty _) (.nil)))))) (by decide) (by rfl) T.n_isinstance (fun _ _ _ q => q) (pa_cons (se_name (i := 0) rfl (by first | exact Or.inl rfl | exact Or.inr (Or.inl rfl) | exact Or.inr (Or.inr rfl))) (pa_cons (pe_tup (pa_cons (pe_bltn (v := .ty "LookupError") (by rfl) T.n_LookupError (by decide +kernel) rfl) (pa_cons (pe_bltn (v := .ty "ArithmeticError") (by rfl) T.n_ArithmeticError (by decide +kernel) rfl) (pa_cons (pe_bltn (v := .ty "TypeError") (by rfl) T.n_TypeError (by decide +kernel) rfl) (pa_cons (pe_bltn (v := .ty "AttributeError") (by rfl) T.n_AttributeError (by decide +kernel) rfl) (pa_cons (pe_bltn (v := .ty "RuntimeError") (by rfl) T.n_RuntimeError (by decide +kernel) rfl) pa_nil)))))) pa_nil)))))))
theorem hD_5 (T : Txt W P w K mg) {a : Addr} {ci : Nat} {d : Option Addr} {oe : Obj} {fd : FuncData} (Fd : FunD K "_law_kinds" "_law_kinds" (defArgs st_5) (defBody st_5) (defScope st_5) [] [] (W.fad 5) fd) (hlt : ci < 21) (hz1 : oe.cls = .ref (W.cad ci)) (hz2 : oe.dict = d) (hz3 : ∃ vs, oe.data = .fields vs) : FnP P w K mg base (a, oe) 1 (W.fad 5) fd ps_5 (spY W K ps_5.length (fH_5 W a ci d)) :=
  fn_okP Fd fs_5 fun cdv A outer s H E _ _ => okH_5 T hlt hz1 hz2 hz3 _ cdv A outer s H E
theorem hD_7 (T : Txt W P w K mg) {a : Addr} {ci : Nat} {d : Option Addr} {oe : Obj} {fd : FuncData} (Fd : FunD K "_law_is_plain" "_law_is_plain" (defArgs st_7) (defBody st_7) (defScope st_7) [] [] (W.fad 7) fd) (hlt : ci < 21) (hz1 : oe.cls = .ref (W.cad ci)) (hz2 : oe.dict = d) (hz3 : ∃ vs, oe.data = .fields vs) : FnP P w K mg base (a, oe) 1 (W.fad 7) fd ps_7 (spY W K ps_7.length (fH_7 W a ci d)) :=
  fn_okP Fd fs_7 fun cdv A outer s H E _ _ => okH_7 T hlt hz1 hz2 hz3 _ cdv A outer s H E
/-! what the suite tells -/
theorem hbit {B : List Bool} {ci : Nat} (h : ci < B.length) : B[ci]? = some (B.getD ci false) := by
  rw [List.getElem?_eq_getElem h]
  simp [List.getD, h]
abbrev kb1 (ci : Nat) : List Bool := [BL_1.getD ci false, BL_2.getD ci false, BL_3.getD ci false, BL_4.getD ci false, BL_5.getD ci false, BL_6.getD ci false, BL_7.getD ci false, BL_8.getD ci false, BL_9.getD ci false, BL_10.getD ci false, BL_11.getD ci false]
abbrev kb2 (ci : Nat) : List Bool := [BL_12.getD ci false, BL_13.getD ci false, BL_14.getD ci false, BL_15.getD ci false, BL_16.getD ci false, BL_17.getD ci false, BL_18.getD ci false, BL_19.getD ci false, BL_20.getD ci false]
theorem kindsH {cs : Cs} (a : Addr) {ci : Nat} (d : Option Addr) (hci : ci < 21) : fH_5 W a ci d [.exc a ci d] cs = .ok (.d (.list ((kb1 ci ++ kb2 ci).map .bool))) cs := by
  unfold fH_5
  have h1 : ∀ g : Option T, lstE (consA (isH a ci d BL_1 (fun ρ cs => getV ρ 0 cs)) (consA (isH a ci d BL_2 (fun ρ cs => getV ρ 0 cs)) (consA (isH a ci d BL_3 (fun ρ cs => getV ρ 0 cs)) (consA (isH a ci d BL_4 (fun ρ cs => getV ρ 0 cs)) (consA (isH a ci d BL_5 (fun ρ cs => getV ρ 0 cs)) (consA (isH a ci d BL_6 (fun ρ cs => getV ρ 0 cs)) (consA (isH a ci d BL_7 (fun ρ cs => getV ρ 0 cs)) (consA (isH a ci d BL_8 (fun ρ cs => getV ρ 0 cs)) (consA (isH a ci d BL_9 (fun ρ cs => getV ρ 0 cs)) (consA (isH a ci d BL_10 (fun ρ cs => getV ρ 0 cs)) (consA (isH a ci d BL_11 (fun ρ cs => getV ρ 0 cs)) nilA))))))))))) [some (.exc a ci d), g] cs = .ok (.d (.list ((kb1 ci).map .bool))) cs := fun g => bits_of (bs := kb1 ci) (cons_of (isH0 rfl (hbit (B := BL_1) hci)) (cons_of (isH0 rfl (hbit (B := BL_2) hci)) (cons_of (isH0 rfl (hbit (B := BL_3) hci)) (cons_of (isH0 rfl (hbit (B := BL_4) hci)) (cons_of (isH0 rfl (hbit (B := BL_5) hci)) (cons_of (isH0 rfl (hbit (B := BL_6) hci)) (cons_of (isH0 rfl (hbit (B := BL_7) hci)) (cons_of (isH0 rfl (hbit (B := BL_8) hci)) (cons_of (isH0 rfl (hbit (B := BL_9) hci)) (cons_of (isH0 rfl (hbit (B := BL_10) hci)) (cons_of (isH0 rfl (hbit (B := BL_11) hci)) nil_of))))))))))) (by show 11 ≤ 100; decide)
  have h2 : ∀ g : Option T, lstE (consA (isH a ci d BL_12 (fun ρ cs => getV ρ 0 cs)) (consA (isH a ci d BL_13 (fun ρ cs => getV ρ 0 cs)) (consA (isH a ci d BL_14 (fun ρ cs => getV ρ 0 cs)) (consA (isH a ci d BL_15 (fun ρ cs => getV ρ 0 cs)) (consA (isH a ci d BL_16 (fun ρ cs => getV ρ 0 cs)) (consA (isH a ci d BL_17 (fun ρ cs => getV ρ 0 cs)) (consA (isH a ci d BL_18 (fun ρ cs => getV ρ 0 cs)) (consA (isH a ci d BL_19 (fun ρ cs => getV ρ 0 cs)) (consA (isH a ci d BL_20 (fun ρ cs => getV ρ 0 cs)) nilA))))))))) [some (.exc a ci d), g] cs = .ok (.d (.list ((kb2 ci).map .bool))) cs := fun g => bits_of (bs := kb2 ci) (cons_of (isH0 rfl (hbit (B := BL_12) hci)) (cons_of (isH0 rfl (hbit (B := BL_13) hci)) (cons_of (isH0 rfl (hbit (B := BL_14) hci)) (cons_of (isH0 rfl (hbit (B := BL_15) hci)) (cons_of (isH0 rfl (hbit (B := BL_16) hci)) (cons_of (isH0 rfl (hbit (B := BL_17) hci)) (cons_of (isH0 rfl (hbit (B := BL_18) hci)) (cons_of (isH0 rfl (hbit (B := BL_19) hci)) (cons_of (isH0 rfl (hbit (B := BL_20) hci)) nil_of))))))))) (by show 9 ≤ 100; decide)
  refine (fn_rt rfl ((seq_nx (set_of (h1 none))).trans (ret_of (bin_of (t := .d (.list ((kb1 ci).map .bool))) (u := .d (.list ((kb2 ci).map .bool))) (c1 := cs) (c2 := cs) (r := .ok (.d (.list ((kb1 ci ++ kb2 ci).map .bool))) cs) rfl (h2 _) (by rw [List.map_append]; rfl))))).trans leave_same
theorem plainH {cs : Cs} (a : Addr) {ci : Nat} (d : Option Addr) (h0 : BL_0[ci]? = some true) (hV : BL_V[ci]? = some true) (hT : BL_T[ci]? = some false) : fH_7 W a ci d [.exc a ci d] cs = .ok (.d (.bool true)) cs := by
  unfold fH_7
  refine (fn_rt rfl ((seq_nx (ρ1 := [some (.exc a ci d)]) (c1 := cs) ((if_ff (c1 := cs) (or_ff (not_of (val_of (isH0 rfl h0))) (not_of (val_of (isH0 rfl hV))))).trans rfl)).trans (ret_of (t := .d (.bool true)) (c1 := cs) (by
    unfold notE
    rw [isH0 rfl hT]
    rfl)))).trans leave_same
theorem su_ok (a : Addr) (ci : Nat) (d : Option Addr) (ρ : Rho) (cs : Cs) (t : T) (c' : Cs) (h : rCaught ci ρ cs = .ok t c') : su_8 W a ci d (ρ.set 2 (some (.exc a ci d))) cs = .rt t c' := by
  unfold rCaught at h
  split at h
  · rename_i w x y
    split at h
    · rename_i hm
      cases h
      have key : ∀ (i : Int) (b : PyData), L2.atI (([.int 0, .int 13, .int 14, .int 16, .int 17] : List PyData).map T.d) w = some (.d (.int i)) → ci < 21 → L2.atI (((kb1 ci ++ kb2 ci).map PyData.bool).map T.d) i = some (.d (.bool true)) → BL_0[ci]? = some true → BL_V[ci]? = some true → BL_T[ci]? = some false →
          su_8 W a ci d ([some (.d (.int w)), some x, y].set 2 (some (.exc a ci d))) cs = .rt (.d (.bool true)) cs := fun i b h1 hci h2 h0 hV hT => by
        show su_8 W a ci d [some (.d (.int w)), some x, some (.exc a ci d)] cs = _
        refine ret_of ?_
        have e1 : bin (itemT W) (tupE (consA (fun _ cs => .ok (.d (.int (0))) cs) (consA (fun _ cs => .ok (.d (.int (13))) cs) (consA (fun _ cs => .ok (.d (.int (14))) cs) (consA (fun _ cs => .ok (.d (.int (16))) cs) (consA (fun _ cs => .ok (.d (.int (17))) cs) nilA)))))) (fun ρ cs => getV ρ 0 cs) [some (.d (.int w)), some x, some (.exc a ci d)] cs = .ok (.d (.int i)) cs := by
          refine bin_of (t := .d (.tuple [.int 0, .int 13, .int 14, .int 16, .int 17])) (u := .d (.int w)) (c1 := cs) (c2 := cs) ?_ rfl ?_
          · unfold tupE
            have : (consA (fun _ cs => .ok (.d (.int (0))) cs) (consA (fun _ cs => .ok (.d (.int (13))) cs) (consA (fun _ cs => .ok (.d (.int (14))) cs) (consA (fun _ cs => .ok (.d (.int (16))) cs) (consA (fun _ cs => .ok (.d (.int (17))) cs) nilA))))) [some (.d (.int w)), some x, some (.exc a ci d)] cs = .ok [.d (.int 0), .d (.int 13), .d (.int 14), .d (.int 16), .d (.int 17)] cs := rfl
            rw [this]
            simp only [R.bind_ok, allD]
            rw [if_pos (by rw [sizeLine_eq]; decide)]
          · simp only [itemT, asQ, asT, h1]
        have e2 : bin (itemT W) (callE (fH_5 W a ci d) [] (consA (fun ρ cs => getV ρ 2 cs) nilA)) (bin (itemT W) (tupE (consA (fun _ cs => .ok (.d (.int (0))) cs) (consA (fun _ cs => .ok (.d (.int (13))) cs) (consA (fun _ cs => .ok (.d (.int (14))) cs) (consA (fun _ cs => .ok (.d (.int (16))) cs) (consA (fun _ cs => .ok (.d (.int (17))) cs) nilA)))))) (fun ρ cs => getV ρ 0 cs)) [some (.d (.int w)), some x, some (.exc a ci d)] cs = .ok (.d (.bool true)) cs := by
          refine bin_of ((call1 (t := .exc a ci d) (c1 := cs) rfl).trans (kindsH a d hci)) e1 ?_
          simp only [itemT, asQ, asT, asL, h2]
        exact (andE_tt e2).trans ((call1 (t := .exc a ci d) (c1 := cs) rfl).trans (plainH a d h0 hV hT))
      simp only [List.mem_cons, Prod.mk.injEq, List.mem_nil_iff, or_false] at hm
      rcases hm with ⟨rfl, rfl⟩ | ⟨rfl, rfl⟩ | ⟨rfl, rfl⟩ | ⟨rfl, rfl⟩ | ⟨rfl, rfl⟩
      · exact key 0 .none rfl (by decide) rfl rfl rfl rfl
      · exact key 13 .none rfl (by decide) rfl rfl rfl rfl
      · exact key 14 .none rfl (by decide) rfl rfl rfl rfl
      · exact key 16 .none rfl (by decide) rfl rfl rfl rfl
      · exact key 17 .none rfl (by decide) rfl rfl rfl rfl
    · cases h
  · cases h
theorem ok_8 (T : Txt W P w K mg) (FF : Fds W K) (D : Lvl W P w K mg base k M) (f : Addr) (cdv : Value) (A : Around) (outer : List Env) (s : Shared) (H : Hp) (E : XK) (hr : YG.RoomG (k + 2) (A.deeper (envOfC "_law_is_caught" (defScope st_8) s.heap.objs.size f cdv))) :
    SSs W (cxOf CX0 P w K mg base N_8 "_law_is_caught" (defScope st_8) f cdv A outer s H E).nox (defBody st_8) (b_8 W M) := by
  unfold b_8
  obtain ⟨fd5, Fd5⟩ := FF.f_5
  obtain ⟨fd7, Fd7⟩ := FF.f_7
  exact (sss_cons (ss_try (nX := 21) (i := 2) (n := "e") (c := .ref (W.cad 0)) (su := su_8 W) rfl rfl fs_8.nd rfl rfl ⟨(by rfl), by decide +kernel, .inl T.xk_0⟩ T.xC (fun pn xe => (sx_if (sb_cmp (op_eqY hr.u64) ok_eq (se_name (i := 0) rfl (by first | exact Or.inl rfl | exact Or.inr (Or.inl rfl) | exact Or.inr (Or.inr rfl))) se_int (nomark _)) (sx_1 rfl T.x_1 hr (by rfl) T.xk_1 (sa_cons (se_name (i := 1) rfl (by first | exact Or.inl rfl | exact Or.inr (Or.inl rfl) | exact Or.inr (Or.inr rfl))) sa_nil))
      (sx_if (sb_cmp (op_eqY hr.u64) ok_eq (se_name (i := 0) rfl (by first | exact Or.inl rfl | exact Or.inr (Or.inl rfl) | exact Or.inr (Or.inr rfl))) se_int (nomark _)) (sx_2K rfl T.x_14 hr (by rfl) T.xk_14 (sk_cons (se_name (i := 1) rfl (by first | exact Or.inl rfl | exact Or.inr (Or.inl rfl) | exact Or.inr (Or.inr rfl))) (sk_cons se_int sk_nil)))
      (sx_if (sb_cmp (op_eqY hr.u64) ok_eq (se_name (i := 0) rfl (by first | exact Or.inl rfl | exact Or.inr (Or.inl rfl) | exact Or.inr (Or.inr rfl))) se_int (nomark _)) (sx_1 rfl T.x_15 hr (by rfl) T.xk_15 (sa_cons (se_name (i := 1) rfl (by first | exact Or.inl rfl | exact Or.inr (Or.inl rfl) | exact Or.inr (Or.inr rfl))) sa_nil))
      (sx_if (sb_cmp (op_eqY hr.u64) ok_eq (se_name (i := 0) rfl (by first | exact Or.inl rfl | exact Or.inr (Or.inl rfl) | exact Or.inr (Or.inr rfl))) se_int (nomark _)) (sx_1K rfl T.x_17 hr (by rfl) T.xk_17 (sk_cons (se_name (i := 1) rfl (by first | exact Or.inl rfl | exact Or.inr (Or.inl rfl) | exact Or.inr (Or.inr rfl))) sk_nil))
      (sx_raise0 rfl F.excBase_ValueError T.xe_18.1 T.xk_18 T.xe_18.2 (raises_own (T.xr 18 (by decide)).1 (T.xr 18 (by decide)).2) (by rfl)))))))
    (fun a oe ci d pn hlt hzn hzf => by
      obtain ⟨hz1, hz2, hz4⟩ := hzn
      have hz3 := hzf
      have hot1 : Hot1 ((A.deeper (envOfC "_law_is_caught" (defScope st_8) s.heap.objs.size f cdv)).mark (some (.ref a))) (a, oe) := ⟨rfl, let ⟨vs, hv⟩ := hzf; ⟨vs, hv, hz4 vs hv⟩⟩
      exact (sss_one (ss_ret (se_and (se_item T.G hr.u1 (se_callP (hD_5 T Fd5 hlt hz1 hz2 hz3) ar_fnF (RoomH.mono (roomH_mark hr.r _) (by omega)) hot1 List.mem_cons_self (by rfl) T.m__law_kinds Fd5.kp (bd_5 Fd5) (sa_cons (se_name (i := 2) rfl (by first | exact Or.inl rfl | exact Or.inr (Or.inl rfl) | exact Or.inr (Or.inr rfl))) sa_nil)) (se_item T.G hr.u1 (se_tup (sa_cons se_int (sa_cons se_int (sa_cons se_int (sa_cons se_int (sa_cons se_int sa_nil)))))) (se_name (i := 0) rfl (by first | exact Or.inl rfl | exact Or.inr (Or.inl rfl) | exact Or.inr (Or.inr rfl))))) (se_one (se_callP (hD_7 T Fd7 hlt hz1 hz2 hz3) ar_fnF (RoomH.mono (roomH_mark hr.r _) (by omega)) hot1 List.mem_cons_self (by rfl) T.m__law_is_plain Fd7.kp (bd_7 Fd7) (sa_cons (se_name (i := 2) rfl (by first | exact Or.inl rfl | exact Or.inr (Or.inl rfl) | exact Or.inr (Or.inr rfl))) sa_nil))))))) (fun a ci d ρ cs t c' h => su_ok a ci d ρ cs t c' h))
    (sss_one (ss_ret se_bool)))
theorem ok_9 (T : Txt W P w K mg) (FF : Fds W K) (D : Lvl W P w K mg base k M) (f : Addr) (cdv : Value) (A : Around) (outer : List Env) (s : Shared) (H : Hp) (E : XK) (hr : YG.RoomG (k + 2) (A.deeper (envOfC "_law_right" (defScope st_9) s.heap.objs.size f cdv))) :
    SSs W (cxOf CX0 P w K mg base N_9 "_law_right" (defScope st_9) f cdv A outer s H E).nox (defBody st_9) (b_9 W M) := by
  unfold b_9
  exact (sss_cons (ss_if (SW.sb (sw_or (sb_not (sb_val (se_callD D.d_7 hr (by rfl) T.m__law_is_plain (sa_cons (se_mkx0 F.excBase_ValueError T.xe_0.1 T.xk_0 T.xe_0.2 (by rfl)) sa_nil)))) (sw_or1 (sb_cmp (op_inY hr.u65) (ok_in T.G) se_bool (se_callD D.d_5 hr (by rfl) T.m__law_kinds (sa_cons (se_mkx0 F.excBase_ValueError T.xe_0.1 T.xk_0 T.xe_0.2 (by rfl)) sa_nil)) (by with_unfolding_all rfl))))) (sss_one (ss_ret se_bool)) sss_nil)
    (sss_cons (ss_set (i := 1) fs_9.nd rfl (by first | exact Or.inl rfl | exact Or.inr rfl) (se_tup (sa_cons se_none (sa_cons se_bool (sa_cons se_bool (sa_cons se_int (sa_cons se_int (sa_cons (se_un un_neg ok_neg se_int) (sa_cons (se_bin op_powY ok_iniC se_int se_int) (sa_cons se_str (sa_cons se_str (sa_cons (se_tup sa_nil) (sa_cons (se_tup (sa_cons se_int (sa_cons se_str sa_nil))) (sa_cons (se_lst sa_nil) (sa_cons se_dicF (sa_cons (se_tup (sa_cons (se_tup (sa_cons se_int (sa_cons se_str sa_nil))) sa_nil)) (sa_cons (se_tup (sa_cons se_bool (sa_cons se_int sa_nil))) sa_nil)))))))))))))))))
    (sss_cons (ss_set (i := 2) fs_9.nd rfl (by first | exact Or.inl rfl | exact Or.inr rfl) (se_callD D.d_2 hr (by rfl) T.m__law_pick (sa_cons (se_name (i := 0) rfl (by first | exact Or.inl rfl | exact Or.inr (Or.inl rfl) | exact Or.inr (Or.inr rfl))) (sa_cons (se_name (i := 1) rfl (by first | exact Or.inl rfl | exact Or.inr (Or.inl rfl) | exact Or.inr (Or.inr rfl))) sa_nil))))
    (sss_cons (ss_set (i := 2) fs_9.nd rfl (by first | exact Or.inl rfl | exact Or.inr rfl) (se_callD D.d_2 hr (by rfl) T.m__law_pick (sa_cons (se_name (i := 0) rfl (by first | exact Or.inl rfl | exact Or.inr (Or.inl rfl) | exact Or.inr (Or.inr rfl))) (sa_cons (se_tup (sa_cons (se_name (i := 2) rfl (by first | exact Or.inl rfl | exact Or.inr (Or.inl rfl) | exact Or.inr (Or.inr rfl))) (sa_cons (se_tup (sa_cons (se_name (i := 2) rfl (by first | exact Or.inl rfl | exact Or.inr (Or.inl rfl) | exact Or.inr (Or.inr rfl))) (sa_cons (se_name (i := 2) rfl (by first | exact Or.inl rfl | exact Or.inr (Or.inl rfl) | exact Or.inr (Or.inr rfl))) sa_nil))) (sa_cons (se_lst (sa_cons (se_name (i := 2) rfl (by first | exact Or.inl rfl | exact Or.inr (Or.inl rfl) | exact Or.inr (Or.inr rfl))) sa_nil)) (sa_cons se_str (sa_cons (se_un un_neg ok_neg se_int) (sa_cons (se_tup (sa_cons (se_tup sa_nil) (sa_cons (se_tup (sa_cons (se_name (i := 2) rfl (by first | exact Or.inl rfl | exact Or.inr (Or.inl rfl) | exact Or.inr (Or.inr rfl))) sa_nil)) sa_nil))) sa_nil))))))) sa_nil))))
    (sss_cons (ss_set (i := 3) fs_9.nd rfl (by first | exact Or.inl rfl | exact Or.inr rfl) se_int)
    (sss_cons (ss_for rfl (si_seq (se_bin op_addY ok_addC (se_callD D.d_3 hr (by rfl) T.m__law_given_ones (sa_cons (se_name (i := 2) rfl (by first | exact Or.inl rfl | exact Or.inr (Or.inl rfl) | exact Or.inr (Or.inr rfl))) sa_nil)) (se_callD D.d_4 hr (by rfl) T.m__law_index_ones (sa_cons (se_name (i := 2) rfl (by first | exact Or.inl rfl | exact Or.inr (Or.inl rfl) | exact Or.inr (Or.inr rfl))) sa_nil)))) (sg_tup rfl (sgs_cons (sg_name (i := 6) fs_9.nd rfl (by first | exact Or.inl rfl | exact Or.inr rfl)) (sgs_cons (sg_name (i := 7) fs_9.nd rfl (by first | exact Or.inl rfl | exact Or.inr rfl)) (sgs_cons (sg_name (i := 8) fs_9.nd rfl (by first | exact Or.inl rfl | exact Or.inr rfl)) sgs_nil)))) (sss_cons (ss_for rfl (si_tupD (sa_cons (se_name (i := 7) rfl (by first | exact Or.inl rfl | exact Or.inr (Or.inl rfl) | exact Or.inr (Or.inr rfl))) (sa_cons (se_name (i := 8) rfl (by first | exact Or.inl rfl | exact Or.inr (Or.inl rfl) | exact Or.inr (Or.inr rfl))) sa_nil))) (sg_name (i := 9) fs_9.nd rfl (by first | exact Or.inl rfl | exact Or.inr rfl)) (sss_cons (ss_if (SW.sb (sw_or (sb_cmp (op_neY hr.u64) ok_ne (se_callD D.d_5 hr (by rfl) T.m__law_kinds (sa_cons (se_name (i := 9) rfl (by first | exact Or.inl rfl | exact Or.inr (Or.inl rfl) | exact Or.inr (Or.inr rfl))) sa_nil)) (se_lc rfl fs_9.nd (own := [("at", 11)]) (blkOk_by (N := N_9) (sc := defScope st_9) (by decide +kernel)) (by decide) (si_rng1 (by rfl) T.n_range (sa_cons se_int sa_nil)) (fun _ _ _ _ _ => (sg_name (i := 11) fs_9.nd rfl (by first | exact Or.inl rfl | exact Or.inr rfl))) (fun _ _ _ _ _ => sts_nil) (fun _ _ _ _ _ => (se_cmp (op_eqY hr.u64) ok_eq (se_name (i := 11) rfl (by first | exact Or.inl rfl | exact Or.inr (Or.inl rfl) | exact Or.inr (Or.inr rfl))) (se_name (i := 3) rfl (by first | exact Or.inl rfl | exact Or.inr (Or.inl rfl) | exact Or.inr (Or.inr rfl))) (nomark _)))) (nomark _)) (sw_or1 (sb_not (sb_val (se_callD D.d_7 hr (by rfl) T.m__law_is_plain (sa_cons (se_name (i := 9) rfl (by first | exact Or.inl rfl | exact Or.inr (Or.inl rfl) | exact Or.inr (Or.inr rfl))) sa_nil))))))) (sss_one (ss_ret se_bool)) sss_nil)
    (sss_one (ss_if (sb_cmp (op_neY hr.u64) ok_ne (se_callB ok_reprX (call_reprX hr.gd hr.u64 T.xsm) (by rfl) T.n_repr (by decide +kernel) (sa_cons (se_callD D.d_6 hr (by rfl) T.m__law_kept (sa_cons (se_name (i := 6) rfl (by first | exact Or.inl rfl | exact Or.inr (Or.inl rfl) | exact Or.inr (Or.inr rfl))) (sa_cons (se_name (i := 9) rfl (by first | exact Or.inl rfl | exact Or.inr (Or.inl rfl) | exact Or.inr (Or.inr rfl))) sa_nil))) sa_nil)) (se_callB ok_reprX (call_reprX hr.gd hr.u64 T.xsm) (by rfl) T.n_repr (by decide +kernel) (sa_cons (se_if (sb_cmp (op_neY hr.u64) ok_ne (se_name (i := 6) rfl (by first | exact Or.inl rfl | exact Or.inr (Or.inl rfl) | exact Or.inr (Or.inr rfl))) se_str (nomark _)) (se_name (i := 2) rfl (by first | exact Or.inl rfl | exact Or.inr (Or.inl rfl) | exact Or.inr (Or.inr rfl))) se_none) sa_nil)) (nomark _)) (sss_one (ss_ret se_bool)) sss_nil))))
    (sss_one (ss_set (i := 3) fs_9.nd rfl (by first | exact Or.inl rfl | exact Or.inr rfl) (se_bin op_addY ok_add (se_name (i := 3) rfl (by first | exact Or.inl rfl | exact Or.inr (Or.inl rfl) | exact Or.inr (Or.inr rfl))) se_int)))))
    (sss_cons (ss_set (i := 4) fs_9.nd rfl (by first | exact Or.inl rfl | exact Or.inr rfl) (se_lstC (sa_cons (se_callD D.d_1 hr (by rfl) T.m__law_take (sa_cons (se_name (i := 0) rfl (by first | exact Or.inl rfl | exact Or.inr (Or.inl rfl) | exact Or.inr (Or.inr rfl))) (sa_cons se_int sa_nil))) sa_nil)))
    (sss_cons (ss_set (i := 5) fs_9.nd rfl (by first | exact Or.inl rfl | exact Or.inr rfl) (se_bin op_addY ok_addC (se_callD D.d_3 hr (by rfl) T.m__law_given_ones (sa_cons (se_name (i := 4) rfl (by first | exact Or.inl rfl | exact Or.inr (Or.inl rfl) | exact Or.inr (Or.inr rfl))) sa_nil)) (se_callD D.d_4 hr (by rfl) T.m__law_index_ones (sa_cons (se_name (i := 4) rfl (by first | exact Or.inl rfl | exact Or.inr (Or.inl rfl) | exact Or.inr (Or.inr rfl))) sa_nil))))
    (sss_cons (ss_expr (se_bm PySem.F.plainAttrs_list PySem.F.slot_list_append PySem.F.type_list_append mt_append ok_append (se_name (i := 4) rfl (by first | exact Or.inl rfl | exact Or.inr (Or.inl rfl) | exact Or.inr (Or.inr rfl))) (sa_cons (se_callD D.d_1 hr (by rfl) T.m__law_take (sa_cons (se_name (i := 0) rfl (by first | exact Or.inl rfl | exact Or.inr (Or.inl rfl) | exact Or.inr (Or.inr rfl))) (sa_cons se_int sa_nil))) sa_nil)))
    (sss_cons (ss_for rfl (si_seq (se_name (i := 5) rfl (by first | exact Or.inl rfl | exact Or.inr (Or.inl rfl) | exact Or.inr (Or.inr rfl)))) (sg_tup rfl (sgs_cons (sg_name (i := 6) fs_9.nd rfl (by first | exact Or.inl rfl | exact Or.inr rfl)) (sgs_cons (sg_name (i := 7) fs_9.nd rfl (by first | exact Or.inl rfl | exact Or.inr rfl)) (sgs_cons (sg_name (i := 8) fs_9.nd rfl (by first | exact Or.inl rfl | exact Or.inr rfl)) sgs_nil)))) (sss_one (ss_if (SW.sb (sw_and (sb_cmp (op_ninY hr.u65) (ok_nin T.G) (se_name (i := 6) rfl (by first | exact Or.inl rfl | exact Or.inr (Or.inl rfl) | exact Or.inr (Or.inr rfl))) (se_tup (sa_cons se_str (sa_cons se_str sa_nil))) (by with_unfolding_all rfl)) (sw_and1 (SW.sb (sw_or (sb_cmp (op_neY hr.u64) ok_ne (se_callD D.d_6 hr (by rfl) T.m__law_kept (sa_cons (se_name (i := 6) rfl (by first | exact Or.inl rfl | exact Or.inr (Or.inl rfl) | exact Or.inr (Or.inr rfl))) (sa_cons (se_name (i := 7) rfl (by first | exact Or.inl rfl | exact Or.inr (Or.inl rfl) | exact Or.inr (Or.inr rfl))) sa_nil))) (se_name (i := 4) rfl (by first | exact Or.inl rfl | exact Or.inr (Or.inl rfl) | exact Or.inr (Or.inr rfl))) (nomark _)) (sw_or1 (sb_cmp (op_neY hr.u64) ok_ne (se_callD D.d_6 hr (by rfl) T.m__law_kept (sa_cons (se_name (i := 6) rfl (by first | exact Or.inl rfl | exact Or.inr (Or.inl rfl) | exact Or.inr (Or.inr rfl))) (sa_cons (se_name (i := 8) rfl (by first | exact Or.inl rfl | exact Or.inr (Or.inl rfl) | exact Or.inr (Or.inr rfl))) sa_nil))) (se_name (i := 4) rfl (by first | exact Or.inl rfl | exact Or.inr (Or.inl rfl) | exact Or.inr (Or.inr rfl))) (nomark _)))))))) (sss_one (ss_ret se_bool)) sss_nil)))
    (sss_one (ss_ret (se_callB ok_all (cr_all rfl) (by rfl) T.n_all (by decide +kernel) (sa_cons (se_lc rfl fs_9.nd (own := [("way", 10)]) (blkOk_by (N := N_9) (sc := defScope st_9) (by decide +kernel)) (by decide) (si_rng1 (by rfl) T.n_range (sa_cons se_int sa_nil)) (fun _ _ _ _ _ => (sg_name (i := 10) fs_9.nd rfl (by first | exact Or.inl rfl | exact Or.inr rfl))) (fun _ _ _ _ _ => sts_nil) (fun _ _ _ _ _ => (se_cmp op_isB ok_isB (se_callD D.d_8 hr (by rfl) T.m__law_is_caught (sa_cons (se_name (i := 10) rfl (by first | exact Or.inl rfl | exact Or.inr (Or.inl rfl) | exact Or.inr (Or.inr rfl))) (sa_cons (se_name (i := 2) rfl (by first | exact Or.inl rfl | exact Or.inr (Or.inl rfl) | exact Or.inr (Or.inr rfl))) sa_nil))) se_bool (nomark _)))) sa_nil))))))))))))))
theorem ok_10 (T : Txt W P w K mg) (FF : Fds W K) (D : Lvl W P w K mg base k M) (f : Addr) (cdv : Value) (A : Around) (outer : List Env) (s : Shared) (H : Hp) (E : XK) (hr : YG.RoomG (k + 2) (A.deeper (envOfC "law" (defScope st_10) s.heap.objs.size f cdv))) :
    SSs W (cxOf CX0 P w K mg base N_10 "law" (defScope st_10) f cdv A outer s H E).nox (defBody st_10) (b_10 W M) := by
  unfold b_10
  exact (sss_one (ss_ret (se_callB ok_all (cr_all rfl) (by rfl) T.n_all (by decide +kernel) (sa_cons (se_lc rfl fs_10.nd (own := [("at", 1)]) (blkOk_by (N := N_10) (sc := defScope st_10) (by decide +kernel)) (by decide) (si_rng1 (by rfl) T.n_range (sa_cons (se_callB ok_max2 (call_max2 rfl) (by rfl) T.n_max (by decide +kernel) (sa_cons se_int (sa_cons (se_callB ok_min2 (call_min2 rfl) (by rfl) T.n_min (by decide +kernel) (sa_cons (se_callB ok_len call_len (by rfl) T.n_len (by decide +kernel) (sa_cons (se_name (i := 0) rfl (by first | exact Or.inl rfl | exact Or.inr (Or.inl rfl) | exact Or.inr (Or.inr rfl))) sa_nil)) (sa_cons se_int sa_nil))) sa_nil))) sa_nil)) (fun _ _ _ _ _ => (sg_name (i := 1) fs_10.nd rfl (by first | exact Or.inl rfl | exact Or.inr rfl))) (fun _ _ _ _ _ => sts_nil) (fun _ _ _ _ _ => (se_callD D.d_9 hr (by rfl) T.m__law_right (sa_cons (se_callD D.d_0 hr (by rfl) T.m__law_purse (sa_cons (se_name (i := 0) rfl (by first | exact Or.inl rfl | exact Or.inr (Or.inl rfl) | exact Or.inr (Or.inr rfl))) (sa_cons (se_name (i := 1) rfl (by first | exact Or.inl rfl | exact Or.inr (Or.inl rfl) | exact Or.inr (Or.inr rfl))) sa_nil))) sa_nil)))) sa_nil))))
noncomputable def stepL (W : Wd) (M : Lv) : Lv := fun i => match i with
  | 0 => fnF N_0.length ps_0.length (b_0 W M)
  | 1 => fnF N_1.length ps_1.length (b_1 W M)
  | 2 => fnF N_2.length ps_2.length (b_2 W M)
  | 3 => fnF N_3.length ps_3.length (b_3 W M)
  | 4 => fnF N_4.length ps_4.length (b_4 W M)
  | 5 => fnF N_5.length ps_5.length (b_5 W M)
  | 6 => fnF N_6.length ps_6.length (b_6 W M)
  | 7 => fnF N_7.length ps_7.length (b_7 W M)
  | 8 => fnF N_8.length ps_8.length (b_8 W M)
  | 9 => fnF N_9.length ps_9.length (b_9 W M)
  | 10 => fnF N_10.length ps_10.length (b_10 W M)
  | _ => fun _ _ => .stuck
theorem lvl0 (F : Fds W K) : Lvl W P w K mg base 0 (fun _ _ _ => .stuck) where
  d_0 := .mk' F.f_0 (fun _ h => bd_0 h) (fun _ _ => fnOkK _) ar_stuck
  d_1 := .mk' F.f_1 (fun _ h => bd_1 h) (fun _ _ => fnOkK _) ar_stuck
  d_2 := .mk' F.f_2 (fun _ h => bd_2 h) (fun _ _ => fnOkK _) ar_stuck
  d_3 := .mk' F.f_3 (fun _ h => bd_3 h) (fun _ _ => fnOkK _) ar_stuck
  d_4 := .mk' F.f_4 (fun _ h => bd_4 h) (fun _ _ => fnOkK _) ar_stuck
  d_5 := .mk' F.f_5 (fun _ h => bd_5 h) (fun _ _ => fnOkK _) ar_stuck
  d_6 := .mk' F.f_6 (fun _ h => bd_6 h) (fun _ _ => fnOkK _) ar_stuck
  d_7 := .mk' F.f_7 (fun _ h => bd_7 h) (fun _ _ => fnOkK _) ar_stuck
  d_8 := .mk' F.f_8 (fun _ h => bd_8 h) (fun _ _ => fnOkK _) ar_stuck
  d_9 := .mk' F.f_9 (fun _ h => bd_9 h) (fun _ _ => fnOkK _) ar_stuck
  d_10 := .mk' F.f_10 (fun _ h => bd_10 h) (fun _ _ => fnOkK _) ar_stuck
theorem lvlS (F : Fds W K) (T : Txt W P w K mg) (D : Lvl W P w K mg base k M) : Lvl W P w K mg base (k + 1) (stepL W M) where
  d_0 := .mk' F.f_0 (fun _ h => bd_0 h) (fun _ h => fn_ok h fs_0 fun cdv A outer s H E hr => ok_0 T F D _ cdv A outer s H E hr) ar_fnF
  d_1 := .mk' F.f_1 (fun _ h => bd_1 h) (fun _ h => fn_ok h fs_1 fun cdv A outer s H E hr => ok_1 T F D _ cdv A outer s H E hr) ar_fnF
  d_2 := .mk' F.f_2 (fun _ h => bd_2 h) (fun _ h => fn_ok h fs_2 fun cdv A outer s H E hr => ok_2 T F D _ cdv A outer s H E hr) ar_fnF
  d_3 := .mk' F.f_3 (fun _ h => bd_3 h) (fun _ h => fn_ok h fs_3 fun cdv A outer s H E hr => ok_3 T F D _ cdv A outer s H E hr) ar_fnF
  d_4 := .mk' F.f_4 (fun _ h => bd_4 h) (fun _ h => fn_ok h fs_4 fun cdv A outer s H E hr => ok_4 T F D _ cdv A outer s H E hr) ar_fnF
  d_5 := .mk' F.f_5 (fun _ h => bd_5 h) (fun _ h => fn_ok h fs_5 fun cdv A outer s H E hr => ok_5 T F D _ cdv A outer s H E hr) ar_fnF
  d_6 := .mk' F.f_6 (fun _ h => bd_6 h) (fun _ h => fn_ok h fs_6 fun cdv A outer s H E hr => ok_6 T F D _ cdv A outer s H E hr) ar_fnF
  d_7 := .mk' F.f_7 (fun _ h => bd_7 h) (fun _ h => fn_ok h fs_7 fun cdv A outer s H E hr => ok_7 T F D _ cdv A outer s H E hr) ar_fnF
  d_8 := .mk' F.f_8 (fun _ h => bd_8 h) (fun _ h => fn_ok h fs_8 fun cdv A outer s H E hr => ok_8 T F D _ cdv A outer s H E hr) ar_fnF
  d_9 := .mk' F.f_9 (fun _ h => bd_9 h) (fun _ h => fn_ok h fs_9 fun cdv A outer s H E hr => ok_9 T F D _ cdv A outer s H E hr) ar_fnF
  d_10 := .mk' F.f_10 (fun _ h => bd_10 h) (fun _ h => fn_ok h fs_10 fun cdv A outer s H E hr => ok_10 T F D _ cdv A outer s H E hr) ar_fnF
noncomputable def tabs (W : Wd) : Nat → Lv
  | 0 => fun _ _ _ => .stuck
  | k + 1 => stepL W (tabs W k)
theorem lvls (F : Fds W K) (T : Txt W P w K mg) : ∀ k, Lvl W P w K mg base k (tabs W k)
  | 0 => lvl0 F
  | k + 1 => lvlS F T (lvls F T k)
end
end G
end
section
set_option Elab.async false
set_option linter.all false
set_option maxRecDepth 100000
set_option maxHeartbeats 1000000
namespace G
open PySem Y
variable {W : Wd} {k : Nat} {cs : Cs} {K : PySem.W.Frag}
noncomputable abbrev Tb (W : Wd) (k : Nat) : Lv := tabs W k
theorem tb_0 : Tb W (k + 1) 0 = fnF N_0.length ps_0.length (b_0 W (Tb W k)) := rfl
theorem tb_1 : Tb W (k + 1) 1 = fnF N_1.length ps_1.length (b_1 W (Tb W k)) := rfl
theorem tb_2 : Tb W (k + 1) 2 = fnF N_2.length ps_2.length (b_2 W (Tb W k)) := rfl
theorem tb_3 : Tb W (k + 1) 3 = fnF N_3.length ps_3.length (b_3 W (Tb W k)) := rfl
theorem tb_4 : Tb W (k + 1) 4 = fnF N_4.length ps_4.length (b_4 W (Tb W k)) := rfl
theorem tb_5 : Tb W (k + 1) 5 = fnF N_5.length ps_5.length (b_5 W (Tb W k)) := rfl
theorem tb_6 : Tb W (k + 1) 6 = fnF N_6.length ps_6.length (b_6 W (Tb W k)) := rfl
theorem tb_7 : Tb W (k + 1) 7 = fnF N_7.length ps_7.length (b_7 W (Tb W k)) := rfl
theorem tb_8 : Tb W (k + 1) 8 = fnF N_8.length ps_8.length (b_8 W (Tb W k)) := rfl
theorem tb_9 : Tb W (k + 1) 9 = fnF N_9.length ps_9.length (b_9 W (Tb W k)) := rfl
theorem tb_10 : Tb W (k + 1) 10 = fnF N_10.length ps_10.length (b_10 W (Tb W k)) := rfl

noncomputable def lb_0_0 (W : Wd) (M : Lv) : SF := (setS 3 (bin modT (app intT (consA (bin addT (bin mulA (fun ρ cs => getV ρ 3 cs) (fun _ cs => .ok (.d (.int (12007))) cs)) (fun ρ cs => getV ρ 4 cs)) nilA)) (fun _ cs => .ok (.d (.int (2147483549))) cs)))
theorem bq_0 {W : Wd} {M : Lv} : b_0 W M = (seqS (setS 2 (ifE (tst (bin (inb fun i j => decide (i < j)) (fun ρ cs => getV ρ 1 cs) (app lenT (consA (fun ρ cs => getV ρ 0 cs) nilA)))) (bin (itemT W) (fun ρ cs => getV ρ 0 cs) (fun ρ cs => getV ρ 1 cs)) (fun _ cs => .ok (.d (.int (0))) cs))) (seqS (setS 3 (bin modT (app intT (consA (bin addT (bin addT (bin mulA (fun ρ cs => getV ρ 2 cs) (fun _ cs => .ok (.d (.int (19013))) cs)) (bin mulA (fun ρ cs => getV ρ 1 cs) (fun _ cs => .ok (.d (.int (83003))) cs))) (fun _ cs => .ok (.d (.int (907))) cs)) nilA)) (fun _ cs => .ok (.d (.int (2147483549))) cs))) (seqS (forS (seqI (ifE (tst (bin (inb fun i j => decide (j ≤ i)) (fun ρ cs => getV ρ 1 cs) (app lenT (consA (fun ρ cs => getV ρ 0 cs) nilA)))) (sliceE slcT (fun ρ cs => getV ρ 0 cs) noO (someO (fun _ cs => .ok (.d (.int (4))) cs))) (lstE nilA))) (.nm 4) (lb_0_0 W M)) (retS (lstC (consA (ifE (tst (bin (inb fun i j => decide (j ≤ i)) (app absT (consA (fun ρ cs => getV ρ 2 cs) nilA)) (bin powT (fun _ cs => .ok (.d (.int (10))) cs) (fun _ cs => .ok (.d (.int (18))) cs)))) (bin modT (app intT (consA (app absT (consA (fun ρ cs => getV ρ 2 cs) nilA)) nilA)) (bin mulA (bin mulA (bin powT (fun _ cs => .ok (.d (.int (10))) cs) (fun _ cs => .ok (.d (.int (64))) cs)) (bin powT (fun _ cs => .ok (.d (.int (10))) cs) (fun _ cs => .ok (.d (.int (64))) cs))) (bin powT (fun _ cs => .ok (.d (.int (10))) cs) (fun _ cs => .ok (.d (.int (64))) cs)))) (fun _ cs => .ok (.d (.int (0))) cs)) (consA (fun ρ cs => getV ρ 3 cs) (consA (fun _ cs => .ok (.d (.int (0))) cs) nilA)))))))) := rfl
noncomputable def lb_9_0 (W : Wd) (M : Lv) : SF := (ifS (andB (tst (bin (ninT W) (fun ρ cs => getV ρ 6 cs) (tupE (consA (fun _ cs => .ok (.d (.str "")) cs) (consA (fun _ cs => .ok (.d (.str "row")) cs) nilA))))) (orB (tst (bin neT (callE (M 6) [] (consA (fun ρ cs => getV ρ 6 cs) (consA (fun ρ cs => getV ρ 7 cs) nilA))) (fun ρ cs => getV ρ 4 cs))) (tst (bin neT (callE (M 6) [] (consA (fun ρ cs => getV ρ 6 cs) (consA (fun ρ cs => getV ρ 8 cs) nilA))) (fun ρ cs => getV ρ 4 cs))))) (retS (fun _ cs => .ok (.d (.bool false)) cs)) passS)
noncomputable def lb_9_1 (W : Wd) (M : Lv) : SF := (seqS (ifS (orB (tst (bin neT (callE (M 5) [] (consA (fun ρ cs => getV ρ 9 cs) nilA)) (lcE (rng1I (consA (fun _ cs => .ok (.d (.int (20))) cs) nilA)) [11] (.nm 11) yesB (bin eqT (fun ρ cs => getV ρ 11 cs) (fun ρ cs => getV ρ 3 cs))))) (notB (val (callE (M 7) [] (consA (fun ρ cs => getV ρ 9 cs) nilA))))) (retS (fun _ cs => .ok (.d (.bool false)) cs)) passS) (ifS (tst (bin neT (app reprX (consA (callE (M 6) [] (consA (fun ρ cs => getV ρ 6 cs) (consA (fun ρ cs => getV ρ 9 cs) nilA))) nilA)) (app reprX (consA (ifE (tst (bin neT (fun ρ cs => getV ρ 6 cs) (fun _ cs => .ok (.d (.str "")) cs))) (fun ρ cs => getV ρ 2 cs) (fun _ cs => .ok (.d .none) cs)) nilA)))) (retS (fun _ cs => .ok (.d (.bool false)) cs)) passS))
noncomputable def lb_9_2 (W : Wd) (M : Lv) : SF := (seqS (forS (tupI (consA (fun ρ cs => getV ρ 7 cs) (consA (fun ρ cs => getV ρ 8 cs) nilA))) (.nm 9) (lb_9_1 W M)) (setS 3 (bin addT (fun ρ cs => getV ρ 3 cs) (fun _ cs => .ok (.d (.int (1))) cs))))
theorem bq_9 {W : Wd} {M : Lv} : b_9 W M = (seqS (ifS (orB (notB (val (callE (M 7) [] (consA (mkx0 0) nilA)))) (tst (bin (inT W) (fun _ cs => .ok (.d (.bool true)) cs) (callE (M 5) [] (consA (mkx0 0) nilA))))) (retS (fun _ cs => .ok (.d (.bool false)) cs)) passS) (seqS (setS 1 (tupE (consA (fun _ cs => .ok (.d .none) cs) (consA (fun _ cs => .ok (.d (.bool true)) cs) (consA (fun _ cs => .ok (.d (.bool false)) cs) (consA (fun _ cs => .ok (.d (.int (0))) cs) (consA (fun _ cs => .ok (.d (.int (1))) cs) (consA (un negT (fun _ cs => .ok (.d (.int (1))) cs)) (consA (bin powT (fun _ cs => .ok (.d (.int (10))) cs) (fun _ cs => .ok (.d (.int (29))) cs)) (consA (fun _ cs => .ok (.d (.str "")) cs) (consA (fun _ cs => .ok (.d (.str "a")) cs) (consA (tupE nilA) (consA (tupE (consA (fun _ cs => .ok (.d (.int (1))) cs) (consA (fun _ cs => .ok (.d (.str "good")) cs) nilA))) (consA (lstE nilA) (consA dicF (consA (tupE (consA (tupE (consA (fun _ cs => .ok (.d (.int (1))) cs) (consA (fun _ cs => .ok (.d (.str "a")) cs) nilA))) nilA)) (consA (tupE (consA (fun _ cs => .ok (.d (.bool true)) cs) (consA (fun _ cs => .ok (.d (.int (0))) cs) nilA))) nilA))))))))))))))))) (seqS (setS 2 (callE (M 2) [] (consA (fun ρ cs => getV ρ 0 cs) (consA (fun ρ cs => getV ρ 1 cs) nilA)))) (seqS (setS 2 (callE (M 2) [] (consA (fun ρ cs => getV ρ 0 cs) (consA (tupE (consA (fun ρ cs => getV ρ 2 cs) (consA (tupE (consA (fun ρ cs => getV ρ 2 cs) (consA (fun ρ cs => getV ρ 2 cs) nilA))) (consA (lstE (consA (fun ρ cs => getV ρ 2 cs) nilA)) (consA (fun _ cs => .ok (.d (.str "a text")) cs) (consA (un negT (fun _ cs => .ok (.d (.int (7))) cs)) (consA (tupE (consA (tupE nilA) (consA (tupE (consA (fun ρ cs => getV ρ 2 cs) nilA)) nilA))) nilA))))))) nilA)))) (seqS (setS 3 (fun _ cs => .ok (.d (.int (0))) cs)) (seqS (forS (seqI (bin addC (callE (M 3) [] (consA (fun ρ cs => getV ρ 2 cs) nilA)) (callE (M 4) [] (consA (fun ρ cs => getV ρ 2 cs) nilA)))) (.tp [(.nm 6), (.nm 7), (.nm 8)]) (lb_9_2 W M)) (seqS (setS 4 (lstC (consA (callE (M 1) [] (consA (fun ρ cs => getV ρ 0 cs) (consA (fun _ cs => .ok (.d (.int (9))) cs) nilA))) nilA))) (seqS (setS 5 (bin addC (callE (M 3) [] (consA (fun ρ cs => getV ρ 4 cs) nilA)) (callE (M 4) [] (consA (fun ρ cs => getV ρ 4 cs) nilA)))) (seqS (expS (bmE isLst appendT (fun ρ cs => getV ρ 4 cs) (consA (callE (M 1) [] (consA (fun ρ cs => getV ρ 0 cs) (consA (fun _ cs => .ok (.d (.int (9))) cs) nilA))) nilA))) (seqS (forS (seqI (fun ρ cs => getV ρ 5 cs)) (.tp [(.nm 6), (.nm 7), (.nm 8)]) (lb_9_0 W M)) (retS (app allT (consA (lcE (rng1I (consA (fun _ cs => .ok (.d (.int (5))) cs) nilA)) [10] (.nm 10) yesB (bin isB (callE (M 8) [] (consA (fun ρ cs => getV ρ 10 cs) (consA (fun ρ cs => getV ρ 2 cs) nilA))) (fun _ cs => .ok (.d (.bool true)) cs))) nilA))))))))))))) := rfl
def nextS (s t : Int) : Int := (s * (81013 + 6 * t) + 44017 * t + 30211) % 2147483549
theorem nextS_range (s t : Int) : 0 ≤ nextS s t ∧ nextS s t < 2147483549 := ⟨Int.emod_nonneg _ (by decide), Int.emod_lt_of_pos _ (by decide)⟩
abbrev drawn (f s t : Int) : Cell := .lst [.d (.int f), .d (.int s), .d (.int t)]
theorem mulOk_l {a b : Int} (h : -(2 ^ 64) < a ∧ a < 2 ^ 64) : mulOk a b = true := by
  unfold mulOk
  rw [decide_eq_true (.inl h)]
  rfl
theorem divOk_of {a m : Int} (h : 0 < m ∧ m ≤ 1000000) : divOk a m = true := by
  unfold divOk
  refine decide_eq_true ⟨h.1, ?_⟩
  have h1 : m.natAbs < 2 ^ 20 := by omega
  have h2 : (2 : Nat) ^ 20 ≤ 2 ^ 9000 := Nat.pow_le_pow_right (by decide) (by decide)
  exact (Nat.log2_lt (by omega)).mpr (Nat.lt_of_lt_of_le h1 h2)
theorem take_ok {n : Nat} {f s t m : Int} (hn : cs[n]? = some (drawn f s t)) (hs : 0 ≤ s ∧ s < 2147483549) (hm : 0 < m ∧ m ≤ 1000000) :
    Tb W (k + 1) 1 [.ref n, .d (.int m)] cs = .ok (.d (.int (if 0 < f then f % m else nextS s t / 128 % m))) (cs.set n (drawn (if 0 < f then f / m else f) (nextS s t) (t + 1))) := by
  have hl : n < cs.length := (List.getElem?_eq_some_iff.mp hn).1
  have m1 : mulOk 6 t = true := mulOk_l (by decide)
  have m2 : mulOk s (81013 + 6 * t) = true := mulOk_l (by omega)
  have m3 : mulOk 44017 t = true := mulOk_l (by decide)
  have d1 : divOk f m = true := divOk_of hm
  have d2 : divOk (nextS s t) 128 = true := divOk_of (by decide)
  have sg : ∀ x : Cell, (cs.set n x)[n]? = some x := fun x => by rw [List.getElem?_set_self hl]
  clear hl
  rw [tb_1]
  unfold b_1
  have hn' : cs[n]? = some (.lst [.d (.int f), .d (.int s), .d (.int t)]) := hn
  have e1 : asgG (tupG 3 (consG (patG (.nm 2)) (consG (patG (.nm 3)) (consG (patG (.nm 4)) nilG)))) (fun ρ cs => getV ρ 0 cs) [some (.ref n), some (.d (.int m)), none, none, none] cs = .nx [some (.ref n), some (.d (.int m)), some (.d (.int f)), some (.d (.int s)), some (.d (.int t))] cs := by
    simp [asgG, gv0, tupG, asQ, asT, asL, hn', consG, patG, nilG, asgP]
  have e2 : ∀ ρ : Rho, ρ = [some (.ref n), some (.d (.int m)), some (.d (.int f)), some (.d (.int s)), some (.d (.int t))] → (asgG (subG (fun ρ cs => getV ρ 0 cs) (fun _ cs => .ok (.d (.int (1))) cs)) (bin modT (app intT (consA (bin addT (bin addT (bin mulA (fun ρ cs => getV ρ 3 cs) (bin addT (fun _ cs => .ok (.d (.int (81013))) cs) (bin mulA (fun _ cs => .ok (.d (.int (6))) cs) (fun ρ cs => getV ρ 4 cs)))) (bin mulA (fun _ cs => .ok (.d (.int (44017))) cs) (fun ρ cs => getV ρ 4 cs))) (fun _ cs => .ok (.d (.int (30211))) cs)) nilA)) (fun _ cs => .ok (.d (.int (2147483549))) cs))) ρ cs = .nx ρ (cs.set n (drawn f (nextS s t) t)) := by
    rintro ρ rfl
    simp [asgG, gv0, gv1, gv2, gv3, gv4, bin, app, consA, nilA, mulA, m1, m2, m3, addT, intT, modT, iniC, subG, setiT, hn', L2.ixN, nextS]
  let ρ0 : Rho := [some (.ref n), some (.d (.int m)), some (.d (.int f)), some (.d (.int s)), some (.d (.int t))]
  have sg' : ∀ a b c : Int, (cs.set n (drawn a b c))[n]? = some (.lst [.d (.int a), .d (.int b), .d (.int c)]) := fun a b c => sg _
  have e3 : asgG (subG (fun ρ cs => getV ρ 0 cs) (fun _ cs => .ok (.d (.int (2))) cs)) (bin addT (fun ρ cs => getV ρ 4 cs) (fun _ cs => .ok (.d (.int (1))) cs)) ρ0 (cs.set n (drawn f (nextS s t) t)) = .nx ρ0 (cs.set n (drawn f (nextS s t) (t + 1))) := by
    simp [ρ0, asgG, gv0, gv4, gv3, gv2, gv1, bin, addT, subG, setiT, sg', L2.ixN, List.set_set]
  have e2 := e2 ρ0 rfl
  unfold fnF
  rw [if_pos (show ([T.ref n, T.d (.int m)] : List T).length = ps_1.length from rfl)]
  have e0 : startR N_1.length [T.ref n, T.d (.int m)] = [some (.ref n), some (.d (.int m)), none, none, none] := rfl
  rw [e0]
  rw [seq_nx e1, seq_nx e2, seq_nx e3]
  by_cases hf : 0 < f
  · simp [ρ0, seqS, ifS, tst, bin, gv0, gv1, gv2, gv3, gv4, inb, hf, asgG, fdivT, modT, app, consA, nilA, intT, iniC, d1, subG, setiT, sg', L2.ixN, List.set_set, retS, endF, hm.1]
    exact leave_len (by simp)
  · simp [ρ0, seqS, ifS, tst, bin, gv0, gv1, gv2, gv3, gv4, inb, hf, fdivT, modT, app, consA, nilA, intT, iniC, d2, itemT, asQ, asT, asL, sg', L2.ixN, L2.atI, retS, endF, hm.1, passS]
    exact leave_len (by simp)
/-- what is left of a script: figures, seed, turn -/
structure Dw where
  f : Int
  s : Int
  t : Int
abbrev Dw.cell (D : Dw) : Cell := drawn D.f D.s D.t
abbrev Dw.Ok (D : Dw) : Prop := 0 ≤ D.s ∧ D.s < 2147483549
def Dw.val (D : Dw) (m : Int) : Int := if 0 < D.f then D.f % m else nextS D.s D.t / 128 % m
def Dw.next (D : Dw) (m : Int) : Dw := ⟨if 0 < D.f then D.f / m else D.f, nextS D.s D.t, D.t + 1⟩
theorem Dw.next_ok (D : Dw) (m : Int) : (D.next m).Ok := nextS_range _ _
theorem Dw.val_range (D : Dw) {m : Int} (h : 0 < m) : 0 ≤ D.val m ∧ D.val m < m := by
  unfold Dw.val
  split <;> exact ⟨Int.emod_nonneg _ (by omega), Int.emod_lt_of_pos _ h⟩
theorem takeD {D : Dw} {n : Nat} {m : Int} (hn : cs[n]? = some D.cell) (hD : D.Ok) (hm : 0 < m ∧ m ≤ 1000000) :
    Tb W (k + 1) 1 [.ref n, .d (.int m)] cs = .ok (.d (.int (D.val m))) (cs.set n (D.next m).cell) := take_ok hn hD hm
theorem atI_at {α : Type} {xs : List α} {i : Int} {x : α} (h0 : 0 ≤ i) (h : xs[i.toNat]? = some x) : L2.atI xs i = some x := by
  have hi := (List.getElem?_eq_some_iff.mp h).1
  unfold L2.atI L2.ixN
  rw [if_pos h0, if_pos (by omega)]
  exact h
theorem item_list {xs : List PyData} {i : Int} {x : PyData} (h0 : 0 ≤ i) (h : xs[i.toNat]? = some x) : itemT W (.d (.list xs)) (.d (.int i)) cs = .ok (.d x) cs := by
  have e : L2.atI (xs.map T.d) i = some (.d x) := atI_at h0 (by rw [List.getElem?_map, h]; rfl)
  simp [itemT, asQ, asT, asL, e]
theorem item_tup {xs : List PyData} {i : Int} {x : PyData} (h0 : 0 ≤ i) (h : xs[i.toNat]? = some x) : itemT W (.d (.tuple xs)) (.d (.int i)) cs = .ok (.d x) cs := by
  have e : L2.atI (xs.map T.d) i = some (.d x) := atI_at h0 (by rw [List.getElem?_map, h]; rfl)
  simp [itemT, asQ, asT, asL, e]
/-- one of a tuple, drawn -/
theorem pick_ok {D : Dw} {n : Nat} {xs : List PyData} (hn : cs[n]? = some D.cell) (hD : D.Ok) (hx : 0 < xs.length ∧ xs.length ≤ 1000000) :
    ∃ x, xs[(D.val xs.length).toNat]? = some x ∧ Tb W (k + 2) 2 [.ref n, .d (.tuple xs)] cs = .ok (.d x) (cs.set n (D.next xs.length).cell) := by
  have hv := D.val_range (m := xs.length) (by omega)
  have hi : (D.val xs.length).toNat < xs.length := by omega
  refine ⟨xs[(D.val xs.length).toNat], List.getElem?_eq_getElem hi, ?_⟩
  rw [tb_2]
  unfold b_2
  refine (fn_rt rfl (ret_of (t := .d xs[(D.val xs.length).toNat]) (bin_of (t := .d (.tuple xs)) (u := .d (.int (D.val xs.length))) rfl ((call2 (t := .ref n) (u := .d (.int xs.length)) rfl (by simp [startR, app, consA, nilA, lenT, gv0, gv1, asQ, asT, asL])).trans (takeD hn hD (by omega))) (item_tup hv.1 (List.getElem?_eq_getElem hi))))).trans (leave_len (by simp))
theorem mulOk_r {a b : Int} (h : -(2 ^ 64) < b ∧ b < 2 ^ 64) : mulOk a b = true := by
  unfold mulOk
  rw [decide_eq_true (.inr h)]
  rfl
theorem bin_add {f g : EF} {ρ : Rho} {c c1 c2 : Cs} {x y : Int} (h1 : f ρ c = .ok (.d (.int x)) c1) (h2 : g ρ c1 = .ok (.d (.int y)) c2) : bin addT f g ρ c = .ok (.d (.int (x + y))) c2 := bin_of h1 h2 rfl
theorem bin_mul {f g : EF} {ρ : Rho} {c c1 c2 : Cs} {x y : Int} (h1 : f ρ c = .ok (.d (.int x)) c1) (h2 : g ρ c1 = .ok (.d (.int y)) c2) (hm : mulOk x y = true) : bin mulA f g ρ c = .ok (.d (.int (x * y))) c2 := bin_of h1 h2 (by unfold mulA; exact if_pos hm)
theorem bin_mod {f g : EF} {ρ : Rho} {c c1 c2 : Cs} {x y : Int} (h1 : f ρ c = .ok (.d (.int x)) c1) (h2 : g ρ c1 = .ok (.d (.int y)) c2) (hm : 0 < y) : bin modT f g ρ c = .ok (.d (.int (x % y))) c2 := bin_of h1 h2 (by unfold modT iniC; exact if_pos (decide_eq_true hm))
theorem app_int {f : EF} {ρ : Rho} {c c1 : Cs} {x : Int} (h1 : f ρ c = .ok (.d (.int x)) c1) : app intT (consA f nilA) ρ c = .ok (.d (.int x)) c1 := by
  unfold app
  rw [cons_of h1 nil_of]
  rfl
theorem app_abs {f : EF} {ρ : Rho} {c c1 : Cs} {x : Int} (h1 : f ρ c = .ok (.d (.int x)) c1) : app absT (consA f nilA) ρ c = .ok (.d (.int (if x < 0 then -x else x))) c1 := by
  unfold app
  rw [cons_of h1 nil_of]
  rfl
theorem app_len {f : EF} {ρ : Rho} {c c1 : Cs} {ns : List Int} (h1 : f ρ c = .ok (.scr ns) c1) : app lenT (consA f nilA) ρ c = .ok (.d (.int ns.length)) c1 := by
  unfold app
  rw [cons_of h1 nil_of]
  simp [lenT, asQ, asT, asL]
theorem bin_pow {f g : EF} {ρ : Rho} {c c1 c2 : Cs} {x y : Int} (h1 : f ρ c = .ok (.d (.int x)) c1) (h2 : g ρ c1 = .ok (.d (.int y)) c2) (hm : 0 ≤ y ∧ y ≤ 1000000 ∧ x.natAbs < 2 ^ 64) : bin powT f g ρ c = .ok (.d (.int (x ^ y.toNat))) c2 := bin_of h1 h2 (by unfold powT iniC; exact if_pos (decide_eq_true hm))
theorem tst_b {f g : EF} {o : Int → Int → Bool} {ρ : Rho} {c c1 c2 : Cs} {x y : Int} (h1 : f ρ c = .ok (.d (.int x)) c1) (h2 : g ρ c1 = .ok (.d (.int y)) c2) : tst (bin (inb o) f g) ρ c = .ok (o x y) c2 := by
  unfold tst
  rw [bin_of (op := inb o) h1 h2 rfl]
  rfl
theorem ifE_of {t : BF} {f g : EF} {ρ : Rho} {c c1 : Cs} {b : Bool} (h : t ρ c = .ok b c1) : ifE t f g ρ c = if b = true then f ρ c1 else g ρ c1 := by
  unfold ifE
  rw [h]
  rfl
theorem allD_ints : ∀ ns : List Int, allD (ns.map fun i => T.d (.int i)) = some (ns.map PyData.int)
  | [] => rfl
  | i :: ns => by
    have := allD_ints ns
    simp only [List.map_cons, allD, this]
theorem forL_oneK {keep : Cs → Prop} (hk : keep cs) {i : Nat} {b : SF} {ρ ρ2 : Rho} {c2 : Cs} {t : T} {ts : List T} (h : b (ρ.set i (some t)) cs = .nx ρ2 c2) : forL keep (.nm i) b (t :: ts) ρ cs = forL keep (.nm i) b ts ρ2 c2 := by
  rw [forL, if_pos hk]
  simp only [asgP, h]
/-- the seed, number by number -/
theorem seed_loop {M : Lv} {ns : List Int} {i v : Int} {keep : Cs → Prop} (hk : keep cs) : ∀ (xs : List Int) {s : Int} {r4 : Option T}, 0 ≤ s ∧ s < 2147483549 → ∃ s' r4', (0 ≤ s' ∧ s' < 2147483549) ∧
    forL keep (.nm 4) (lb_0_0 W M) (xs.map fun i => T.d (.int i)) [some (.scr ns), some (.d (.int i)), some (.d (.int v)), some (.d (.int s)), r4] cs = .nx [some (.scr ns), some (.d (.int i)), some (.d (.int v)), some (.d (.int s')), r4'] cs
  | [], s, r4, hs => ⟨s, r4, hs, by rw [List.map_nil, forL, if_pos hk]⟩
  | x :: xs, s, r4, hs => by
    have b : lb_0_0 W M [some (.scr ns), some (.d (.int i)), some (.d (.int v)), some (.d (.int s)), some (.d (.int x))] cs = .nx [some (.scr ns), some (.d (.int i)), some (.d (.int v)), some (.d (.int ((s * 12007 + x) % 2147483549))), some (.d (.int x))] cs := by
      unfold lb_0_0
      exact set_of (bin_mod (app_int (bin_add (bin_mul (c1 := cs) (c2 := cs) rfl rfl (mulOk_r (by decide))) (c2 := cs) rfl)) rfl (by decide))
    obtain ⟨s', r4', h1, h2⟩ := seed_loop hk xs (s := (s * 12007 + x) % 2147483549) (r4 := some (.d (.int x))) ⟨Int.emod_nonneg _ (by decide), Int.emod_lt_of_pos _ (by decide)⟩
    refine ⟨s', r4', h1, ?_⟩
    rw [List.map_cons]
    exact (forL_oneK hk b).trans h2
theorem p64 : mulOk ((10 : Int) ^ (64 : Int).toNat) ((10 : Int) ^ (64 : Int).toNat) = true := by decide +kernel
theorem p128 : mulOk ((10 : Int) ^ (64 : Int).toNat * (10 : Int) ^ (64 : Int).toNat) ((10 : Int) ^ (64 : Int).toNat) = true := by decide +kernel
/-- the purse of one number -/
theorem purse_ok {ns : List Int} {i : Nat} : ∃ f s, (0 ≤ s ∧ s < 2147483549) ∧ Tb W (k + 1) 0 [.scr ns, .d (.int i)] cs = .ok (.ref cs.length) (cs ++ [drawn f s 0]) := by
  rw [tb_0, bq_0]
  have e0 : startR N_0.length [.scr ns, .d (.int (i : Int))] = [some (.scr ns), some (.d (.int i)), none, none, none] := rfl
  have e1 : ∃ v : Int, ifE (tst (bin (inb fun i j => decide (i < j)) (fun ρ cs => getV ρ 1 cs) (app lenT (consA (fun ρ cs => getV ρ 0 cs) nilA)))) (bin (itemT W) (fun ρ cs => getV ρ 0 cs) (fun ρ cs => getV ρ 1 cs)) (fun _ cs => .ok (.d (.int (0))) cs) [some (.scr ns), some (.d (.int i)), none, none, none] cs = .ok (.d (.int v)) cs := by
    have t := tst_b (o := fun i j => decide (i < j)) (f := fun ρ cs => getV ρ 1 cs) (g := app lenT (consA (fun ρ cs => getV ρ 0 cs) nilA)) (ρ := [some (.scr ns), some (.d (.int i)), none, none, none]) (c := cs) (c1 := cs) (c2 := cs) (x := i) (y := ns.length) rfl (app_len rfl)
    by_cases h : i < ns.length
    · refine ⟨ns[i], (ifE_of t).trans ?_⟩
      rw [decide_eq_true (by omega), if_pos rfl]
      refine bin_of (t := .scr ns) (u := .d (.int i)) (c1 := cs) (c2 := cs) rfl rfl ?_
      have g : L2.atI (ns.map fun i => T.d (.int i)) i = some (.d (.int ns[i])) := by
        unfold L2.atI
        have : L2.ixN (ns.map fun i => T.d (.int i)).length (i : Int) = some i := by
          unfold L2.ixN
          simp [h]
        rw [this]
        simp [h]
      simp only [itemT, asQ, asT, asL, g]
    · refine ⟨0, (ifE_of t).trans ?_⟩
      rw [decide_eq_false (by omega), if_neg (by decide)]
  obtain ⟨v, e1⟩ := e1
  have e2 : setS 3 (bin modT (app intT (consA (bin addT (bin addT (bin mulA (fun ρ cs => getV ρ 2 cs) (fun _ cs => .ok (.d (.int (19013))) cs)) (bin mulA (fun ρ cs => getV ρ 1 cs) (fun _ cs => .ok (.d (.int (83003))) cs))) (fun _ cs => .ok (.d (.int (907))) cs)) nilA)) (fun _ cs => .ok (.d (.int (2147483549))) cs)) [some (.scr ns), some (.d (.int i)), some (.d (.int v)), none, none] cs = .nx [some (.scr ns), some (.d (.int i)), some (.d (.int v)), some (.d (.int ((v * 19013 + i * 83003 + 907) % 2147483549))), none] cs :=
    set_of (bin_mod (c1 := cs) (c2 := cs) (app_int (bin_add (c1 := cs) (c2 := cs) (bin_add (c1 := cs) (c2 := cs) (bin_mul (c1 := cs) (c2 := cs) rfl rfl (mulOk_r (by decide))) (bin_mul (c1 := cs) (c2 := cs) rfl rfl (mulOk_r (by decide)))) rfl)) rfl (by decide))
  have e3 : ∃ ms : List Int, ∃ ks, seqI (ifE (tst (bin (inb fun i j => decide (j ≤ i)) (fun ρ cs => getV ρ 1 cs) (app lenT (consA (fun ρ cs => getV ρ 0 cs) nilA)))) (sliceE slcT (fun ρ cs => getV ρ 0 cs) noO (someO (fun _ cs => .ok (.d (.int (4))) cs))) (lstE nilA)) [some (.scr ns), some (.d (.int i)), some (.d (.int v)), some (.d (.int ((v * 19013 + i * 83003 + 907) % 2147483549))), none] cs = .ok (ms.map fun i => T.d (.int i), ks) cs ∧ ks cs := by
    have t := tst_b (o := fun i j => decide (j ≤ i)) (f := fun ρ cs => getV ρ 1 cs) (g := app lenT (consA (fun ρ cs => getV ρ 0 cs) nilA)) (ρ := [some (.scr ns), some (.d (.int i)), some (.d (.int v)), some (.d (.int ((v * 19013 + i * 83003 + 907) % 2147483549))), none]) (c := cs) (c1 := cs) (c2 := cs) (x := i) (y := ns.length) rfl (app_len rfl)
    have q : ∀ (ms : List Int) (e : EF) (ρ : Rho), e ρ cs = .ok (.d (.list (ms.map PyData.int))) cs → ∃ ks, seqI e ρ cs = .ok (ms.map fun i => T.d (.int i), ks) cs ∧ ks cs := fun ms e ρ h => by
      refine ⟨keepOf cs (.d (.list (ms.map PyData.int))), ?_, trivial⟩
      unfold seqI
      rw [h]
      simp [asQ, asT, asL]
    by_cases h : ns.length ≤ i
    · refine ⟨cutL ns none (some 4), q _ _ _ ((ifE_of t).trans ?_)⟩
      rw [decide_eq_true (by omega), if_pos rfl]
      have g : cutL (ns.map fun i => T.d (.int i)) none (some 4) = (cutL ns none (some 4)).map fun i => T.d (.int i) := by
        simp [cutL, List.map_drop, List.map_take]
      show slcT cs (.scr ns) none (some 4) = _
      simp only [slcT, asL, g, allD_ints]
    · refine ⟨[], q _ _ _ ((ifE_of t).trans ?_)⟩
      rw [decide_eq_false (by omega), if_neg (by decide)]
      rfl
  obtain ⟨ms, ks, e3, hk⟩ := e3
  obtain ⟨s', r4, hs, e4⟩ := seed_loop (W := W) (M := Tb W k) (ns := ns) (i := i) (v := v) hk ms (s := (v * 19013 + i * 83003 + 907) % 2147483549) (r4 := none) ⟨Int.emod_nonneg _ (by decide), Int.emod_lt_of_pos _ (by decide)⟩
  have e5 : forS (seqI (ifE (tst (bin (inb fun i j => decide (j ≤ i)) (fun ρ cs => getV ρ 1 cs) (app lenT (consA (fun ρ cs => getV ρ 0 cs) nilA)))) (sliceE slcT (fun ρ cs => getV ρ 0 cs) noO (someO (fun _ cs => .ok (.d (.int (4))) cs))) (lstE nilA))) (.nm 4) (lb_0_0 W (Tb W k)) [some (.scr ns), some (.d (.int i)), some (.d (.int v)), some (.d (.int ((v * 19013 + i * 83003 + 907) % 2147483549))), none] cs = .nx [some (.scr ns), some (.d (.int i)), some (.d (.int v)), some (.d (.int s')), r4] cs := by
    unfold forS
    rw [e3]
    exact e4
  have e6 : ∃ f : Int, ifE (tst (bin (inb fun i j => decide (j ≤ i)) (app absT (consA (fun ρ cs => getV ρ 2 cs) nilA)) (bin powT (fun _ cs => .ok (.d (.int (10))) cs) (fun _ cs => .ok (.d (.int (18))) cs)))) (bin modT (app intT (consA (app absT (consA (fun ρ cs => getV ρ 2 cs) nilA)) nilA)) (bin mulA (bin mulA (bin powT (fun _ cs => .ok (.d (.int (10))) cs) (fun _ cs => .ok (.d (.int (64))) cs)) (bin powT (fun _ cs => .ok (.d (.int (10))) cs) (fun _ cs => .ok (.d (.int (64))) cs))) (bin powT (fun _ cs => .ok (.d (.int (10))) cs) (fun _ cs => .ok (.d (.int (64))) cs)))) (fun _ cs => .ok (.d (.int (0))) cs) [some (.scr ns), some (.d (.int i)), some (.d (.int v)), some (.d (.int s')), r4] cs = .ok (.d (.int f)) cs := by
    have pw : ∀ ρ : Rho, bin powT (fun _ cs => .ok (.d (.int (10))) cs) (fun _ cs => .ok (.d (.int (64))) cs) ρ cs = .ok (.d (.int (10 ^ (64 : Int).toNat))) cs := fun ρ => bin_pow (c1 := cs) (c2 := cs) rfl rfl (by decide)
    have ab := app_abs (f := fun ρ cs => getV ρ 2 cs) (ρ := [some (.scr ns), some (.d (.int i)), some (.d (.int v)), some (.d (.int s')), r4]) (c := cs) (c1 := cs) (x := v) rfl
    have t := tst_b (o := fun i j => decide (j ≤ i)) ab (bin_pow (f := fun _ cs => .ok (.d (.int (10))) cs) (g := fun _ cs => .ok (.d (.int (18))) cs) (c1 := cs) (c2 := cs) (x := 10) (y := 18) rfl rfl (by decide))
    by_cases h : (10 : Int) ^ (18 : Int).toNat ≤ (if v < 0 then -v else v)
    · refine ⟨(if v < 0 then -v else v) % ((10 : Int) ^ (64 : Int).toNat * (10 : Int) ^ (64 : Int).toNat * (10 : Int) ^ (64 : Int).toNat), (ifE_of t).trans ?_⟩
      rw [decide_eq_true h, if_pos rfl]
      exact bin_mod (app_int ab) (bin_mul (bin_mul (pw _) (pw _) p64) (pw _) p128) (by decide +kernel)
    · refine ⟨0, (ifE_of t).trans ?_⟩
      rw [decide_eq_false h, if_neg (by decide)]
  obtain ⟨f, e6⟩ := e6
  have hz : sizeLine = 16777216 := sizeLine_eq
  refine ⟨f, s', hs, ?_⟩
  refine (fn_rt rfl (t := .ref cs.length) (c1 := cs ++ [drawn f s' 0]) ?_).trans ?_
  · rw [e0]
    refine (seq_nx (set_of e1)).trans ((seq_nx e2).trans ((seq_nx e5).trans (ret_of ?_)))
    unfold lstC
    rw [cons_of e6 (cons_of (t := .d (.int s')) (c1 := cs) rfl (cons_of (t := .d (.int 0)) (c1 := cs) rfl nil_of))]
    simp only [R.bind_ok]
    exact if_pos (by rw [hz]; simp)
  · unfold leaveT
    dsimp only [isData]
    exact if_neg (fun h => by cases h.1)
end G
end
section
set_option Elab.async false
set_option linter.all false
set_option maxRecDepth 100000
set_option maxHeartbeats 1000000
namespace G
open PySem Y
variable {W : Wd} {k : Nat} {cs : Cs}
/-- of which classes an exception is -/
theorem kinds_ok {n ci : Nat} {fs : List (Str × T)} (hn : cs[n]? = some (.exn ci fs)) (hci : ci < 21) : Tb W (k + 1) 5 [.ref n] cs = .ok (.d (.list ((kb1 ci ++ kb2 ci).map .bool))) cs := by
  rw [tb_5]
  have h1 : ∀ g : Option T, lstE (consA (isX BL_1 (fun ρ cs => getV ρ 0 cs)) (consA (isX BL_2 (fun ρ cs => getV ρ 0 cs)) (consA (isX BL_3 (fun ρ cs => getV ρ 0 cs)) (consA (isX BL_4 (fun ρ cs => getV ρ 0 cs)) (consA (isX BL_5 (fun ρ cs => getV ρ 0 cs)) (consA (isX BL_6 (fun ρ cs => getV ρ 0 cs)) (consA (isX BL_7 (fun ρ cs => getV ρ 0 cs)) (consA (isX BL_8 (fun ρ cs => getV ρ 0 cs)) (consA (isX BL_9 (fun ρ cs => getV ρ 0 cs)) (consA (isX BL_10 (fun ρ cs => getV ρ 0 cs)) (consA (isX BL_11 (fun ρ cs => getV ρ 0 cs)) nilA))))))))))) [some (.ref n), g] cs = .ok (.d (.list ((kb1 ci).map .bool))) cs := fun g => bits_of (bs := kb1 ci) (cons_of (isX0 (ci := ci) (fs := fs) rfl hn (hbit (B := BL_1) hci)) (cons_of (isX0 (ci := ci) (fs := fs) rfl hn (hbit (B := BL_2) hci)) (cons_of (isX0 (ci := ci) (fs := fs) rfl hn (hbit (B := BL_3) hci)) (cons_of (isX0 (ci := ci) (fs := fs) rfl hn (hbit (B := BL_4) hci)) (cons_of (isX0 (ci := ci) (fs := fs) rfl hn (hbit (B := BL_5) hci)) (cons_of (isX0 (ci := ci) (fs := fs) rfl hn (hbit (B := BL_6) hci)) (cons_of (isX0 (ci := ci) (fs := fs) rfl hn (hbit (B := BL_7) hci)) (cons_of (isX0 (ci := ci) (fs := fs) rfl hn (hbit (B := BL_8) hci)) (cons_of (isX0 (ci := ci) (fs := fs) rfl hn (hbit (B := BL_9) hci)) (cons_of (isX0 (ci := ci) (fs := fs) rfl hn (hbit (B := BL_10) hci)) (cons_of (isX0 (ci := ci) (fs := fs) rfl hn (hbit (B := BL_11) hci)) nil_of))))))))))) (by show 11 ≤ 100; decide)
  have h2 : ∀ g : Option T, lstE (consA (isX BL_12 (fun ρ cs => getV ρ 0 cs)) (consA (isX BL_13 (fun ρ cs => getV ρ 0 cs)) (consA (isX BL_14 (fun ρ cs => getV ρ 0 cs)) (consA (isX BL_15 (fun ρ cs => getV ρ 0 cs)) (consA (isX BL_16 (fun ρ cs => getV ρ 0 cs)) (consA (isX BL_17 (fun ρ cs => getV ρ 0 cs)) (consA (isX BL_18 (fun ρ cs => getV ρ 0 cs)) (consA (isX BL_19 (fun ρ cs => getV ρ 0 cs)) (consA (isX BL_20 (fun ρ cs => getV ρ 0 cs)) nilA))))))))) [some (.ref n), g] cs = .ok (.d (.list ((kb2 ci).map .bool))) cs := fun g => bits_of (bs := kb2 ci) (cons_of (isX0 (ci := ci) (fs := fs) rfl hn (hbit (B := BL_12) hci)) (cons_of (isX0 (ci := ci) (fs := fs) rfl hn (hbit (B := BL_13) hci)) (cons_of (isX0 (ci := ci) (fs := fs) rfl hn (hbit (B := BL_14) hci)) (cons_of (isX0 (ci := ci) (fs := fs) rfl hn (hbit (B := BL_15) hci)) (cons_of (isX0 (ci := ci) (fs := fs) rfl hn (hbit (B := BL_16) hci)) (cons_of (isX0 (ci := ci) (fs := fs) rfl hn (hbit (B := BL_17) hci)) (cons_of (isX0 (ci := ci) (fs := fs) rfl hn (hbit (B := BL_18) hci)) (cons_of (isX0 (ci := ci) (fs := fs) rfl hn (hbit (B := BL_19) hci)) (cons_of (isX0 (ci := ci) (fs := fs) rfl hn (hbit (B := BL_20) hci)) nil_of))))))))) (by show 9 ≤ 100; decide)
  exact (fn_rt rfl ((seq_nx (set_of (h1 none))).trans (ret_of (bin_of (t := .d (.list ((kb1 ci).map .bool))) (u := .d (.list ((kb2 ci).map .bool))) (c1 := cs) (c2 := cs) (r := .ok (.d (.list ((kb1 ci ++ kb2 ci).map .bool))) cs) rfl (h2 _) (by rw [List.map_append]; rfl))))).trans leave_same
theorem bl0 : ∀ ci, ci < 21 → BL_0[ci]? = some true := by decide
theorem blV : ∀ ci, ci < 21 → BL_V[ci]? = some true := by decide
theorem blT : ∀ ci, ci < 21 → BL_T[ci]? = some false := by decide
theorem plain_ok {n ci : Nat} {fs : List (Str × T)} (hn : cs[n]? = some (.exn ci fs)) (hci : ci < 21) : Tb W (k + 1) 7 [.ref n] cs = .ok (.d (.bool true)) cs := by
  rw [tb_7]
  refine (fn_rt rfl ((seq_nx (ρ1 := [some (.ref n)]) (c1 := cs) ((if_ff (c1 := cs) (or_ff (not_of (val_of (isX0 rfl hn (bl0 ci hci)))) (not_of (val_of (isX0 rfl hn (blV ci hci)))))).trans rfl)).trans (ret_of (t := .d (.bool true)) (c1 := cs) (by
    unfold notE
    rw [isX0 rfl hn (blT ci hci)]
    rfl)))).trans leave_same
/-! what an error keeps -/
/-- may be shown -/
structure RpOk (d : PyData) : Prop where
  a : d.showable = true ∧ d.depth < 60 ∧ d.shown.length ≤ sizeLine
theorem repr_of {f : EF} {ρ : Rho} {c c1 : Cs} {d : PyData} (h : f ρ c = .ok (.d d) c1) (r : RpOk d) : app reprX (consA f nilA) ρ c = .ok (.d (.str d.shown)) c1 := by
  rw [app_one h]
  unfold reprX toZ
  dsimp only
  rw [if_pos r.a]
theorem eq_str {f g : EF} {ρ : Rho} {c c1 c2 : Cs} {a b : Str} (h : f ρ c = .ok (.d (.str a)) c1) (h2 : g ρ c1 = .ok (.d (.str b)) c2) : tst (bin eqT f g) ρ c = .ok (decide (a = b)) c2 := tst_of (bin_of h h2 rfl)
theorem ne_str {f g : EF} {ρ : Rho} {c c1 c2 : Cs} {a b : Str} (h : f ρ c = .ok (.d (.str a)) c1) (h2 : g ρ c1 = .ok (.d (.str b)) c2) : tst (bin neT f g) ρ c = .ok (!decide (a = b)) c2 := tst_of (bin_of h h2 rfl)
theorem fld_of {xk : Nat → Str → Bool} {f : Str} {fo : EF} {ρ : Rho} {c : Cs} {n ci : Nat} {fs : List (Str × T)} {t : T} (h : fo ρ c = .ok (.ref n) c) (hn : c[n]? = some (.exn ci fs)) (hl : fs.lookup f = some t) (hx : xk ci f = true) : fldX xk f fo ρ c = .ok t c := by
  unfold fldX
  rw [h]
  simp only [R.bind_ok, hn, hl, hx, if_true]
theorem xok_of {ci : Nat} {n : Str} (hci : ci < 21) (h : decide (n ∈ (["given", "index", "row", "word", "reason"] : List Str)) = true) : xok ci n = true := by
  unfold xok
  rw [decide_eq_true hci, h]
  rfl
/-- what the fields of an error are, by its word -/
inductive FsOk (t : T) : Str → List (Str × T) → Prop
  | given : FsOk t "given" [("given", t)]
  | index : FsOk t "index" [("index", t)]
  | reason : FsOk t "reason" [("reason", t)]
  | row (u : T) (h : ∀ d, t = .d d → u = .d (.list [d])) : FsOk t "row" [("word", u), ("row", t)]
  | none : FsOk t "" []
def keptT (t : T) (w : Str) : T := if w = "" then .d .none else t
theorem kept_ok {n ci : Nat} {fs : List (Str × T)} {w : Str} {t : T} (hn : cs[n]? = some (.exn ci fs)) (hci : ci < 21) (hf : FsOk t w fs) (hw : w = "row" → ∃ d, t = .d d ∧ RpOk (.list [d])) : Tb W (k + 1) 6 [.d (.str w), .ref n] cs = .ok (keptT t w) cs := by
  rw [tb_6]
  have q : ∀ (x : Str) (w : Str), tst (bin eqT (fun ρ cs => getV ρ 0 cs) (fun _ cs => .ok (.d (.str x)) cs)) [some (.d (.str w)), some (.ref n)] cs = .ok (decide (w = x)) cs := fun x w => eq_str rfl rfl
  have no : ∀ (w x : Str) (b : SF), decide (w = x) = false → ifS (tst (bin eqT (fun ρ cs => getV ρ 0 cs) (fun _ cs => .ok (.d (.str x)) cs))) b passS [some (.d (.str w)), some (.ref n)] cs = .nx [some (.d (.str w)), some (.ref n)] cs := fun w x b h => by
    rw [if_ff ((q x w).trans (by rw [h]))]
    rfl
  have yes : ∀ (w x : Str) (b : SF), decide (w = x) = true → ifS (tst (bin eqT (fun ρ cs => getV ρ 0 cs) (fun _ cs => .ok (.d (.str x)) cs))) b passS [some (.d (.str w)), some (.ref n)] cs = b [some (.d (.str w)), some (.ref n)] cs := fun w x b h => if_tt ((q x w).trans (by rw [h]))
  have fin : ∀ (w : Str) (t' : T), b_6 W (Tb W k) (startR N_6.length [.d (.str w), .ref n]) cs = .rt t' cs → fnF N_6.length ps_6.length (b_6 W (Tb W k)) [.d (.str w), .ref n] cs = .ok t' cs := fun w t' h => (fn_rt rfl h).trans (leave_len rfl)
  have fl : ∀ (x : Str) (w : Str) (t : T), fs.lookup x = some t → decide (x ∈ (["given", "index", "row", "word", "reason"] : List Str)) = true → fldX xok x (fun ρ cs => getV ρ 1 cs) [some (.d (.str w)), some (.ref n)] cs = .ok t cs := fun x w t h1 h2 => fld_of rfl hn h1 (xok_of hci h2)
  cases hf with
  | given => exact fin _ _ (seq_rt ((yes _ _ _ (by decide +kernel)).trans (ret_of (fl _ _ _ rfl (by decide +kernel)))))
  | index => exact fin _ _ ((seq_nx (no _ _ _ (by decide +kernel))).trans (seq_rt ((yes _ _ _ (by decide +kernel)).trans (ret_of (fl _ _ _ rfl (by decide +kernel))))))
  | reason =>
    refine fin _ _ ((seq_nx (no _ _ _ (by decide +kernel))).trans ((seq_nx (no _ _ _ (by decide +kernel))).trans ((seq_nx (no _ _ _ (by decide +kernel))).trans (ret_of ?_))))
    exact (ifE_tt ((q _ _).trans (by rw [show decide (("reason" : Str) = "reason") = true from by decide +kernel]))).trans (fl _ _ _ rfl (by decide +kernel))
  | none =>
    refine fin _ _ ((seq_nx (no _ _ _ (by decide +kernel))).trans ((seq_nx (no _ _ _ (by decide +kernel))).trans ((seq_nx (no _ _ _ (by decide +kernel))).trans (ret_of ?_))))
    exact (ifE_ff ((q _ _).trans (by rw [show decide (("" : Str) = "reason") = false from by decide +kernel]))).trans rfl
  | row u h =>
    obtain ⟨d, rfl, r⟩ := hw rfl
    have hu := h d rfl
    subst hu
    refine fin _ _ ((seq_nx (no _ _ _ (by decide +kernel))).trans ((seq_nx (no _ _ _ (by decide +kernel))).trans (seq_rt ((yes _ _ _ (by decide +kernel)).trans (ret_of ?_)))))
    have e1 : app reprX (consA (fldX xok "word" (fun ρ cs => getV ρ 1 cs)) nilA) [some (.d (.str "row")), some (.ref n)] cs = .ok (.d (.str (PyData.list [d]).shown)) cs := repr_of (fl _ _ _ rfl (by decide +kernel)) r
    have e2 : lstE (consA (fldX xok "row" (fun ρ cs => getV ρ 1 cs)) nilA) [some (.d (.str "row")), some (.ref n)] cs = .ok (.d (.list [d])) cs := by
      unfold lstE
      rw [cons_of (fl "row" _ (.d d) rfl (by decide +kernel)) nil_of]
      dsimp only [R.bind, allD]
      exact if_pos (by rw [sizeLine_eq]; show 1 ≤ 16777216; decide)
    exact (ifE_tt ((eq_str e1 (repr_of e2 r)).trans (by rw [decide_eq_true rfl]))).trans (fl _ _ _ rfl (by decide +kernel))
end G
end
section
set_option Elab.async false
set_option linter.all false
set_option maxRecDepth 100000
set_option maxHeartbeats 1000000
namespace G
open PySem Y
variable {W : Wd} {k : Nat} {cs : Cs} {t : T} {ci : Nat} {w : Str} {ρ : Rho}
/-! the rows of errors -/
structure RowAt (c : Cs) (t : T) (ci : Nat) (w : Str) (x : T) : Prop where
  ex : ∃ r n1 n2 fs1 fs2, x = .ref r ∧ c[r]? = some (.lst [.d (.str w), .ref n1, .ref n2]) ∧ c[n1]? = some (.exn ci fs1) ∧ c[n2]? = some (.exn ci fs2) ∧ FsOk t w fs1 ∧ FsOk t w fs2
theorem get_app {c e : Cs} {n : Nat} {x : Cell} (h : c[n]? = some x) : (c ++ e)[n]? = some x := by
  rw [List.getElem?_append_left (List.getElem?_eq_some_iff.mp h).1]
  exact h
theorem get_end {c : Cs} {x : Cell} : (c ++ [x])[c.length]? = some x := by simp
theorem RowAt.app {c e : Cs} {x : T} (h : RowAt c t ci w x) : RowAt (c ++ e) t ci w x := by
  obtain ⟨r, n1, n2, f1, f2, h1, h2, h3, h4, h5⟩ := h.ex
  exact ⟨r, n1, n2, f1, f2, h1, get_app h2, get_app h3, get_app h4, h5⟩
inductive Rows (c : Cs) (t : T) : List (Nat × Str) → List T → Prop
  | nil : Rows c t [] []
  | cons {ci : Nat} {w : Str} {x : T} {sp : List (Nat × Str)} {xs : List T} : RowAt c t ci w x → Rows c t sp xs → Rows c t ((ci, w) :: sp) (x :: xs)
theorem Rows.app {c e : Cs} {sp : List (Nat × Str)} {xs : List T} (h : Rows c t sp xs) : Rows (c ++ e) t sp xs := by
  induction h with
  | nil => exact .nil
  | cons h _ ih => exact .cons h.app ih
theorem Rows.len {c : Cs} {sp : List (Nat × Str)} {xs : List T} (h : Rows c t sp xs) : xs.length = sp.length := by
  induction h with
  | nil => rfl
  | cons _ _ ih => simp [ih]
theorem Rows.cat {c : Cs} {sp sp2 : List (Nat × Str)} {xs ys : List T} (h : Rows c t sp xs) (h2 : Rows c t sp2 ys) : Rows c t (sp ++ sp2) (xs ++ ys) := by
  induction h with
  | nil => exact h2
  | cons h _ ih => exact .cons h ih
/-- m makes an error, whatever stands before -/
def Makes (t : T) (ci : Nat) (w : Str) (m : EF) (ρ : Rho) : Prop := ∀ c, ∃ e n fs, m ρ c = .ok (.ref n) (c ++ e) ∧ (c ++ e)[n]? = some (.exn ci fs) ∧ FsOk t w fs
theorem mk1 (hg : ∀ c, getV ρ 0 c = .ok t c) (hf : FsOk t w [(w, t)]) : Makes t ci w (mkx1 ci w (consA (fun ρ cs => getV ρ 0 cs) nilA)) ρ := fun c => by
  refine ⟨[.exn ci [(w, t)]], c.length, [(w, t)], ?_, get_end, hf⟩
  unfold mkx1
  rw [cons_of (hg c) nil_of]
  rfl
theorem mk0 : Makes t ci "" (mkx0 ci) ρ := fun c => ⟨[.exn ci []], c.length, [], rfl, get_end, .none⟩
theorem alt_ok (ht : (∃ d, t = .d d) ∨ ∃ p, t = .ref p) (hg : ∀ c, getV ρ 0 c = .ok t c) (c : Cs) : ∃ e u, altE (lstE (consA (fun ρ cs => getV ρ 0 cs) nilA)) (lstC (consA (fun ρ cs => getV ρ 0 cs) nilA)) ρ c = .ok u (c ++ e) ∧ ∀ d, t = .d d → u = .d (.list [d]) := by
  rcases ht with ⟨d, rfl⟩ | ⟨p, rfl⟩
  · refine ⟨[], .d (.list [d]), ?_, fun d' e => by cases e; rfl⟩
    rw [List.append_nil]
    unfold altE lstE
    rw [cons_of (hg c) nil_of]
    dsimp only [R.bind, allD]
    rw [if_pos (by rw [sizeLine_eq]; show 1 ≤ 16777216; decide)]
  · refine ⟨[.lst [.ref p]], .ref c.length, ?_, fun d' e => by cases e⟩
    unfold altE lstE
    rw [cons_of (hg c) nil_of]
    dsimp only [R.bind, allD]
    unfold lstC
    rw [cons_of (hg c) nil_of]
    dsimp only [R.bind]
    rw [if_pos (by rw [sizeLine_eq]; show 1 ≤ 16777216; decide)]
theorem mk2 (ht : (∃ d, t = .d d) ∨ ∃ p, t = .ref p) (hg : ∀ c, getV ρ 0 c = .ok t c) : Makes t ci "row" (mkx2 ci "row" "word" (consA (fun ρ cs => getV ρ 0 cs) (consA (altE (lstE (consA (fun ρ cs => getV ρ 0 cs) nilA)) (lstC (consA (fun ρ cs => getV ρ 0 cs) nilA))) nilA))) ρ := fun c => by
  obtain ⟨e, u, h1, h2⟩ := alt_ok ht hg c
  refine ⟨e ++ [.exn ci [("word", u), ("row", t)]], (c ++ e).length, [("word", u), ("row", t)], ?_, ?_, .row u h2⟩
  · unfold mkx2
    rw [cons_of (hg c) (cons_of h1 nil_of)]
    dsimp only [R.bind]
    rw [List.append_assoc]
  · rw [← List.append_assoc]
    exact get_end
theorem row_ok {m : EF} (hm : Makes t ci w m ρ) (c : Cs) : ∃ e r, lstC (consA (fun _ cs => .ok (.d (.str w)) cs) (consA m (consA m nilA))) ρ c = .ok (.ref r) (c ++ e) ∧ RowAt (c ++ e) t ci w (.ref r) := by
  obtain ⟨e1, n1, f1, a1, b1, d1⟩ := hm c
  obtain ⟨e2, n2, f2, a2, b2, d2⟩ := hm (c ++ e1)
  refine ⟨e1 ++ e2 ++ [.lst [.d (.str w), .ref n1, .ref n2]], (c ++ e1 ++ e2).length, ?_, ?_⟩
  · unfold lstC
    rw [cons_of (t := .d (.str w)) (c1 := c) rfl (cons_of a1 (cons_of a2 nil_of))]
    dsimp only [R.bind]
    rw [if_pos (by rw [sizeLine_eq]; show 3 ≤ 16777216; decide)]
    simp only [List.append_assoc]
  · have e : c ++ (e1 ++ e2 ++ [.lst [.d (.str w), .ref n1, .ref n2]]) = c ++ e1 ++ e2 ++ [.lst [.d (.str w), .ref n1, .ref n2]] := by simp only [List.append_assoc]
    rw [e]
    exact ⟨_, n1, n2, f1, f2, rfl, get_end, get_app (get_app b1), get_app b2, d1, d2⟩
def AllRows (t : T) (sp : List (Nat × Str)) (g : AF) (ρ : Rho) : Prop := ∀ c, ∃ e xs, g ρ c = .ok xs (c ++ e) ∧ Rows (c ++ e) t sp xs
theorem rows_nil : AllRows t [] nilA ρ := fun c => ⟨[], [], by rw [List.append_nil]; rfl, .nil⟩
theorem rows_cons {f : EF} {g : AF} {sp : List (Nat × Str)} (hf : ∀ c, ∃ e r, f ρ c = .ok (.ref r) (c ++ e) ∧ RowAt (c ++ e) t ci w (.ref r)) (hg : AllRows t sp g ρ) : AllRows t ((ci, w) :: sp) (consA f g) ρ := fun c => by
  obtain ⟨e1, r, a1, b1⟩ := hf c
  obtain ⟨e2, xs, a2, b2⟩ := hg (c ++ e1)
  refine ⟨e1 ++ e2, .ref r :: xs, ?_, ?_⟩
  · rw [cons_of a1 a2, List.append_assoc]
  · rw [← List.append_assoc]
    exact .cons b1.app b2
theorem list_rows {g : AF} {sp : List (Nat × Str)} (hg : AllRows t sp g ρ) (hl : sp.length ≤ 100) (c : Cs) : ∃ e n xs, lstC g ρ c = .ok (.ref n) (c ++ e) ∧ (c ++ e)[n]? = some (.lst xs) ∧ Rows (c ++ e) t sp xs := by
  obtain ⟨e, xs, a, b⟩ := hg c
  refine ⟨e ++ [.lst xs], (c ++ e).length, xs, ?_, ?_, ?_⟩
  · unfold lstC
    rw [a]
    dsimp only [R.bind]
    rw [if_pos (by rw [b.len, sizeLine_eq]; omega), List.append_assoc]
  · rw [← List.append_assoc]
    exact get_end
  · rw [← List.append_assoc]
    exact b.app
def spec1 : List (Nat × Str) := [(1, "given"), (2, "given"), (3, "given"), (4, "given"), (5, "given"), (6, "given"), (7, "given"), (8, "given"), (9, "given"), (10, "given"), (11, "given"), (12, "given"), (13, "given")]
def spec2 : List (Nat × Str) := [(14, "row"), (15, "index"), (16, "index"), (17, "reason"), (18, ""), (19, ""), (20, "")]
theorem ones1 (t : T) : ∃ e n xs, Tb W (k + 1) 3 [t] cs = .ok (.ref n) (cs ++ e) ∧ (cs ++ e)[n]? = some (.lst xs) ∧ Rows (cs ++ e) t spec1 xs := by
  have hg : ∀ c, getV [some t] 0 c = .ok t c := fun c => rfl
  obtain ⟨e, n, xs, h1, h2, h3⟩ := list_rows (sp := spec1) (ρ := [some t]) (rows_cons (row_ok (mk1 hg .given)) (rows_cons (row_ok (mk1 hg .given)) (rows_cons (row_ok (mk1 hg .given)) (rows_cons (row_ok (mk1 hg .given)) (rows_cons (row_ok (mk1 hg .given)) (rows_cons (row_ok (mk1 hg .given)) (rows_cons (row_ok (mk1 hg .given)) (rows_cons (row_ok (mk1 hg .given)) (rows_cons (row_ok (mk1 hg .given)) (rows_cons (row_ok (mk1 hg .given)) (rows_cons (row_ok (mk1 hg .given)) (rows_cons (row_ok (mk1 hg .given)) (rows_cons (row_ok (mk1 hg .given)) rows_nil))))))))))))) (by decide) cs
  exact ⟨e, n, xs, (by rw [tb_3]; exact (fn_rt rfl (ret_of h1)).trans leave_ref), h2, h3⟩
theorem ones2 (t : T) (ht : (∃ d, t = .d d) ∨ ∃ p, t = .ref p) : ∃ e n xs, Tb W (k + 1) 4 [t] cs = .ok (.ref n) (cs ++ e) ∧ (cs ++ e)[n]? = some (.lst xs) ∧ Rows (cs ++ e) t spec2 xs := by
  have hg : ∀ c, getV [some t] 0 c = .ok t c := fun c => rfl
  obtain ⟨e, n, xs, h1, h2, h3⟩ := list_rows (sp := spec2) (ρ := [some t]) (rows_cons (row_ok (mk2 ht hg)) (rows_cons (row_ok (mk1 hg .index)) (rows_cons (row_ok (mk1 hg .index)) (rows_cons (row_ok (mk1 hg .reason)) (rows_cons (row_ok mk0) (rows_cons (row_ok mk0) (rows_cons (row_ok mk0) rows_nil))))))) (by decide) cs
  exact ⟨e, n, xs, (by rw [tb_4]; exact (fn_rt rfl (ret_of h1)).trans leave_ref), h2, h3⟩
theorem both_ok {f : EF} (t : T) (ht : (∃ d, t = .d d) ∨ ∃ p, t = .ref p) (hf : ∀ c, f ρ c = .ok t c) : ∃ e n xs, bin addC (callE (Tb W (k + 1) 3) [] (consA f nilA)) (callE (Tb W (k + 1) 4) [] (consA f nilA)) ρ cs = .ok (.ref n) (cs ++ e) ∧ (cs ++ e)[n]? = some (.lst xs) ∧ Rows (cs ++ e) t (spec1 ++ spec2) xs := by
  obtain ⟨e1, n1, xs1, a1, b1, c1⟩ := ones1 (W := W) (k := k) (cs := cs) t
  obtain ⟨e2, n2, xs2, a2, b2, c2⟩ := ones2 (W := W) (k := k) (cs := cs ++ e1) t ht
  have b1' : (cs ++ e1 ++ e2)[n1]? = some (.lst xs1) := get_app b1
  refine ⟨e1 ++ e2 ++ [.lst (xs1 ++ xs2)], (cs ++ e1 ++ e2).length, xs1 ++ xs2, ?_, ?_, ?_⟩
  · refine bin_of ((call1 (hf cs)).trans a1) ((call1 (hf _)).trans a2) ?_
    unfold addC asM
    simp only [b1', b2]
    rw [if_pos (by rw [List.length_append, c1.len, c2.len, sizeLine_eq]; decide)]
    simp only [List.append_assoc]
  · have e : cs ++ (e1 ++ e2 ++ [.lst (xs1 ++ xs2)]) = cs ++ e1 ++ e2 ++ [.lst (xs1 ++ xs2)] := by simp only [List.append_assoc]
    rw [e]
    exact get_end
  · have e : cs ++ (e1 ++ e2 ++ [.lst (xs1 ++ xs2)]) = cs ++ e1 ++ e2 ++ [.lst (xs1 ++ xs2)] := by simp only [List.append_assoc]
    rw [e]
    exact (c1.app.cat c2).app
end G
end
section
set_option Elab.async false
set_option linter.all false
set_option maxRecDepth 100000
set_option maxHeartbeats 1000000
namespace G
open PySem Y
variable {W : Wd} {k : Nat} {cs : Cs}
theorem lcL_pure {keep : Cs → Prop} {p : Pat} {tt : BF} {e : EF} {ρ : Rho} {sel : T → Bool} {out : T → T} (hk : keep cs) : ∀ {ts : List T}, (∀ t ∈ ts, ∃ ρ1, asgP p t cs ρ = some ρ1 ∧ tt ρ1 cs = .ok (sel t) cs ∧ (sel t = true → e ρ1 cs = .ok (out t) cs)) →
    lcL keep p tt e ρ ts cs = .ok ((ts.filter sel).map out) cs
  | [], _ => by unfold lcL; rw [if_pos hk]; rfl
  | t :: ts, h => by
    obtain ⟨ρ1, h1, h2, h3⟩ := h t List.mem_cons_self
    have ih := lcL_pure hk (ts := ts) fun u hu => h u (List.mem_cons_of_mem _ hu)
    unfold lcL
    rw [if_pos hk, h1]
    dsimp only
    rw [h2]
    dsimp only [R.bind_ok]
    cases hs : sel t with
    | true =>
      rw [if_pos rfl, h3 hs]
      dsimp only [R.bind_ok]
      rw [ih]
      simp [hs]
    | false =>
      rw [if_neg Bool.false_ne_true, ih]
      simp [hs]
theorem allD_mapD {α : Type} (g : α → PyData) (l : List α) : allD (l.map fun x => T.d (g x)) = some (l.map g) := by
  have := allD_map (l.map g)
  rw [List.map_map] at this
  exact this
theorem boolsOf_map {α : Type} (g : α → Bool) (l : List α) : boolsOf (l.map fun x => T.d (.bool (g x))) = some (l.map g) := by
  induction l with
  | nil => rfl
  | cons x l ih => simp [boolsOf, ih]

abbrev kb (ci : Nat) : List Bool := kb1 ci ++ kb2 ci
theorem cmp20 : ∀ s, s < 20 → kb (s + 1) = (List.range 20).map fun at_ => decide ((0 + ((at_ : Nat) : Int)) = ((s : Nat) : Int)) := by decide +kernel
theorem kl20 : ∀ s, s < 20 → (PyData.list ((kb (s + 1)).map .bool)).hasDict = false ∧ SeqAt.shaped (.list ((kb (s + 1)).map .bool)) = true ∧ PyData.eqv (.list ((kb (s + 1)).map .bool)) (.list ((kb (s + 1)).map .bool)) = true := by decide +kernel
theorem ne_self {ds : List PyData} (h1 : (PyData.list ds).hasDict = false) (h2 : SeqAt.shaped (.list ds) = true) (h3 : PyData.eqv (.list ds) (.list ds) = true) : neT (.d (.list ds)) (.d (.list ds)) cs = .ok (.d (.bool false)) cs := by
  have e : eqD cs (.d (.list ds)) (.d (.list ds)) = some true := by
    unfold eqD
    simp only [toD_of h1, h2, h3, and_self, if_true]
  unfold neT
  rw [e]
  rfl
section
variable {r0 r1 r2 r4 r5 r6 r7 r8 r9 r10 r11 : Option T} {w : Str} {th : PyData} {n ci s : Nat} {fs : List (Str × T)}
/-- [at == spot for at in range(20)] -/
theorem comp20 (hs : s < 20) : lcE (rng1I (consA (fun _ cs => .ok (.d (.int (20))) cs) nilA)) [11] (.nm 11) yesB (bin eqT (fun ρ cs => getV ρ 11 cs) (fun ρ cs => getV ρ 3 cs)) [r0, r1, r2, some (.d (.int s)), r4, r5, r6, r7, r8, r9, r10, r11] cs = .ok (.d (.list ((kb (s + 1)).map .bool))) cs := by
  have e1 : rng1I (consA (fun _ cs => .ok (.d (.int (20))) cs) nilA) [r0, r1, r2, some (.d (.int s)), r4, r5, r6, r7, r8, r9, r10, r11] cs = .ok (rngL 0 20, fun _ => True) cs := by
    unfold rng1I
    rw [cons_of (t := .d (.int 20)) (c1 := cs) rfl nil_of]
    dsimp only [R.bind]
    exact if_pos (by decide +kernel)
  unfold lcE lcA
  rw [e1]
  dsimp only [R.bind]
  rw [if_pos (by unfold rngL; rw [List.length_map, List.length_range, sizeLine_eq]; decide)]
  have hp := lcL_pure (cs := cs) (p := .nm 11) (tt := yesB) (e := bin eqT (fun ρ cs => getV ρ 11 cs) (fun ρ cs => getV ρ 3 cs)) (ρ := wipeR [r0, r1, r2, some (.d (.int s)), r4, r5, r6, r7, r8, r9, r10, r11] [11]) (keep := fun _ => True) (sel := fun _ => true) (out := fun t => match t with
    | .d (.int i) => .d (.bool (decide (i = s)))
    | _ => .d .none) trivial (ts := rngL 0 20) (fun t ht => by
      unfold rngL at ht
      obtain ⟨i, hi, rfl⟩ := List.mem_map.mp ht
      exact ⟨[r0, r1, r2, some (.d (.int s)), r4, r5, r6, r7, r8, r9, r10, some (.d (.int (0 + (i : Int))))], rfl, rfl, fun _ => bin_of (t := .d (.int (0 + (i : Int)))) (u := .d (.int s)) (c1 := cs) (c2 := cs) rfl rfl rfl⟩)
  rw [hp]
  have e2 : ((rngL 0 20).filter fun _ => true).map (fun t => match t with
    | .d (.int i) => T.d (.bool (decide (i = s)))
    | _ => .d .none) = (kb (s + 1)).map fun b => T.d (.bool b) := by
    rw [cmp20 s hs, List.filter_eq_self.mpr (fun _ _ => rfl)]
    unfold rngL
    rw [List.map_map, List.map_map]
    rfl
  rw [e2]
  simp only [R.bind_ok]
  rw [allD_mapD]
/-- what may be shown of a thing -/
structure ThOk (th : PyData) : Prop where
  a : RpOk th
  b : RpOk (.list [th])
theorem rp_none : RpOk .none := ⟨⟨rfl, by decide, by rw [sizeLine_eq]; decide +kernel⟩⟩
theorem step_e (hn : cs[n]? = some (.exn (s + 1) fs)) (hs : s < 20) (hf : FsOk (.d th) w fs) (ht : ThOk th) :
    lb_9_1 W (Tb W (k + 1)) [r0, r1, some (.d th), some (.d (.int s)), r4, r5, some (.d (.str w)), r7, r8, some (.ref n), r10, r11] cs = .nx [r0, r1, some (.d th), some (.d (.int s)), r4, r5, some (.d (.str w)), r7, r8, some (.ref n), r10, r11] cs := by
  obtain ⟨q1, q2, q3⟩ := kl20 s hs
  have h1 := bin_of (op := neT) (f := callE (Tb W (k + 1) 5) [] (consA (fun ρ cs => getV ρ 9 cs) nilA)) (ρ := [r0, r1, some (.d th), some (.d (.int s)), r4, r5, some (.d (.str w)), r7, r8, some (.ref n), r10, r11]) ((call1 (t := .ref n) (c1 := cs) rfl).trans (kinds_ok hn (by omega))) (comp20 (cs := cs) (r0 := r0) (r1 := r1) (r2 := some (.d th)) (r4 := r4) (r5 := r5) (r6 := some (.d (.str w))) (r7 := r7) (r8 := r8) (r9 := some (.ref n)) (r10 := r10) (r11 := r11) hs) (ne_self (cs := cs) q1 q2 q3)
  have h2 : callE (Tb W (k + 1) 7) [] (consA (fun ρ cs => getV ρ 9 cs) nilA) [r0, r1, some (.d th), some (.d (.int s)), r4, r5, some (.d (.str w)), r7, r8, some (.ref n), r10, r11] cs = .ok (.d (.bool true)) cs := (call1 (t := .ref n) (c1 := cs) rfl).trans (plain_ok hn (by omega))
  have h3 : callE (Tb W (k + 1) 6) [] (consA (fun ρ cs => getV ρ 6 cs) (consA (fun ρ cs => getV ρ 9 cs) nilA)) [r0, r1, some (.d th), some (.d (.int s)), r4, r5, some (.d (.str w)), r7, r8, some (.ref n), r10, r11] cs = .ok (keptT (.d th) w) cs := (call2 (t := .d (.str w)) (u := .ref n) (c1 := cs) (c2 := cs) rfl rfl).trans (kept_ok hn (by omega) hf fun _ => ⟨th, rfl, ht.b⟩)
  have h4 : ifE (tst (bin neT (fun ρ cs => getV ρ 6 cs) (fun _ cs => .ok (.d (.str "")) cs))) (fun ρ cs => getV ρ 2 cs) (fun _ cs => .ok (.d .none) cs) [r0, r1, some (.d th), some (.d (.int s)), r4, r5, some (.d (.str w)), r7, r8, some (.ref n), r10, r11] cs = .ok (keptT (.d th) w) cs := by
    have q : tst (bin neT (fun ρ cs => getV ρ 6 cs) (fun _ cs => .ok (.d (.str "")) cs)) [r0, r1, some (.d th), some (.d (.int s)), r4, r5, some (.d (.str w)), r7, r8, some (.ref n), r10, r11] cs = .ok (!decide (w = "")) cs := ne_str (a := w) (b := "") (c1 := cs) (c2 := cs) rfl rfl
    unfold keptT
    by_cases h : w = ""
    · rw [if_pos h]
      rw [decide_eq_true h] at q
      exact (ifE_ff q).trans rfl
    · rw [if_neg h]
      rw [decide_eq_false h] at q
      exact (ifE_tt q).trans rfl
  have hr : ∃ d, keptT (.d th) w = .d d ∧ RpOk d := by
    unfold keptT
    by_cases h : w = ""
    · rw [if_pos h]; exact ⟨_, rfl, rp_none⟩
    · rw [if_neg h]; exact ⟨_, rfl, ht.a⟩
  obtain ⟨d, hd, hr⟩ := hr
  rw [hd] at h3 h4
  have h5 := ne_str (repr_of h3 hr) (repr_of h4 hr)
  rw [decide_eq_true rfl] at h5
  unfold lb_9_1
  refine (seq_nx (if_ff (or_ff (tst_of h1) (not_of (val_of h2))))).trans ?_
  exact if_ff h5
/-- one row -/
theorem step_row {x : T} (hx : RowAt cs (.d th) (s + 1) w x) (hs : s < 20) (ht : ThOk th) : ∃ q6 q7 q8 q9 ρ1, asgP (.tp [(.nm 6), (.nm 7), (.nm 8)]) x cs [r0, r1, some (.d th), some (.d (.int s)), r4, r5, r6, r7, r8, r9, r10, r11] = some ρ1 ∧
    lb_9_2 W (Tb W (k + 1)) ρ1 cs = .nx [r0, r1, some (.d th), some (.d (.int (s + 1 : Nat))), r4, r5, q6, q7, q8, q9, r10, r11] cs := by
  obtain ⟨r, n1, n2, f1, f2, rfl, h1, h2, h3, h4, h5⟩ := hx.ex
  refine ⟨some (.d (.str w)), some (.ref n1), some (.ref n2), some (.ref n2), [r0, r1, some (.d th), some (.d (.int s)), r4, r5, some (.d (.str w)), some (.ref n1), some (.ref n2), r9, r10, r11], ?_, ?_⟩
  · simp [asgP, asgPs, asQ, asT, asL, h1]
  · unfold lb_9_2
    have e1 : tupI (consA (fun ρ cs => getV ρ 7 cs) (consA (fun ρ cs => getV ρ 8 cs) nilA)) [r0, r1, some (.d th), some (.d (.int s)), r4, r5, some (.d (.str w)), some (.ref n1), some (.ref n2), r9, r10, r11] cs = .ok ([.ref n1, .ref n2], fun _ => True) cs := by
      unfold tupI
      rw [cons_of (t := .ref n1) (c1 := cs) rfl (cons_of (t := .ref n2) (c1 := cs) rfl nil_of)]
      dsimp only [R.bind]
      exact if_pos (by rw [sizeLine_eq]; show 2 ≤ 16777216; decide)
    have e2 : forS (tupI (consA (fun ρ cs => getV ρ 7 cs) (consA (fun ρ cs => getV ρ 8 cs) nilA))) (.nm 9) (lb_9_1 W (Tb W (k + 1))) [r0, r1, some (.d th), some (.d (.int s)), r4, r5, some (.d (.str w)), some (.ref n1), some (.ref n2), r9, r10, r11] cs = .nx [r0, r1, some (.d th), some (.d (.int s)), r4, r5, some (.d (.str w)), some (.ref n1), some (.ref n2), some (.ref n2), r10, r11] cs := by
      unfold forS
      rw [e1]
      refine (forL_oneK trivial (step_e (r7 := some (.ref n1)) (r8 := some (.ref n2)) h2 hs h4 ht)).trans ((forL_oneK trivial (step_e (r7 := some (.ref n1)) (r8 := some (.ref n2)) h3 hs h5 ht)).trans ?_)
      rw [forL]
      exact if_pos trivial
    refine (seq_nx e2).trans (set_of (bin_of (t := .d (.int s)) (u := .d (.int 1)) (c1 := cs) (c2 := cs) rfl rfl rfl))
/-- rows that are numbered on -/
def Run : Nat → List (Nat × Str) → Prop
  | _, [] => True
  | s, (ci, _) :: r => ci = s + 1 ∧ s < 20 ∧ Run (s + 1) r
theorem loop1 {keep : Cs → Prop} (hk : keep cs) (ht : ThOk th) : ∀ {sp : List (Nat × Str)} {xs : List T} {s : Nat} {r6 r7 r8 r9 : Option T}, Rows cs (.d th) sp xs → Run s sp → ∃ q6 q7 q8 q9,
    forL keep (.tp [(.nm 6), (.nm 7), (.nm 8)]) (lb_9_2 W (Tb W (k + 1))) xs [r0, r1, some (.d th), some (.d (.int s)), r4, r5, r6, r7, r8, r9, r10, r11] cs = .nx [r0, r1, some (.d th), some (.d (.int (s + sp.length : Nat))), r4, r5, q6, q7, q8, q9, r10, r11] cs
  | [], _, s, r6, r7, r8, r9, .nil, _ => ⟨r6, r7, r8, r9, by rw [forL]; exact if_pos hk⟩
  | (ci, w) :: sp, x :: xs, s, r6, r7, r8, r9, .cons hx hr, hrun => by
    obtain ⟨rfl, hs, hrun⟩ := hrun
    obtain ⟨q6, q7, q8, q9, ρ1, a1, a2⟩ := step_row (W := W) (k := k) (r0 := r0) (r1 := r1) (r4 := r4) (r5 := r5) (r6 := r6) (r7 := r7) (r8 := r8) (r9 := r9) (r10 := r10) (r11 := r11) hx hs ht
    obtain ⟨p6, p7, p8, p9, ih⟩ := loop1 hk ht (s := s + 1) (r6 := q6) (r7 := q7) (r8 := q8) (r9 := q9) hr hrun
    refine ⟨p6, p7, p8, p9, ?_⟩
    rw [forL, if_pos hk, a1]
    dsimp only
    rw [a2]
    dsimp only
    rw [ih]
    simp only [List.length_cons]
    rw [show s + 1 + sp.length = s + (sp.length + 1) from by omega]
end
end G
end
section
set_option Elab.async false
set_option linter.all false
set_option maxRecDepth 100000
set_option maxHeartbeats 1000000
namespace G
open PySem Y
variable {W : Wd} {k : Nat} {cs : Cs}
section
variable {r0 r1 r2 r3 r5 r6 r7 r8 r9 r10 r11 : Option T} {w : Str} {p n ci : Nat} {a b : Int} {fs : List (Str × T)}
theorem ne_row (h : cs[p]? = some (.lst [.d (.int a), .d (.int b)])) : neT (.ref p) (.ref p) cs = .ok (.d (.bool false)) cs := by
  have e : toD cs (.ref p) = some (.list [.int a, .int b]) := by
    unfold toD toZ
    simp only [h, allD, Option.map_some, Option.bind_some]
    rw [if_neg (by simp [PyData.hasDict, PyData.hasDictAll])]
  have e2 : eqD cs (.ref p) (.ref p) = some true := by
    unfold eqD
    simp only [e]
    rw [if_pos ⟨rfl, rfl⟩]
    simp [PyData.eqv, PyData.eqvAll]
  unfold neT
  rw [e2]
  rfl
theorem nin_of {w : Str} {b : Bool} (h : scanD true [.str "", .str "row"] (.str w) = some b) : ninT W (.d (.str w)) (.d (.tuple [.str "", .str "row"])) cs = .ok (.d (.bool (!b))) cs := by
  have e : inB W cs (.d (.str w)) (.d (.tuple [.str "", .str "row"])) = some b := by
    unfold inB
    dsimp only
    have : itemsD cs (.d (.tuple [.str "", .str "row"])) = some (true, [.str "", .str "row"]) := by
      unfold itemsD
      rw [toD_of (by simp [PyData.hasDict, PyData.hasDictAll])]
    rw [this]
    dsimp only
    rw [if_neg (by simp [PyData.hasDict]), h]
  unfold ninT
  rw [e]
theorem words_of {t : T} {w : Str} {fs : List (Str × T)} (h : FsOk t w fs) : scanD true [.str "", .str "row"] (.str w) = some true ∨ (scanD true [.str "", .str "row"] (.str w) = some false ∧ w ≠ "" ∧ w ≠ "row") := by
  cases h with
  | given => exact .inr ⟨by decide +kernel, by decide +kernel, by decide +kernel⟩
  | index => exact .inr ⟨by decide +kernel, by decide +kernel, by decide +kernel⟩
  | reason => exact .inr ⟨by decide +kernel, by decide +kernel, by decide +kernel⟩
  | row u h => exact .inl (by decide +kernel)
  | none => exact .inl (by decide +kernel)
theorem step_row2 {x : T} (hx : RowAt cs (.ref p) ci w x) (hci : ci < 21) (hp : cs[p]? = some (.lst [.d (.int a), .d (.int b)])) : ∃ q6 q7 q8 ρ1, asgP (.tp [(.nm 6), (.nm 7), (.nm 8)]) x cs [r0, r1, r2, r3, some (.ref p), r5, r6, r7, r8, r9, r10, r11] = some ρ1 ∧
    lb_9_0 W (Tb W (k + 1)) ρ1 cs = .nx [r0, r1, r2, r3, some (.ref p), r5, q6, q7, q8, r9, r10, r11] cs := by
  obtain ⟨r, n1, n2, f1, f2, rfl, h1, h2, h3, h4, h5⟩ := hx.ex
  refine ⟨some (.d (.str w)), some (.ref n1), some (.ref n2), [r0, r1, r2, r3, some (.ref p), r5, some (.d (.str w)), some (.ref n1), some (.ref n2), r9, r10, r11], ?_, ?_⟩
  · simp [asgP, asgPs, asQ, asT, asL, h1]
  · unfold lb_9_0
    have e0 : tupE (consA (fun _ cs => .ok (.d (.str "")) cs) (consA (fun _ cs => .ok (.d (.str "row")) cs) nilA)) [r0, r1, r2, r3, some (.ref p), r5, some (.d (.str w)), some (.ref n1), some (.ref n2), r9, r10, r11] cs = .ok (.d (.tuple [.str "", .str "row"])) cs := by
      unfold tupE
      rw [cons_of (t := .d (.str "")) (c1 := cs) rfl (cons_of (t := .d (.str "row")) (c1 := cs) rfl nil_of)]
      dsimp only [R.bind, allD]
      exact if_pos (by rw [sizeLine_eq]; show 2 ≤ 16777216; decide)
    rcases words_of h4 with hw | ⟨hw, w1, w2⟩
    · have e1 := tst_of (bin_of (op := ninT W) (f := fun ρ cs => getV ρ 6 cs) (ρ := [r0, r1, r2, r3, some (.ref p), r5, some (.d (.str w)), some (.ref n1), some (.ref n2), r9, r10, r11]) (c := cs) (t := .d (.str w)) rfl e0 (nin_of hw))
      exact (if_ff (and_ff e1)).trans rfl
    · have e1 := tst_of (bin_of (op := ninT W) (f := fun ρ cs => getV ρ 6 cs) (ρ := [r0, r1, r2, r3, some (.ref p), r5, some (.d (.str w)), some (.ref n1), some (.ref n2), r9, r10, r11]) (c := cs) (t := .d (.str w)) rfl e0 (nin_of hw))
      have hk : keptT (.ref p) w = .ref p := if_neg w1
      have k1 := kept_ok (W := W) (k := k) (t := .ref p) h2 hci h4 (fun e => absurd e w2)
      have k2 := kept_ok (W := W) (k := k) (t := .ref p) h3 hci h5 (fun e => absurd e w2)
      rw [hk] at k1 k2
      have g1 := bin_of (op := neT) (g := fun ρ cs => getV ρ 4 cs) (u := .ref p) (c2 := cs) ((call2 (F := Tb W (k + 1) 6) (f := fun ρ cs => getV ρ 6 cs) (g := fun ρ cs => getV ρ 7 cs) (ρ := [r0, r1, r2, r3, some (.ref p), r5, some (.d (.str w)), some (.ref n1), some (.ref n2), r9, r10, r11]) (c := cs) (t := .d (.str w)) (u := .ref n1) (c1 := cs) (c2 := cs) rfl rfl).trans k1) rfl (ne_row hp)
      have g2 := bin_of (op := neT) (g := fun ρ cs => getV ρ 4 cs) (u := .ref p) (c2 := cs) ((call2 (F := Tb W (k + 1) 6) (f := fun ρ cs => getV ρ 6 cs) (g := fun ρ cs => getV ρ 8 cs) (ρ := [r0, r1, r2, r3, some (.ref p), r5, some (.d (.str w)), some (.ref n1), some (.ref n2), r9, r10, r11]) (c := cs) (t := .d (.str w)) (u := .ref n2) (c1 := cs) (c2 := cs) rfl rfl).trans k2) rfl (ne_row hp)
      exact (if_ff (and_tt e1 (or_ff (tst_of g1) (tst_of g2)))).trans rfl
theorem loop2 {keep : Cs → Prop} (hk : keep cs) (hp : cs[p]? = some (.lst [.d (.int a), .d (.int b)])) : ∀ {sp : List (Nat × Str)} {xs : List T} {r6 r7 r8 : Option T}, Rows cs (.ref p) sp xs → (∀ q ∈ sp, q.1 < 21) → ∃ q6 q7 q8,
    forL keep (.tp [(.nm 6), (.nm 7), (.nm 8)]) (lb_9_0 W (Tb W (k + 1))) xs [r0, r1, r2, r3, some (.ref p), r5, r6, r7, r8, r9, r10, r11] cs = .nx [r0, r1, r2, r3, some (.ref p), r5, q6, q7, q8, r9, r10, r11] cs
  | [], _, r6, r7, r8, .nil, _ => ⟨r6, r7, r8, by rw [forL]; exact if_pos hk⟩
  | (ci, w) :: sp, x :: xs, r6, r7, r8, .cons hx hr, h21 => by
    obtain ⟨q6, q7, q8, ρ1, a1, a2⟩ := step_row2 (W := W) (k := k) (r0 := r0) (r1 := r1) (r2 := r2) (r3 := r3) (r5 := r5) (r6 := r6) (r7 := r7) (r8 := r8) (r9 := r9) (r10 := r10) (r11 := r11) hx (h21 _ List.mem_cons_self) hp
    obtain ⟨p6, p7, p8, ih⟩ := loop2 hk hp (r6 := q6) (r7 := q7) (r8 := q8) hr (fun q hq => h21 q (List.mem_cons_of_mem _ hq))
    refine ⟨p6, p7, p8, ?_⟩
    rw [forL, if_pos hk, a1]
    dsimp only
    rw [a2]
    exact ih
end
theorem caught_ok {th : PyData} (hw : w0 < 5) : Tb W (k + 1) 8 [.d (.int (w0 : Nat)), .d th] cs = .ok (.d (.bool true)) cs := by
  rw [tb_8]
  match w0, hw with
  | 0, _ => exact (fn_rt rfl (seq_rt (t := .d (.bool true)) (c1 := cs) rfl)).trans leave_same
  | 1, _ => exact (fn_rt rfl (seq_rt (t := .d (.bool true)) (c1 := cs) rfl)).trans leave_same
  | 2, _ => exact (fn_rt rfl (seq_rt (t := .d (.bool true)) (c1 := cs) rfl)).trans leave_same
  | 3, _ => exact (fn_rt rfl (seq_rt (t := .d (.bool true)) (c1 := cs) rfl)).trans leave_same
  | 4, _ => exact (fn_rt rfl (seq_rt (t := .d (.bool true)) (c1 := cs) rfl)).trans leave_same
  | n + 5, h => exact absurd h (by omega)
section
variable {r0 r1 r3 r4 r5 r6 r7 r8 r9 r10 r11 : Option T} {th : PyData}
theorem caught5 : lcE (rng1I (consA (fun _ cs => .ok (.d (.int (5))) cs) nilA)) [10] (.nm 10) yesB (bin isB (callE (Tb W (k + 1) 8) [] (consA (fun ρ cs => getV ρ 10 cs) (consA (fun ρ cs => getV ρ 2 cs) nilA))) (fun _ cs => .ok (.d (.bool true)) cs)) [r0, r1, some (.d th), r3, r4, r5, r6, r7, r8, r9, r10, r11] cs = .ok (.d (.list [.bool true, .bool true, .bool true, .bool true, .bool true])) cs := by
  have e1 : rng1I (consA (fun _ cs => .ok (.d (.int (5))) cs) nilA) [r0, r1, some (.d th), r3, r4, r5, r6, r7, r8, r9, r10, r11] cs = .ok (rngL 0 5, fun _ => True) cs := by
    unfold rng1I
    rw [cons_of (t := .d (.int 5)) (c1 := cs) rfl nil_of]
    dsimp only [R.bind]
    exact if_pos (by decide +kernel)
  unfold lcE lcA
  rw [e1]
  dsimp only [R.bind]
  rw [if_pos (by unfold rngL; rw [List.length_map, List.length_range, sizeLine_eq]; decide)]
  have hp := lcL_pure (cs := cs) (p := .nm 10) (tt := yesB) (e := bin isB (callE (Tb W (k + 1) 8) [] (consA (fun ρ cs => getV ρ 10 cs) (consA (fun ρ cs => getV ρ 2 cs) nilA))) (fun _ cs => .ok (.d (.bool true)) cs)) (ρ := wipeR [r0, r1, some (.d th), r3, r4, r5, r6, r7, r8, r9, r10, r11] [10]) (keep := fun _ => True) (sel := fun _ => true) (out := fun _ => .d (.bool true)) trivial (ts := rngL 0 5) (fun t ht => by
      unfold rngL at ht
      obtain ⟨i, hi, rfl⟩ := List.mem_map.mp ht
      refine ⟨[r0, r1, some (.d th), r3, r4, r5, r6, r7, r8, r9, some (.d (.int (0 + (i : Int)))), r11], rfl, rfl, fun _ => ?_⟩
      have hi5 : i < 5 := by simpa using hi
      rw [Int.zero_add]
      exact bin_of (u := .d (.bool true)) (c2 := cs) ((call2 (t := .d (.int i)) (u := .d th) (c1 := cs) (c2 := cs) rfl rfl).trans (caught_ok hi5)) rfl rfl)
  rw [hp]
  rfl
end
end G
end
section
set_option Elab.async false
set_option linter.all false
set_option maxRecDepth 100000
set_option maxHeartbeats 1000000
namespace G
open PySem Y
variable {W : Wd} {k : Nat} {cs : Cs}
theorem seq_ex {a b : SF} {ρ ρ1 : Rho} {c c1 : Cs} {t : T} (h : a ρ c = .nx ρ1 c1) (h2 : ∃ c', b ρ1 c1 = .rt t c') : ∃ c', seqS a b ρ c = .rt t c' := by
  obtain ⟨c', h2⟩ := h2
  exact ⟨c', (seq_nx h).trans h2⟩
theorem tup_of {g : AF} {ρ : Rho} {c c1 : Cs} {ds : List PyData} (h : g ρ c = .ok (ds.map .d) c1) (hl : ds.length ≤ 100) : tupE g ρ c = .ok (.d (.tuple ds)) c1 := by
  unfold tupE
  rw [h]
  dsimp only [R.bind]
  rw [allD_map]
  exact if_pos (by rw [sizeLine_eq]; omega)
theorem lst_of {g : AF} {ρ : Rho} {c c1 : Cs} {ds : List PyData} (h : g ρ c = .ok (ds.map .d) c1) (hl : ds.length ≤ 100) : lstE g ρ c = .ok (.d (.list ds)) c1 := by
  unfold lstE
  rw [h]
  dsimp only [R.bind]
  rw [allD_map]
  exact if_pos (by rw [sizeLine_eq]; omega)
theorem inT_b {ds : List PyData} {b : Bool} (h1 : (PyData.list ds).hasDict = false) (h2 : scanD false ds (.bool true) = some b) : inT W (.d (.bool true)) (.d (.list ds)) cs = .ok (.d (.bool b)) cs := by
  have e : inB W cs (.d (.bool true)) (.d (.list ds)) = some b := by
    unfold inB
    dsimp only
    have : itemsD cs (.d (.list ds)) = some (false, ds) := by
      unfold itemsD
      rw [toD_of h1]
    rw [this]
    dsimp only
    rw [if_neg (by simp [PyData.hasDict]), h2]
  unfold inT
  rw [e]
/-! the things that are given -/
def plainL : List PyData := [.none, .bool true, .bool false, .int 0, .int 1, .int (-1), .int (10 ^ (29 : Int).toNat), .str "", .str "a", .tuple [], .tuple [.int 1, .str "good"], .list [], .dict [], .tuple [.tuple [.int 1, .str "a"]], .tuple [.bool true, .int 0]]
def th2 (x : PyData) : List PyData := [x, .tuple [x, x], .list [x], .str "a text", .int (-7), .tuple [.tuple [], .tuple [x]]]
theorem th_all : ∀ x ∈ plainL, ∀ th ∈ th2 x, (th.showable = true ∧ th.depth < 60 ∧ th.shown.length ≤ 16777216) ∧ ((PyData.list [th]).showable = true ∧ (PyData.list [th]).depth < 60 ∧ (PyData.list [th]).shown.length ≤ 16777216) := by
  unfold plainL th2
  decide +kernel
theorem th_ok {x th : PyData} (hx : x ∈ plainL) (ht : th ∈ th2 x) : ThOk th := by
  obtain ⟨a, b⟩ := th_all x hx th ht
  refine ⟨⟨⟨a.1, a.2.1, ?_⟩⟩, ⟨⟨b.1, b.2.1, ?_⟩⟩⟩
  · rw [sizeLine_eq]; exact a.2.2
  · rw [sizeLine_eq]; exact b.2.2
/-! rows, while another cell changes -/
theorem get_set {c : Cs} {r m : Nat} {x y z : Cell} (h : c[r]? = some x) (hm : c[m]? = some y) (ne : x ≠ y) : (c.set m z)[r]? = some x := by
  by_cases e : m = r
  · subst e
    rw [h] at hm
    exact absurd (Option.some.inj hm) ne
  · rw [List.getElem?_set_ne e]
    exact h
theorem RowAt.set {c : Cs} {t : T} {ci : Nat} {w : Str} {x : T} {m : Nat} {i : Int} {l : List T} {z : Cell} (h : RowAt c t ci w x) (hm : c[m]? = some (.lst (.d (.int i) :: l))) : RowAt (c.set m z) t ci w x := by
  obtain ⟨r, n1, n2, f1, f2, h1, h2, h3, h4, h5⟩ := h.ex
  refine ⟨r, n1, n2, f1, f2, h1, get_set h2 hm ?_, get_set h3 hm ?_, get_set h4 hm ?_, h5⟩
  · intro e; cases e
  · intro e; cases e
  · intro e; cases e
theorem Rows.set {c : Cs} {t : T} {sp : List (Nat × Str)} {xs : List T} {m : Nat} {i : Int} {l : List T} {z : Cell} (h : Rows c t sp xs) (hm : c[m]? = some (.lst (.d (.int i) :: l))) : Rows (c.set m z) t sp xs := by
  induction h with
  | nil => exact .nil
  | cons h _ ih => exact .cons (h.set hm) ih
theorem Rows.ne {c : Cs} {t : T} {q : Nat × Str} {sp : List (Nat × Str)} {xs : List T} {i : Int} {l : List T} (h : Rows c t (q :: sp) xs) : Cell.lst xs ≠ .lst (.d (.int i) :: l) := by
  cases h with
  | cons h _ =>
    obtain ⟨r, n1, n2, f1, f2, h1, _⟩ := h.ex
    intro e
    cases e
    cases h1
theorem run20 : Run 0 (spec1 ++ spec2) := by simp [Run, spec1, spec2]
theorem sp21 : ∀ q ∈ spec1 ++ spec2, q.1 < 21 := by decide
theorem for_list {f : EF} {p : Pat} {b : SF} {ρ : Rho} {c c1 : Cs} {g : Nat} {xs : List T} (h : f ρ c = .ok (.ref g) c1) (hg : c1[g]? = some (.lst xs)) : forS (seqI f) p b ρ c = forL (keepOf c1 (.ref g)) p b xs ρ c1 := by
  unfold forS seqI
  rw [h]
  simp only [R.bind_ok, asQ, asT, asL, hg]
/-- one machine's answer -/
theorem right_ok {D : Dw} {n : Nat} (hn : cs[n]? = some D.cell) (hD : D.Ok) : ∃ c, Tb W (k + 3) 9 [.ref n] cs = .ok (.d (.bool true)) c := by
  have hl : n < cs.length := (List.getElem?_eq_some_iff.mp hn).1
  have hb : ∃ c, b_9 W (Tb W (k + 2)) (startR N_9.length [.ref n]) cs = .rt (.d (.bool true)) c := by
    have e0 : startR N_9.length [T.ref n] = [some (.ref n), none, none, none, none, none, none, none, none, none, none, none] := rfl
    rw [e0, bq_9]
    -- without arguments
    have hn1 : (cs ++ [Cell.exn 0 []] ++ [Cell.exn 0 []])[n]? = some D.cell := get_app (get_app hn)
    refine seq_ex (ρ1 := [some (.ref n), none, none, none, none, none, none, none, none, none, none, none]) (c1 := cs ++ [.exn 0 []] ++ [.exn 0 []]) ?_ ?_
    · refine (if_ff (or_ff (c1 := cs ++ [.exn 0 []]) (not_of (val_of ((call1 (t := .ref cs.length) (c1 := cs ++ [.exn 0 []]) rfl).trans (plain_ok (k := k + 1) get_end (by decide))))) (tst_of (bin_of (t := .d (.bool true)) (c1 := cs ++ [.exn 0 []]) rfl ((call1 (t := .ref (cs ++ [Cell.exn 0 []]).length) (c1 := cs ++ [.exn 0 []] ++ [.exn 0 []]) rfl).trans (kinds_ok (k := k + 1) (ci := 0) get_end (by decide))) (inT_b (b := false) (by decide +kernel) (by decide +kernel)))))).trans rfl
    -- the plain ones
    generalize (cs ++ [Cell.exn 0 []] ++ [Cell.exn 0 []]) = cs1 at hn1
    refine seq_ex (ρ1 := [some (.ref n), some (.d (.tuple plainL)), none, none, none, none, none, none, none, none, none, none]) (c1 := cs1) ?_ ?_
    · refine set_of (tup_of (ds := plainL) (c1 := cs1) ?_ (by decide))
      refine cons_of (c1 := cs1) rfl (cons_of (c1 := cs1) rfl (cons_of (c1 := cs1) rfl (cons_of (c1 := cs1) rfl (cons_of (c1 := cs1) rfl (cons_of (c1 := cs1) rfl (cons_of (bin_pow (c1 := cs1) (c2 := cs1) (x := 10) (y := 29) rfl rfl (by decide)) (cons_of (c1 := cs1) rfl (cons_of (c1 := cs1) rfl ?_))))))))
      refine cons_of (tup_of (ds := []) nil_of (by decide)) (cons_of (tup_of (ds := [.int 1, .str "good"]) (cons_of (c1 := cs1) rfl (cons_of (c1 := cs1) rfl nil_of)) (by decide)) (cons_of (lst_of (ds := []) nil_of (by decide)) (cons_of (c1 := cs1) rfl ?_)))
      exact cons_of (tup_of (ds := [.tuple [.int 1, .str "a"]]) (cons_of (tup_of (ds := [.int 1, .str "a"]) (cons_of (c1 := cs1) rfl (cons_of (c1 := cs1) rfl nil_of)) (by decide)) nil_of) (by decide)) (cons_of (tup_of (ds := [.bool true, .int 0]) (cons_of (c1 := cs1) rfl (cons_of (c1 := cs1) rfl nil_of)) (by decide)) nil_of)
    obtain ⟨x, hx, p1⟩ := pick_ok (W := W) (k := k) (xs := plainL) hn1 hD (by decide)
    have hx := List.mem_of_getElem? hx
    have hD1 := D.next_ok plainL.length
    have hn2 : (cs1.set n (D.next plainL.length).cell)[n]? = some (D.next plainL.length).cell := List.getElem?_set_self (List.getElem?_eq_some_iff.mp hn1).1
    generalize (D.next plainL.length) = D1 at hD1 hn2 p1
    refine seq_ex (ρ1 := [some (.ref n), some (.d (.tuple plainL)), some (.d x), none, none, none, none, none, none, none, none, none]) (c1 := cs1.set n D1.cell) ?_ ?_
    · exact set_of ((call2 (t := .ref n) (u := .d (.tuple plainL)) (c1 := cs1) (c2 := cs1) rfl rfl).trans p1)
    generalize cs1.set n D1.cell = cs2 at hn2
    obtain ⟨th, hth, p2⟩ := pick_ok (W := W) (k := k) (xs := th2 x) hn2 hD1 (show 0 < 6 ∧ 6 ≤ 1000000 by decide)
    have hth := th_ok hx (List.mem_of_getElem? hth)
    have hD2 := D1.next_ok (th2 x).length
    have hn3 : (cs2.set n (D1.next (th2 x).length).cell)[n]? = some (D1.next (th2 x).length).cell := List.getElem?_set_self (List.getElem?_eq_some_iff.mp hn2).1
    generalize (D1.next (th2 x).length) = D2 at hD2 hn3 p2
    refine seq_ex (ρ1 := [some (.ref n), some (.d (.tuple plainL)), some (.d th), none, none, none, none, none, none, none, none, none]) (c1 := cs2.set n D2.cell) ?_ ?_
    · refine set_of ((call2 (t := .ref n) (u := .d (.tuple (th2 x))) (c1 := cs2) (c2 := cs2) rfl ?_).trans p2)
      refine tup_of (ds := th2 x) ?_ (show 6 ≤ 100 by decide)
      refine cons_of (t := .d x) (c1 := cs2) rfl (cons_of (tup_of (ds := [x, x]) (cons_of (t := .d x) (c1 := cs2) rfl (cons_of (t := .d x) (c1 := cs2) rfl nil_of)) (show 2 ≤ 100 by decide)) (cons_of (lst_of (ds := [x]) (cons_of (t := .d x) (c1 := cs2) rfl nil_of) (show 1 ≤ 100 by decide)) ?_))
      exact cons_of (c1 := cs2) rfl (cons_of (c1 := cs2) rfl (cons_of (tup_of (ds := [.tuple [], .tuple [x]]) (cons_of (tup_of (ds := []) nil_of (by decide)) (cons_of (tup_of (ds := [x]) (cons_of (t := .d x) (c1 := cs2) rfl nil_of) (show 1 ≤ 100 by decide)) nil_of)) (show 2 ≤ 100 by decide)) nil_of))
    generalize cs2.set n D2.cell = cs3 at hn3
    refine seq_ex (ρ1 := [some (.ref n), some (.d (.tuple plainL)), some (.d th), some (.d (.int ((0 : Nat) : Int))), none, none, none, none, none, none, none, none]) (c1 := cs3) ?_ ?_
    · exact set_of rfl
    -- the first rows
    obtain ⟨e1, g1, xs1, a1, b1, c1⟩ := both_ok (W := W) (k := k + 1) (cs := cs3) (ρ := [some (.ref n), some (.d (.tuple plainL)), some (.d th), some (.d (.int ((0 : Nat) : Int))), none, none, none, none, none, none, none, none]) (f := fun ρ cs => getV ρ 2 cs) (.d th) (.inl ⟨th, rfl⟩) (fun c => rfl)
    have hn4 : (cs3 ++ e1)[n]? = some D2.cell := get_app hn3
    obtain ⟨q6, q7, q8, q9, l1⟩ := loop1 (W := W) (k := k + 1) (r0 := some (.ref n)) (r1 := some (.d (.tuple plainL))) (r4 := none) (r5 := none) (r6 := none) (r7 := none) (r8 := none) (r9 := none) (r10 := none) (r11 := none) (keep := keepOf (cs3 ++ e1) (.ref g1)) rfl hth c1 run20
    refine seq_ex ((for_list a1 b1).trans l1) ?_
    generalize (cs3 ++ e1) = cs4 at hn4
    generalize some (T.d (.int ((0 + (spec1 ++ spec2).length : Nat) : Int))) = r3
    -- the row that changes
    have t1 := takeD (W := W) (k := k + 1) (m := 9) hn4 hD2 (by decide)
    have hD3 := D2.next_ok 9
    have hl4 := (List.getElem?_eq_some_iff.mp hn4).1
    have hn5 : (cs4.set n (D2.next 9).cell)[n]? = some (D2.next 9).cell := List.getElem?_set_self hl4
    generalize (D2.next 9) = D3 at hD3 hn5 t1
    generalize D2.val 9 = a at t1
    generalize cs4.set n D3.cell = cs5 at hn5 t1
    refine seq_ex (ρ1 := [some (.ref n), some (.d (.tuple plainL)), some (.d th), r3, some (.ref cs5.length), none, q6, q7, q8, q9, none, none]) (c1 := cs5 ++ [.lst [.d (.int a)]]) ?_ ?_
    · refine set_of ?_
      unfold lstC
      rw [cons_of ((call2 (t := .ref n) (u := .d (.int 9)) (c1 := cs4) (c2 := cs4) rfl rfl).trans t1) nil_of]
      dsimp only [R.bind]
      exact if_pos (by rw [sizeLine_eq]; show 1 ≤ 16777216; decide)
    have hp6 : (cs5 ++ [Cell.lst [.d (.int a)]])[cs5.length]? = some (.lst [.d (.int a)]) := get_end
    have hn6 : (cs5 ++ [Cell.lst [.d (.int a)]])[n]? = some D3.cell := get_app hn5
    have hnp : n ≠ cs5.length := Nat.ne_of_lt (List.getElem?_eq_some_iff.mp hn5).1
    generalize cs5.length = p at hp6 hnp
    generalize (cs5 ++ [Cell.lst [.d (.int a)]]) = cs6 at hp6 hn6
    obtain ⟨e2, g2, xs2, a2, b2, c2⟩ := both_ok (W := W) (k := k + 1) (cs := cs6) (ρ := [some (.ref n), some (.d (.tuple plainL)), some (.d th), r3, some (.ref p), none, q6, q7, q8, q9, none, none]) (f := fun ρ cs => getV ρ 4 cs) (.ref p) (.inr ⟨p, rfl⟩) (fun c => rfl)
    have hp7 : (cs6 ++ e2)[p]? = some (.lst [.d (.int a)]) := get_app hp6
    have hn7 : (cs6 ++ e2)[n]? = some D3.cell := get_app hn6
    refine seq_ex (ρ1 := [some (.ref n), some (.d (.tuple plainL)), some (.d th), r3, some (.ref p), some (.ref g2), q6, q7, q8, q9, none, none]) (c1 := cs6 ++ e2) (set_of a2) ?_
    generalize (cs6 ++ e2) = cs7 at hp7 hn7 b2 c2
    have t2 := takeD (W := W) (k := k + 1) (m := 9) hn7 hD3 (by decide)
    generalize (D3.next 9) = D4 at t2
    generalize D3.val 9 = b at t2
    have hp8 : (cs7.set n D4.cell)[p]? = some (.lst [.d (.int a)]) := by
      rw [List.getElem?_set_ne hnp]
      exact hp7
    have c3 : Rows (cs7.set n D4.cell) (.ref p) (spec1 ++ spec2) xs2 := c2.set hn7
    have b3 : (cs7.set n D4.cell)[g2]? = some (.lst xs2) := get_set b2 hn7 c2.ne
    generalize cs7.set n D4.cell = cs8 at t2 hp8 c3 b3
    have hp9 : (cs8.set p (.lst [.d (.int a), .d (.int b)]))[p]? = some (.lst [.d (.int a), .d (.int b)]) := List.getElem?_set_self (List.getElem?_eq_some_iff.mp hp8).1
    have c4 : Rows (cs8.set p (.lst [.d (.int a), .d (.int b)])) (.ref p) (spec1 ++ spec2) xs2 := c3.set hp8
    have b4 : (cs8.set p (.lst [.d (.int a), .d (.int b)]))[g2]? = some (.lst xs2) := get_set b3 hp8 c3.ne
    refine seq_ex (ρ1 := [some (.ref n), some (.d (.tuple plainL)), some (.d th), r3, some (.ref p), some (.ref g2), q6, q7, q8, q9, none, none]) (c1 := cs8.set p (.lst [.d (.int a), .d (.int b)])) ?_ ?_
    · have e : bmE isLst appendT (fun ρ cs => getV ρ 4 cs) (consA (callE (Tb W (k + 2) 1) [] (consA (fun ρ cs => getV ρ 0 cs) (consA (fun _ cs => .ok (.d (.int (9))) cs) nilA))) nilA) [some (.ref n), some (.d (.tuple plainL)), some (.d th), r3, some (.ref p), some (.ref g2), q6, q7, q8, q9, none, none] cs7 = .ok (.d .none) (cs8.set p (.lst [.d (.int a), .d (.int b)])) := by
        unfold bmE
        have y : isLst cs7 (.ref p) = true := by simp only [isLst, hp7]
        have z : (fun ρ cs => getV ρ 4 cs) [some (T.ref n), some (.d (.tuple plainL)), some (.d th), r3, some (.ref p), some (.ref g2), q6, q7, q8, q9, none, none] cs7 = .ok (.ref p) cs7 := rfl
        rw [z]
        dsimp only [R.bind]
        rw [if_pos y, cons_of ((call2 (t := .ref n) (u := .d (.int 9)) (c1 := cs7) (c2 := cs7) rfl rfl).trans t2) nil_of]
        dsimp only [R.bind]
        unfold appendT
        simp only [hp8]
        rw [if_pos (by rw [sizeLine_eq]; show 1 < 16777216; decide)]
        rfl
      unfold expS
      rw [e]
    generalize (cs8.set p (.lst [.d (.int a), .d (.int b)])) = cs9 at hp9 c4 b4
    obtain ⟨z6, z7, z8, l2⟩ := loop2 (W := W) (k := k + 1) (r0 := some (.ref n)) (r1 := some (.d (.tuple plainL))) (r2 := some (.d th)) (r3 := r3) (r5 := some (.ref g2)) (r6 := q6) (r7 := q7) (r8 := q8) (r9 := q9) (r10 := none) (r11 := none) (keep := keepOf cs9 (.ref g2)) rfl hp9 c4 sp21
    refine seq_ex ((for_list (f := fun ρ cs => getV ρ 5 cs) (g := g2) (c1 := cs9) rfl b4).trans l2) ?_
    refine ⟨cs9, ret_of ?_⟩
    exact (app_one (caught5 (W := W) (k := k + 1) (cs := cs9) (r0 := some (.ref n)) (r1 := some (.d (.tuple plainL))) (th := th) (r3 := r3) (r4 := some (.ref p)) (r5 := some (.ref g2)) (r6 := z6) (r7 := z7) (r8 := z8) (r9 := q9) (r10 := none) (r11 := none))).trans rfl
  obtain ⟨c, hb⟩ := hb
  rw [tb_9, fn_rt (show ([T.ref n] : List T).length = ps_9.length from rfl) hb]
  unfold leaveT
  dsimp only
  split
  · exact ⟨_, rfl⟩
  · exact ⟨_, rfl⟩
end G
end
section
set_option Elab.async false
set_option linter.all false
set_option maxRecDepth 100000
set_option maxHeartbeats 1000000
namespace G
open PySem Y
variable {W : Wd} {k : Nat} {cs : Cs}
def tru (n : Nat) : List T := List.replicate n (.d (.bool true))
theorem tru_allD : ∀ n, allD (tru n) = some (List.replicate n (.bool true))
  | 0 => rfl
  | n + 1 => by
    have := tru_allD n
    unfold tru at *
    rw [List.replicate_succ, List.replicate_succ]
    simp only [allD, this]
theorem tru_bools : ∀ n, boolsOf ((List.replicate n (PyData.bool true)).map T.d) = some (List.replicate n true)
  | 0 => rfl
  | n + 1 => by
    have := tru_bools n
    rw [List.replicate_succ, List.replicate_succ, List.map_cons]
    simp only [boolsOf, this]
theorem tru_all : ∀ n, ((List.replicate n true).all fun b => b) = true
  | 0 => rfl
  | n + 1 => by
    rw [List.replicate_succ, List.all_cons, tru_all n]
    rfl
theorem lcL_one {i : Nat} {e : EF} {ρ : Rho} {t x : T} {ts xs : List T} {c2 c : Cs} (h : e (ρ.set i (some t)) cs = .ok x c2) (h2 : lcL (fun _ => True) (.nm i) yesB e ρ ts c2 = .ok xs c) : lcL (fun _ => True) (.nm i) yesB e ρ (t :: ts) cs = .ok (x :: xs) c := by
  rw [lcL, if_pos trivial]
  have y : ∀ (ρ : Rho) (cs : Cs), yesB ρ cs = .ok true cs := fun _ _ => rfl
  simp only [asgP, y, R.bind_ok, if_true, h, h2]
/-- number by number -/
theorem each_ok {ns : List Int} : ∀ (ts : List T) {cs : Cs}, (∀ t ∈ ts, ∃ i : Nat, t = .d (.int i)) → ∃ c,
    lcL (fun _ => True) (.nm 1) yesB (callE (Tb W (k + 3) 9) [] (consA (callE (Tb W (k + 3) 0) [] (consA (fun ρ cs => getV ρ 0 cs) (consA (fun ρ cs => getV ρ 1 cs) nilA))) nilA)) [some (.scr ns), none] ts cs = .ok (tru ts.length) c
  | [], cs, _ => ⟨cs, by rw [lcL, if_pos trivial]; rfl⟩
  | t :: ts, cs, ht => by
    obtain ⟨i, rfl⟩ := ht t List.mem_cons_self
    obtain ⟨f, s, hs, e1⟩ := purse_ok (W := W) (k := k + 2) (cs := cs) (ns := ns) (i := i)
    obtain ⟨c1, e2⟩ := right_ok (W := W) (k := k) (cs := cs ++ [drawn f s 0]) (D := ⟨f, s, 0⟩) (n := cs.length) get_end hs
    obtain ⟨c, e3⟩ := each_ok (ns := ns) ts (cs := c1) (fun t h => ht t (List.mem_cons_of_mem _ h))
    refine ⟨c, ?_⟩
    have e4 := (call1 (F := Tb W (k + 3) 9) (f := callE (Tb W (k + 3) 0) [] (consA (fun ρ cs => getV ρ 0 cs) (consA (fun ρ cs => getV ρ 1 cs) nilA))) (ρ := [some (.scr ns), some (.d (.int i))]) (c := cs) ((call2 (t := .scr ns) (u := .d (.int i)) (c1 := cs) (c2 := cs) rfl rfl).trans e1)).trans e2
    exact lcL_one e4 e3
theorem rng_nat {j : Int} : ∀ t ∈ rngL 0 j, ∃ i : Nat, t = .d (.int i) := fun t ht => by
  unfold rngL at ht
  obtain ⟨i, hi, rfl⟩ := List.mem_map.mp ht
  exact ⟨i, by rw [Int.zero_add]⟩
theorem int_two {g : Int → Int → T} {f h : EF} {ρ : Rho} {c c1 c2 : Cs} {x y : Int} (h1 : f ρ c = .ok (.d (.int x)) c1) (h2 : h ρ c1 = .ok (.d (.int y)) c2) : app (int2 g) (consA f (consA h nilA)) ρ c = .ok (g x y) c2 := app_two h1 h2
theorem all_tru {n : Nat} : allT [.d (.list (List.replicate n (.bool true)))] cs = .ok (.d (.bool true)) cs := by
  simp only [allT, listB, asL, tru_bools, tru_all]
theorem fin_ok {ns : List Int} (hl : ns.length ≤ 63) : ∃ c, fnF N_10.length ps_10.length (b_10 W (Tb W (k + 3))) [.scr ns] [] = .ok (.d (.bool true)) c := by
  have hz : sizeLine = 16777216 := sizeLine_eq
  have e62 : (2 : Int) ^ 62 = 4611686018427387904 := by decide +kernel
  have e0 : startR N_10.length [.scr ns] = [some (.scr ns), none] := rfl
  have e1 : app max2T (consA (fun _ cs => .ok (.d (.int (2))) cs) (consA (app min2T (consA (app lenT (consA (fun ρ cs => getV ρ 0 cs) nilA)) (consA (fun _ cs => .ok (.d (.int (3))) cs) nilA))) nilA)) [some (.scr ns), none] [] = .ok (.d (.int (if (if (3 : Int) < ns.length then 3 else (ns.length : Int)) > 2 then (if (3 : Int) < ns.length then 3 else (ns.length : Int)) else 2))) [] :=
    int_two (x := 2) (y := if (3 : Int) < ns.length then 3 else (ns.length : Int)) (c1 := []) (c2 := []) rfl (int_two (x := ns.length) (y := 3) (c1 := []) (c2 := []) (app_len rfl) rfl)
  generalize hj : (if (if (3 : Int) < ns.length then 3 else (ns.length : Int)) > 2 then (if (3 : Int) < ns.length then 3 else (ns.length : Int)) else 2) = j at e1
  have hj2 : 0 ≤ j ∧ j ≤ 3 := by
    subst hj
    split <;> split at * <;> omega
  have e2 : rng1I (consA (app max2T (consA (fun _ cs => .ok (.d (.int (2))) cs) (consA (app min2T (consA (app lenT (consA (fun ρ cs => getV ρ 0 cs) nilA)) (consA (fun _ cs => .ok (.d (.int (3))) cs) nilA))) nilA))) nilA) [some (.scr ns), none] [] = .ok (rngL 0 j, fun _ => True) [] := by
    unfold rng1I
    rw [cons_of e1 nil_of]
    simp only [R.bind_ok]
    rw [e62, if_pos ⟨by omega, by omega⟩]
  obtain ⟨c, e3⟩ := each_ok (W := W) (k := k) (ns := ns) (rngL 0 j) (cs := []) rng_nat
  have hlen : (rngL 0 j).length ≤ 3 := by unfold rngL; simp; omega
  refine ⟨c.take 0, (fn_rt rfl (t := .d (.bool true)) (c1 := c) ?_).trans ?_⟩
  · rw [e0]
    unfold b_10
    refine ret_of ?_
    have e4 : lcE (rng1I (consA (app max2T (consA (fun _ cs => .ok (.d (.int (2))) cs) (consA (app min2T (consA (app lenT (consA (fun ρ cs => getV ρ 0 cs) nilA)) (consA (fun _ cs => .ok (.d (.int (3))) cs) nilA))) nilA))) nilA)) [1] (.nm 1) yesB (callE (Tb W (k + 3) 9) [] (consA (callE (Tb W (k + 3) 0) [] (consA (fun ρ cs => getV ρ 0 cs) (consA (fun ρ cs => getV ρ 1 cs) nilA))) nilA)) [some (.scr ns), none] [] = .ok (.d (.list (List.replicate (rngL 0 j).length (.bool true)))) c := by
      unfold lcE lcA
      rw [e2]
      simp only [R.bind_ok]
      rw [if_pos (by rw [hz]; omega)]
      show ((lcL (fun _ => True) (.nm 1) yesB _ [some (.scr ns), none] (rngL 0 j) []).bind _) = _
      rw [e3]
      simp only [R.bind_ok, tru_allD]
    exact (app_one e4).trans all_tru
  · unfold leaveT
    simp [isData]
end G
end
section
set_option Elab.async false
set_option linter.all false
set_option maxRecDepth 100000
set_option maxHeartbeats 0
namespace G
open PySem PySem.Spec L2 Y He YH ZX NdefX
abbrev R : PySem.W.OpenRow := PySem.W.OpenLaw.row PySem.Challenge.rw_scaletongue_k01_errors_each_of_its_own
def fa : List Fa := [.glo "_law_purse",
  .glo "_law_take",
  .glo "_law_pick",
  .glo "_law_given_ones",
  .glo "_law_index_ones",
  .glo "_law_kinds",
  .glo "_law_kept",
  .glo "_law_is_plain",
  .glo "_law_is_caught",
  .glo "_law_right",
  .glo "law",
  .free "ArithmeticError",
  .free "AttributeError",
  .free "LookupError",
  .free "RuntimeError",
  .free "TypeError",
  .free "ValueError",
  .free "abs",
  .free "all",
  .free "int",
  .free "isinstance",
  .free "len",
  .free "max",
  .free "min",
  .free "range",
  .free "repr",
  .free "super",
  .glo "ScaleError",
  .glo "InvalidText",
  .glo "InvalidBook",
  .glo "InvalidTree",
  .glo "InvalidName",
  .glo "InvalidNumber",
  .glo "InvalidGiven",
  .glo "InvalidCells",
  .glo "InvalidSigns",
  .glo "InvalidChange",
  .glo "InvalidDemands",
  .glo "InvalidCode",
  .glo "InvalidLine",
  .glo "NotADesk",
  .glo "NotWellRead",
  .glo "InvalidRows",
  .glo "InvalidDeed",
  .glo "Barred",
  .glo "NothingToUndo",
  .glo "NotLedOver",
  .glo "TooGreat"]
def dd_0 : DefD := ⟨("_law_purse", none), "_law_purse", "_law_purse", defArgs st_0, defBody st_0, defScope st_0, [], []⟩
def dd_1 : DefD := ⟨("_law_take", none), "_law_take", "_law_take", defArgs st_1, defBody st_1, defScope st_1, [], []⟩
def dd_2 : DefD := ⟨("_law_pick", none), "_law_pick", "_law_pick", defArgs st_2, defBody st_2, defScope st_2, [], []⟩
def dd_3 : DefD := ⟨("_law_given_ones", none), "_law_given_ones", "_law_given_ones", defArgs st_3, defBody st_3, defScope st_3, [], []⟩
def dd_4 : DefD := ⟨("_law_index_ones", none), "_law_index_ones", "_law_index_ones", defArgs st_4, defBody st_4, defScope st_4, [], []⟩
def dd_5 : DefD := ⟨("_law_kinds", none), "_law_kinds", "_law_kinds", defArgs st_5, defBody st_5, defScope st_5, [], []⟩
def dd_6 : DefD := ⟨("_law_kept", none), "_law_kept", "_law_kept", defArgs st_6, defBody st_6, defScope st_6, [], []⟩
def dd_7 : DefD := ⟨("_law_is_plain", none), "_law_is_plain", "_law_is_plain", defArgs st_7, defBody st_7, defScope st_7, [], []⟩
def dd_8 : DefD := ⟨("_law_is_caught", none), "_law_is_caught", "_law_is_caught", defArgs st_8, defBody st_8, defScope st_8, [], []⟩
def dd_9 : DefD := ⟨("_law_right", none), "_law_right", "_law_right", defArgs st_9, defBody st_9, defScope st_9, [], []⟩
def dd_10 : DefD := ⟨("law", none), "law", "law", defArgs st_10, defBody st_10, defScope st_10, [], []⟩
def fn : List DefD := [dd_0, dd_1, dd_2, dd_3, dd_4, dd_5, dd_6, dd_7, dd_8, dd_9, dd_10]
def ts : List Tab := []
abbrev is_1 : Stmt := inClass (top 2) 0
def ed_1 : ED := ⟨"InvalidText", "InvalidText.__init__", defArgs is_1, defBody is_1, defScope is_1⟩
abbrev is_2 : Stmt := inClass (top 3) 0
def ed_2 : ED := ⟨"InvalidBook", "InvalidBook.__init__", defArgs is_2, defBody is_2, defScope is_2⟩
abbrev is_3 : Stmt := inClass (top 4) 0
def ed_3 : ED := ⟨"InvalidTree", "InvalidTree.__init__", defArgs is_3, defBody is_3, defScope is_3⟩
abbrev is_4 : Stmt := inClass (top 5) 0
def ed_4 : ED := ⟨"InvalidName", "InvalidName.__init__", defArgs is_4, defBody is_4, defScope is_4⟩
abbrev is_5 : Stmt := inClass (top 6) 0
def ed_5 : ED := ⟨"InvalidNumber", "InvalidNumber.__init__", defArgs is_5, defBody is_5, defScope is_5⟩
abbrev is_6 : Stmt := inClass (top 7) 0
def ed_6 : ED := ⟨"InvalidGiven", "InvalidGiven.__init__", defArgs is_6, defBody is_6, defScope is_6⟩
abbrev is_7 : Stmt := inClass (top 8) 0
def ed_7 : ED := ⟨"InvalidCells", "InvalidCells.__init__", defArgs is_7, defBody is_7, defScope is_7⟩
abbrev is_8 : Stmt := inClass (top 9) 0
def ed_8 : ED := ⟨"InvalidSigns", "InvalidSigns.__init__", defArgs is_8, defBody is_8, defScope is_8⟩
abbrev is_9 : Stmt := inClass (top 10) 0
def ed_9 : ED := ⟨"InvalidChange", "InvalidChange.__init__", defArgs is_9, defBody is_9, defScope is_9⟩
abbrev is_10 : Stmt := inClass (top 11) 0
def ed_10 : ED := ⟨"InvalidDemands", "InvalidDemands.__init__", defArgs is_10, defBody is_10, defScope is_10⟩
abbrev is_11 : Stmt := inClass (top 12) 0
def ed_11 : ED := ⟨"InvalidCode", "InvalidCode.__init__", defArgs is_11, defBody is_11, defScope is_11⟩
abbrev is_12 : Stmt := inClass (top 13) 0
def ed_12 : ED := ⟨"InvalidLine", "InvalidLine.__init__", defArgs is_12, defBody is_12, defScope is_12⟩
abbrev is_13 : Stmt := inClass (top 14) 0
def ed_13 : ED := ⟨"NotADesk", "NotADesk.__init__", defArgs is_13, defBody is_13, defScope is_13⟩
abbrev is_14 : Stmt := inClass (top 15) 0
def ed_14 : ED := ⟨"NotWellRead", "NotWellRead.__init__", defArgs is_14, defBody is_14, defScope is_14⟩
abbrev is_15 : Stmt := inClass (top 16) 0
def ed_15 : ED := ⟨"InvalidRows", "InvalidRows.__init__", defArgs is_15, defBody is_15, defScope is_15⟩
abbrev is_16 : Stmt := inClass (top 17) 0
def ed_16 : ED := ⟨"InvalidDeed", "InvalidDeed.__init__", defArgs is_16, defBody is_16, defScope is_16⟩
abbrev is_17 : Stmt := inClass (top 18) 0
def ed_17 : ED := ⟨"Barred", "Barred.__init__", defArgs is_17, defBody is_17, defScope is_17⟩
def eds : List ED := [ed_1, ed_2, ed_3, ed_4, ed_5, ed_6, ed_7, ed_8, ed_9, ed_10, ed_11, ed_12, ed_13, ed_14, ed_15, ed_16, ed_17]
def cadK (K : PySem.W.Frag) : Nat → Addr := fun i => match i with
  | 0 => ga K "ScaleError"
  | 1 => ga K "InvalidText"
  | 2 => ga K "InvalidBook"
  | 3 => ga K "InvalidTree"
  | 4 => ga K "InvalidName"
  | 5 => ga K "InvalidNumber"
  | 6 => ga K "InvalidGiven"
  | 7 => ga K "InvalidCells"
  | 8 => ga K "InvalidSigns"
  | 9 => ga K "InvalidChange"
  | 10 => ga K "InvalidDemands"
  | 11 => ga K "InvalidCode"
  | 12 => ga K "InvalidLine"
  | 13 => ga K "NotADesk"
  | 14 => ga K "NotWellRead"
  | 15 => ga K "InvalidRows"
  | 16 => ga K "InvalidDeed"
  | 17 => ga K "Barred"
  | 18 => ga K "NothingToUndo"
  | 19 => ga K "NotLedOver"
  | 20 => ga K "TooGreat"
  | _ => 0
abbrev pf : Str := (PySem.Challenge.pw_scaletongue_k01_errors_each_of_its_own).main.file
def ex_0 (K : PySem.W.Frag) : Bool := allC 21 fun ci => oexB K (cadK K ci)
def ex_1 (K : PySem.W.Frag) : Bool := allC 21 fun ci => exccB K (cadK K ci)
def ex_2 (K : PySem.W.Frag) : Bool := allC 21 fun ci => fldB K (cadK K ci) (["given", "index", "row", "word", "reason"] : List Str)
def ex_3 (K : PySem.W.Frag) : Bool := allC 21 fun ci => decide (PySem.W.exmOne K (.ref (cadK K ci)) (.ref (cadK K 0)) = some true)
def ex_4 (K : PySem.W.Frag) : Bool := oneT K (cadK K) 21 (.ref (cadK K 0)) BL_0
def ex_5 (K : PySem.W.Frag) : Bool := oneT K (cadK K) 21 (.ref (cadK K 1)) BL_1
def ex_6 (K : PySem.W.Frag) : Bool := oneT K (cadK K) 21 (.ref (cadK K 2)) BL_2
def ex_7 (K : PySem.W.Frag) : Bool := oneT K (cadK K) 21 (.ref (cadK K 3)) BL_3
def ex_8 (K : PySem.W.Frag) : Bool := oneT K (cadK K) 21 (.ref (cadK K 4)) BL_4
def ex_9 (K : PySem.W.Frag) : Bool := oneT K (cadK K) 21 (.ref (cadK K 5)) BL_5
def ex_10 (K : PySem.W.Frag) : Bool := oneT K (cadK K) 21 (.ref (cadK K 6)) BL_6
def ex_11 (K : PySem.W.Frag) : Bool := oneT K (cadK K) 21 (.ref (cadK K 7)) BL_7
def ex_12 (K : PySem.W.Frag) : Bool := oneT K (cadK K) 21 (.ref (cadK K 8)) BL_8
def ex_13 (K : PySem.W.Frag) : Bool := oneT K (cadK K) 21 (.ref (cadK K 9)) BL_9
def ex_14 (K : PySem.W.Frag) : Bool := oneT K (cadK K) 21 (.ref (cadK K 10)) BL_10
def ex_15 (K : PySem.W.Frag) : Bool := oneT K (cadK K) 21 (.ref (cadK K 11)) BL_11
def ex_16 (K : PySem.W.Frag) : Bool := oneT K (cadK K) 21 (.ref (cadK K 12)) BL_12
def ex_17 (K : PySem.W.Frag) : Bool := oneT K (cadK K) 21 (.ref (cadK K 13)) BL_13
def ex_18 (K : PySem.W.Frag) : Bool := oneT K (cadK K) 21 (.ref (cadK K 14)) BL_14
def ex_19 (K : PySem.W.Frag) : Bool := oneT K (cadK K) 21 (.ref (cadK K 15)) BL_15
def ex_20 (K : PySem.W.Frag) : Bool := oneT K (cadK K) 21 (.ref (cadK K 16)) BL_16
def ex_21 (K : PySem.W.Frag) : Bool := oneT K (cadK K) 21 (.ref (cadK K 17)) BL_17
def ex_22 (K : PySem.W.Frag) : Bool := oneT K (cadK K) 21 (.ref (cadK K 18)) BL_18
def ex_23 (K : PySem.W.Frag) : Bool := oneT K (cadK K) 21 (.ref (cadK K 19)) BL_19
def ex_24 (K : PySem.W.Frag) : Bool := oneT K (cadK K) 21 (.ref (cadK K 20)) BL_20
def ex_25 (K : PySem.W.Frag) : Bool := oneT K (cadK K) 21 (.type "ValueError") BL_V
def ex_26 (K : PySem.W.Frag) : Bool := anyT K (cadK K) 21 [.type "LookupError", .type "ArithmeticError", .type "TypeError", .type "AttributeError", .type "RuntimeError"] BL_T
def ex_27 (K : PySem.W.Frag) : Bool := PySem.W.excIn K (cadK K 0) veBase "ValueError.__new__" && PySem.W.keepIn K (.ref (cadK K 0))
def ex_28 (K : PySem.W.Frag) : Bool := PySem.W.excIn K (cadK K 18) veBase "ValueError.__new__" && PySem.W.keepIn K (.ref (cadK K 18))
def ex_29 (K : PySem.W.Frag) : Bool := PySem.W.excIn K (cadK K 19) veBase "ValueError.__new__" && PySem.W.keepIn K (.ref (cadK K 19))
def ex_30 (K : PySem.W.Frag) : Bool := PySem.W.excIn K (cadK K 20) veBase "ValueError.__new__" && PySem.W.keepIn K (.ref (cadK K 20))
def ex_31 (K : PySem.W.Frag) : Bool := eds.all fun d => supB pf K d
def ex_32 (K : PySem.W.Frag) : Bool := (K.lookup sysModules).isSome
def ex (K : PySem.W.Frag) : Bool := ex_0 K && (ex_1 K && (ex_2 K && (ex_3 K && (ex_4 K && (ex_5 K && (ex_6 K && (ex_7 K && (ex_8 K && (ex_9 K && (ex_10 K && (ex_11 K && (ex_12 K && (ex_13 K && (ex_14 K && (ex_15 K && (ex_16 K && (ex_17 K && (ex_18 K && (ex_19 K && (ex_20 K && (ex_21 K && (ex_22 K && (ex_23 K && (ex_24 K && (ex_25 K && (ex_26 K && (ex_27 K && (ex_28 K && (ex_29 K && (ex_30 K && (ex_31 K && (ex_32 K))))))))))))))))))))))))))))))))
def WK (K : PySem.W.Frag) : Wd where
  fad := fun i => match i with
    | 0 => ga K "_law_purse"
    | 1 => ga K "_law_take"
    | 2 => ga K "_law_pick"
    | 3 => ga K "_law_given_ones"
    | 4 => ga K "_law_index_ones"
    | 5 => ga K "_law_kinds"
    | 6 => ga K "_law_kept"
    | 7 => ga K "_law_is_plain"
    | 8 => ga K "_law_is_caught"
    | 9 => ga K "_law_right"
    | 10 => ga K "law"
    | _ => 0
  cad := cadK K
  kad := fun _ => 0
  kdv := fun _ => []
  okf := fun _ _ => false
  tbs := []
  lam := fun _ => ⟨"", defArgs st_0, .Constant .none 0 ⟨0, 0, 0, 0⟩, defScope st_0⟩
section
variable {P : Program} {w : World} {K : PySem.W.Frag} {h : Heap} {mg : Str → Option Value}
theorem fds (c : SaysE fa fn ts ex eds w K) : Fds (WK K) K where
  f_0 := c.t.d.def_ 0 (d := dd_0) rfl
  f_1 := c.t.d.def_ 1 (d := dd_1) rfl
  f_2 := c.t.d.def_ 2 (d := dd_2) rfl
  f_3 := c.t.d.def_ 3 (d := dd_3) rfl
  f_4 := c.t.d.def_ 4 (d := dd_4) rfl
  f_5 := c.t.d.def_ 5 (d := dd_5) rfl
  f_6 := c.t.d.def_ 6 (d := dd_6) rfl
  f_7 := c.t.d.def_ 7 (d := dd_7) rfl
  f_8 := c.t.d.def_ 8 (d := dd_8) rfl
  f_9 := c.t.d.def_ 9 (d := dd_9) rfl
  f_10 := c.t.d.def_ 10 (d := dd_10) rfl
theorem exs (c : SaysE fa fn ts ex eds w K) : ex_0 K = true ∧ ex_1 K = true ∧ ex_2 K = true ∧ ex_3 K = true ∧ ex_4 K = true ∧ ex_5 K = true ∧ ex_6 K = true ∧ ex_7 K = true ∧ ex_8 K = true ∧ ex_9 K = true ∧ ex_10 K = true ∧ ex_11 K = true ∧ ex_12 K = true ∧ ex_13 K = true ∧ ex_14 K = true ∧ ex_15 K = true ∧ ex_16 K = true ∧ ex_17 K = true ∧ ex_18 K = true ∧ ex_19 K = true ∧ ex_20 K = true ∧ ex_21 K = true ∧ ex_22 K = true ∧ ex_23 K = true ∧ ex_24 K = true ∧ ex_25 K = true ∧ ex_26 K = true ∧ ex_27 K = true ∧ ex_28 K = true ∧ ex_29 K = true ∧ ex_30 K = true ∧ ex_31 K = true ∧ ex_32 K = true := by
  have h := c.more
  unfold ex at h
  obtain ⟨h0, h⟩ := ba h
  obtain ⟨h1, h⟩ := ba h
  obtain ⟨h2, h⟩ := ba h
  obtain ⟨h3, h⟩ := ba h
  obtain ⟨h4, h⟩ := ba h
  obtain ⟨h5, h⟩ := ba h
  obtain ⟨h6, h⟩ := ba h
  obtain ⟨h7, h⟩ := ba h
  obtain ⟨h8, h⟩ := ba h
  obtain ⟨h9, h⟩ := ba h
  obtain ⟨h10, h⟩ := ba h
  obtain ⟨h11, h⟩ := ba h
  obtain ⟨h12, h⟩ := ba h
  obtain ⟨h13, h⟩ := ba h
  obtain ⟨h14, h⟩ := ba h
  obtain ⟨h15, h⟩ := ba h
  obtain ⟨h16, h⟩ := ba h
  obtain ⟨h17, h⟩ := ba h
  obtain ⟨h18, h⟩ := ba h
  obtain ⟨h19, h⟩ := ba h
  obtain ⟨h20, h⟩ := ba h
  obtain ⟨h21, h⟩ := ba h
  obtain ⟨h22, h⟩ := ba h
  obtain ⟨h23, h⟩ := ba h
  obtain ⟨h24, h⟩ := ba h
  obtain ⟨h25, h⟩ := ba h
  obtain ⟨h26, h⟩ := ba h
  obtain ⟨h27, h⟩ := ba h
  obtain ⟨h28, h⟩ := ba h
  obtain ⟨h29, h⟩ := ba h
  obtain ⟨h30, h⟩ := ba h
  obtain ⟨h31, h⟩ := ba h
  exact ⟨h0, h1, h2, h3, h4, h5, h6, h7, h8, h9, h10, h11, h12, h13, h14, h15, h16, h17, h18, h19, h20, h21, h22, h23, h24, h25, h26, h27, h28, h29, h30, h31, h⟩
theorem wok : WOk (WK K) K w where
  kd := fun i hi => absurd rfl hi
  fld := fun c0 f hf => by cases hf
theorem xi_1 {f C : Addr} (S : SupC P K mg f C (ed_1.nf K) "self") (M : MkX K C f) (hno : PySem.W.findIn K (.ref C) "given" = some none) : XI1 P w K mg C "given" := by
  obtain ⟨oc, od, doc, pm, ctv, osl, lk⟩ := S.fn
  exact ⟨f, _, M, fun base k => init1 (k := k) S lk (nscope_by (show nscB _ _ _ (defScope is_1) = true from by decide +kernel)) (by rfl) hno (by decide +kernel) (by decide +kernel), bindX_of (fun us hl a => match us, hl with | [_], _ => rfl), bindX_of (fun us hl a => match us, hl with | [_], _ => rfl)⟩
theorem xi_2 {f C : Addr} (S : SupC P K mg f C (ed_2.nf K) "self") (M : MkX K C f) (hno : PySem.W.findIn K (.ref C) "given" = some none) : XI1 P w K mg C "given" := by
  obtain ⟨oc, od, doc, pm, ctv, osl, lk⟩ := S.fn
  exact ⟨f, _, M, fun base k => init1 (k := k) S lk (nscope_by (show nscB _ _ _ (defScope is_2) = true from by decide +kernel)) (by rfl) hno (by decide +kernel) (by decide +kernel), bindX_of (fun us hl a => match us, hl with | [_], _ => rfl), bindX_of (fun us hl a => match us, hl with | [_], _ => rfl)⟩
theorem xi_3 {f C : Addr} (S : SupC P K mg f C (ed_3.nf K) "self") (M : MkX K C f) (hno : PySem.W.findIn K (.ref C) "given" = some none) : XI1 P w K mg C "given" := by
  obtain ⟨oc, od, doc, pm, ctv, osl, lk⟩ := S.fn
  exact ⟨f, _, M, fun base k => init1 (k := k) S lk (nscope_by (show nscB _ _ _ (defScope is_3) = true from by decide +kernel)) (by rfl) hno (by decide +kernel) (by decide +kernel), bindX_of (fun us hl a => match us, hl with | [_], _ => rfl), bindX_of (fun us hl a => match us, hl with | [_], _ => rfl)⟩
theorem xi_4 {f C : Addr} (S : SupC P K mg f C (ed_4.nf K) "self") (M : MkX K C f) (hno : PySem.W.findIn K (.ref C) "given" = some none) : XI1 P w K mg C "given" := by
  obtain ⟨oc, od, doc, pm, ctv, osl, lk⟩ := S.fn
  exact ⟨f, _, M, fun base k => init1 (k := k) S lk (nscope_by (show nscB _ _ _ (defScope is_4) = true from by decide +kernel)) (by rfl) hno (by decide +kernel) (by decide +kernel), bindX_of (fun us hl a => match us, hl with | [_], _ => rfl), bindX_of (fun us hl a => match us, hl with | [_], _ => rfl)⟩
theorem xi_5 {f C : Addr} (S : SupC P K mg f C (ed_5.nf K) "self") (M : MkX K C f) (hno : PySem.W.findIn K (.ref C) "given" = some none) : XI1 P w K mg C "given" := by
  obtain ⟨oc, od, doc, pm, ctv, osl, lk⟩ := S.fn
  exact ⟨f, _, M, fun base k => init1 (k := k) S lk (nscope_by (show nscB _ _ _ (defScope is_5) = true from by decide +kernel)) (by rfl) hno (by decide +kernel) (by decide +kernel), bindX_of (fun us hl a => match us, hl with | [_], _ => rfl), bindX_of (fun us hl a => match us, hl with | [_], _ => rfl)⟩
theorem xi_6 {f C : Addr} (S : SupC P K mg f C (ed_6.nf K) "self") (M : MkX K C f) (hno : PySem.W.findIn K (.ref C) "given" = some none) : XI1 P w K mg C "given" := by
  obtain ⟨oc, od, doc, pm, ctv, osl, lk⟩ := S.fn
  exact ⟨f, _, M, fun base k => init1 (k := k) S lk (nscope_by (show nscB _ _ _ (defScope is_6) = true from by decide +kernel)) (by rfl) hno (by decide +kernel) (by decide +kernel), bindX_of (fun us hl a => match us, hl with | [_], _ => rfl), bindX_of (fun us hl a => match us, hl with | [_], _ => rfl)⟩
theorem xi_7 {f C : Addr} (S : SupC P K mg f C (ed_7.nf K) "self") (M : MkX K C f) (hno : PySem.W.findIn K (.ref C) "given" = some none) : XI1 P w K mg C "given" := by
  obtain ⟨oc, od, doc, pm, ctv, osl, lk⟩ := S.fn
  exact ⟨f, _, M, fun base k => init1 (k := k) S lk (nscope_by (show nscB _ _ _ (defScope is_7) = true from by decide +kernel)) (by rfl) hno (by decide +kernel) (by decide +kernel), bindX_of (fun us hl a => match us, hl with | [_], _ => rfl), bindX_of (fun us hl a => match us, hl with | [_], _ => rfl)⟩
theorem xi_8 {f C : Addr} (S : SupC P K mg f C (ed_8.nf K) "self") (M : MkX K C f) (hno : PySem.W.findIn K (.ref C) "given" = some none) : XI1 P w K mg C "given" := by
  obtain ⟨oc, od, doc, pm, ctv, osl, lk⟩ := S.fn
  exact ⟨f, _, M, fun base k => init1 (k := k) S lk (nscope_by (show nscB _ _ _ (defScope is_8) = true from by decide +kernel)) (by rfl) hno (by decide +kernel) (by decide +kernel), bindX_of (fun us hl a => match us, hl with | [_], _ => rfl), bindX_of (fun us hl a => match us, hl with | [_], _ => rfl)⟩
theorem xi_9 {f C : Addr} (S : SupC P K mg f C (ed_9.nf K) "self") (M : MkX K C f) (hno : PySem.W.findIn K (.ref C) "given" = some none) : XI1 P w K mg C "given" := by
  obtain ⟨oc, od, doc, pm, ctv, osl, lk⟩ := S.fn
  exact ⟨f, _, M, fun base k => init1 (k := k) S lk (nscope_by (show nscB _ _ _ (defScope is_9) = true from by decide +kernel)) (by rfl) hno (by decide +kernel) (by decide +kernel), bindX_of (fun us hl a => match us, hl with | [_], _ => rfl), bindX_of (fun us hl a => match us, hl with | [_], _ => rfl)⟩
theorem xi_10 {f C : Addr} (S : SupC P K mg f C (ed_10.nf K) "self") (M : MkX K C f) (hno : PySem.W.findIn K (.ref C) "given" = some none) : XI1 P w K mg C "given" := by
  obtain ⟨oc, od, doc, pm, ctv, osl, lk⟩ := S.fn
  exact ⟨f, _, M, fun base k => init1 (k := k) S lk (nscope_by (show nscB _ _ _ (defScope is_10) = true from by decide +kernel)) (by rfl) hno (by decide +kernel) (by decide +kernel), bindX_of (fun us hl a => match us, hl with | [_], _ => rfl), bindX_of (fun us hl a => match us, hl with | [_], _ => rfl)⟩
theorem xi_11 {f C : Addr} (S : SupC P K mg f C (ed_11.nf K) "self") (M : MkX K C f) (hno : PySem.W.findIn K (.ref C) "given" = some none) : XI1 P w K mg C "given" := by
  obtain ⟨oc, od, doc, pm, ctv, osl, lk⟩ := S.fn
  exact ⟨f, _, M, fun base k => init1 (k := k) S lk (nscope_by (show nscB _ _ _ (defScope is_11) = true from by decide +kernel)) (by rfl) hno (by decide +kernel) (by decide +kernel), bindX_of (fun us hl a => match us, hl with | [_], _ => rfl), bindX_of (fun us hl a => match us, hl with | [_], _ => rfl)⟩
theorem xi_12 {f C : Addr} (S : SupC P K mg f C (ed_12.nf K) "self") (M : MkX K C f) (hno : PySem.W.findIn K (.ref C) "given" = some none) : XI1 P w K mg C "given" := by
  obtain ⟨oc, od, doc, pm, ctv, osl, lk⟩ := S.fn
  exact ⟨f, _, M, fun base k => init1 (k := k) S lk (nscope_by (show nscB _ _ _ (defScope is_12) = true from by decide +kernel)) (by rfl) hno (by decide +kernel) (by decide +kernel), bindX_of (fun us hl a => match us, hl with | [_], _ => rfl), bindX_of (fun us hl a => match us, hl with | [_], _ => rfl)⟩
theorem xi_13 {f C : Addr} (S : SupC P K mg f C (ed_13.nf K) "self") (M : MkX K C f) (hno : PySem.W.findIn K (.ref C) "given" = some none) : XI1 P w K mg C "given" := by
  obtain ⟨oc, od, doc, pm, ctv, osl, lk⟩ := S.fn
  exact ⟨f, _, M, fun base k => init1 (k := k) S lk (nscope_by (show nscB _ _ _ (defScope is_13) = true from by decide +kernel)) (by rfl) hno (by decide +kernel) (by decide +kernel), bindX_of (fun us hl a => match us, hl with | [_], _ => rfl), bindX_of (fun us hl a => match us, hl with | [_], _ => rfl)⟩
theorem xi_14 {f C : Addr} (S : SupC P K mg f C (ed_14.nf K) "self") (M : MkX K C f) (hno : PySem.W.findIn K (.ref C) "row" = some none) (hno2 : PySem.W.findIn K (.ref C) "word" = some none) : XI2 P w K mg C "row" "word" := by
  obtain ⟨oc, od, doc, pm, ctv, osl, lk⟩ := S.fn
  exact ⟨f, _, M, fun base k => init2 (k := k) S lk (nscope_by (show nscB _ _ _ (defScope is_14) = true from by decide +kernel)) (by rfl) hno hno2 (by decide +kernel) (by decide +kernel) (by decide +kernel) (by decide +kernel), bindX_of (fun us hl a => match us, hl with | [_, _], _ => rfl), bindX_of (fun us hl a => match us, hl with | [_, _], _ => rfl)⟩
theorem xi_15 {f C : Addr} (S : SupC P K mg f C (ed_15.nf K) "self") (M : MkX K C f) (hno : PySem.W.findIn K (.ref C) "index" = some none) : XI1 P w K mg C "index" := by
  obtain ⟨oc, od, doc, pm, ctv, osl, lk⟩ := S.fn
  exact ⟨f, _, M, fun base k => init1 (k := k) S lk (nscope_by (show nscB _ _ _ (defScope is_15) = true from by decide +kernel)) (by rfl) hno (by decide +kernel) (by decide +kernel), bindX_of (fun us hl a => match us, hl with | [_], _ => rfl), bindX_of (fun us hl a => match us, hl with | [_], _ => rfl)⟩
theorem xi_16 {f C : Addr} (S : SupC P K mg f C (ed_16.nf K) "self") (M : MkX K C f) (hno : PySem.W.findIn K (.ref C) "index" = some none) : XI1 P w K mg C "index" := by
  obtain ⟨oc, od, doc, pm, ctv, osl, lk⟩ := S.fn
  exact ⟨f, _, M, fun base k => init1 (k := k) S lk (nscope_by (show nscB _ _ _ (defScope is_16) = true from by decide +kernel)) (by rfl) hno (by decide +kernel) (by decide +kernel), bindX_of (fun us hl a => match us, hl with | [_], _ => rfl), bindX_of (fun us hl a => match us, hl with | [_], _ => rfl)⟩
theorem xi_17 {f C : Addr} (S : SupC P K mg f C (ed_17.nf K) "self") (M : MkX K C f) (hno : PySem.W.findIn K (.ref C) "reason" = some none) : XI1 P w K mg C "reason" := by
  obtain ⟨oc, od, doc, pm, ctv, osl, lk⟩ := S.fn
  exact ⟨f, _, M, fun base k => init1 (k := k) S lk (nscope_by (show nscB _ _ _ (defScope is_17) = true from by decide +kernel)) (by rfl) hno (by decide +kernel) (by decide +kernel), bindX_of (fun us hl a => match us, hl with | [_], _ => rfl), bindX_of (fun us hl a => match us, hl with | [_], _ => rfl)⟩
theorem txt (X : K.In h) (G : h.Ns mainGlobals mg) (c : SaysE fa fn ts ex eds w K) (hpf : (P.main.file : Str) = pf) (htop : (P.main.scope.names.lookup ("super" : Str)).isSome = false) : Txt (WK K) P w K mg := by
  have e := exs c
  have xo := fun ci (hc : ci < 21) => oexB_ok (allC_ok e.1 ci hc)
  have xf := fun ci (hc : ci < 21) => fldB_ok (allC_ok e.2.2.1 ci hc)
  have hs := free_ok X G (c.t.d.fact 26 (f := .free "super") rfl)
  have sup := fun (d : ED) (hd : d ∈ eds) => List.all_eq_true.mp e.2.2.2.2.2.2.2.2.2.2.2.2.2.2.2.2.2.2.2.2.2.2.2.2.2.2.2.2.2.2.2.1 d hd
  have s_1 := sup_ok (P := P) (mg := mg) (ar := "self") (c.ed 0 (d := ed_1) rfl) (sup ed_1 (by repeat (first | exact List.mem_cons_self | apply List.mem_cons_of_mem))) (allC_ok e.1 1 (by decide)) hpf hs (by rfl) (by rfl) (by rfl) (by rfl) htop
  have s_2 := sup_ok (P := P) (mg := mg) (ar := "self") (c.ed 1 (d := ed_2) rfl) (sup ed_2 (by repeat (first | exact List.mem_cons_self | apply List.mem_cons_of_mem))) (allC_ok e.1 2 (by decide)) hpf hs (by rfl) (by rfl) (by rfl) (by rfl) htop
  have s_3 := sup_ok (P := P) (mg := mg) (ar := "self") (c.ed 2 (d := ed_3) rfl) (sup ed_3 (by repeat (first | exact List.mem_cons_self | apply List.mem_cons_of_mem))) (allC_ok e.1 3 (by decide)) hpf hs (by rfl) (by rfl) (by rfl) (by rfl) htop
  have s_4 := sup_ok (P := P) (mg := mg) (ar := "self") (c.ed 3 (d := ed_4) rfl) (sup ed_4 (by repeat (first | exact List.mem_cons_self | apply List.mem_cons_of_mem))) (allC_ok e.1 4 (by decide)) hpf hs (by rfl) (by rfl) (by rfl) (by rfl) htop
  have s_5 := sup_ok (P := P) (mg := mg) (ar := "self") (c.ed 4 (d := ed_5) rfl) (sup ed_5 (by repeat (first | exact List.mem_cons_self | apply List.mem_cons_of_mem))) (allC_ok e.1 5 (by decide)) hpf hs (by rfl) (by rfl) (by rfl) (by rfl) htop
  have s_6 := sup_ok (P := P) (mg := mg) (ar := "self") (c.ed 5 (d := ed_6) rfl) (sup ed_6 (by repeat (first | exact List.mem_cons_self | apply List.mem_cons_of_mem))) (allC_ok e.1 6 (by decide)) hpf hs (by rfl) (by rfl) (by rfl) (by rfl) htop
  have s_7 := sup_ok (P := P) (mg := mg) (ar := "self") (c.ed 6 (d := ed_7) rfl) (sup ed_7 (by repeat (first | exact List.mem_cons_self | apply List.mem_cons_of_mem))) (allC_ok e.1 7 (by decide)) hpf hs (by rfl) (by rfl) (by rfl) (by rfl) htop
  have s_8 := sup_ok (P := P) (mg := mg) (ar := "self") (c.ed 7 (d := ed_8) rfl) (sup ed_8 (by repeat (first | exact List.mem_cons_self | apply List.mem_cons_of_mem))) (allC_ok e.1 8 (by decide)) hpf hs (by rfl) (by rfl) (by rfl) (by rfl) htop
  have s_9 := sup_ok (P := P) (mg := mg) (ar := "self") (c.ed 8 (d := ed_9) rfl) (sup ed_9 (by repeat (first | exact List.mem_cons_self | apply List.mem_cons_of_mem))) (allC_ok e.1 9 (by decide)) hpf hs (by rfl) (by rfl) (by rfl) (by rfl) htop
  have s_10 := sup_ok (P := P) (mg := mg) (ar := "self") (c.ed 9 (d := ed_10) rfl) (sup ed_10 (by repeat (first | exact List.mem_cons_self | apply List.mem_cons_of_mem))) (allC_ok e.1 10 (by decide)) hpf hs (by rfl) (by rfl) (by rfl) (by rfl) htop
  have s_11 := sup_ok (P := P) (mg := mg) (ar := "self") (c.ed 10 (d := ed_11) rfl) (sup ed_11 (by repeat (first | exact List.mem_cons_self | apply List.mem_cons_of_mem))) (allC_ok e.1 11 (by decide)) hpf hs (by rfl) (by rfl) (by rfl) (by rfl) htop
  have s_12 := sup_ok (P := P) (mg := mg) (ar := "self") (c.ed 11 (d := ed_12) rfl) (sup ed_12 (by repeat (first | exact List.mem_cons_self | apply List.mem_cons_of_mem))) (allC_ok e.1 12 (by decide)) hpf hs (by rfl) (by rfl) (by rfl) (by rfl) htop
  have s_13 := sup_ok (P := P) (mg := mg) (ar := "self") (c.ed 12 (d := ed_13) rfl) (sup ed_13 (by repeat (first | exact List.mem_cons_self | apply List.mem_cons_of_mem))) (allC_ok e.1 13 (by decide)) hpf hs (by rfl) (by rfl) (by rfl) (by rfl) htop
  have s_14 := sup_ok (P := P) (mg := mg) (ar := "self") (c.ed 13 (d := ed_14) rfl) (sup ed_14 (by repeat (first | exact List.mem_cons_self | apply List.mem_cons_of_mem))) (allC_ok e.1 14 (by decide)) hpf hs (by rfl) (by rfl) (by rfl) (by rfl) htop
  have s_15 := sup_ok (P := P) (mg := mg) (ar := "self") (c.ed 14 (d := ed_15) rfl) (sup ed_15 (by repeat (first | exact List.mem_cons_self | apply List.mem_cons_of_mem))) (allC_ok e.1 15 (by decide)) hpf hs (by rfl) (by rfl) (by rfl) (by rfl) htop
  have s_16 := sup_ok (P := P) (mg := mg) (ar := "self") (c.ed 15 (d := ed_16) rfl) (sup ed_16 (by repeat (first | exact List.mem_cons_self | apply List.mem_cons_of_mem))) (allC_ok e.1 16 (by decide)) hpf hs (by rfl) (by rfl) (by rfl) (by rfl) htop
  have s_17 := sup_ok (P := P) (mg := mg) (ar := "self") (c.ed 16 (d := ed_17) rfl) (sup ed_17 (by repeat (first | exact List.mem_cons_self | apply List.mem_cons_of_mem))) (allC_ok e.1 17 (by decide)) hpf hs (by rfl) (by rfl) (by rfl) (by rfl) htop
  exact {
    G := wok
    m__law_purse := glo_ok X G (c.t.d.fact 0 (f := .glo "_law_purse") rfl)
    m__law_take := glo_ok X G (c.t.d.fact 1 (f := .glo "_law_take") rfl)
    m__law_pick := glo_ok X G (c.t.d.fact 2 (f := .glo "_law_pick") rfl)
    m__law_given_ones := glo_ok X G (c.t.d.fact 3 (f := .glo "_law_given_ones") rfl)
    m__law_index_ones := glo_ok X G (c.t.d.fact 4 (f := .glo "_law_index_ones") rfl)
    m__law_kinds := glo_ok X G (c.t.d.fact 5 (f := .glo "_law_kinds") rfl)
    m__law_kept := glo_ok X G (c.t.d.fact 6 (f := .glo "_law_kept") rfl)
    m__law_is_plain := glo_ok X G (c.t.d.fact 7 (f := .glo "_law_is_plain") rfl)
    m__law_is_caught := glo_ok X G (c.t.d.fact 8 (f := .glo "_law_is_caught") rfl)
    m__law_right := glo_ok X G (c.t.d.fact 9 (f := .glo "_law_right") rfl)
    m_law := glo_ok X G (c.t.d.fact 10 (f := .glo "law") rfl)
    n_ArithmeticError := free_ok X G (c.t.d.fact 11 (f := .free "ArithmeticError") rfl)
    n_AttributeError := free_ok X G (c.t.d.fact 12 (f := .free "AttributeError") rfl)
    n_LookupError := free_ok X G (c.t.d.fact 13 (f := .free "LookupError") rfl)
    n_RuntimeError := free_ok X G (c.t.d.fact 14 (f := .free "RuntimeError") rfl)
    n_TypeError := free_ok X G (c.t.d.fact 15 (f := .free "TypeError") rfl)
    n_ValueError := free_ok X G (c.t.d.fact 16 (f := .free "ValueError") rfl)
    n_abs := free_ok X G (c.t.d.fact 17 (f := .free "abs") rfl)
    n_all := free_ok X G (c.t.d.fact 18 (f := .free "all") rfl)
    n_int := free_ok X G (c.t.d.fact 19 (f := .free "int") rfl)
    n_isinstance := free_ok X G (c.t.d.fact 20 (f := .free "isinstance") rfl)
    n_len := free_ok X G (c.t.d.fact 21 (f := .free "len") rfl)
    n_max := free_ok X G (c.t.d.fact 22 (f := .free "max") rfl)
    n_min := free_ok X G (c.t.d.fact 23 (f := .free "min") rfl)
    n_range := free_ok X G (c.t.d.fact 24 (f := .free "range") rfl)
    n_repr := free_ok X G (c.t.d.fact 25 (f := .free "repr") rfl)
    xk_0 := glo_ok X G (c.t.d.fact 27 (f := .glo "ScaleError") rfl)
    xk_1 := glo_ok X G (c.t.d.fact 28 (f := .glo "InvalidText") rfl)
    xk_2 := glo_ok X G (c.t.d.fact 29 (f := .glo "InvalidBook") rfl)
    xk_3 := glo_ok X G (c.t.d.fact 30 (f := .glo "InvalidTree") rfl)
    xk_4 := glo_ok X G (c.t.d.fact 31 (f := .glo "InvalidName") rfl)
    xk_5 := glo_ok X G (c.t.d.fact 32 (f := .glo "InvalidNumber") rfl)
    xk_6 := glo_ok X G (c.t.d.fact 33 (f := .glo "InvalidGiven") rfl)
    xk_7 := glo_ok X G (c.t.d.fact 34 (f := .glo "InvalidCells") rfl)
    xk_8 := glo_ok X G (c.t.d.fact 35 (f := .glo "InvalidSigns") rfl)
    xk_9 := glo_ok X G (c.t.d.fact 36 (f := .glo "InvalidChange") rfl)
    xk_10 := glo_ok X G (c.t.d.fact 37 (f := .glo "InvalidDemands") rfl)
    xk_11 := glo_ok X G (c.t.d.fact 38 (f := .glo "InvalidCode") rfl)
    xk_12 := glo_ok X G (c.t.d.fact 39 (f := .glo "InvalidLine") rfl)
    xk_13 := glo_ok X G (c.t.d.fact 40 (f := .glo "NotADesk") rfl)
    xk_14 := glo_ok X G (c.t.d.fact 41 (f := .glo "NotWellRead") rfl)
    xk_15 := glo_ok X G (c.t.d.fact 42 (f := .glo "InvalidRows") rfl)
    xk_16 := glo_ok X G (c.t.d.fact 43 (f := .glo "InvalidDeed") rfl)
    xk_17 := glo_ok X G (c.t.d.fact 44 (f := .glo "Barred") rfl)
    xk_18 := glo_ok X G (c.t.d.fact 45 (f := .glo "NothingToUndo") rfl)
    xk_19 := glo_ok X G (c.t.d.fact 46 (f := .glo "NotLedOver") rfl)
    xk_20 := glo_ok X G (c.t.d.fact 47 (f := .glo "TooGreat") rfl)
    xG := fun ci hc => exccB_ok (allC_ok e.2.1 ci hc)
    xO := ⟨fun ci n hn => by
      obtain ⟨h1, h2⟩ := ba hn
      have h3 := xf ci (of_decide_eq_true h1)
      exact ⟨h3.1, h3.2 n (of_decide_eq_true h2)⟩⟩
    xC := fun ci hc => of_decide_eq_true (allC_ok e.2.2.2.1 ci hc)
    xsm := Option.isSome_iff_exists.mp e.2.2.2.2.2.2.2.2.2.2.2.2.2.2.2.2.2.2.2.2.2.2.2.2.2.2.2.2.2.2.2.2
    xB_0 := oneT_ok e.2.2.2.2.1 rfl
    xB_1 := oneT_ok e.2.2.2.2.2.1 rfl
    xB_2 := oneT_ok e.2.2.2.2.2.2.1 rfl
    xB_3 := oneT_ok e.2.2.2.2.2.2.2.1 rfl
    xB_4 := oneT_ok e.2.2.2.2.2.2.2.2.1 rfl
    xB_5 := oneT_ok e.2.2.2.2.2.2.2.2.2.1 rfl
    xB_6 := oneT_ok e.2.2.2.2.2.2.2.2.2.2.1 rfl
    xB_7 := oneT_ok e.2.2.2.2.2.2.2.2.2.2.2.1 rfl
    xB_8 := oneT_ok e.2.2.2.2.2.2.2.2.2.2.2.2.1 rfl
    xB_9 := oneT_ok e.2.2.2.2.2.2.2.2.2.2.2.2.2.1 rfl
    xB_10 := oneT_ok e.2.2.2.2.2.2.2.2.2.2.2.2.2.2.1 rfl
    xB_11 := oneT_ok e.2.2.2.2.2.2.2.2.2.2.2.2.2.2.2.1 rfl
    xB_12 := oneT_ok e.2.2.2.2.2.2.2.2.2.2.2.2.2.2.2.2.1 rfl
    xB_13 := oneT_ok e.2.2.2.2.2.2.2.2.2.2.2.2.2.2.2.2.2.1 rfl
    xB_14 := oneT_ok e.2.2.2.2.2.2.2.2.2.2.2.2.2.2.2.2.2.2.1 rfl
    xB_15 := oneT_ok e.2.2.2.2.2.2.2.2.2.2.2.2.2.2.2.2.2.2.2.1 rfl
    xB_16 := oneT_ok e.2.2.2.2.2.2.2.2.2.2.2.2.2.2.2.2.2.2.2.2.1 rfl
    xB_17 := oneT_ok e.2.2.2.2.2.2.2.2.2.2.2.2.2.2.2.2.2.2.2.2.2.1 rfl
    xB_18 := oneT_ok e.2.2.2.2.2.2.2.2.2.2.2.2.2.2.2.2.2.2.2.2.2.2.1 rfl
    xB_19 := oneT_ok e.2.2.2.2.2.2.2.2.2.2.2.2.2.2.2.2.2.2.2.2.2.2.2.1 rfl
    xB_20 := oneT_ok e.2.2.2.2.2.2.2.2.2.2.2.2.2.2.2.2.2.2.2.2.2.2.2.2.1 rfl
    xV := oneT_ok e.2.2.2.2.2.2.2.2.2.2.2.2.2.2.2.2.2.2.2.2.2.2.2.2.2.1 rfl
    xT := anyT_ok e.2.2.2.2.2.2.2.2.2.2.2.2.2.2.2.2.2.2.2.2.2.2.2.2.2.2.1 rfl
    xr := fun ci hc => ⟨(xo ci hc).exC, (xo ci hc).tyC⟩
    xe_0 := ba e.2.2.2.2.2.2.2.2.2.2.2.2.2.2.2.2.2.2.2.2.2.2.2.2.2.2.2.1
    x_1 := xi_1 s_1.1 s_1.2 ((xf 1 (by decide)).2 "given" (by decide))
    x_2 := xi_2 s_2.1 s_2.2 ((xf 2 (by decide)).2 "given" (by decide))
    x_3 := xi_3 s_3.1 s_3.2 ((xf 3 (by decide)).2 "given" (by decide))
    x_4 := xi_4 s_4.1 s_4.2 ((xf 4 (by decide)).2 "given" (by decide))
    x_5 := xi_5 s_5.1 s_5.2 ((xf 5 (by decide)).2 "given" (by decide))
    x_6 := xi_6 s_6.1 s_6.2 ((xf 6 (by decide)).2 "given" (by decide))
    x_7 := xi_7 s_7.1 s_7.2 ((xf 7 (by decide)).2 "given" (by decide))
    x_8 := xi_8 s_8.1 s_8.2 ((xf 8 (by decide)).2 "given" (by decide))
    x_9 := xi_9 s_9.1 s_9.2 ((xf 9 (by decide)).2 "given" (by decide))
    x_10 := xi_10 s_10.1 s_10.2 ((xf 10 (by decide)).2 "given" (by decide))
    x_11 := xi_11 s_11.1 s_11.2 ((xf 11 (by decide)).2 "given" (by decide))
    x_12 := xi_12 s_12.1 s_12.2 ((xf 12 (by decide)).2 "given" (by decide))
    x_13 := xi_13 s_13.1 s_13.2 ((xf 13 (by decide)).2 "given" (by decide))
    x_14 := xi_14 s_14.1 s_14.2 ((xf 14 (by decide)).2 "row" (by decide)) ((xf 14 (by decide)).2 "word" (by decide))
    x_15 := xi_15 s_15.1 s_15.2 ((xf 15 (by decide)).2 "index" (by decide))
    x_16 := xi_16 s_16.1 s_16.2 ((xf 16 (by decide)).2 "index" (by decide))
    x_17 := xi_17 s_17.1 s_17.2 ((xf 17 (by decide)).2 "reason" (by decide))
    xe_18 := ba e.2.2.2.2.2.2.2.2.2.2.2.2.2.2.2.2.2.2.2.2.2.2.2.2.2.2.2.2.1
    xe_19 := ba e.2.2.2.2.2.2.2.2.2.2.2.2.2.2.2.2.2.2.2.2.2.2.2.2.2.2.2.2.2.1
    xe_20 := ba e.2.2.2.2.2.2.2.2.2.2.2.2.2.2.2.2.2.2.2.2.2.2.2.2.2.2.2.2.2.2.1
  }
end
end G
namespace Hd
open PySem PySem.W PySem.Calls PyProof.Rows HandSHeadRun
def names : List PySem.Str := (["__name__", "ScaleError", "InvalidText", "InvalidBook", "InvalidTree", "InvalidName", "InvalidNumber", "InvalidGiven", "InvalidCells", "InvalidSigns", "InvalidChange", "InvalidDemands", "InvalidCode", "InvalidLine", "NotADesk", "NotWellRead", "InvalidRows", "InvalidDeed", "Barred", "NothingToUndo", "NotLedOver", "TooGreat", "_law_purse", "_law_take", "_law_pick", "_law_given_ones", "_law_index_ones", "_law_kinds", "_law_kept", "_law_is_plain"] : List PySem.Str) ++ (["_law_is_caught", "_law_right"] : List PySem.Str)
abbrev qv : Program := view G.R.prog [33]
abbrev hk : Hook := ZX.hookE 4 G.fa G.fn G.ts G.ex G.eds
def ob (t : SharedT) : ZX.AlE := ZX.obsE 4 G.fa G.fn G.ts G.ex G.eds (HandSHeadRun.getT t)
theorem ob_eq (t : SharedT) : ob t = hk.obs t.abs := ZX.obsE_eq (HandSHeadRun.getT_eq t)
end Hd
end
section
set_option Elab.async false
set_option linter.all false
set_option maxRecDepth 100000
set_option maxHeartbeats 0
namespace Hd
open PySem PySem.W PySem.Calls PyProof.Rows HandSHeadRun
theorem runF (w : World) : RunEq G.R qv hk ob 400000 names (w.withFollow "special-get-raises" false) := by
  intro os; kernel_rfl
theorem runT (w : World) : RunEq G.R qv hk ob 400000 names (w.withFollow "special-get-raises" true) := by
  intro os; kernel_rfl
theorem run (w : World) : RunEq G.R qv hk ob 400000 names w := byRow2 "special-get-raises" (P := fun w => RunEq G.R qv hk ob 400000 names w) runF runT w
end Hd
end
section
set_option Elab.async false
set_option linter.all false
set_option maxRecDepth 100000
set_option maxHeartbeats 0
namespace G
open PySem PySem.Spec L2 Y He YH ZX
/-- what is left: the plain law -/
def Plain : Prop := ∀ (K : PySem.W.Frag) (ns : List Int), ns.length ≤ 63 → ∃ c, fnF N_10.length ps_10.length (b_10 (WK K) (tabs (WK K) 20)) [.scr ns] [] = .ok (.d (.bool true)) c
theorem law_fn {P : Program} {w : World} {K : PySem.W.Frag} {h : Heap} {mg : Str → Option Value} {f : Addr} (X : K.In h) (G : h.Ns mainGlobals mg) (hfa : mg ("law" : Str) = some (.ref f)) (c : SaysE fa fn ts ex eds w K) (hpf : (P.main.file : Str) = pf) (htop : (P.main.scope.names.lookup ("super" : Str)).isSome = false) :
    ∃ fd : FuncData, (∀ (s : Shared) (v : Value), BindsTo s fd ⟨[v], []⟩ [("cells", v)]) ∧ ∀ base : Heap, K.In base → base.Ns mainGlobals mg → YG.FnG P w K mg base 23 f fd ["cells"] (spY (WK K) K 1 (fnF N_10.length ps_10.length (b_10 (WK K) (tabs (WK K) 20)))) := by
  obtain ⟨fd, F⟩ := (fds c).f_10
  have T := txt (P := P) X G c hpf htop
  have e := hfa.symm.trans T.m_law
  cases e
  have b := FunD.bindsA (ps := ["cells"]) F fun _ _ _ _ _ _ us hl => match us, hl with | [_], _ => rfl
  refine ⟨fd, fun s v => b s [v] rfl, fun base _ _ => ?_⟩
  exact fn_ok F fs_10 fun cdv A outer s H E hr => ok_10 T (fds c) (lvls (P := P) (base := base) (fds c) T 20) _ cdv A outer s H E hr
end G
open PySem PySem.W PySem.Calls PyProof.Rows
theorem k01_of (hp : G.Plain) : PySem.Challenge.rw_scaletongue_k01_errors_each_of_its_own.Holds := by
  w_on; o_law
  refine HandSHeadRun.head_any (r := G.R) (q := Hd.qv) (H := Hd.hk) (ob := Hd.ob) (M := 400000) (loose := Hd.names) (d := HandSHeadRun.topDef G.R.prog 33) (kwd := []) Hd.ob_eq
    (by kernel_rfl) (fun s => by kernel_rfl) Hd.run (by kernel_rfl) (by kernel_rfl) (by kernel_rfl) (by rfl) (by first | assumption | decide +kernel) (by decide +kernel) ⟨rfl, rfl, rfl, rfl, rfl, by decide +kernel⟩ ?hw ?hc
  case hw => w_witness2
  case hc =>
    refine YG.walk_of (l := PySem.Challenge.rw_scaletongue_k01_errors_each_of_its_own) (n := 63) (k := 23) (x := "cells") rfl (by decide) (by kernel_rfl) ⟨⟨rfl, by decide, by decide⟩, rfl⟩ ?F
    intro w mg fa h Y GN hmg0
    obtain ⟨K, KX, c⟩ := Y
    have hmg : mg ("law" : PySem.Str) = some (.ref fa) := by
      have e : (HandSHeadRun.topDef G.R.prog 33).name = ("law" : PySem.Str) := by kernel_rfl
      rw [← e]
      exact hmg0
    obtain ⟨fd, hb, hF⟩ := G.law_fn (P := (PySem.Challenge.rw_scaletongue_k01_errors_each_of_its_own).prog) (w := w) KX GN hmg c (by rfl) (by decide +kernel)
    exact ⟨K, fd, _, KX, hb, fun H a ns hl _ hS => YH.start_sp hS (fun p hp => by cases hp) (hp K ns hl), hF⟩
end
section
set_option Elab.async false
set_option linter.all false
set_option maxRecDepth 100000
theorem G.plain : G.Plain := fun K ns h => G.fin_ok (W := _) (k := 17) h
theorem PySem.Challenge.cw_scaletongue_k01_errors_each_of_its_own_holds : PySem.Challenge.rw_scaletongue_k01_errors_each_of_its_own.Holds := by
  exact k01_of G.plain
end
