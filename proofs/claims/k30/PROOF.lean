import PyProof.Rows.All
import Wide.All
import OpenK.AllK
import Wide.FinOn
import HandS.ForExc
import HandS.Comp
import HandS.Iter
import HandS.Walk
import HandS.Flow
import HandS.Style
import HandS.Defaults
import HandS.IsInst
import HandS.CallLocal
import HandS.Wide
import HandS.SortInts
import HandS.TupMul
import HandS.TupAny
import HandS.Small
import HandS.Lambda
import HandS.ExcOwn
import HandS.TryOnly
import KE.KTupSum
import HandS.Text
import HandS.EndBits
import HandS.HeadEnd
import HandS.EndTab
import HandS.Head2
import HandS.HeadHook2
import HandS.Head0
import HandS.Head1
import KE.GoesEnum
import PyProof.ExcBaseAll.ValueError
import KE.KStateDown
import Lean
import PySem.Challenge.RW_pagebooks_k30_readers_fill_and_close
set_option Elab.async false
set_option linter.all false
set_option maxRecDepth 100000
set_option maxHeartbeats 2000000
/-! Mw: plain values, slots, a mirror with its own errors; the heap of the hand layer below it -/
namespace Mw
open PySem PySem.Spec PyProof.Rows L2
/-- a lambda: its def's name, its text, the cells that it holds -/
structure LamD where
  ix : Nat
  qual : Str
  params : Arguments
  body : Expr
  scope : Scope
  clo : List (Str × Addr)
/-- the function object at f, its code object at c' -/
def FnO (f c' : Addr) (q : LamD) : HO := .ext fun h => ∃ pm ctv, h.get? f = some (PySem.W.kla_obj "<lambda>" q.qual q.params q.body q.scope q.clo pm c' ctv)
/-- a value as plain data -/
inductive D where
  | non | bl (b : Bool) | int (i : Int) | str (s : Str) | tup (xs : List D) | lst (xs : List D) | ref (a : Addr) | ty (n : String) | fn (q : LamD)
mutual
inductive Dv (K : PySem.W.Frag) (H : Hp) : V → D → Prop
  | non : Dv K H .non .non
  | bl (b : Bool) : Dv K H (.bl b) (.bl b)
  | int (i : Int) : Dv K H (.int i) (.int i)
  | str (s : Str) : Dv K H (.str s) (.str s)
  | tup {a : Addr} {xs : List V} {ds : List D} : SqT K H a xs → DvAll K H xs ds → Dv K H (.ref a) (.tup ds)
  | lst {a : Addr} {xs : List V} {ds : List D} : SqL K H a xs → DvAll K H xs ds → Dv K H (.ref a) (.lst ds)
  | ref (a : Addr) : Dv K H (.ref a) (.ref a)
  | ty (n : String) : Dv K H (.ty n) (.ty n)
  | fn {a c' : Addr} {q : LamD} : H a = some (FnO a c' q) → H c' = some (LamX.CodeO c' q.qual) → Dv K H (.ref a) (.fn q)
inductive DvAll (K : PySem.W.Frag) (H : Hp) : List V → List D → Prop
  | nil : DvAll K H [] []
  | cons {v : V} {vs : List V} {d : D} {ds : List D} : Dv K H v d → DvAll K H vs ds → DvAll K H (v :: vs) (d :: ds)
end
theorem same_t {K : PySem.W.Frag} {H H' : Hp} {a : Addr} {xs : List V} (e : Same H H') (h : SqT K H a xs) : SqT K H' a xs := by
  rcases h with (h | ⟨o, h⟩) | h
  · exact .inl (.inl (e _ _ h))
  · exact .inl (.inr ⟨o, e _ _ h⟩)
  · exact .inr h
mutual
theorem Dv.mono {K : PySem.W.Frag} {H H' : Hp} (e : Same H H') : ∀ (d : D) (v : V), Dv K H v d → Dv K H' v d
  | .non, _, h => by cases h; exact .non
  | .bl _, _, h => by cases h; exact .bl _
  | .int _, _, h => by cases h; exact .int _
  | .str _, _, h => by cases h; exact .str _
  | .tup ds, _, h => by
    cases h with
    | tup hs ha => exact .tup (same_t e hs) (DvAll.mono e ds _ ha)
  | .lst ds, _, h => by
    cases h with
    | lst hs ha => exact .lst (e.seq hs) (DvAll.mono e ds _ ha)
  | .ref _, _, h => by cases h; exact .ref _
  | .ty _, _, h => by cases h; exact .ty _
  | .fn _, _, h => by
    cases h with
    | fn h1 h2 => exact .fn (e _ _ h1) (e _ _ h2)
theorem DvAll.mono {K : PySem.W.Frag} {H H' : Hp} (e : Same H H') : ∀ (ds : List D) (vs : List V), DvAll K H vs ds → DvAll K H' vs ds
  | [], _, h => by cases h; exact .nil
  | d :: ds, _, h => by
    cases h with
    | cons h1 h2 => exact .cons (Dv.mono e d _ h1) (DvAll.mono e ds _ h2)
end
theorem DvAll.len {K : PySem.W.Frag} {H : Hp} : ∀ {vs : List V} {ds : List D}, DvAll K H vs ds → vs.length = ds.length
  | [], _, h => by cases h; rfl
  | v :: vs, _, h => by
    cases h with
    | cons _ h2 => rw [List.length_cons, List.length_cons, h2.len]
theorem DvAll.get {K : PySem.W.Frag} {H : Hp} : ∀ {vs : List V} {ds : List D} {i : Nat} {d : D}, DvAll K H vs ds → ds[i]? = some d → ∃ v, vs[i]? = some v ∧ Dv K H v d
  | _, [], i, d, h, e => by simp at e
  | _, x :: ds, i, d, h, e => by
    cases h with
    | cons h1 h2 =>
      cases i with
      | zero =>
        have : x = d := by simpa using e
        subst this
        exact ⟨_, rfl, h1⟩
      | succ i =>
        obtain ⟨v, e1, h3⟩ := h2.get (i := i) (d := d) (by simpa using e)
        exact ⟨v, by simpa using e1, h3⟩
theorem DvAll.getV {K : PySem.W.Frag} {H : Hp} : ∀ {vs : List V} {ds : List D} {i : Nat} {v : V}, DvAll K H vs ds → vs[i]? = some v → ∃ d, ds[i]? = some d ∧ Dv K H v d
  | [], _, i, v, h, e => by simp at e
  | x :: vs, _, i, v, h, e => by
    cases h with
    | cons h1 h2 =>
      cases i with
      | zero =>
        have : x = v := by simpa using e
        subst this
        exact ⟨_, rfl, h1⟩
      | succ i =>
        obtain ⟨d, e1, h3⟩ := h2.getV (i := i) (v := v) (by simpa using e)
        exact ⟨d, by simpa using e1, h3⟩
theorem DvAll.append {K : PySem.W.Frag} {H : Hp} : ∀ {xs ys : List V} {ds es : List D}, DvAll K H xs ds → DvAll K H ys es → DvAll K H (xs ++ ys) (ds ++ es)
  | [], _, _, _, h, g => by cases h; exact g
  | _ :: _, _, _, _, h, g => by
    cases h with
    | cons h1 h2 => exact .cons h1 (h2.append g)
theorem DvAll.take {K : PySem.W.Frag} {H : Hp} : ∀ {xs : List V} {ds : List D} (n : Nat), DvAll K H xs ds → DvAll K H (xs.take n) (ds.take n)
  | _, _, 0, h => by simpa using DvAll.nil
  | [], _, n + 1, h => by cases h; exact .nil
  | _ :: _, _, n + 1, h => by
    cases h with
    | cons h1 h2 => exact .cons h1 (h2.take n)
theorem DvAll.drop {K : PySem.W.Frag} {H : Hp} : ∀ {xs : List V} {ds : List D} (n : Nat), DvAll K H xs ds → DvAll K H (xs.drop n) (ds.drop n)
  | _, _, 0, h => by simpa using h
  | [], _, n + 1, h => by cases h; exact .nil
  | _ :: _, _, n + 1, h => by
    cases h with
    | cons h1 h2 => simpa using h2.drop n
theorem DvAll.set {K : PySem.W.Frag} {H : Hp} {v : V} {d : D} (hv : Dv K H v d) : ∀ {xs : List V} {ds : List D} (n : Nat), DvAll K H xs ds → DvAll K H (xs.set n v) (ds.set n d)
  | [], _, n, h => by cases h; exact .nil
  | _ :: _, _, 0, h => by
    cases h with
    | cons h1 h2 => exact .cons hv h2
  | _ :: _, _, n + 1, h => by
    cases h with
    | cons h1 h2 => exact .cons h1 (DvAll.set hv n h2)
theorem DvAll.one {K : PySem.W.Frag} {H : Hp} {v : V} {d : D} (h : Dv K H v d) : DvAll K H [v] [d] := .cons h .nil
/-! ### the heap without some addresses -/
open Classical in
noncomputable def hid (O : Addr → Prop) (H : Hp) : Hp := fun a => if O a then none else H a
theorem hid_some {O : Addr → Prop} {H : Hp} {a : Addr} {o : HO} : hid O H a = some o ↔ ¬ O a ∧ H a = some o := by
  unfold hid
  by_cases h : O a
  · rw [if_pos h]; simp [h]
  · rw [if_neg h]; simp [h]
theorem hid_sub {O : Addr → Prop} {H : Hp} : Same (hid O H) H := fun a o e => (hid_some.mp e).2
theorem hid_mono {O O' : Addr → Prop} {H H' : Hp} (s : Same H H') (h : ∀ a, O' a → O a) : Same (hid O H) (hid O' H') := fun a o e =>
  hid_some.mpr ⟨fun z => (hid_some.mp e).1 (h a z), s a o (hid_some.mp e).2⟩
theorem hid_upd_in {O : Addr → Prop} {H : Hp} {l : Addr} {o : HO} (h : O l) : hid O (upd H l o) = hid O H := by
  funext a
  unfold hid
  by_cases q : O a
  · rw [if_pos q, if_pos q]
  · rw [if_neg q, if_neg q, upd_ne (fun z => q (by rw [z]; exact h))]
theorem hid_upd_out {O : Addr → Prop} {H : Hp} {p : Addr} {o : HO} (h : ¬ O p) : hid O (upd H p o) = upd (hid O H) p o := by
  funext a
  unfold hid upd
  by_cases q : a = p
  · subst q; rw [if_neg h, if_pos rfl, if_pos rfl]
  · rw [if_neg q, if_neg q]
theorem same_new {H : Hp} {p : Addr} {o : HO} (h : H p = none) : Same H (upd H p o) := fun a u e => by rw [upd_ne (ne_of_none e h)]; exact e
/-! ### slots, results -/
/-- what is changed in place -/
def nt : HO → Bool
  | .lst _ => true
  | .dK _ => true
  | .dT _ => true
  | .set _ _ => true
  | .ins _ _ _ => true
  | .tbl _ => true
  | _ => false
/-- a slot: nothing known; a value; a list that this frame alone holds (true: one handed in, to be changed) -/
inductive Sl where
  | un | val (d : D) | own (b : Bool) (ds : List D)
abbrev Gam := List Sl
/-- what an expression hands on: a value; the list in a slot, as it stands; a new list -/
inductive W where
  | cl (d : D) | bo (i : Nat) | fr (ds : List D)
/-- an error of the program's own: its class, its fields -/
structure Exn where
  name : Str
  fields : List (Str × D)
/-- how it ends: well; by an error; not told -/
inductive R (α : Type) where
  | ok (a : α) | ex (e : Exn) (Γ : Gam) | no
def R.bind {α β : Type} : R α → (α → R β) → R β
  | .ok a, k => k a
  | .ex e Γ, _ => .ex e Γ
  | .no, _ => .no
@[simp] theorem R.bind_ok {α β : Type} (a : α) (k : α → R β) : R.bind (.ok a) k = k a := (rfl)
@[simp] theorem R.bind_ex {α β : Type} (e : Exn) (Γ : Gam) (k : α → R β) : R.bind (.ex e Γ) k = .ex e Γ := (rfl)
@[simp] theorem R.bind_no {α β : Type} (k : α → R β) : R.bind (.no : R α) k = .no := (rfl)
abbrev M := Gam → R (W × Gam)
abbrev Slots := L2.St
/-- what a call of one's own starts from: the heap then, the lists that are handed in to be changed (by slot), what the callers hide -/
structure Fx where
  H0 : Hp
  I : Nat → Addr → Prop
  O0 : Addr → Prop
def Own (Γ : Gam) (σ : Slots) (a : Addr) : Prop := ∃ (i : Nat) (b : Bool) (ds : List D), Γ[i]? = some (.own b ds) ∧ σ[i]? = some (some (.ref a))
def Oc (c : Fx) (T : Addr → HO → Prop) (Γ : Gam) (σ : Slots) (a : Addr) : Prop := c.O0 a ∨ (∃ o, T a o) ∨ Own Γ σ a
/-- a list that is held apart -/
def Tl (T : Addr → HO → Prop) (l : Addr) (vs : List V) : Addr → HO → Prop := fun a o => T a o ∨ (a = l ∧ o = .lst vs)
/-- the slots as Γ tells them, the data off Hd -/
structure EnvAt (K : PySem.W.Frag) (Hd : Hp) (c : Fx) (T : Addr → HO → Prop) (Γ : Gam) (σ : Slots) (H : Hp) : Prop where
  len : Γ.length = σ.length
  val : ∀ (i : Nat) (d : D), Γ[i]? = some (.val d) → ∃ v, σ[i]? = some (some v) ∧ Dv K Hd v d
  own : ∀ (i : Nat) (b : Bool) (ds : List D), Γ[i]? = some (.own b ds) → ∃ l vs, σ[i]? = some (some (.ref l)) ∧ H l = some (.lst vs) ∧ DvAll K Hd vs ds ∧ (b = false → c.H0 l = none) ∧ (b = true → c.I i l) ∧ ¬ c.O0 l ∧ ∀ o, ¬ T l o
  inj : ∀ (i j : Nat) (b b' : Bool) (ds es : List D) (l : Addr), Γ[i]? = some (.own b ds) → Γ[j]? = some (.own b' es) → σ[i]? = some (some (.ref l)) → σ[j]? = some (some (.ref l)) → i = j
  fr : ∀ a o, (∀ i, ¬ c.I i a) → c.H0 a = some o → H a = some o
  o0 : ∀ a, c.O0 a → ∃ o, H a = some o ∧ nt o = true
  tt : ∀ a o, T a o → H a = some o ∧ nt o = true
  ii : ∀ i a, c.I i a → ∃ o, H a = some o ∧ nt o = true
abbrev EnvOk (K : PySem.W.Frag) (c : Fx) (T : Addr → HO → Prop) (Γ : Gam) (σ : Slots) (H : Hp) : Prop := EnvAt K (hid (Oc c T Γ σ) H) c T Γ σ H
section
variable {K : PySem.W.Frag} {Hd Hd' H H' : Hp} {c : Fx} {T : Addr → HO → Prop} {Γ : Gam} {σ : Slots}
theorem EnvAt.data (h : EnvAt K Hd c T Γ σ H) (s : Same Hd Hd') : EnvAt K Hd' c T Γ σ H :=
  ⟨h.len, fun i d e => let ⟨v, a, b⟩ := h.val i d e; ⟨v, a, b.mono s⟩, fun i b ds e => let ⟨l, vs, a, b, q, r⟩ := h.own i b ds e; ⟨l, vs, a, b, q.mono s, r⟩, h.inj, h.fr, h.o0, h.tt, h.ii⟩
theorem EnvAt.grow (h : EnvAt K Hd c T Γ σ H) (s : Same H H') : EnvAt K Hd c T Γ σ H' :=
  ⟨h.len, h.val, fun i b ds e => let ⟨l, vs, a, b, q, r⟩ := h.own i b ds e; ⟨l, vs, a, s _ _ b, q, r⟩, h.inj, fun a o i e => s _ _ (h.fr a o i e), fun a e => let ⟨o, q, n⟩ := h.o0 a e; ⟨o, s _ _ q, n⟩, fun a o e => let ⟨q, n⟩ := h.tt a o e; ⟨s _ _ q, n⟩,
    fun i a e => let ⟨o, q, n⟩ := h.ii i a e; ⟨o, s _ _ q, n⟩⟩
theorem EnvAt.there (h : EnvAt K Hd c T Γ σ H) : ∀ a, Oc c T Γ σ a → ∃ o, H a = some o ∧ nt o = true := fun a q => by
  rcases q with q | ⟨o, q⟩ | ⟨i, b, ds, e1, e2⟩
  · exact h.o0 a q
  · exact ⟨o, h.tt a o q⟩
  · obtain ⟨l, vs, s, b, _⟩ := h.own i b ds e1
    rw [e2] at s
    cases s
    exact ⟨_, b, rfl⟩
theorem EnvAt.new (h : EnvAt K Hd c T Γ σ H) {p : Addr} (hp : H p = none) : ¬ Oc c T Γ σ p := fun q => by
  obtain ⟨o, e, _⟩ := h.there p q
  rw [hp] at e
  cases e
/-- what is new now was not there at the entry -/
theorem EnvAt.new0 (h : EnvAt K Hd c T Γ σ H) {p : Addr} (hp : H p = none) : c.H0 p = none := by
  cases e : c.H0 p with
  | none => rfl
  | some o =>
    have z : H p = some o := h.fr p o (fun i q => by
      obtain ⟨u, e, _⟩ := h.ii i p q
      rw [hp] at e
      cases e) e
    rw [hp] at z
    cases z
theorem EnvOk.same (h : EnvOk K c T Γ σ H) (s : Same H H') : EnvOk K c T Γ σ H' := (EnvAt.data h (hid_mono s fun _ z => z)).grow s
/-- the heap grows beside a new list l that is held apart -/
theorem EnvOk.apart (h : EnvOk K c T Γ σ H) (s : Same H H') {l : Addr} {vs : List V} (hl : H l = none) (hl' : H' l = some (.lst vs)) : EnvOk K c (Tl T l vs) Γ σ H' := by
  have s1 : Same (hid (Oc c T Γ σ) H) (hid (Oc c (Tl T l vs) Γ σ) H') := fun a o e => by
    obtain ⟨n, e⟩ := hid_some.mp e
    refine hid_some.mpr ⟨fun z => ?_, s a o e⟩
    rcases z with z | ⟨u, z | ⟨z, _⟩⟩ | z
    · exact n (.inl z)
    · exact n (.inr (.inl ⟨u, z⟩))
    · rw [z, hl] at e; cases e
    · exact n (.inr (.inr z))
  have q := (EnvAt.data h s1).grow s
  refine ⟨q.len, q.val, fun i b ds e => ?_, q.inj, q.fr, q.o0, fun a u z => ?_, q.ii⟩
  · obtain ⟨l', vs', e1, e2, e3, e4, e5, e6, e7⟩ := h.own i b ds e
    refine ⟨l', vs', e1, s _ _ e2, e3.mono s1, e4, e5, e6, fun u z => ?_⟩
    rcases z with z | ⟨z, _⟩
    · exact e7 u z
    · rw [z, hl] at e2; cases e2
  · rcases z with z | ⟨z, zo⟩
    · exact q.tt a u z
    · rw [z, zo]; exact ⟨hl', rfl⟩
theorem EnvOk.unapart {l : Addr} {vs : List V} (h : EnvOk K c (Tl T l vs) Γ σ H) : EnvOk K c T Γ σ H ∧ Same (hid (Oc c (Tl T l vs) Γ σ) H) (hid (Oc c T Γ σ) H) := by
  have sub : ∀ a, Oc c T Γ σ a → Oc c (Tl T l vs) Γ σ a := fun a q => by
    rcases q with q | ⟨u, q⟩ | q
    · exact .inl q
    · exact .inr (.inl ⟨u, .inl q⟩)
    · exact .inr (.inr q)
  have s : Same (hid (Oc c (Tl T l vs) Γ σ) H) (hid (Oc c T Γ σ) H) := hid_mono (Same.refl H) sub
  have ok' := EnvAt.data h s
  exact ⟨⟨ok'.len, ok'.val, fun i b ds e => let ⟨l, vs, a, b, q, r1, r2, r3, r4⟩ := ok'.own i b ds e; ⟨l, vs, a, b, q, r1, r2, r3, fun u z => r4 u (.inl z)⟩, ok'.inj, ok'.fr, ok'.o0, fun a u q => ok'.tt a u (.inl q), ok'.ii⟩, s⟩
/-- the list of a slot is a value like others from now on -/
theorem EnvOk.freeze (h : EnvOk K c T Γ σ H) {i : Nat} {b : Bool} {ds : List D} (e : Γ[i]? = some (.own b ds)) :
    EnvOk K c T (Γ.set i (.val (.lst ds))) σ H ∧ Same (hid (Oc c T Γ σ) H) (hid (Oc c T (Γ.set i (.val (.lst ds))) σ) H) ∧ ∀ v, σ[i]? = some (some v) → Dv K (hid (Oc c T (Γ.set i (.val (.lst ds))) σ) H) v (.lst ds) := by
  have hi : i < Γ.length := (List.getElem?_eq_some_iff.mp e).1
  have at_ : ∀ (j : Nat) (b : Bool) (es : List D), (Γ.set i (.val (.lst ds)))[j]? = some (.own b es) → j ≠ i ∧ Γ[j]? = some (.own b es) := fun j b es q => by
    by_cases hj : j = i
    · subst hj
      rw [List.getElem?_set_self hi] at q
      cases q
    · rw [List.getElem?_set_ne (Ne.symm hj)] at q
      exact ⟨hj, q⟩
  have sub : ∀ a, Oc c T (Γ.set i (.val (.lst ds))) σ a → Oc c T Γ σ a := fun a q => by
    rcases q with q | q | ⟨j, b, es, q1, q2⟩
    · exact .inl q
    · exact .inr (.inl q)
    · exact .inr (.inr ⟨j, b, es, (at_ j b es q1).2, q2⟩)
  have s := hid_mono (Same.refl H) sub
  obtain ⟨l, vs, e1, e2, e3, e4, e5, e6, e7⟩ := h.own i b ds e
  have hv : Dv K (hid (Oc c T (Γ.set i (.val (.lst ds))) σ) H) (.ref l) (.lst ds) := by
    refine .lst (.of (hid_some.mpr ⟨fun z => ?_, e2⟩)) (e3.mono s)
    rcases z with z | ⟨u, z⟩ | ⟨j, b', es, q1, q2⟩
    · exact e6 z
    · exact e7 u z
    · obtain ⟨hj, q1⟩ := at_ j b' es q1
      exact hj (h.inj j i b' b es ds l q1 e q2 e1)
  have q := EnvAt.data h s
  refine ⟨⟨by rw [List.length_set]; exact q.len, fun j d e' => ?_, fun j b' es e' => q.own j b' es (at_ j b' es e').2, fun j k b1 b2 ds1 ds2 l q1 q2 => q.inj j k b1 b2 ds1 ds2 l (at_ _ _ _ q1).2 (at_ _ _ _ q2).2, q.fr, q.o0, q.tt, q.ii⟩, s, fun v hv' => ?_⟩
  · by_cases hj : j = i
    · subst hj
      rw [List.getElem?_set_self hi] at e'
      cases e'
      exact ⟨_, e1, hv⟩
    · rw [List.getElem?_set_ne (Ne.symm hj)] at e'
      exact q.val j d e'
  · rw [e1] at hv'
    cases hv'
    exact hv
/-- less is known of a slot -/
theorem EnvOk.forget (h : EnvOk K c T Γ σ H) (i : Nat) : EnvOk K c T (Γ.set i .un) σ H ∧ Same (hid (Oc c T Γ σ) H) (hid (Oc c T (Γ.set i .un) σ) H) := by
  have at_ : ∀ (j : Nat) (u : Sl), u ≠ .un → (Γ.set i .un)[j]? = some u → Γ[j]? = some u := fun j u hu q => by
    by_cases hj : j = i
    · subst hj
      by_cases hi : j < Γ.length
      · rw [List.getElem?_set_self hi] at q
        exact absurd (Option.some.inj q).symm hu
      · rw [List.getElem?_eq_none (by rw [List.length_set]; omega)] at q
        cases q
    · rw [List.getElem?_set_ne (Ne.symm hj)] at q
      exact q
  have sub : ∀ a, Oc c T (Γ.set i .un) σ a → Oc c T Γ σ a := fun a q => by
    rcases q with q | q | ⟨j, b, es, q1, q2⟩
    · exact .inl q
    · exact .inr (.inl q)
    · exact .inr (.inr ⟨j, b, es, at_ j _ (fun z => nomatch z) q1, q2⟩)
  have s := hid_mono (Same.refl H) sub
  have q := EnvAt.data h s
  exact ⟨⟨by rw [List.length_set]; exact q.len, fun j d e' => q.val j d (at_ j _ (fun z => nomatch z) e'), fun j b' es e' => q.own j b' es (at_ j _ (fun z => nomatch z) e'),
    fun j k b1 b2 ds1 ds2 l q1 q2 => q.inj j k b1 b2 ds1 ds2 l (at_ _ _ (fun z => nomatch z) q1) (at_ _ _ (fun z => nomatch z) q2), q.fr, q.o0, q.tt, q.ii⟩, s⟩
end
/-- a value in hand: v of data Hd, or the list of a slot -/
def HvOk (K : PySem.W.Frag) (Hd : Hp) (w : W) (v : V) (Γ : Gam) (σ : Slots) : Prop := match w with
  | .cl d => Dv K Hd v d
  | .bo i => σ[i]? = some (some v)
  | .fr _ => False
/-- an expression's end -/
def EvOk (K : PySem.W.Frag) (c : Fx) (T : Addr → HO → Prop) (w : W) (v : V) (Γ : Gam) (σ : Slots) (H : Hp) : Prop := match w with
  | .cl d => EnvOk K c T Γ σ H ∧ Dv K (hid (Oc c T Γ σ) H) v d
  | .bo i => EnvOk K c T Γ σ H ∧ σ[i]? = some (some v)
  | .fr ds => ∃ l vs, v = .ref l ∧ H l = some (.lst vs) ∧ c.H0 l = none ∧ ¬ Oc c T Γ σ l ∧ EnvOk K c (Tl T l vs) Γ σ H ∧ DvAll K (hid (Oc c (Tl T l vs) Γ σ) H) vs ds
/-- what is hidden behind an expression: a new list, too, till it is stored or a value like others -/
def Ox (c : Fx) (T : Addr → HO → Prop) (w : W) (v : V) (Γ : Gam) (σ : Slots) (a : Addr) : Prop := Oc c T Γ σ a ∨ (∃ ds, w = .fr ds) ∧ v = .ref a
section
variable {c : Fx} {T : Addr → HO → Prop} {w : W} {v : V} {d : D} {i : Nat} {Γ : Gam} {σ : Slots} {Hb H H' : Hp}
theorem Ox.dn (s : Same Hb (hid (Ox c T w v Γ σ) H)) : Same Hb (hid (Oc c T Γ σ) H) := s.trans (hid_mono (Same.refl H) fun a z => .inl z)
theorem Ox.cl (s : Same Hb (hid (Oc c T Γ σ) H)) : Same Hb (hid (Ox c T (.cl d) v Γ σ) H) := s.trans (hid_mono (Same.refl H) fun a z => z.elim id fun ⟨⟨_, e⟩, _⟩ => nomatch e)
theorem Ox.bo (s : Same Hb (hid (Oc c T Γ σ) H)) : Same Hb (hid (Ox c T (.bo i) v Γ σ) H) := s.trans (hid_mono (Same.refl H) fun a z => z.elim id fun ⟨⟨_, e⟩, _⟩ => nomatch e)
theorem Ox.fr {ds : List D} {l : Addr} (s : Same Hb (hid (Oc c T Γ σ) H)) (hl : H l = none) (s' : Same H H') : Same Hb (hid (Ox c T (.fr ds) (.ref l) Γ σ) H') := s.trans fun a o e => by
  obtain ⟨n, e⟩ := hid_some.mp e
  refine hid_some.mpr ⟨fun z => ?_, s' a o e⟩
  rcases z with z | ⟨_, z⟩
  · exact n z
  · cases z; rw [hl] at e; cases e
end
/-- a new list is a value like others, if wanted -/
def hold : W → W
  | .fr ds => .cl (.lst ds)
  | w => w
theorem EvOk.hold {K : PySem.W.Frag} {c : Fx} {T : Addr → HO → Prop} {w : W} {v : V} {Γ : Gam} {σ : Slots} {H : Hp} (h : EvOk K c T w v Γ σ H) : EnvOk K c T Γ σ H ∧ HvOk K (hid (Oc c T Γ σ) H) (hold w) v Γ σ := by
  cases w with
  | cl d => exact h
  | bo i => exact h
  | fr ds =>
    obtain ⟨l, vs, rfl, hl, h0, hn, ok, ha⟩ := h
    obtain ⟨ok', s⟩ := ok.unapart
    exact ⟨ok', .lst (.of (hid_some.mpr ⟨hn, hl⟩)) (ha.mono s)⟩
theorem HvOk.mono {K : PySem.W.Frag} {Hd Hd' : Hp} {w : W} {v : V} {Γ Γ' : Gam} {σ : Slots} (s : Same Hd Hd') (h : HvOk K Hd w v Γ σ) : HvOk K Hd' w v Γ' σ := by
  cases w with
  | cl d => exact Dv.mono s _ _ h
  | bo i => exact h
  | fr ds => exact h
/-- the error in the air is this one -/
def ExRel (K : PySem.W.Frag) (Hd : Hp) (ca : Str → Addr) (e : Exn) (cls : Value) (d : Option Addr) (H : Hp) : Prop :=
  cls = .ref (ca e.name) ∧ match e.fields with
  | [] => d = none
  | fs => ∃ dd vs, d = some dd ∧ H dd = some (.xd vs) ∧ vs.map (·.1) = fs.map (·.1) ∧ DvAll K Hd (vs.map (·.2)) (fs.map (·.2))
/-- what is to be shown where a mirror ends so; Hb: the data of the start; G: what is wanted of a good end -/
def Pst {α : Type} (K : PySem.W.Frag) (ca : Str → Addr) (c : Fx) (T : Addr → HO → Prop) (Hb : Hp) (Wx : WX) (r : R α) (G : α → Prop) : Prop := match r with
  | .ok a => G a
  | .ex e Γ' => ∀ cls d σ' H', EnvOk K c T Γ' σ' H' → Same Hb (hid (Oc c T Γ' σ') H') → ExRel K (hid (Oc c T Γ' σ') H') ca e cls d H' → Wx cls d σ' H'
  | .no => False
section
variable {α β : Type} {K : PySem.W.Frag} {ca : Str → Addr} {c : Fx} {T : Addr → HO → Prop} {Hb Hb' : Hp} {Wx : WX} {r : R α} {G G' : α → Prop}
theorem Pst.bind {k : α → R β} {F : β → Prop} (h : Pst K ca c T Hb Wx (r.bind k) F) : Pst K ca c T Hb Wx r (fun a => Pst K ca c T Hb Wx (k a) F) := by
  cases r with
  | ok a => exact h
  | ex e Γ => exact h
  | no => exact h
theorem Pst.imp (h : Pst K ca c T Hb Wx r G) (g : ∀ a, G a → G' a) : Pst K ca c T Hb Wx r G' := by
  cases r with
  | ok a => exact g a h
  | ex e Γ => exact h
  | no => exact h
theorem Pst.base (h : Pst K ca c T Hb Wx r G) (s : Same Hb Hb') : Pst K ca c T Hb' Wx r G := by
  cases r with
  | ok a => exact h
  | ex e Γ => exact fun cls d σ' H' a b e => h cls d σ' H' a (s.trans b) e
  | no => exact h
end
/-- a good end of an expression is enough for Q -/
abbrev QE (K : PySem.W.Frag) (c : Fx) (T : Addr → HO → Prop) (Hb : Hp) (σ : Slots) (Q : VK) (p : W × Gam) : Prop := ∀ v H', EvOk K c T p.1 v p.2 σ H' → Same Hb (hid (Ox c T p.1 v p.2 σ) H') → Q v H'
abbrev QA (K : PySem.W.Frag) (c : Fx) (T : Addr → HO → Prop) (Hb : Hp) (σ : Slots) (Q : List V → Hp → Prop) (p : List W × Gam) : Prop := ∀ vs H', EnvOk K c T p.2 σ H' → Paired (fun w v => HvOk K (hid (Oc c T p.2 σ) H') w v p.2 σ) p.1 vs → Same Hb (hid (Oc c T p.2 σ) H') → Q vs H'
abbrev QB (K : PySem.W.Frag) (c : Fx) (T : Addr → HO → Prop) (Hb : Hp) (σ : Slots) (Q : Bool → Hp → Prop) (p : Bool × Gam) : Prop := ∀ H', EnvOk K c T p.2 σ H' → Same Hb (hid (Oc c T p.2 σ) H') → Q p.1 H'
/-- an expression's reading and a mirror -/
def Ce (K : PySem.W.Frag) (ca : Str → Addr) (Wx : WX) (te : TE) (m : M) : Prop := ∀ (c : Fx) (T : Addr → HO → Prop) (Γ : Gam) (σ : Slots) (H : Hp) (Q : VK),
  EnvOk K c T Γ σ H → Pst K ca c T (hid (Oc c T Γ σ) H) Wx (m Γ) (QE K c T (hid (Oc c T Γ σ) H) σ Q) → te σ H Q
def Ca (K : PySem.W.Frag) (ca : Str → Addr) (Wx : WX) (ta : TA) (m : Gam → R (List W × Gam)) : Prop := ∀ (c : Fx) (T : Addr → HO → Prop) (Γ : Gam) (σ : Slots) (H : Hp) (Q : List V → Hp → Prop),
  EnvOk K c T Γ σ H → Pst K ca c T (hid (Oc c T Γ σ) H) Wx (m Γ) (QA K c T (hid (Oc c T Γ σ) H) σ Q) → ta σ H Q
def Cb (K : PySem.W.Frag) (ca : Str → Addr) (Wx : WX) (tt : TT) (m : Gam → R (Bool × Gam)) : Prop := ∀ (c : Fx) (T : Addr → HO → Prop) (Γ : Gam) (σ : Slots) (H : Hp) (Q : Bool → Hp → Prop),
  EnvOk K c T Γ σ H → Pst K ca c T (hid (Oc c T Γ σ) H) Wx (m Γ) (QB K c T (hid (Oc c T Γ σ) H) σ Q) → tt σ H Q
/-- an expression and its mirror; arguments; a test; a test within and, or -/
def Sx (X : Cx) (ca : Str → Addr) (Wx : WX) (e : Expr) (m : M) : Prop := ∃ te, PE X e te ∧ Ce X.K ca Wx te m
def Sa (X : Cx) (ca : Str → Addr) (Wx : WX) (es : List Expr) (m : Gam → R (List W × Gam)) : Prop := ∃ ta, PA X es ta ∧ Ca X.K ca Wx ta m
def Sb (X : Cx) (ca : Str → Addr) (Wx : WX) (e : Expr) (m : Gam → R (Bool × Gam)) : Prop := ∃ tt, PT X e tt ∧ Cb X.K ca Wx tt m
def Sw (X : Cx) (ca : Str → Addr) (Wx : WX) (e : Expr) (m : Gam → R (Bool × Gam)) : Prop := ∃ tt, PW X e tt ∧ Cb X.K ca Wx tt m
end Mw
set_option Elab.async false
set_option linter.all false
set_option maxRecDepth 100000
set_option maxHeartbeats 2000000
/-! Mw: views, the shapes of operators, names, constants, tests, displays -/
namespace Mw
open PySem PySem.Spec PyProof.Rows L2
/-- the data that a value in hand stands for -/
def vw (Γ : Gam) : W → Option D
  | .cl d => some d
  | .fr ds => some (.lst ds)
  | .bo i => match Γ[i]? with
    | some (.own _ ds) => some (.lst ds)
    | _ => none
theorem vw_hold (Γ : Gam) (w : W) : vw Γ (hold w) = vw Γ w := by cases w <;> rfl
/-- v stands for d; of a list the list itself off H, all else off Hd -/
def Vw (K : PySem.W.Frag) (Hd H : Hp) (v : V) (d : D) : Prop := match d with
  | .lst ds => ∃ a vs, v = .ref a ∧ SqL K H a vs ∧ DvAll K Hd vs ds
  | d => Dv K Hd v d
theorem Vw.of {K : PySem.W.Frag} {Hd H : Hp} {v : V} {d : D} (s : Same Hd H) (h : Dv K Hd v d) : Vw K Hd H v d := by
  cases d with
  | lst ds =>
    cases h with
    | lst hs ha => exact ⟨_, _, rfl, s.seq hs, ha⟩
  | non => exact h
  | bl b => exact h
  | int i => exact h
  | str x => exact h
  | tup xs => exact h
  | ref a => exact h
  | ty n => exact h
  | fn q => exact h
theorem Vw.full {K : PySem.W.Frag} {Hd H : Hp} {v : V} {d : D} (s : Same Hd H) (h : Vw K Hd H v d) : Dv K H v d := by
  cases d with
  | lst ds =>
    obtain ⟨a, vs, rfl, h1, h2⟩ := h
    exact .lst h1 (h2.mono s)
  | non => exact Dv.mono s _ _ h
  | bl b => exact Dv.mono s _ _ h
  | int i => exact Dv.mono s _ _ h
  | str x => exact Dv.mono s _ _ h
  | tup xs => exact Dv.mono s _ _ h
  | ref a => exact Dv.mono s _ _ h
  | ty n => exact Dv.mono s _ _ h
  | fn q => exact Dv.mono s _ _ h
theorem vw_ok {K : PySem.W.Frag} {c : Fx} {T : Addr → HO → Prop} {Γ : Gam} {σ : Slots} {H : Hp} {w : W} {v : V} {d : D} (ok : EnvOk K c T Γ σ H) (h : HvOk K (hid (Oc c T Γ σ) H) w v Γ σ) (e : vw Γ w = some d) :
    Vw K (hid (Oc c T Γ σ) H) H v d := by
  cases w with
  | cl d' =>
    cases e
    exact Vw.of hid_sub h
  | fr ds => exact h.elim
  | bo i =>
    have h' : σ[i]? = some (some v) := h
    simp only [vw] at e
    cases q : Γ[i]? with
    | none => rw [q] at e; cases e
    | some u =>
      rw [q] at e
      cases u with
      | un => cases e
      | val d' => cases e
      | own b ds =>
        cases e
        obtain ⟨l, vs, e1, e2, e3, _⟩ := ok.own i b ds q
        rw [h'] at e1
        cases e1
        exact ⟨l, vs, rfl, .of e2, e3⟩
/-- an operation's result: nothing new, or one new object -/
def Res (K : PySem.W.Frag) (Hd H : Hp) (w : W) (v : V) (H' : Hp) : Prop := match w with
  | .cl d => (H' = H ∧ Dv K Hd v d) ∨ ∃ p o, H p = none ∧ H' = upd H p o ∧ Dv K (upd Hd p o) v d
  | .fr ds => ∃ p vs, v = .ref p ∧ H p = none ∧ H' = upd H p (.lst vs) ∧ DvAll K Hd vs ds
  | .bo _ => False
theorem res_ok {K : PySem.W.Frag} {c : Fx} {T : Addr → HO → Prop} {Γ : Gam} {σ : Slots} {H H' : Hp} {w : W} {v : V} (ok : EnvOk K c T Γ σ H) (h : Res K (hid (Oc c T Γ σ) H) H w v H') :
    EvOk K c T w v Γ σ H' ∧ Same (hid (Oc c T Γ σ) H) (hid (Ox c T w v Γ σ) H') := by
  cases w with
  | cl d =>
    rcases h with ⟨rfl, h⟩ | ⟨p, o, hp, rfl, h⟩
    · exact ⟨⟨ok, h⟩, Ox.cl (Same.refl _)⟩
    · have s := same_new (o := o) hp
      refine ⟨⟨ok.same s, ?_⟩, Ox.cl (hid_mono s fun _ z => z)⟩
      rw [hid_upd_out (ok.new hp)]
      exact h
  | fr ds =>
    obtain ⟨p, vs, rfl, hp, rfl, h⟩ := h
    have s := same_new (o := HO.lst vs) hp
    refine ⟨⟨p, vs, rfl, upd_same, ok.new0 hp, ok.new hp, ok.apart s hp upd_same, ?_⟩, Ox.fr (Same.refl _) hp s⟩
    refine h.mono fun a o e => ?_
    obtain ⟨n, e⟩ := hid_some.mp e
    refine hid_some.mpr ⟨fun z => ?_, s a o e⟩
    rcases z with z | ⟨u, z | ⟨z, _⟩⟩ | z
    · exact n (.inl z)
    · exact n (.inr (.inl ⟨u, z⟩))
    · rw [z, hp] at e; cases e
    · exact n (.inr (.inr z))
  | bo i => exact h.elim
def fin (o : Option W) (Γ : Gam) : R (W × Gam) := match o with
  | some w => .ok (w, Γ)
  | none => .no
@[simp] theorem fin_some (w : W) (Γ : Gam) : fin (some w) Γ = .ok (w, Γ) := (rfl)
@[simp] theorem fin_none (Γ : Gam) : fin none Γ = .no := (rfl)
def So1 (K : PySem.W.Frag) (r : V → Hp → VK → Prop) (sem : D → Option W) : Prop := ∀ (Hd H : Hp) (x : V) (d : D) (w : W) (Q : VK), Same Hd H → Vw K Hd H x d → sem d = some w → (∀ v H', Res K Hd H w v H' → Q v H') → r x H Q
def So2 (K : PySem.W.Frag) (r : R2) (sem : D → D → Option W) : Prop := ∀ (Hd H : Hp) (x y : V) (d e : D) (w : W) (Q : VK), Same Hd H → Vw K Hd H x d → Vw K Hd H y e → sem d e = some w → (∀ v H', Res K Hd H w v H' → Q v H') → r x y H Q
def SoN (K : PySem.W.Frag) (r : List V → Hp → VK → Prop) (sem : List D → Option W) : Prop := ∀ (Hd H : Hp) (xs : List V) (ds : List D) (w : W) (Q : VK), Same Hd H → Paired (Vw K Hd H) xs ds → sem ds = some w → (∀ v H', Res K Hd H w v H' → Q v H') → r xs H Q
def vws (Γ : Gam) : List W → Option (List D)
  | [] => some []
  | w :: ws => (vw Γ w).bind fun d => (vws Γ ws).bind fun ds => some (d :: ds)
def un1 (sem : D → Option W) (ma : M) : M := fun Γ => (ma Γ).bind fun p => fin ((vw p.2 p.1).bind sem) p.2
def bin2 (sem : D → D → Option W) (ma mb : M) : M := fun Γ => (ma Γ).bind fun p => (mb p.2).bind fun q => fin ((vw q.2 p.1).bind fun a => (vw q.2 q.1).bind fun b => sem a b) q.2
def callN (sem : List D → Option W) (ms : Gam → R (List W × Gam)) : M := fun Γ => (ms Γ).bind fun p => fin ((vws p.2 p.1).bind sem) p.2
section
variable {K : PySem.W.Frag} {ca : Str → Addr} {Wx : WX} {ta tb : TE} {ma mb : M}
theorem fin_ok {c : Fx} {T : Addr → HO → Prop} {Γ : Gam} {σ : Slots} {H Hb : Hp} {o : Option W} {Q : VK} (ok : EnvOk K c T Γ σ H) (s : Same Hb (hid (Oc c T Γ σ) H)) (p : Pst K ca c T Hb Wx (fin o Γ) (QE K c T Hb σ Q)) :
    ∃ w, o = some w ∧ ∀ v H', Res K (hid (Oc c T Γ σ) H) H w v H' → Q v H' := by
  cases o with
  | none => exact False.elim p
  | some w =>
    refine ⟨w, rfl, fun v H' r => ?_⟩
    obtain ⟨e, s'⟩ := res_ok ok r
    exact p v H' e (s.trans s')
theorem ce_un {r : V → Hp → VK → Prop} {sem : D → Option W} (hr : So1 K r sem) (ha : Ce K ca Wx ta ma) : Ce K ca Wx (tUn r ta) (un1 sem ma) := by
  intro c T Γ σ H Q ok p
  refine ha c T Γ σ H _ ok ((Pst.bind p).imp fun q p v H1 ev s1 => ?_)
  replace s1 := Ox.dn s1
  obtain ⟨ok1, hv⟩ := ev.hold
  obtain ⟨w, e, k⟩ := fin_ok ok1 s1 p
  cases e1 : vw q.2 q.1 with
  | none => rw [e1] at e; cases e
  | some d =>
    rw [e1] at e
    exact hr _ _ _ _ _ _ hid_sub (vw_ok ok1 hv ((vw_hold _ _).trans e1)) e k
theorem ce_op {r : R2} {sem : D → D → Option W} (hr : So2 K r sem) (ha : Ce K ca Wx ta ma) (hb : Ce K ca Wx tb mb) : Ce K ca Wx (tOp r ta tb) (bin2 sem ma mb) := by
  intro c T Γ σ H Q ok p
  refine ha c T Γ σ H _ ok ((Pst.bind p).imp fun q p v H1 ev s1 => ?_)
  replace s1 := Ox.dn s1
  obtain ⟨ok1, hv⟩ := ev.hold
  refine hb c T q.2 σ H1 _ ok1 (((Pst.bind p).base s1).imp fun q2 p y H2 ev2 s2 => ?_)
  replace s2 := Ox.dn s2
  obtain ⟨ok2, hv2⟩ := ev2.hold
  obtain ⟨w, e, k⟩ := fin_ok ok2 (s1.trans s2) p
  cases e1 : vw q2.2 q.1 with
  | none => rw [e1] at e; cases e
  | some d =>
    cases e2 : vw q2.2 q2.1 with
    | none => rw [e1, e2] at e; cases e
    | some d2 =>
      rw [e1, e2] at e
      exact hr _ _ _ _ _ _ _ _ hid_sub (vw_ok ok2 (hv.mono s2) ((vw_hold _ _).trans e1)) (vw_ok ok2 hv2 ((vw_hold _ _).trans e2)) e k
theorem vws_ok {c : Fx} {T : Addr → HO → Prop} {Γ : Gam} {σ : Slots} {H : Hp} (ok : EnvOk K c T Γ σ H) : ∀ {ws : List W} {vs : List V} {ds : List D}, Paired (fun w v => HvOk K (hid (Oc c T Γ σ) H) w v Γ σ) ws vs → vws Γ ws = some ds →
    Paired (Vw K (hid (Oc c T Γ σ) H) H) vs ds
  | _, _, ds, .nil, e => by
    have e' : some [] = some ds := e
    cases e'
    exact .nil
  | w :: ws, _, ds, .cons h t, e => by
    unfold vws at e
    cases e1 : vw Γ w with
    | none => rw [e1] at e; cases e
    | some d =>
      cases e2 : vws Γ ws with
      | none => rw [e1, e2] at e; cases e
      | some ds' =>
        rw [e1, e2] at e
        cases e
        exact .cons (vw_ok ok h e1) (vws_ok ok t e2)
theorem ce_call {r : List V → Hp → VK → Prop} {sem : List D → Option W} {t : TA} {ms : Gam → R (List W × Gam)} (hr : SoN K r sem) (ha : Ca K ca Wx t ms) : Ce K ca Wx (tCB r t) (callN sem ms) := by
  intro c T Γ σ H Q ok p
  refine ha c T Γ σ H _ ok ((Pst.bind p).imp fun q p vs H1 ok1 hv s1 => ?_)
  obtain ⟨w, e, k⟩ := fin_ok ok1 s1 p
  cases e1 : vws q.2 q.1 with
  | none => rw [e1] at e; cases e
  | some ds =>
    rw [e1] at e
    exact hr _ _ _ _ _ _ hid_sub (vws_ok ok1 hv e1) e k
end
/-! ### names, constants -/
def vM (i : Nat) : M := fun Γ => match Γ[i]? with
  | some (.val d) => .ok (.cl d, Γ)
  | some (.own _ _) => .ok (.bo i, Γ)
  | _ => .no
def cM (d : D) : M := fun Γ => .ok (.cl d, Γ)
section
variable {X : Cx} {ca : Str → Addr} {Wx : WX} {pos : Pos}
theorem ce_var {K : PySem.W.Frag} {i : Nat} : Ce K ca Wx (tVar i) (vM i) := by
  intro c T Γ σ H Q ok p
  unfold vM at p
  cases q : Γ[i]? with
  | none => rw [q] at p; exact p.elim
  | some u =>
    rw [q] at p
    cases u with
    | un => exact p.elim
    | val d =>
      obtain ⟨v, e, h⟩ := ok.val i d q
      exact ⟨v, e, p v H ⟨ok, h⟩ (Ox.cl (Same.refl _))⟩
    | own b ds =>
      obtain ⟨l, vs, e, _⟩ := ok.own i b ds q
      exact ⟨_, e, p _ H ⟨ok, e⟩ (Ox.bo (Same.refl _))⟩
theorem ce_c {K : PySem.W.Frag} {v : V} {d : D} (h : ∀ H, Dv K H v d) : Ce K ca Wx (tC v) (cM d) := fun c T Γ σ H Q ok p => p v H ⟨ok, h _⟩ (Ox.cl (Same.refl _))
theorem x_var (i : Nat) {x : Str} (hN : X.N[i]? = some x) (hv : Vis X.env.scope x) (hd : (x == ("__debug__" : Str)) = false := by decide) (hcd : (x == ("__classdict__" : Str)) = false := by decide) : Sx X ca Wx (.Name x pos) (vM i) :=
  ⟨_, pe_var hN hv hd hcd, ce_var⟩
theorem x_int {i : Int} {j : Nat} : Sx X ca Wx (.Constant (.int i) j pos) (cM (.int i)) := ⟨_, pe_int, ce_c fun _ => .int i⟩
theorem x_bl {b : Bool} {j : Nat} : Sx X ca Wx (.Constant (.bool b) j pos) (cM (.bl b)) := ⟨_, pe_bl, ce_c fun _ => .bl b⟩
theorem x_non {j : Nat} : Sx X ca Wx (.Constant .none j pos) (cM .non) := ⟨_, pe_non, ce_c fun _ => .non⟩
theorem x_str {x : Str} {j : Nat} : Sx X ca Wx (.Constant (.str x) j pos) (cM (.str x)) := ⟨_, pe_str, ce_c fun _ => .str x⟩
/-- a constant of the module, a def or a class of it as a value -/
theorem x_glob {x : Str} {v : V} {u : Value} {d : D} (hg : Gl X x) (hm : X.mg x = some u) (r : RelV v u) (h : ∀ H, Dv X.K H v d) (hd : (x == ("__debug__" : Str)) = false := by decide) : Sx X ca Wx (.Name x pos) (cM d) :=
  ⟨_, pe_glob hg hm r hd, ce_c h⟩
/-- a built-in class as a value -/
theorem x_ty {x : Str} {n : String} (hg : Gl X x) (hm : X.mg x = none) (hv : bootBuiltins x = some (.type n)) (hn : x ≠ "__name__" := by decide) (hd : (x == ("__debug__" : Str)) = false := by decide) : Sx X ca Wx (.Name x pos) (cM (.ty n)) :=
  ⟨_, pe_bltn (v := .ty n) hg hm hv rfl hn hd, ce_c fun _ => .ty n⟩
/-! ### operators -/
variable {a b e : Expr} {ma mb mc : M}
theorem x_bin {op : Operator} {r : R2} {sem : D → D → Option W} (ho : OpR X (binaryOp op) r) (hr : So2 X.K r sem) (ha : Sx X ca Wx a ma) (hb : Sx X ca Wx b mb) : Sx X ca Wx (.BinOp a op b pos) (bin2 sem ma mb) := by
  obtain ⟨ta, pa, ha⟩ := ha
  obtain ⟨tb, pb, hb⟩ := hb
  exact ⟨_, pe_op ho pa pb, ce_op hr ha hb⟩
theorem x_cmp {op : CmpOp} {r : R2} {sem : D → D → Option W} (ho : OpR X (compareOp op) r) (hr : So2 X.K r sem) (ha : Sx X ca Wx a ma) (hb : Sx X ca Wx b mb) (hm : behindInMarks op b = false) : Sx X ca Wx (.Compare a [op] [b] pos) (bin2 sem ma mb) := by
  obtain ⟨ta, pa, ha⟩ := ha
  obtain ⟨tb, pb, hb⟩ := hb
  exact ⟨_, pe_cmpR ho pa pb hm, ce_op hr ha hb⟩
theorem x_ix {r : R2} {sem : D → D → Option W} (ho : IxR X r) (hr : So2 X.K r sem) (ha : Sx X ca Wx a ma) (hb : Sx X ca Wx b mb) (hs : PlainIx b) : Sx X ca Wx (.Subscript a b pos) (bin2 sem ma mb) := by
  obtain ⟨ta, pa, ha⟩ := ha
  obtain ⟨tb, pb, hb⟩ := hb
  exact ⟨_, pe_ix ho pa pb hs, ce_op hr ha hb⟩
theorem x_un {op : UnaryOp} {r : V → Hp → VK → Prop} {sem : D → Option W} (ho : UnR X (unaryOp op) r) (hr : So1 X.K r sem) (ha : Sx X ca Wx a ma) : Sx X ca Wx (.UnaryOp op a pos) (un1 sem ma) := by
  obtain ⟨ta, pa, ha⟩ := ha
  exact ⟨_, pe_un ho pa, ce_un hr ha⟩
/-! ### arguments -/
def aNil : Gam → R (List W × Gam) := fun Γ => .ok ([], Γ)
def aCons (m : M) (ms : Gam → R (List W × Gam)) : Gam → R (List W × Gam) := fun Γ => (m Γ).bind fun p => (ms p.2).bind fun q => .ok (hold p.1 :: q.1, q.2)
theorem a_nil : Sa X ca Wx [] aNil := ⟨_, pa_nil, fun c T Γ σ H Q ok p => p [] H ok .nil (Same.refl _)⟩
theorem paired_mono {K : PySem.W.Frag} {Hd Hd' : Hp} {Γ Γ' : Gam} {σ : Slots} (s : Same Hd Hd') {ws : List W} {vs : List V} (h : Paired (fun w v => HvOk K Hd w v Γ σ) ws vs) : Paired (fun w v => HvOk K Hd' w v Γ' σ) ws vs :=
  Paired.mapP h fun w v q => q.mono s
theorem a_cons {es : List Expr} {ms : Gam → R (List W × Gam)} (ha : Sx X ca Wx e ma) (hr : Sa X ca Wx es ms) (hs : starEach (e :: es) X.env = (false, eval e X.env) :: starEach es X.env := by rfl) : Sa X ca Wx (e :: es) (aCons ma ms) := by
  obtain ⟨ta, pa, ha⟩ := ha
  obtain ⟨tr, pr, hr⟩ := hr
  refine ⟨_, pa_cons pa pr hs, fun c T Γ σ H Q ok p => ?_⟩
  refine ha c T Γ σ H _ ok ((Pst.bind p).imp fun q p v H1 ev s1 => ?_)
  replace s1 := Ox.dn s1
  obtain ⟨ok1, hv⟩ := ev.hold
  refine hr c T q.2 σ H1 _ ok1 (((Pst.bind p).base s1).imp fun q2 p vs H2 ok2 hvs s2 => ?_)
  exact p (v :: vs) H2 ok2 (.cons (hv.mono s2) hvs) (s1.trans s2)
/-! ### calls of built-in functions and classes -/
theorem x_callB {x : Str} {id : String} {p : Pos} {es : List Expr} {r : List V → Hp → VK → Prop} {sem : List D → Option W} {ms : Gam → R (List W × Gam)} (hc : CallR X (.builtin id) r) (hr : SoN X.K r sem) (hg : Gl X x) (hm : X.mg x = none) (hv : bootBuiltins x = some (.builtin id)) (ha : Sa X ca Wx (e :: es) ms)
    (hn : x ≠ "__name__" := by decide) (hdb : (x == ("__debug__" : Str)) = false := by decide) (he : starEach (e :: es) X.env = (false, eval e X.env) :: starEach es X.env := by rfl) (hpl : (backTo pos (starEach es X.env)).any (·.1) = false := by rfl) :
    Sx X ca Wx (.Call (.Name x p) (e :: es) [] pos) (callN sem ms) := by
  obtain ⟨ta, pa, ha⟩ := ha
  exact ⟨_, pe_callB hc hg hm hv pa hn hdb he hpl, ce_call hr ha⟩
theorem x_callTy {x : Str} {id : String} {p : Pos} {es : List Expr} {r : List V → Hp → VK → Prop} {sem : List D → Option W} {ms : Gam → R (List W × Gam)} (hc : CallR X (.type id) r) (hr : SoN X.K r sem) (hg : Gl X x) (hm : X.mg x = none) (hv : bootBuiltins x = some (.type id)) (ha : Sa X ca Wx (e :: es) ms)
    (hn : x ≠ "__name__" := by decide) (hdb : (x == ("__debug__" : Str)) = false := by decide) (he : starEach (e :: es) X.env = (false, eval e X.env) :: starEach es X.env := by rfl) (hpl : (backTo pos (starEach es X.env)).any (·.1) = false := by rfl) :
    Sx X ca Wx (.Call (.Name x p) (e :: es) [] pos) (callN sem ms) := by
  obtain ⟨ta, pa, ha⟩ := ha
  exact ⟨_, pe_callTy hc hg hm hv pa hn hdb he hpl, ce_call hr ha⟩
/-! ### truth, tests -/
def tru : D → Option Bool
  | .non => some false
  | .bl b => some b
  | .int i => some (i != 0)
  | .str x => if x.length ≤ sizeLine then some ((x.length : Int) != 0) else none
  | .tup xs => some (!xs.isEmpty)
  | .lst xs => some (!xs.isEmpty)
  | _ => none
theorem dv_empty {K : PySem.W.Frag} {H : Hp} {vs : List V} {ds : List D} (h : DvAll K H vs ds) : (!ds.isEmpty) = (!vs.isEmpty) := by cases h <;> rfl
theorem tru_of {K : PySem.W.Frag} {Hd H : Hp} {v : V} {d : D} {b : Bool} (s : Same Hd H) (h : Vw K Hd H v d) (e : tru d = some b) : TruV K v H b := by
  cases d with
  | non => cases e; cases h; rfl
  | bl b => cases e; cases h; rfl
  | int i => cases e; cases h; rfl
  | str x =>
    cases h
    simp only [tru] at e
    by_cases hx : x.length ≤ sizeLine
    · rw [if_pos hx] at e; cases e; exact ⟨hx, rfl⟩
    · rw [if_neg hx] at e; cases e
  | tup xs =>
    cases e
    cases h with
    | tup hs ha => exact .inr (.inl ⟨_, same_t s hs, dv_empty ha⟩)
  | lst xs =>
    cases e
    obtain ⟨a, vs, rfl, hs, ha⟩ := h
    exact .inl ⟨_, hs, dv_empty ha⟩
  | ref a => cases e
  | ty n => cases e
  | fn q => cases e
/-- a value's truth; a truth itself; both ways of and, or; not -/
def tstM (ma : M) : Gam → R (Bool × Gam) := fun Γ => (ma Γ).bind fun p => match (vw p.2 p.1).bind tru with
  | some b => .ok (b, p.2)
  | none => .no
def tstB (ma : M) : Gam → R (Bool × Gam) := fun Γ => (ma Γ).bind fun p => match p.1 with
  | .cl (.bl b) => .ok (b, p.2)
  | _ => .no
def andT (a b : Gam → R (Bool × Gam)) : Gam → R (Bool × Gam) := fun Γ => (a Γ).bind fun p => match p.1 with
  | true => b p.2
  | false => .ok (false, p.2)
def orT (a b : Gam → R (Bool × Gam)) : Gam → R (Bool × Gam) := fun Γ => (a Γ).bind fun p => match p.1 with
  | true => .ok (true, p.2)
  | false => b p.2
def notT (a : Gam → R (Bool × Gam)) : Gam → R (Bool × Gam) := fun Γ => (a Γ).bind fun p => .ok (!p.1, p.2)
variable {ta tb : Gam → R (Bool × Gam)}
theorem t_val (ha : Sx X ca Wx a ma) (he : ∀ whole, isTrue a X.env whole = (do let v ← whole; standAt a.pos; holding [v] (truthy v)) := by intro _; rfl) : Sb X ca Wx a (tstM ma) := by
  obtain ⟨t, pa, ha⟩ := ha
  refine ⟨_, pt_truth pa he, fun c T Γ σ H Q ok p => ?_⟩
  refine ha c T Γ σ H _ ok ((Pst.bind p).imp fun q p v H1 ev s1 => ?_)
  replace s1 := Ox.dn s1
  obtain ⟨ok1, hv⟩ := ev.hold
  cases e1 : vw q.2 q.1 with
  | none => rw [e1] at p; exact p.elim
  | some d =>
    rw [e1] at p
    have p' : Pst _ _ _ _ _ _ (match tru d with | some b => R.ok (b, q.2) | none => .no) _ := p
    cases e2 : tru d with
    | none => rw [e2] at p'; exact p'.elim
    | some k =>
      rw [e2] at p'
      exact ⟨k, tru_of hid_sub (vw_ok ok1 hv ((vw_hold _ _).trans e1)) e2, p' H1 ok1 s1⟩
theorem cb_tst {K : PySem.W.Frag} {t : TE} (ha : Ce K ca Wx t ma) : Cb K ca Wx (tTest t) (tstB ma) := by
  intro c T Γ σ H Q ok p
  refine ha c T Γ σ H _ ok ((Pst.bind p).imp fun q p v H1 ev s1 => ?_)
  replace s1 := Ox.dn s1
  obtain ⟨w, Γ1⟩ := q
  cases w with
  | cl d =>
    cases d with
    | bl k =>
      obtain ⟨ok1, hv⟩ := ev
      cases hv
      exact ⟨k, rfl, p H1 ok1 s1⟩
    | _ => exact p.elim
  | _ => exact p.elim
theorem t_cmp {op : CmpOp} {r : R2} {sem : D → D → Option W} (ho : OpR X (compareOp op) r) (hr : So2 X.K r sem) (ha : Sx X ca Wx a ma) (hb : Sx X ca Wx b mb) (hm : behindInMarks op b = false) : Sb X ca Wx (.Compare a [op] [b] pos) (tstB (bin2 sem ma mb)) := by
  obtain ⟨ta, pa, ha⟩ := ha
  obtain ⟨tb, pb, hb⟩ := hb
  exact ⟨_, pt_cmpR ho pa pb hm, cb_tst (ce_op hr ha hb)⟩
theorem cb_and {K : PySem.W.Frag} {t u : TT} (ha : Cb K ca Wx t ta) (hb : Cb K ca Wx u tb) : Cb K ca Wx (tAnd t u) (andT ta tb) := by
  intro c T Γ σ H Q ok p
  refine ha c T Γ σ H _ ok ((Pst.bind p).imp fun q p H1 ok1 s1 => ?_)
  obtain ⟨k, Γ1⟩ := q
  cases k with
  | true =>
    show if true = true then u σ H1 Q else Q false H1
    rw [if_pos rfl]
    exact hb c T Γ1 σ H1 Q ok1 ((Pst.base p s1).imp fun q2 p H2 ok2 s2 => p H2 ok2 (s1.trans s2))
  | false =>
    show if false = true then u σ H1 Q else Q false H1
    rw [if_neg Bool.false_ne_true]
    exact p H1 ok1 s1
theorem cb_or {K : PySem.W.Frag} {t u : TT} (ha : Cb K ca Wx t ta) (hb : Cb K ca Wx u tb) : Cb K ca Wx (tOr t u) (orT ta tb) := by
  intro c T Γ σ H Q ok p
  refine ha c T Γ σ H _ ok ((Pst.bind p).imp fun q p H1 ok1 s1 => ?_)
  obtain ⟨k, Γ1⟩ := q
  cases k with
  | true =>
    show if true = true then Q true H1 else u σ H1 Q
    rw [if_pos rfl]
    exact p H1 ok1 s1
  | false =>
    show if false = true then Q true H1 else u σ H1 Q
    rw [if_neg Bool.false_ne_true]
    exact hb c T Γ1 σ H1 Q ok1 ((Pst.base p s1).imp fun q2 p H2 ok2 s2 => p H2 ok2 (s1.trans s2))
theorem w_and1 (ha : Sb X ca Wx a ta) : Sw X ca Wx (.BoolOp .And [a] pos) ta := let ⟨_, pa, ha⟩ := ha; ⟨_, pw_and1 pa, ha⟩
theorem w_or1 (ha : Sb X ca Wx a ta) : Sw X ca Wx (.BoolOp .Or [a] pos) ta := let ⟨_, pa, ha⟩ := ha; ⟨_, pw_or1 pa, ha⟩
theorem w_and {rest : List Expr} (ha : Sb X ca Wx a ta) (hb : Sw X ca Wx (.BoolOp .And (b :: rest) pos) tb) : Sw X ca Wx (.BoolOp .And (a :: b :: rest) pos) (andT ta tb) := by
  obtain ⟨_, pa, ha⟩ := ha
  obtain ⟨_, pb, hb⟩ := hb
  exact ⟨_, pw_and pa pb, cb_and ha hb⟩
theorem w_or {rest : List Expr} (ha : Sb X ca Wx a ta) (hb : Sw X ca Wx (.BoolOp .Or (b :: rest) pos) tb) : Sw X ca Wx (.BoolOp .Or (a :: b :: rest) pos) (orT ta tb) := by
  obtain ⟨_, pa, ha⟩ := ha
  obtain ⟨_, pb, hb⟩ := hb
  exact ⟨_, pw_or pa pb, cb_or ha hb⟩
theorem t_w (h : Sw X ca Wx a ta) : Sb X ca Wx a ta := let ⟨_, pa, ha⟩ := h; ⟨_, pa.pt, ha⟩
theorem t_not (ha : Sb X ca Wx a ta) : Sb X ca Wx (.UnaryOp .Not a pos) (notT ta) := by
  obtain ⟨t, pa, ha⟩ := ha
  refine ⟨_, pt_not pa, fun c T Γ σ H Q ok p => ?_⟩
  exact ha c T Γ σ H _ ok ((Pst.bind p).imp fun q p H1 ok1 s1 => p H1 ok1 s1)
/-- a if t else b -/
def ifM (t : Gam → R (Bool × Gam)) (ma mb : M) : M := fun Γ => (t Γ).bind fun p => match p.1 with
  | true => ma p.2
  | false => mb p.2
theorem x_if {c : Expr} (hc : Sb X ca Wx c ta) (ha : Sx X ca Wx a ma) (hb : Sx X ca Wx b mb) : Sx X ca Wx (.IfExp c a b pos) (ifM ta ma mb) := by
  obtain ⟨tc, pc, hc⟩ := hc
  obtain ⟨t1, pa, ha⟩ := ha
  obtain ⟨t2, pb, hb⟩ := hb
  refine ⟨_, pe_ifExp pc pa pb, fun c T Γ σ H Q ok p => ?_⟩
  refine hc c T Γ σ H _ ok ((Pst.bind p).imp fun q p H1 ok1 s1 => ?_)
  obtain ⟨k, Γ1⟩ := q
  cases k with
  | true =>
    show if true = true then t1 σ H1 Q else t2 σ H1 Q
    rw [if_pos rfl]
    exact ha c T Γ1 σ H1 Q ok1 ((Pst.base p s1).imp fun q2 p v H2 ev s2 => p v H2 ev (s1.trans s2))
  | false =>
    show if false = true then t1 σ H1 Q else t2 σ H1 Q
    rw [if_neg Bool.false_ne_true]
    exact hb c T Γ1 σ H1 Q ok1 ((Pst.base p s1).imp fun q2 p v H2 ev s2 => p v H2 ev (s1.trans s2))
/-- a and b, a or b, not a as values -/
def andM (ma mb : M) : M := fun Γ => (ma Γ).bind fun p => match p.1 with
  | .cl d => match tru d with
    | some true => mb p.2
    | some false => .ok (.cl d, p.2)
    | none => .no
  | _ => .no
def orM (ma mb : M) : M := fun Γ => (ma Γ).bind fun p => match p.1 with
  | .cl d => match tru d with
    | some true => .ok (.cl d, p.2)
    | some false => mb p.2
    | none => .no
  | _ => .no
def notM (ma : M) : M := fun Γ => (ma Γ).bind fun p => fin ((vw p.2 p.1).bind fun d => (tru d).bind fun b => some (.cl (.bl (!b)))) p.2
theorem x_one {op : BoolOp} (ha : Sx X ca Wx a ma) : Sx X ca Wx (.BoolOp op [a] pos) ma := let ⟨_, pa, ha⟩ := ha; ⟨_, pe_one pa, ha⟩
theorem x_and {rest : List Expr} (ha : Sx X ca Wx a ma) (hb : Sx X ca Wx (.BoolOp .And (b :: rest) pos) mb) : Sx X ca Wx (.BoolOp .And (a :: b :: rest) pos) (andM ma mb) := by
  obtain ⟨t1, pa, ha⟩ := ha
  obtain ⟨t2, pb, hb⟩ := hb
  refine ⟨_, pe_andT pa pb, fun c T Γ σ H Q ok p => ?_⟩
  refine ha c T Γ σ H _ ok ((Pst.bind p).imp fun q p v H1 ev s1 => ?_)
  replace s1 := Ox.dn s1
  obtain ⟨w, Γ1⟩ := q
  cases w with
  | cl d =>
    have p' : Pst _ _ _ _ _ _ (match tru d with | some true => mb Γ1 | some false => .ok (W.cl d, Γ1) | none => .no) _ := p
    cases e : tru d with
    | none => rw [e] at p'; exact p'.elim
    | some k =>
      rw [e] at p'
      refine ⟨k, tru_of hid_sub (Vw.of hid_sub ev.2) e, ?_⟩
      cases k with
      | true =>
        rw [if_pos rfl]
        exact hb c T Γ1 σ H1 Q ev.1 ((Pst.base p' s1).imp fun q2 p v H2 ev s2 => p v H2 ev (s1.trans s2))
      | false =>
        rw [if_neg Bool.false_ne_true]
        exact p' v H1 ev (Ox.cl s1)
  | _ => exact p.elim
theorem x_or {rest : List Expr} (ha : Sx X ca Wx a ma) (hb : Sx X ca Wx (.BoolOp .Or (b :: rest) pos) mb) : Sx X ca Wx (.BoolOp .Or (a :: b :: rest) pos) (orM ma mb) := by
  obtain ⟨t1, pa, ha⟩ := ha
  obtain ⟨t2, pb, hb⟩ := hb
  refine ⟨_, pe_orT pa pb, fun c T Γ σ H Q ok p => ?_⟩
  refine ha c T Γ σ H _ ok ((Pst.bind p).imp fun q p v H1 ev s1 => ?_)
  replace s1 := Ox.dn s1
  obtain ⟨w, Γ1⟩ := q
  cases w with
  | cl d =>
    have p' : Pst _ _ _ _ _ _ (match tru d with | some true => .ok (W.cl d, Γ1) | some false => mb Γ1 | none => .no) _ := p
    cases e : tru d with
    | none => rw [e] at p'; exact p'.elim
    | some k =>
      rw [e] at p'
      refine ⟨k, tru_of hid_sub (Vw.of hid_sub ev.2) e, ?_⟩
      cases k with
      | true =>
        rw [if_pos rfl]
        exact p' v H1 ev (Ox.cl s1)
      | false =>
        rw [if_neg Bool.false_ne_true]
        exact hb c T Γ1 σ H1 Q ev.1 ((Pst.base p' s1).imp fun q2 p v H2 ev s2 => p v H2 ev (s1.trans s2))
  | _ => exact p.elim
theorem x_not (ha : Sx X ca Wx a ma) : Sx X ca Wx (.UnaryOp .Not a pos) (notM ma) := by
  obtain ⟨t, pa, ha⟩ := ha
  refine ⟨_, pe_notT pa, fun c T Γ σ H Q ok p => ?_⟩
  refine ha c T Γ σ H _ ok ((Pst.bind p).imp fun q p v H1 ev s1 => ?_)
  replace s1 := Ox.dn s1
  obtain ⟨ok1, hv⟩ := ev.hold
  obtain ⟨w, e, k⟩ := fin_ok ok1 s1 p
  cases e1 : vw q.2 q.1 with
  | none => rw [e1] at e; cases e
  | some d =>
    rw [e1] at e
    have e' : ((tru d).bind fun b => some (W.cl (.bl (!b)))) = some w := e
    cases e2 : tru d with
    | none => rw [e2] at e'; cases e'
    | some b =>
      rw [e2] at e'
      cases e'
      exact ⟨b, tru_of hid_sub (vw_ok ok1 hv ((vw_hold _ _).trans e1)) e2, k _ _ (.inl ⟨rfl, .bl _⟩)⟩
/-! ### displays -/
/-- the items as values like others: a slot's list is one from now on -/
def cln (Γ : Gam) : List W → Option (List D × Gam)
  | [] => some ([], Γ)
  | .cl d :: ws => (cln Γ ws).bind fun p => some (d :: p.1, p.2)
  | .fr ds :: ws => (cln Γ ws).bind fun p => some (.lst ds :: p.1, p.2)
  | .bo i :: ws => match Γ[i]? with
    | some (.own _ ds) => (cln (Γ.set i (.val (.lst ds))) ws).bind fun p => some (.lst ds :: p.1, p.2)
    | _ => none
theorem cln_ok {K : PySem.W.Frag} {c : Fx} {T : Addr → HO → Prop} {σ : Slots} {H : Hp} : ∀ {ws : List W} {vs : List V} {Γ : Gam} {p : List D × Gam}, EnvOk K c T Γ σ H → Paired (fun w v => HvOk K (hid (Oc c T Γ σ) H) w v Γ σ) ws vs → cln Γ ws = some p →
    EnvOk K c T p.2 σ H ∧ DvAll K (hid (Oc c T p.2 σ) H) vs p.1 ∧ Same (hid (Oc c T Γ σ) H) (hid (Oc c T p.2 σ) H)
  | _, _, Γ, p, ok, .nil, e => by
    have e' : some ([], Γ) = some p := e
    cases e'
    exact ⟨ok, .nil, Same.refl _⟩
  | .cl d :: ws, _, Γ, p, ok, .cons h t, e => by
    unfold cln at e
    cases e1 : cln Γ ws with
    | none => rw [e1] at e; cases e
    | some q =>
      rw [e1] at e
      cases e
      obtain ⟨a, b, s⟩ := cln_ok ok t e1
      exact ⟨a, .cons (Dv.mono s _ _ h) b, s⟩
  | .fr ds :: ws, _, Γ, p, ok, .cons h t, e => h.elim
  | .bo i :: ws, _, Γ, p, ok, .cons h t, e => by
    unfold cln at e
    cases q : Γ[i]? with
    | none => rw [q] at e; cases e
    | some u =>
      rw [q] at e
      cases u with
      | un => cases e
      | val d => cases e
      | own b ds =>
        obtain ⟨ok1, s1, hv⟩ := ok.freeze q
        have e' : ((cln (Γ.set i (.val (.lst ds))) ws).bind fun p => some (D.lst ds :: p.1, p.2)) = some p := e
        cases e1 : cln (Γ.set i (.val (.lst ds))) ws with
        | none => rw [e1] at e'; cases e'
        | some q2 =>
          rw [e1] at e'
          cases e'
          obtain ⟨a, b, s⟩ := cln_ok ok1 (paired_mono s1 t) e1
          exact ⟨a, .cons (Dv.mono s _ _ (hv _ h)) b, s1.trans s⟩
def tupM (ms : Gam → R (List W × Gam)) : M := fun Γ => (ms Γ).bind fun p => match cln p.2 p.1 with
  | some q => if q.1.length ≤ sizeLine then .ok (.cl (.tup q.1), q.2) else .no
  | none => .no
def lstM (ms : Gam → R (List W × Gam)) : M := fun Γ => (ms Γ).bind fun p => match cln p.2 p.1 with
  | some q => if q.1.length ≤ sizeLine then .ok (.fr q.1, q.2) else .no
  | none => .no
theorem x_tup {es : List Expr} {n : Nat} {ms : Gam → R (List W × Gam)} (ha : Sa X ca Wx es ms) : Sx X ca Wx (.Tuple es n pos) (tupM ms) := by
  obtain ⟨t, pa, ha⟩ := ha
  refine ⟨_, pe_tup pa, fun c T Γ σ H Q ok p => ?_⟩
  refine ha c T Γ σ H _ ok ((Pst.bind p).imp fun q p vs H1 ok1 hv s1 => ?_)
  cases e : cln q.2 q.1 with
  | none => rw [e] at p; exact p.elim
  | some q2 =>
    rw [e] at p
    have p' : Pst _ _ _ _ _ _ (if q2.1.length ≤ sizeLine then R.ok (W.cl (.tup q2.1), q2.2) else .no) _ := p
    by_cases hz : q2.1.length ≤ sizeLine
    · rw [if_pos hz] at p'
      obtain ⟨ok2, hd, s2⟩ := cln_ok ok1 hv e
      refine ⟨by rw [hd.len]; exact hz, fun a ha => ?_⟩
      obtain ⟨ev, s3⟩ := res_ok (w := .cl (.tup q2.1)) (v := .ref a) ok2 (.inr ⟨a, .tup vs, ha, rfl, .tup (.of upd_same) (hd.mono (same_new (by
        cases z : hid (Oc c T q2.2 σ) H1 a with
        | none => rfl
        | some o => rw [(hid_some.mp z).2] at ha; cases ha)))⟩)
      exact p' _ _ ev (s1.trans (s2.trans s3))
    · rw [if_neg hz] at p'; exact p'.elim
theorem x_lst {es : List Expr} {ms : Gam → R (List W × Gam)} (ha : Sa X ca Wx es ms) : Sx X ca Wx (.List es pos) (lstM ms) := by
  obtain ⟨t, pa, ha⟩ := ha
  refine ⟨_, pe_lst pa, fun c T Γ σ H Q ok p => ?_⟩
  refine ha c T Γ σ H _ ok ((Pst.bind p).imp fun q p vs H1 ok1 hv s1 => ?_)
  cases e : cln q.2 q.1 with
  | none => rw [e] at p; exact p.elim
  | some q2 =>
    rw [e] at p
    have p' : Pst _ _ _ _ _ _ (if q2.1.length ≤ sizeLine then R.ok (W.fr q2.1, q2.2) else .no) _ := p
    by_cases hz : q2.1.length ≤ sizeLine
    · rw [if_pos hz] at p'
      obtain ⟨ok2, hd, s2⟩ := cln_ok ok1 hv e
      refine ⟨by rw [hd.len]; exact hz, fun a ha => ?_⟩
      obtain ⟨ev, s3⟩ := res_ok (w := .fr q2.1) (v := .ref a) ok2 ⟨a, vs, rfl, ha, rfl, hd⟩
      exact p' _ _ ev (s1.trans (s2.trans s3))
    · rw [if_neg hz] at p'; exact p'.elim
/-! ### slices -/
def So (X : Cx) (ca : Str → Addr) (Wx : WX) (o : Option Expr) (m : Gam → R (Option Int × Gam)) : Prop := ∃ t, PO X o t ∧ ∀ (c : Fx) (T : Addr → HO → Prop) (Γ : Gam) (σ : Slots) (H : Hp) (Q : Option Int → Hp → Prop),
  EnvOk X.K c T Γ σ H → Pst X.K ca c T (hid (Oc c T Γ σ) H) Wx (m Γ) (fun p => ∀ H', EnvOk X.K c T p.2 σ H' → Same (hid (Oc c T Γ σ) H) (hid (Oc c T p.2 σ) H') → Q p.1 H') → t σ H Q
def oNone : Gam → R (Option Int × Gam) := fun Γ => .ok (none, Γ)
def oSome (m : M) : Gam → R (Option Int × Gam) := fun Γ => (m Γ).bind fun p => match p.1 with
  | .cl (.int i) => .ok (some i, p.2)
  | _ => .no
theorem o_none : So X ca Wx none oNone := ⟨_, po_none, fun c T Γ σ H Q ok p => p H ok (Same.refl _)⟩
theorem o_some (ha : Sx X ca Wx e ma) : So X ca Wx (some e) (oSome ma) := by
  obtain ⟨t, pa, ha⟩ := ha
  refine ⟨_, po_some pa, fun c T Γ σ H Q ok p => ?_⟩
  refine ha c T Γ σ H _ ok ((Pst.bind p).imp fun q p v H1 ev s1 => ?_)
  replace s1 := Ox.dn s1
  obtain ⟨w, Γ1⟩ := q
  cases w with
  | cl d =>
    cases d with
    | int i =>
      obtain ⟨ok1, hv⟩ := ev
      cases hv
      exact ⟨i, rfl, p H1 ok1 s1⟩
    | _ => exact p.elim
  | _ => exact p.elim
def SoS (K : PySem.W.Frag) (r : V → Option Int → Option Int → Hp → VK → Prop) (sem : D → Option Int → Option Int → Option W) : Prop := ∀ (Hd H : Hp) (x : V) (d : D) (lo hi : Option Int) (w : W) (Q : VK), Same Hd H → Vw K Hd H x d → sem d lo hi = some w →
  (∀ v H', Res K Hd H w v H' → Q v H') → r x lo hi H Q
def sl3 (sem : D → Option Int → Option Int → Option W) (ma : M) (lo hi : Gam → R (Option Int × Gam)) : M := fun Γ => (ma Γ).bind fun p => (lo p.2).bind fun l => (hi l.2).bind fun h => fin ((vw h.2 p.1).bind fun d => sem d l.1 h.1) h.2
theorem x_slice {r : V → Option Int → Option Int → Hp → VK → Prop} {sem : D → Option Int → Option Int → Option W} {lo hi : Option Expr} {p2 : Pos} {ml mh : Gam → R (Option Int × Gam)} (hs : SlR X r) (hr : SoS X.K r sem) (ha : Sx X ca Wx e ma) (hl : So X ca Wx lo ml) (hh : So X ca Wx hi mh) :
    Sx X ca Wx (.Subscript e (.Slice lo hi none p2) pos) (sl3 sem ma ml mh) := by
  obtain ⟨t, pa, ha⟩ := ha
  obtain ⟨tl, pl, hl⟩ := hl
  obtain ⟨th, ph, hh⟩ := hh
  refine ⟨_, pe_slice hs pa pl ph, fun c T Γ σ H Q ok p => ?_⟩
  refine ha c T Γ σ H _ ok ((Pst.bind p).imp fun q p v H1 ev s1 => ?_)
  replace s1 := Ox.dn s1
  obtain ⟨ok1, hv⟩ := ev.hold
  refine hl c T q.2 σ H1 _ ok1 (((Pst.bind p).base s1).imp fun q2 p H2 ok2 s2 => ?_)
  refine hh c T q2.2 σ H2 _ ok2 (((Pst.bind p).base (s1.trans s2)).imp fun q3 p H3 ok3 s3 => ?_)
  obtain ⟨w, e, k⟩ := fin_ok ok3 (s1.trans (s2.trans s3)) p
  cases e1 : vw q3.2 q.1 with
  | none => rw [e1] at e; cases e
  | some d =>
    rw [e1] at e
    exact hr _ _ _ _ _ _ _ _ hid_sub (vw_ok ok3 (hv.mono (s2.trans s3)) ((vw_hold _ _).trans e1)) e k
/-! ### a < b < c -/
def chn (s1 s2 : D → D → Option W) (ma mb mc : M) : M := fun Γ => (ma Γ).bind fun p => (mb p.2).bind fun q => match (vw q.2 p.1).bind fun a => (vw q.2 q.1).bind fun b => s1 a b with
  | some (.cl (.bl true)) => (mc q.2).bind fun r => fin ((vw r.2 q.1).bind fun b => (vw r.2 r.1).bind fun c => s2 b c) r.2
  | some (.cl (.bl false)) => .ok (.cl (.bl false), q.2)
  | _ => .no
theorem ce_chain {K : PySem.W.Frag} {r r' : R2} {sa sb : D → D → Option W} {ta tb tc : TE} (hr : So2 K r sa) (hr' : So2 K r' sb) (ha : Ce K ca Wx ta ma) (hb : Ce K ca Wx tb mb) (hc : Ce K ca Wx tc mc) : Ce K ca Wx (tChain r r' ta tb tc) (chn sa sb ma mb mc) := by
  intro c T Γ σ H Q ok p
  refine ha c T Γ σ H _ ok ((Pst.bind p).imp fun q p v H1 ev s1 => ?_)
  replace s1 := Ox.dn s1
  obtain ⟨ok1, hv⟩ := ev.hold
  refine hb c T q.2 σ H1 _ ok1 (((Pst.bind p).base s1).imp fun q2 p y H2 ev2 s2 => ?_)
  replace s2 := Ox.dn s2
  obtain ⟨ok2, hv2⟩ := ev2.hold
  cases e1 : vw q2.2 q.1 with
  | none => rw [e1] at p; exact p.elim
  | some d =>
    cases e2 : vw q2.2 q2.1 with
    | none => rw [e1, e2] at p; exact p.elim
    | some d2 =>
      rw [e1, e2] at p
      have p' : Pst K ca c T (hid (Oc c T Γ σ) H) Wx (match sa d d2 with
        | some (.cl (.bl true)) => (mc q2.2).bind fun r => fin ((vw r.2 q2.1).bind fun b => (vw r.2 r.1).bind fun c => sb b c) r.2
        | some (.cl (.bl false)) => .ok (.cl (.bl false), q2.2)
        | _ => .no) (QE K c T (hid (Oc c T Γ σ) H) σ Q) := p
      cases e3 : sa d d2 with
      | none => rw [e3] at p'; exact p'.elim
      | some w =>
        rw [e3] at p'
        refine hr _ _ _ _ _ _ _ _ hid_sub (vw_ok ok2 (hv.mono s2) ((vw_hold _ _).trans e1)) (vw_ok ok2 hv2 ((vw_hold _ _).trans e2)) e3 fun z H3 rz => ?_
        cases w with
        | cl dz =>
          cases dz with
          | bl k =>
            obtain ⟨⟨ok3, hz⟩, s3⟩ := res_ok ok2 rz
            replace s3 := Ox.dn s3
            cases hz
            refine ⟨k, rfl, ?_⟩
            cases k with
            | true =>
              rw [if_pos rfl]
              refine hc c T q2.2 σ H3 _ ok3 (((Pst.bind p').base (s1.trans (s2.trans s3))).imp fun q4 p u H4 ev4 s4 => ?_)
              replace s4 := Ox.dn s4
              obtain ⟨ok4, hv4⟩ := ev4.hold
              obtain ⟨w, e, k⟩ := fin_ok ok4 (s1.trans (s2.trans (s3.trans s4))) p
              cases e5 : vw q4.2 q2.1 with
              | none => rw [e5] at e; cases e
              | some d5 =>
                cases e6 : vw q4.2 q4.1 with
                | none => rw [e5, e6] at e; cases e
                | some d6 =>
                  rw [e5, e6] at e
                  exact hr' _ _ _ _ _ _ _ _ hid_sub (vw_ok ok4 (hv2.mono (s3.trans s4)) ((vw_hold _ _).trans e5)) (vw_ok ok4 hv4 ((vw_hold _ _).trans e6)) e k
            | false =>
              rw [if_neg Bool.false_ne_true]
              exact p' _ _ ⟨ok3, .bl false⟩ (Ox.cl (s1.trans (s2.trans s3)))
          | _ => exact p'.elim
        | _ => exact p'.elim
theorem x_chain {op op' : CmpOp} {r r' : R2} {sa sb : D → D → Option W} {c : Expr} (ho : OpR X (compareOp op) r) (hr : So2 X.K r sa) (ho' : OpR X (compareOp op') r') (hr' : So2 X.K r' sb) (ha : Sx X ca Wx a ma) (hb : Sx X ca Wx b mb) (hc : Sx X ca Wx c mc)
    (hm : lastMarks [op, op'] [b, c] = false := by with_unfolding_all rfl) : Sx X ca Wx (.Compare a [op, op'] [b, c] pos) (chn sa sb ma mb mc) := by
  obtain ⟨_, pa, ha⟩ := ha
  obtain ⟨_, pb, hb⟩ := hb
  obtain ⟨_, pc, hc⟩ := hc
  exact ⟨_, pe_chain ho ho' pa pb pc hm, ce_chain hr hr' ha hb hc⟩
theorem t_chain {op op' : CmpOp} {r r' : R2} {sa sb : D → D → Option W} {c : Expr} (ho : OpR X (compareOp op) r) (hr : So2 X.K r sa) (ho' : OpR X (compareOp op') r') (hr' : So2 X.K r' sb) (ha : Sx X ca Wx a ma) (hb : Sx X ca Wx b mb) (hc : Sx X ca Wx c mc)
    (hm : lastMarks [op, op'] [b, c] = false := by with_unfolding_all rfl) : Sb X ca Wx (.Compare a [op, op'] [b, c] pos) (tstB (chn sa sb ma mb mc)) := by
  obtain ⟨_, pa, ha⟩ := ha
  obtain ⟨_, pb, hb⟩ := hb
  obtain ⟨_, pc, hc⟩ := hc
  exact ⟨_, pt_chain ho ho' pa pb pc hm, cb_tst (ce_chain hr hr' ha hb hc)⟩
end
end Mw
set_option Elab.async false
set_option linter.all false
set_option maxRecDepth 100000
set_option maxHeartbeats 2000000
/-! Mw: operators and built-in functions, on data -/
namespace Mw
open PySem PySem.Spec PyProof.Rows L2
def orR (r r' : R2) : R2 := fun x y H Q => r x y H Q ∨ r' x y H Q
theorem OpR.or {X : Cx} {f : Value → Value → Sem Value} {r r' : R2} (h : OpR X f r) (h' : OpR X f r') : OpR X f (orR r r') := by
  intro pins s σ H x y v u Q I rx ry q
  rcases q with q | q
  · exact h pins s σ H x y v u Q I rx ry q
  · exact h' pins s σ H x y v u Q I rx ry q
def orN (r r' : List V → Hp → VK → Prop) : List V → Hp → VK → Prop := fun xs H Q => r xs H Q ∨ r' xs H Q
/-! ### data of a kind -/
def dInts : List D → Option (List Int)
  | [] => some []
  | .int i :: r => (dInts r).map (i :: ·)
  | _ :: _ => none
def dBls : List D → Option (List Bool)
  | [] => some []
  | .bl i :: r => (dBls r).map (i :: ·)
  | _ :: _ => none
@[simp] theorem dInts_map : ∀ ns : List Int, dInts (ns.map D.int) = some ns
  | [] => rfl
  | n :: r => by rw [List.map_cons, dInts, dInts_map r]; rfl
@[simp] theorem dBls_map : ∀ ns : List Bool, dBls (ns.map D.bl) = some ns
  | [] => rfl
  | n :: r => by rw [List.map_cons, dBls, dBls_map r]; rfl
theorem dInts_of : ∀ {ds : List D} {ns : List Int}, dInts ds = some ns → ds = ns.map D.int
  | [], ns, e => by cases e; rfl
  | .int i :: r, ns, e => by
    rw [dInts] at e
    cases h : dInts r with
    | none => rw [h] at e; cases e
    | some l =>
      rw [h] at e
      cases e
      rw [List.map_cons, dInts_of h]
  | .non :: _, _, e => by cases e
  | .bl _ :: _, _, e => by cases e
  | .str _ :: _, _, e => by cases e
  | .tup _ :: _, _, e => by cases e
  | .lst _ :: _, _, e => by cases e
  | .ref _ :: _, _, e => by cases e
  | .ty _ :: _, _, e => by cases e
theorem dBls_of : ∀ {ds : List D} {ns : List Bool}, dBls ds = some ns → ds = ns.map D.bl
  | [], ns, e => by cases e; rfl
  | .bl i :: r, ns, e => by
    rw [dBls] at e
    cases h : dBls r with
    | none => rw [h] at e; cases e
    | some l =>
      rw [h] at e
      cases e
      rw [List.map_cons, dBls_of h]
  | .non :: _, _, e => by cases e
  | .int _ :: _, _, e => by cases e
  | .str _ :: _, _, e => by cases e
  | .tup _ :: _, _, e => by cases e
  | .lst _ :: _, _, e => by cases e
  | .ref _ :: _, _, e => by cases e
  | .ty _ :: _, _, e => by cases e
theorem dv_ints {K : PySem.W.Frag} {H : Hp} : ∀ {ns : List Int} {vs : List V}, DvAll K H vs (ns.map D.int) → vs = ns.map V.int
  | [], _, h => by cases h; rfl
  | n :: r, _, h => by
    cases h with
    | cons h1 h2 => cases h1; rw [List.map_cons, dv_ints h2]
theorem dv_bls {K : PySem.W.Frag} {H : Hp} : ∀ {ns : List Bool} {vs : List V}, DvAll K H vs (ns.map D.bl) → vs = ns.map V.bl
  | [], _, h => by cases h; rfl
  | n :: r, _, h => by
    cases h with
    | cons h1 h2 => cases h1; rw [List.map_cons, dv_bls h2]
theorem dvI {K : PySem.W.Frag} {H : Hp} : ∀ ns : List Int, DvAll K H (ns.map V.int) (ns.map D.int)
  | [] => .nil
  | n :: r => .cons (.int n) (dvI r)
/-! ### results in short -/
section
variable {K : PySem.W.Frag} {Hd H : Hp}
theorem res0 {v : V} {d : D} (h : Dv K Hd v d) : Res K Hd H (.cl d) v H := .inl ⟨rfl, h⟩
theorem hidNew {Hd H : Hp} (s : Same Hd H) {p : Addr} (h : H p = none) : Hd p = none := s.free h
theorem resT {s : Same Hd H} {p : Addr} {vs : List V} {ds : List D} (hp : H p = none) (h : DvAll K Hd vs ds) : Res K Hd H (.cl (.tup ds)) (.ref p) (upd H p (.tup vs)) :=
  .inr ⟨p, _, hp, rfl, .tup (.of upd_same) (h.mono (same_new (hidNew s hp)))⟩
theorem resF {p : Addr} {vs : List V} {ds : List D} (hp : H p = none) (h : DvAll K Hd vs ds) : Res K Hd H (.fr ds) (.ref p) (upd H p (.lst vs)) := ⟨p, vs, rfl, hp, rfl, h⟩
theorem vw_int {v : V} {i : Int} (h : Vw K Hd H v (.int i)) : v = .int i := by cases h; rfl
theorem vw_str {v : V} {i : Str} (h : Vw K Hd H v (.str i)) : v = .str i := by cases h; rfl
theorem vw_bl {v : V} {i : Bool} (h : Vw K Hd H v (.bl i)) : v = .bl i := by cases h; rfl
theorem vw_tup {v : V} {ds : List D} (s : Same Hd H) (h : Vw K Hd H v (.tup ds)) : ∃ a vs, v = .ref a ∧ SqT K H a vs ∧ SqT K Hd a vs ∧ DvAll K Hd vs ds := by
  cases h with
  | tup hs ha => exact ⟨_, _, rfl, same_t s hs, hs, ha⟩
end
/-! ### + -/
def rCatL (K : PySem.W.Frag) : R2 := fun x y H Q => ∃ l b xs zs, x = .ref l ∧ y = .ref b ∧ SqL K H l xs ∧ SqL K H b zs ∧ xs.length + zs.length ≤ sizeLine ∧ ∀ p, H p = none → Q (.ref p) (upd H p (.lst (xs ++ zs)))
theorem op_catL {X : Cx} : OpR X (binaryOp .Add) (rCatL X.K) := by
  intro pins s σ H x y v u Q I rx ry h
  obtain ⟨l, b, xs, zs, rfl, rfl, hl, hb, hz, q⟩ := h
  cases rx
  cases ry
  obtain ⟨its, r, ⟨⟨c1, d1, dt1, sl1⟩, n, e1, hc1, hd1, hs1⟩, _⟩ := I.list hl
  obtain ⟨its2, r2, ⟨⟨c2, d2, dt2, sl2⟩, n2, e2, hc2, hd2, hs2⟩, _⟩ := I.list hb
  simp only at hc1 hs1 hc2 hs2
  subst hc1 hs1 hc2 hs2
  have hl := r.length
  have hl2 := r2.length
  refine PySem.concat_meets ⟨_, e1, rfl⟩ ⟨_, e2, rfl⟩ PySem.noFill_list_add PySem.seq_list_add F.slot_list_add F.entry_list_add (F.args_list_add_2 _ _) (PyProof.Rows.list_addW l b its.toArray its2.toArray n n2 d1 d2 sl1 sl2 (by rw [List.size_toArray, List.size_toArray]; omega)) ⟨e1, e2, ?_⟩
  have ea : its.toArray ++ its2.toArray = (its ++ its2).toArray := by simp
  rw [ea]
  exact ⟨.ref _, _, I.lnew (t' := s.toks) (r.append r2) (by rw [List.length_append]; omega), rfl, q _ I.fresh⟩
def D.add : D → D → Option W
  | .int a, .int b => some (.cl (.int (a + b)))
  | .str a, .str b => if a.length + b.length ≤ sizeLine then some (.cl (.str (a ++ b))) else none
  | .tup a, .tup b => if a.length + b.length ≤ sizeLine then some (.cl (.tup (a ++ b))) else none
  | .lst a, .lst b => if a.length + b.length ≤ sizeLine then some (.fr (a ++ b)) else none
  | _, _ => none
def rAddD (K : PySem.W.Frag) : R2 := orR (rI0 fun i j => .int (i + j)) (orR (fun x y H Q => ∃ i j, x = .str i ∧ y = .str j ∧ i.length + j.length ≤ sizeLine ∧ Q (.str (i ++ j)) H) (orR (rCatA K) (rCatL K)))
theorem op_addD {X : Cx} : OpR X (binaryOp .Add) (rAddD X.K) := OpR.or op_add (OpR.or op_add_str (OpR.or op_catA op_catL))
theorem so_add {K : PySem.W.Frag} : So2 K (rAddD K) D.add := by
  intro Hd H x y d e w Q s hx hy hs q
  unfold D.add at hs
  split at hs
  · cases hs
    exact .inl ⟨_, _, vw_int hx, vw_int hy, q _ _ (res0 (.int _))⟩
  · split at hs
    · cases hs
      exact .inr (.inl ⟨_, _, vw_str hx, vw_str hy, by assumption, q _ _ (res0 (.str _))⟩)
    · cases hs
  · split at hs
    · cases hs
      rename_i ds es hz
      obtain ⟨a, vs, rfl, h1, h1', h2⟩ := vw_tup s hx
      obtain ⟨b, us, rfl, g1, g1', g2⟩ := vw_tup s hy
      refine .inr (.inr (.inl ⟨a, b, vs, us, rfl, rfl, h1, g1, by rw [h2.len, g2.len]; exact hz, fun e => ?_, fun _ e => ?_, fun _ _ p hp => q _ _ (resT (s := s) hp (h2.append g2))⟩))
      · subst e
        cases h2
        exact q _ _ (res0 (.tup g1' g2))
      · subst e
        cases g2
        rw [List.append_nil] at q
        exact q _ _ (res0 (.tup h1' h2))
    · cases hs
  · split at hs
    · cases hs
      rename_i ds es hz
      obtain ⟨a, vs, rfl, h1, h2⟩ := hx
      obtain ⟨b, us, rfl, g1, g2⟩ := hy
      exact .inr (.inr (.inr ⟨a, b, vs, us, rfl, rfl, h1, g1, by rw [h2.len, g2.len]; exact hz, fun p hp => q _ _ (resF hp (h2.append g2))⟩))
    · cases hs
  · cases hs
/-! ### other arithmetic -/
def D.sub : D → D → Option W
  | .int a, .int b => some (.cl (.int (a - b)))
  | _, _ => none
theorem so_sub {K : PySem.W.Frag} : So2 K (rI0 fun i j => .int (i - j)) D.sub := by
  intro Hd H x y d e w Q s hx hy hs q
  unfold D.sub at hs
  split at hs
  · cases hs
    exact ⟨_, _, vw_int hx, vw_int hy, q _ _ (res0 (.int _))⟩
  · cases hs
/-- (x,) * k for any small k -/
def rRepB (K : PySem.W.Frag) : R2 := fun x y H Q => ∃ l k xs, x = .ref l ∧ y = .int k ∧ SqT K H l xs ∧ xs ≠ [] ∧ 2 ≤ k ∧ k ≤ 1000000 ∧ xs.length = 1 ∧ ∀ p, H p = none → Q (.ref p) (upd H p (.tup (List.replicate k.toNat xs).flatten))
theorem op_repB {X : Cx} : OpR X (binaryOp .Mult) (rRepB X.K) := by
  intro pins s σ H x y v u Q I rx ry h
  obtain ⟨l, k, xs, rfl, rfl, hT, hne, hk2, hk, hz, q⟩ := h
  cases rx
  obtain ⟨t, rfl⟩ := ry
  obtain ⟨its, r, ⟨⟨cls, dd, data, sl⟩, ho, hc, n, hd⟩, hs⟩ := I.tuple hT
  simp only at hc hd
  subst hc hd
  have hle : its.length = xs.length := r.length.symm
  have hn : its ≠ [] := fun e => hne (by
    rw [e] at hle
    exact List.eq_nil_of_length_eq_zero hle.symm)
  have hi : its.toArray.isEmpty = false := by
    cases its with
    | nil => exact absurd rfl hn
    | cons a b => rfl
  have hsz0 : its.toArray.size = xs.length := by rw [List.size_toArray, hle]
  have hm : ((its.toArray.size : Nat) : Int) * k ≤ 1000000 := by
    rw [hsz0, hz]
    omega
  have flen : (List.replicate k.toNat its).flatten.length ≤ sizeLine := by
    rw [PyProof.Rows.lm_len_rep_flat, hle, sizeLine_eq, hz]
    omega
  have c0 : (decide (k < -(2 ^ 63)) || decide (k ≥ 2 ^ 63)) = false := by
    rw [decide_eq_false (by omega), decide_eq_false (by omega)] <;> rfl
  have c1 : (its.toArray.isEmpty || k == 1) = false := by
    rw [hi, Bool.false_or]
    exact beq_eq_false_iff_ne.mpr (by omega)
  have c2 : (decide (k ≤ 0) || its.toArray.isEmpty) = false := by
    rw [hi, Bool.or_false]
    exact decide_eq_false (by omega)
  have c4 : Builtin.Tuple.tupleTooMany (((its.toArray.size : Nat) : Int) * k) = false := by
    unfold Builtin.Tuple.tupleTooMany
    rw [sizeLine_eq]
    exact decide_eq_false (by omega)
  refine wpAny_binaryOp_repeat_ref (T := "tuple") (U := "int") (by decide) ⟨_, ho, rfl⟩ (fun s' => typeIs_int s' k t) noFill_tuple_mul F.fills_int_mul F.slot_int_rmul repeat_tuple F.slot_int_index.lookup
    (call_meets F.slot_int_rmul (typeIs_int s k t) F.entry_int_rmul (F.args_int_rmul_2 _ _) (int_rmul_tuple k t l its.toArray n dd sl)
      ⟨ho, rfl, ⟨_, ho, rfl⟩, call_meets F.slot_tuple_mul ⟨_, ho, rfl⟩ F.entry_tuple_mul (F.args_tuple_mul_2 _ _) (tuple_mulW l its.toArray n dd sl k t c0 c1 c2 (by omega) c4 (by rw [size_rep, List.size_toArray]; exact flen)) ⟨ho, ?_⟩⟩)
  rw [size_rep]
  refine ⟨.ref s.heap.objs.size, _, I.laid (t' := s.toks) (o := .tup (List.replicate k.toNat xs).flatten) (fun b ob q => Heap.get?_push_of_some _ q) (Nat.le_refl _) ?_, rfl, q _ (I.hok.fresh (Nat.le_refl _))⟩
  exact ⟨by rw [PyProof.Rows.lm_len_rep_flat, sizeLine_eq, hz]; omega, _, r.rep k.toNat, IsTup.new _ _⟩
def D.mul : D → D → Option W
  | .int a, .int b => if (-(2 ^ 64) < a ∧ a < 2 ^ 64) ∨ (-(2 ^ 64) < b ∧ b < 2 ^ 64) then some (.cl (.int (a * b))) else none
  | .tup [a], .int k => if 2 ≤ k ∧ k ≤ 1000000 then some (.cl (.tup (List.replicate k.toNat a))) else none
  | _, _ => none
theorem flat_one {α : Type} (a : α) : ∀ n : Nat, (List.replicate n [a]).flatten = List.replicate n a
  | 0 => rfl
  | n + 1 => by rw [List.replicate_succ, List.flatten_cons, flat_one a n]; rfl
theorem dv_rep {K : PySem.W.Frag} {H : Hp} {v : V} {d : D} (h : Dv K H v d) : ∀ n : Nat, DvAll K H (List.replicate n v) (List.replicate n d)
  | 0 => .nil
  | n + 1 => .cons h (dv_rep h n)
theorem so_mul {K : PySem.W.Frag} : So2 K (orR (rI CMul fun i j => .int (i * j)) (rRepB K)) D.mul := by
  intro Hd H x y d e w Q s hx hy hs q
  unfold D.mul at hs
  split at hs
  · split at hs
    · cases hs
      exact .inl ⟨_, _, vw_int hx, vw_int hy, by assumption, q _ _ (res0 (.int _))⟩
    · cases hs
  · split at hs
    · cases hs
      rename_i d0 k hz
      obtain ⟨a, vs, rfl, h1, h1', h2⟩ := vw_tup s hx
      cases h2 with
      | cons g1 g2 =>
        cases g2
        refine .inr ⟨a, k, _, rfl, vw_int hy, h1, List.cons_ne_nil _ _, hz.1, hz.2, rfl, fun p hp => q _ _ (resT (s := s) hp ?_)⟩
        rw [flat_one]
        exact dv_rep g1 _
    · cases hs
  · cases hs
theorem op_mulD {X : Cx} : OpR X (binaryOp .Mult) (orR (rI CMul fun i j => .int (i * j)) (rRepB X.K)) := OpR.or op_mul op_repB
def D.fdiv : D → D → Option W
  | .int a, .int b => if 0 < b ∧ b < 1073741824 then some (.cl (.int (a / b))) else none
  | _, _ => none
theorem so_fdiv {K : PySem.W.Frag} : So2 K (rI CDiv fun i j => .int (i / j)) D.fdiv := by
  intro Hd H x y d e w Q s hx hy hs q
  unfold D.fdiv at hs
  split at hs
  · split at hs
    · cases hs
      exact ⟨_, _, vw_int hx, vw_int hy, by assumption, q _ _ (res0 (.int _))⟩
    · cases hs
  · cases hs
def D.mod : D → D → Option W
  | .int a, .int b => if 0 < b then some (.cl (.int (a % b))) else none
  | _, _ => none
theorem so_mod {K : PySem.W.Frag} : So2 K (rI (fun _ j => 0 < j) fun i j => .int (i % j)) D.mod := by
  intro Hd H x y d e w Q s hx hy hs q
  unfold D.mod at hs
  split at hs
  · split at hs
    · cases hs
      exact ⟨_, _, vw_int hx, vw_int hy, by assumption, q _ _ (res0 (.int _))⟩
    · cases hs
  · cases hs
def D.pow : D → D → Option W
  | .int a, .int b => if 0 ≤ b ∧ b ≤ 1000000 ∧ a.natAbs < 2 ^ 64 then some (.cl (.int (a ^ b.toNat))) else none
  | _, _ => none
theorem so_pow {K : PySem.W.Frag} : So2 K (rI CPow fun i j => .int (i ^ j.toNat)) D.pow := by
  intro Hd H x y d e w Q s hx hy hs q
  unfold D.pow at hs
  split at hs
  · split at hs
    · cases hs
      exact ⟨_, _, vw_int hx, vw_int hy, by assumption, q _ _ (res0 (.int _))⟩
    · cases hs
  · cases hs
def D.neg : D → Option W
  | .int a => some (.cl (.int (-a)))
  | _ => none
theorem so_neg {K : PySem.W.Frag} : So1 K (rU fun i => .int (-i)) D.neg := by
  intro Hd H x d w Q s hx hs q
  unfold D.neg at hs
  split at hs
  · cases hs
    exact ⟨_, vw_int hx, q _ _ (res0 (.int _))⟩
  · cases hs
/-! ### order -/
def D.cmpI (f : Int → Int → Bool) : D → D → Option W
  | .int a, .int b => some (.cl (.bl (f a b)))
  | _, _ => none
theorem so_cmpI {K : PySem.W.Frag} {f : Int → Int → Bool} : So2 K (rI0 fun i j => .bl (f i j)) (D.cmpI f) := by
  intro Hd H x y d e w Q s hx hy hs q
  unfold D.cmpI at hs
  split at hs
  · cases hs
    exact ⟨_, _, vw_int hx, vw_int hy, q _ _ (res0 (.bl _))⟩
  · cases hs
abbrev D.lt := D.cmpI fun a b => decide (a < b)
abbrev D.le := D.cmpI fun a b => decide (a ≤ b)
abbrev D.gt := D.cmpI fun a b => decide (b < a)
abbrev D.ge := D.cmpI fun a b => decide (b ≤ a)
/-! ### == , != -/
mutual
def py : D → Option PyData
  | .non => some .none
  | .bl b => some (.bool b)
  | .int i => some (.int i)
  | .str s => some (.str s)
  | .tup xs => (pys xs).map .tuple
  | .lst xs => (pys xs).map .list
  | .ref _ => none
  | .ty _ => none
  | .fn _ => none
def pys : List D → Option (List PyData)
  | [] => some []
  | x :: xs => (py x).bind fun p => (pys xs).map (p :: ·)
end
mutual
theorem py_ok {K : PySem.W.Frag} {H : Hp} : ∀ (d : D) (v : V) (p : PyData), Dv K H v d → py d = some p → Dp K H v p
  | .non, _, _, h, e => by cases h; cases e; exact .non
  | .bl _, _, _, h, e => by cases h; cases e; exact .bl _
  | .int _, _, _, h, e => by cases h; cases e; exact .int _
  | .str _, _, _, h, e => by cases h; cases e; exact .str _
  | .tup ds, _, p, h, e => by
    cases h with
    | tup hs ha =>
      rw [py] at e
      cases q : pys ds with
      | none => rw [q] at e; cases e
      | some ps =>
        rw [q] at e
        cases e
        exact .tup hs (pys_ok ds _ ps ha q)
  | .lst ds, _, p, h, e => by
    cases h with
    | lst hs ha =>
      rw [py] at e
      cases q : pys ds with
      | none => rw [q] at e; cases e
      | some ps =>
        rw [q] at e
        cases e
        exact .lst hs (pys_ok ds _ ps ha q)
  | .ref _, _, _, h, e => by rw [py] at e; cases e
  | .ty _, _, _, h, e => by rw [py] at e; cases e
theorem pys_ok {K : PySem.W.Frag} {H : Hp} : ∀ (ds : List D) (vs : List V) (ps : List PyData), DvAll K H vs ds → pys ds = some ps → DpAll K H vs ps
  | [], _, _, h, e => by cases h; rw [pys] at e; cases e; exact .nil
  | d :: ds, _, _, h, e => by
    cases h with
    | cons h1 h2 =>
      rw [pys] at e
      cases q : py d with
      | none => rw [q] at e; cases e
      | some p =>
        cases q2 : pys ds with
        | none => rw [q, q2] at e; cases e
        | some ps =>
          rw [q, q2] at e
          cases e
          exact .cons (py_ok d _ p h1 q) (pys_ok ds _ ps h2 q2)
end
def D.eqB (a b : D) : Option Bool := (py a).bind fun p => (py b).bind fun q => if SeqAt.shaped p = true ∧ SeqAt.shaped q = true then some (PyData.eqv p q) else none
def D.strs : D → D → Option (Str × Str)
  | .str a, .str b => some (a, b)
  | _, _ => none
def D.eqC (a b : D) : Option Bool := match D.strs a b with
  | some p => some (p.1 == p.2)
  | none => D.eqB a b
def D.eq (a b : D) : Option W := (D.eqC a b).map fun k => .cl (.bl k)
def D.ne (a b : D) : Option W := (D.eqC a b).map fun k => .cl (.bl (!k))
theorem eqB_ok {a b : D} {k : Bool} (e : D.eqB a b = some k) : ∃ p q, py a = some p ∧ py b = some q ∧ SeqAt.shaped p = true ∧ SeqAt.shaped q = true ∧ k = PyData.eqv p q := by
  unfold D.eqB at e
  cases h1 : py a with
  | none => rw [h1] at e; cases e
  | some p =>
    cases h2 : py b with
    | none => rw [h1, h2] at e; cases e
    | some q =>
      rw [h1, h2] at e
      have e' : (if SeqAt.shaped p = true ∧ SeqAt.shaped q = true then some (PyData.eqv p q) else none) = some k := e
      split at e'
      · rename_i hz
        cases e'
        exact ⟨p, q, rfl, rfl, hz.1, hz.2, rfl⟩
      · cases e'
def rEqS : R2 := fun x y H Q => ∃ i j, x = .str i ∧ y = .str j ∧ Q (.bl (i == j)) H
def rNeS : R2 := fun x y H Q => ∃ i j, x = .str i ∧ y = .str j ∧ Q (.bl (!(i == j))) H
theorem op_eqS {X : Cx} : OpR X (compareOp .Eq) rEqS := by
  intro pins s σ H x y v u Q I rx ry h
  obtain ⟨i, j, rfl, rfl, q⟩ := h
  obtain ⟨t, rfl⟩ := rx
  obtain ⟨t', rfl⟩ := ry
  exact PyProof.Rows.eq_str ⟨.bl _, H, I, rfl, q⟩
theorem op_neS {X : Cx} : OpR X (compareOp .NotEq) rNeS := by
  intro pins s σ H x y v u Q I rx ry h
  obtain ⟨i, j, rfl, rfl, q⟩ := h
  obtain ⟨t, rfl⟩ := rx
  obtain ⟨t', rfl⟩ := ry
  exact PyProof.Rows.ne_str ⟨.bl _, H, I, rfl, q⟩
def rEqA (K : PySem.W.Frag) : R2 := orR rEqS (rEqD K)
def rNeA (K : PySem.W.Frag) : R2 := orR rNeS (rNeD K)
theorem op_eqA {X : Cx} (hu : X.A.units + 64 < cLine) : OpR X (compareOp .Eq) (rEqA X.K) := OpR.or op_eqS (op_eqD hu)
theorem op_neA {X : Cx} (hu : X.A.units + 64 < cLine) : OpR X (compareOp .NotEq) (rNeA X.K) := OpR.or op_neS (op_neD hu)
theorem strs_ok {a b : D} {p : Str × Str} (h : D.strs a b = some p) : a = .str p.1 ∧ b = .str p.2 := by
  unfold D.strs at h
  split at h
  · cases h; exact ⟨rfl, rfl⟩
  · cases h
theorem so_eq {K : PySem.W.Frag} : So2 K (rEqA K) D.eq := by
  intro Hd H x y d e w Q s hx hy hs q
  unfold D.eq D.eqC at hs
  cases hz : D.strs d e with
  | some p =>
    rw [hz] at hs
    cases hs
    obtain ⟨rfl, rfl⟩ := strs_ok hz
    exact .inl ⟨_, _, vw_str hx, vw_str hy, q _ _ (res0 (.bl _))⟩
  | none =>
    rw [hz] at hs
    have hs : (D.eqB d e).map (fun k => W.cl (.bl k)) = some w := hs
    cases h : D.eqB d e with
    | none => rw [h] at hs; cases hs
    | some k =>
      rw [h] at hs
      cases hs
      obtain ⟨p, r, h1, h2, h3, h4, rfl⟩ := eqB_ok h
      exact .inr ⟨p, r, py_ok _ _ _ (hx.full s) h1, py_ok _ _ _ (hy.full s) h2, h3, h4, q _ _ (res0 (.bl _))⟩
theorem so_ne {K : PySem.W.Frag} : So2 K (rNeA K) D.ne := by
  intro Hd H x y d e w Q s hx hy hs q
  unfold D.ne D.eqC at hs
  cases hz : D.strs d e with
  | some p =>
    rw [hz] at hs
    cases hs
    obtain ⟨rfl, rfl⟩ := strs_ok hz
    exact .inl ⟨_, _, vw_str hx, vw_str hy, q _ _ (res0 (.bl _))⟩
  | none =>
    rw [hz] at hs
    have hs : (D.eqB d e).map (fun k => W.cl (.bl (!k))) = some w := hs
    cases h : D.eqB d e with
    | none => rw [h] at hs; cases hs
    | some k =>
      rw [h] at hs
      cases hs
      obtain ⟨p, r, h1, h2, h3, h4, rfl⟩ := eqB_ok h
      exact .inr ⟨p, r, py_ok _ _ _ (hx.full s) h1, py_ok _ _ _ (hy.full s) h2, h3, h4, q _ _ (res0 (.bl _))⟩
/-! ### is, is not -/
def D.isN : D → D → Option W
  | .non, .non => some (.cl (.bl true))
  | _, .non => some (.cl (.bl false))
  | .bl a, .bl b => some (.cl (.bl (decide (a = b))))
  | _, _ => none
def D.notN : D → D → Option W
  | .non, .non => some (.cl (.bl false))
  | _, .non => some (.cl (.bl true))
  | .bl a, .bl b => some (.cl (.bl (!decide (a = b))))
  | _, _ => none
def rIsD : R2 := orR (fun x y H Q => y = .non ∧ Q (.bl (decide (x = .non))) H) rIsB
def rNotD : R2 := orR (fun x y H Q => y = .non ∧ Q (.bl (!decide (x = .non))) H) rNotB
theorem op_isD {X : Cx} : OpR X (compareOp .Is) rIsD := OpR.or op_isN op_isBl
theorem op_notD {X : Cx} : OpR X (compareOp .IsNot) rNotD := OpR.or op_notN op_notBl
theorem vw_nn {K : PySem.W.Frag} {Hd H : Hp} {v : V} {d : D} (h : Vw K Hd H v d) : (v = .non) ↔ (d = .non) := by
  cases d with
  | lst ds => obtain ⟨a, vs, rfl, _⟩ := h; simp
  | non => cases h; simp
  | bl b => cases h; simp
  | int i => cases h; simp
  | str x => cases h; simp
  | tup xs => cases h; simp
  | ref a => cases h; simp
  | ty n => cases h; simp
  | fn q => cases h; simp
theorem vw_non {K : PySem.W.Frag} {Hd H : Hp} {v : V} (h : Vw K Hd H v .non) : v = .non := by cases h; rfl
theorem so_is {K : PySem.W.Frag} : So2 K rIsD D.isN := by
  intro Hd H x y d e w Q s hx hy hs q
  unfold D.isN at hs
  split at hs
  · cases hs
    refine .inl ⟨vw_non hy, ?_⟩
    rw [vw_non hx]
    exact q _ _ (res0 (.bl _))
  · cases hs
    rename_i hne
    refine .inl ⟨vw_non hy, ?_⟩
    rw [decide_eq_false (fun z => hne ((vw_nn hx).mp z))]
    exact q _ _ (res0 (.bl _))
  · cases hs
    exact .inr ⟨_, _, vw_bl hx, vw_bl hy, q _ _ (res0 (.bl _))⟩
  · cases hs
theorem so_not {K : PySem.W.Frag} : So2 K rNotD D.notN := by
  intro Hd H x y d e w Q s hx hy hs q
  unfold D.notN at hs
  split at hs
  · cases hs
    refine .inl ⟨vw_non hy, ?_⟩
    rw [vw_non hx]
    exact q _ _ (res0 (.bl _))
  · cases hs
    rename_i hne
    refine .inl ⟨vw_non hy, ?_⟩
    rw [decide_eq_false (fun z => hne ((vw_nn hx).mp z))]
    exact q _ _ (res0 (.bl _))
  · cases hs
    exact .inr ⟨_, _, vw_bl hx, vw_bl hy, q _ _ (res0 (.bl _))⟩
  · cases hs
/-! ### in, not in: flat items -/
def D.flat : D → Bool
  | .non => true
  | .bl _ => true
  | .int _ => true
  | .str _ => true
  | _ => false
def D.eqF : D → D → Bool
  | .non, .non => true
  | .bl a, .bl b => a == b
  | .int a, .int b => a == b
  | .str a, .str b => a == b
  | .bl a, .int j => (if a then 1 else 0) == j
  | .int i, .bl b => i == (if b then 1 else 0)
  | _, _ => false
end Mw
set_option Elab.async false
set_option linter.all false
set_option maxRecDepth 100000
set_option maxHeartbeats 2000000
/-! Mw: in, items, slices, built-in functions -/
namespace Mw
open PySem PySem.Spec PyProof.Rows L2
/-! ### in, not in -/
def D.items : D → Option (List D)
  | .tup xs => some xs
  | .lst xs => some xs
  | _ => none
theorem vw_items {K : PySem.W.Frag} {Hd H : Hp} {v : V} {d : D} {ds : List D} (s : Same Hd H) (h : Vw K Hd H v d) (e : d.items = some ds) : ∃ a vs, v = .ref a ∧ (SqL K H a vs ∨ SqT K H a vs) ∧ DvAll K Hd vs ds := by
  cases d with
  | lst xs => cases e; obtain ⟨a, vs, rfl, h1, h2⟩ := h; exact ⟨a, vs, rfl, .inl h1, h2⟩
  | tup xs => cases e; obtain ⟨a, vs, rfl, h1, _, h2⟩ := vw_tup s h; exact ⟨a, vs, rfl, .inr h1, h2⟩
  | _ => cases e
theorem flat_ok {K : PySem.W.Frag} {H : Hp} {v : V} {d : D} (h : Dv K H v d) (f : d.flat = true) : flatV v = true := by
  cases h <;> first | rfl | cases f
theorem flat_vw {K : PySem.W.Frag} {Hd H : Hp} {v : V} {d : D} (h : Vw K Hd H v d) (f : d.flat = true) : Dv K Hd v d := by
  cases d with
  | lst xs => cases f
  | non => exact h
  | bl b => exact h
  | int i => exact h
  | str x => exact h
  | tup xs => exact h
  | ref a => exact h
  | ty n => exact h
  | fn q => exact h
theorem eqF_ok {K : PySem.W.Frag} {H : Hp} {v u : V} {d e : D} (h : Dv K H v d) (g : Dv K H u e) (fd : d.flat = true) (fe : e.flat = true) : eqV v u = D.eqF d e := by
  cases h <;> first | (cases fd; done) | (cases g <;> first | rfl | (cases fe; done))
theorem all_flat {K : PySem.W.Frag} {H : Hp} : ∀ {vs : List V} {ds : List D}, DvAll K H vs ds → ds.all D.flat = true → vs.all flatV = true
  | [], _, .nil, _ => rfl
  | _ :: _, _ :: _, .cons h t, e => by
    rw [List.all_cons, Bool.and_eq_true] at e ⊢
    exact ⟨flat_ok h e.1, all_flat t e.2⟩
theorem inV_ok {K : PySem.W.Frag} {H : Hp} {x : V} {d : D} (hx : Dv K H x d) (fd : d.flat = true) : ∀ {vs : List V} {ds : List D}, DvAll K H vs ds → ds.all D.flat = true → inV x vs = ds.any fun e => D.eqF e d
  | [], _, .nil, _ => rfl
  | v :: vs, e :: ds, .cons h t, f => by
    rw [List.all_cons, Bool.and_eq_true] at f
    have ih := inV_ok hx fd t f.2
    unfold inV at ih ⊢
    rw [List.any_cons, List.any_cons, ih, eqF_ok h hx f.1 fd]
def D.inn (d s : D) : Option W := (s.items).bind fun ds => if d.flat = true ∧ ds.all D.flat = true then some (.cl (.bl (ds.any fun e => D.eqF e d))) else none
def D.nin (d s : D) : Option W := (s.items).bind fun ds => if d.flat = true ∧ ds.all D.flat = true then some (.cl (.bl (!ds.any fun e => D.eqF e d))) else none
theorem so_in {K : PySem.W.Frag} : So2 K (rIn K false) D.inn := by
  intro Hd H x y d e w Q s hx hy hs q
  unfold D.inn at hs
  cases h : e.items with
  | none => rw [h] at hs; cases hs
  | some ds =>
    rw [h] at hs
    have hs' : (if d.flat = true ∧ ds.all D.flat = true then some (W.cl (.bl (ds.any fun e => D.eqF e d))) else none) = some w := hs
    split at hs'
    · rename_i f
      cases hs'
      obtain ⟨a, vs, rfl, h1, h2⟩ := vw_items s hy h
      have hx' := flat_vw hx f.1
      refine ⟨a, vs, rfl, h1, flat_ok hx' f.1, all_flat h2 f.2, ?_⟩
      show Q (.bl (if false = true then !inV x vs else inV x vs)) H
      rw [if_neg Bool.false_ne_true, inV_ok hx' f.1 h2 f.2]
      exact q _ _ (res0 (.bl _))
    · cases hs'
theorem so_nin {K : PySem.W.Frag} : So2 K (rIn K true) D.nin := by
  intro Hd H x y d e w Q s hx hy hs q
  unfold D.nin at hs
  cases h : e.items with
  | none => rw [h] at hs; cases hs
  | some ds =>
    rw [h] at hs
    have hs' : (if d.flat = true ∧ ds.all D.flat = true then some (W.cl (.bl (!ds.any fun e => D.eqF e d))) else none) = some w := hs
    split at hs'
    · rename_i f
      cases hs'
      obtain ⟨a, vs, rfl, h1, h2⟩ := vw_items s hy h
      have hx' := flat_vw hx f.1
      refine ⟨a, vs, rfl, h1, flat_ok hx' f.1, all_flat h2 f.2, ?_⟩
      show Q (.bl (if true = true then !inV x vs else inV x vs)) H
      rw [if_pos rfl, inV_ok hx' f.1 h2 f.2]
      exact q _ _ (res0 (.bl _))
    · cases hs'
/-! ### s[i], s[i:j] -/
def D.ix : D → D → Option W
  | .tup xs, .int i => (atI xs i).map .cl
  | .lst xs, .int i => (atI xs i).map .cl
  | .str z, .int i => if z.length ≤ sizeLine then (atI z.cps.toList i).map fun c => .cl (.str ⟨#[c]⟩) else none
  | _, _ => none
theorem at_ok {K : PySem.W.Frag} {H : Hp} {vs : List V} {ds : List D} {i : Int} {d : D} (h : DvAll K H vs ds) (e : atI ds i = some d) : ∃ v, atI vs i = some v ∧ Dv K H v d := by
  unfold atI at e ⊢
  rw [h.len]
  cases q : ixN ds.length i with
  | none => rw [q] at e; cases e
  | some j =>
    rw [q] at e
    exact h.get e
theorem so_ix {K : PySem.W.Frag} : So2 K (rIx K) D.ix := by
  intro Hd H x y d e w Q s hx hy hs q
  unfold D.ix at hs
  split at hs
  · rename_i xs i
    cases h : atI xs i with
    | none => rw [h] at hs; cases hs
    | some d' =>
      rw [h] at hs
      cases hs
      obtain ⟨a, vs, rfl, h1, _, h2⟩ := vw_tup s hx
      obtain ⟨v, e1, hv⟩ := at_ok h2 h
      exact .inr (.inl ⟨a, vs, i, v, rfl, vw_int hy, h1, e1, q _ _ (res0 hv)⟩)
  · rename_i xs i
    cases h : atI xs i with
    | none => rw [h] at hs; cases hs
    | some d' =>
      rw [h] at hs
      cases hs
      obtain ⟨a, vs, rfl, h1, h2⟩ := hx
      obtain ⟨v, e1, hv⟩ := at_ok h2 h
      exact .inl ⟨a, vs, i, v, rfl, vw_int hy, h1, e1, q _ _ (res0 hv)⟩
  · rename_i z i
    split at hs
    · rename_i hz
      cases h : atI z.cps.toList i with
      | none => rw [h] at hs; cases hs
      | some c =>
        rw [h] at hs
        cases hs
        exact .inr (.inr ⟨z, i, c, vw_str hx, vw_int hy, hz, h, q _ _ (res0 (.str _))⟩)
    · cases hs
  · cases hs
def cutD (xs : List D) (lo hi : Option Int) : List D := (xs.drop (HT.sIx xs.length 0 lo)).take (HT.sIx xs.length xs.length hi - HT.sIx xs.length 0 lo)
def D.sl : D → Option Int → Option Int → Option W
  | .tup xs, lo, hi => some (.cl (.tup (cutD xs lo hi)))
  | .lst xs, lo, hi => some (.fr (cutD xs lo hi))
  | .str z, lo, hi => if z.length ≤ sizeLine then some (.cl (.str (cutS z lo hi))) else none
  | _, _, _ => none
theorem cut_ok {K : PySem.W.Frag} {H : Hp} {vs : List V} {ds : List D} {lo hi : Option Int} (h : DvAll K H vs ds) : DvAll K H (cutV vs lo hi) (cutD ds lo hi) := by
  unfold cutV cutD
  rw [h.len]
  exact (h.drop _).take _
def rSlD (K : PySem.W.Frag) : V → Option Int → Option Int → Hp → VK → Prop := fun x lo hi H Q => rSlA K x lo hi H Q ∨ (fun x lo hi H Q => rSlL K x lo hi H Q ∨ rSlS x lo hi H Q) x lo hi H Q
theorem sl_D {X : Cx} : SlR X (rSlD X.K) := SlR.or sl_tupA (SlR.or sl_list sl_str)
theorem so_sl {K : PySem.W.Frag} : SoS K (rSlD K) D.sl := by
  intro Hd H x d lo hi w Q s hx hs q
  unfold D.sl at hs
  split at hs
  · cases hs
    rename_i xs
    obtain ⟨a, vs, rfl, h1, h1', h2⟩ := vw_tup s hx
    refine .inl ⟨a, vs, rfl, h1, fun e => ?_, fun _ p hp => q _ _ (resT (s := s) hp (cut_ok h2))⟩
    refine q _ _ (res0 (.tup h1' ?_))
    have z : cutD xs lo hi = xs := by
      unfold cutD
      rw [← h2.len, e.1, e.2, h2.len]
      simp
    rw [z]
    exact h2
  · cases hs
    obtain ⟨a, vs, rfl, h1, h2⟩ := hx
    exact .inr (.inl ⟨a, vs, rfl, h1, fun p hp => q _ _ (resF hp (cut_ok h2))⟩)
  · split at hs
    · cases hs
      exact .inr (.inr ⟨_, vw_str hx, by assumption, q _ _ (res0 (.str _))⟩)
    · cases hs
  · cases hs
/-! ### built-in functions -/
section
variable {K : PySem.W.Frag}
theorem pr1 {Hd H : Hp} {vs : List V} {d : D} (h : Paired (Vw K Hd H) vs [d]) : ∃ v, vs = [v] ∧ Vw K Hd H v d := by
  cases h with
  | cons a b => cases b; exact ⟨_, rfl, a⟩
theorem pr2 {Hd H : Hp} {vs : List V} {d e : D} (h : Paired (Vw K Hd H) vs [d, e]) : ∃ v u, vs = [v, u] ∧ Vw K Hd H v d ∧ Vw K Hd H u e := by
  cases h with
  | cons a b => cases b with | cons a' b' => cases b'; exact ⟨_, _, rfl, a, a'⟩
def D.len : List D → Option W
  | [.tup xs] => some (.cl (.int xs.length))
  | [.lst xs] => some (.cl (.int xs.length))
  | [.str z] => if z.length ≤ sizeLine then some (.cl (.int z.length)) else none
  | _ => none
def rLenD (K : PySem.W.Frag) : List V → Hp → VK → Prop := orN (fun xs H Q => ∃ p ys, xs = [.ref p] ∧ (SqL K H p ys ∨ SqT K H p ys) ∧ Q (.int ys.length) H) (fun xs H Q => ∃ z, xs = [.str z] ∧ z.length ≤ sizeLine ∧ Q (.int z.length) H)
theorem cr_lenD {X : Cx} : CallR X (.builtin "len") (rLenD X.K) := CallR.or call_len_seq call_len_str
theorem so_len : SoN K (rLenD K) D.len := by
  intro Hd H xs ds w Q s hx hs q
  unfold D.len at hs
  split at hs
  · cases hs
    obtain ⟨v, rfl, hv⟩ := pr1 hx
    obtain ⟨a, vs, rfl, h1, _, h2⟩ := vw_tup s hv
    refine .inl ⟨a, vs, rfl, .inr h1, ?_⟩
    rw [h2.len]
    exact q _ _ (res0 (.int _))
  · cases hs
    obtain ⟨v, rfl, hv⟩ := pr1 hx
    obtain ⟨a, vs, rfl, h1, h2⟩ := hv
    refine .inl ⟨a, vs, rfl, .inl h1, ?_⟩
    rw [h2.len]
    exact q _ _ (res0 (.int _))
  · split at hs
    · cases hs
      obtain ⟨v, rfl, hv⟩ := pr1 hx
      rw [vw_str hv]
      exact .inr ⟨_, rfl, by assumption, q _ _ (res0 (.int _))⟩
    · cases hs
  · cases hs
/-- sum -/
def D.sum : List D → Option W
  | [.lst xs] => (dInts xs).map fun ns => .cl (.int ns.sum)
  | [.tup xs] => (dInts xs).map fun ns => .cl (.int ns.sum)
  | _ => none
def rSumT (K : PySem.W.Frag) : List V → Hp → VK → Prop := fun vs H Q => ∃ (a : Addr) (ns : List Int), vs = [V.ref a] ∧ SqT K H a (ns.map V.int) ∧ Q (.int ns.sum) H
theorem cr_sumT {X : Cx} (hc : X.calm = true) : CallR X (.builtin "sum") (rSumT X.K) := by
  intro pins s σ H vs us Q I r h
  obtain ⟨a, ns, rfl, hs, q⟩ := h
  obtain ⟨its, rv, ht, _⟩ := I.tuple hs
  rw [Vals.ref1 r]
  have hi := rv.ints
  obtain ⟨xs, hx⟩ := hi.allInts.items
  have hn : numsOf (intItems xs).toList = ns := by rw [← hx]; exact hi.numsOf
  rw [nums_intItems] at hn
  have ht' : s.heap.IsTuple a its.toArray := ht
  rw [hx] at ht'
  refine PySem.W.ktm_sumG (I.ok.hd hc) ht' fun h' tk t' hk => ?_
  refine ⟨.int ns.sum, H, I.kept (t' := tk) hk, ⟨t', ?_⟩, q⟩
  rw [preSum_eq, List.take_of_length_le (by simp), hn]
theorem so_sum : SoN K (orN (rSum K) (rSumT K)) D.sum := by
  intro Hd H xs ds w Q s hx hs q
  unfold D.sum at hs
  split at hs
  · rename_i xs'
    cases h : dInts xs' with
    | none => rw [h] at hs; cases hs
    | some ns =>
      rw [h] at hs
      cases hs
      obtain ⟨v, rfl, hv⟩ := pr1 hx
      obtain ⟨a, vs, rfl, h1, h2⟩ := hv
      rw [dInts_of h] at h2
      rw [dv_ints h2] at h1
      exact .inl ⟨a, ns, rfl, h1, q _ _ (res0 (.int _))⟩
  · rename_i xs'
    cases h : dInts xs' with
    | none => rw [h] at hs; cases hs
    | some ns =>
      rw [h] at hs
      cases hs
      obtain ⟨v, rfl, hv⟩ := pr1 hx
      obtain ⟨a, vs, rfl, h1, _, h2⟩ := vw_tup s hv
      rw [dInts_of h] at h2
      rw [dv_ints h2] at h1
      exact .inr ⟨a, ns, rfl, h1, q _ _ (res0 (.int _))⟩
  · cases hs
/-- the greatest, the least -/
def maxL : Int → List Int → Int
  | a, [] => a
  | a, b :: r => maxL (if a < b then b else a) r
def minL : Int → List Int → Int
  | a, [] => a
  | a, b :: r => minL (if b < a then b else a) r
theorem maxL_mem : ∀ (r : List Int) (a : Int), maxL a r ∈ a :: r
  | [], a => by simp [maxL]
  | b :: r, a => by
    have h := maxL_mem r (if a < b then b else a)
    rw [maxL]
    rcases List.mem_cons.mp h with h | h
    · rw [h]; split <;> simp
    · exact List.mem_cons_of_mem _ (List.mem_cons_of_mem _ h)
theorem le_maxL : ∀ (r : List Int) (a x : Int), x ∈ a :: r → x ≤ maxL a r
  | [], a, x, h => by simp at h; rw [h, maxL]; exact Int.le_refl _
  | b :: r, a, x, h => by
    rw [maxL]
    have h0 := le_maxL r (if a < b then b else a) _ List.mem_cons_self
    rcases List.mem_cons.mp h with h | h
    · subst h
      by_cases c : x < b
      · rw [if_pos c] at h0 ⊢; omega
      · rw [if_neg c] at h0 ⊢; exact h0
    · rcases List.mem_cons.mp h with h | h
      · subst h
        by_cases c : a < x
        · rw [if_pos c] at h0 ⊢; exact h0
        · rw [if_neg c] at h0 ⊢; omega
      · exact le_maxL r _ x (List.mem_cons_of_mem _ h)
theorem minL_mem : ∀ (r : List Int) (a : Int), minL a r ∈ a :: r
  | [], a => by simp [minL]
  | b :: r, a => by
    have h := minL_mem r (if b < a then b else a)
    rw [minL]
    rcases List.mem_cons.mp h with h | h
    · rw [h]; split <;> simp
    · exact List.mem_cons_of_mem _ (List.mem_cons_of_mem _ h)
theorem minL_le : ∀ (r : List Int) (a x : Int), x ∈ a :: r → minL a r ≤ x
  | [], a, x, h => by simp at h; rw [h, minL]; exact Int.le_refl _
  | b :: r, a, x, h => by
    rw [minL]
    have h0 := minL_le r (if b < a then b else a) _ List.mem_cons_self
    rcases List.mem_cons.mp h with h | h
    · subst h
      by_cases c : b < x
      · rw [if_pos c] at h0 ⊢; omega
      · rw [if_neg c] at h0 ⊢; exact h0
    · rcases List.mem_cons.mp h with h | h
      · subst h
        by_cases c : x < a
        · rw [if_pos c] at h0 ⊢; exact h0
        · rw [if_neg c] at h0 ⊢; omega
      · exact minL_le r _ x (List.mem_cons_of_mem _ h)
def maxO : List Int → Option Int
  | [] => none
  | a :: r => some (maxL a r)
def minO : List Int → Option Int
  | [] => none
  | a :: r => some (minL a r)
def D.max : List D → Option W
  | [.lst xs] => (dInts xs).bind fun ns => (maxO ns).map fun m => .cl (.int m)
  | [.int a, .int b] => some (.cl (.int (if b > a then b else a)))
  | _ => none
def D.min : List D → Option W
  | [.lst xs] => (dInts xs).bind fun ns => (minO ns).map fun m => .cl (.int m)
  | [.int a, .int b] => some (.cl (.int (if b < a then b else a)))
  | _ => none
theorem so_max : SoN K (orN (rMax K) (fun xs H Q => ∃ i j, xs = [.int i, .int j] ∧ Q (.int (if j > i then j else i)) H)) D.max := by
  intro Hd H xs ds w Q s hx hs q
  unfold D.max at hs
  split at hs
  · rename_i xs'
    cases h : dInts xs' with
    | none => rw [h] at hs; cases hs
    | some ns =>
      rw [h] at hs
      cases ns with
      | nil => cases hs
      | cons n r =>
        cases hs
        obtain ⟨v, rfl, hv⟩ := pr1 hx
        obtain ⟨a, vs, rfl, h1, h2⟩ := hv
        rw [dInts_of h] at h2
        rw [dv_ints h2] at h1
        refine .inl ⟨a, n :: r, rfl, h1, by simp, fun m hm hle => ?_⟩
        have e : m = maxL n r := Int.le_antisymm (le_maxL r n m hm) (hle _ (maxL_mem r n))
        rw [e]
        exact q _ _ (res0 (.int _))
  · cases hs
    obtain ⟨v, u, rfl, h1, h2⟩ := pr2 hx
    exact .inr ⟨_, _, by rw [vw_int h1, vw_int h2], q _ _ (res0 (.int _))⟩
  · cases hs
theorem so_min : SoN K (orN (rMin K) (fun xs H Q => ∃ i j, xs = [.int i, .int j] ∧ Q (.int (if j < i then j else i)) H)) D.min := by
  intro Hd H xs ds w Q s hx hs q
  unfold D.min at hs
  split at hs
  · rename_i xs'
    cases h : dInts xs' with
    | none => rw [h] at hs; cases hs
    | some ns =>
      rw [h] at hs
      cases ns with
      | nil => cases hs
      | cons n r =>
        cases hs
        obtain ⟨v, rfl, hv⟩ := pr1 hx
        obtain ⟨a, vs, rfl, h1, h2⟩ := hv
        rw [dInts_of h] at h2
        rw [dv_ints h2] at h1
        refine .inl ⟨a, n :: r, rfl, h1, by simp, fun m hm hle => ?_⟩
        have e : m = minL n r := Int.le_antisymm (hle _ (minL_mem r n)) (minL_le r n m hm)
        rw [e]
        exact q _ _ (res0 (.int _))
  · cases hs
    obtain ⟨v, u, rfl, h1, h2⟩ := pr2 hx
    exact .inr ⟨_, _, by rw [vw_int h1, vw_int h2], q _ _ (res0 (.int _))⟩
  · cases hs
theorem cr_maxD {X : Cx} (hc : X.calm = true) : CallR X (.builtin "max") (orN (rMax X.K) (fun xs H Q => ∃ i j, xs = [.int i, .int j] ∧ Q (.int (if j > i then j else i)) H)) := CallR.or (cr_max hc) (call_max2 hc)
theorem cr_minD {X : Cx} (hc : X.calm = true) : CallR X (.builtin "min") (orN (rMin X.K) (fun xs H Q => ∃ i j, xs = [.int i, .int j] ∧ Q (.int (if j < i then j else i)) H)) := CallR.or (cr_min hc) (call_min2 hc)
theorem cr_sumD {X : Cx} (hc : X.calm = true) : CallR X (.builtin "sum") (orN (rSum X.K) (rSumT X.K)) := CallR.or (cr_sum hc) (cr_sumT hc)
def D.abs : List D → Option W
  | [.int i] => some (.cl (.int (if i < 0 then -i else i)))
  | _ => none
theorem so_abs : SoN K (fun xs H Q => ∃ i, xs = [.int i] ∧ Q (.int (if i < 0 then -i else i)) H) D.abs := by
  intro Hd H xs ds w Q s hx hs q
  unfold D.abs at hs
  split at hs
  · cases hs
    obtain ⟨v, rfl, hv⟩ := pr1 hx
    exact ⟨_, by rw [vw_int hv], q _ _ (res0 (.int _))⟩
  · cases hs
def D.toInt : List D → Option W
  | [.int i] => some (.cl (.int i))
  | [.bl b] => some (.cl (.int (if b then 1 else 0)))
  | _ => none
theorem so_int : SoN K (fun xs H Q => (∃ i, xs = [.int i] ∧ Q (.int i) H) ∨ ∃ k, xs = [.bl k] ∧ Q (.int (if k then 1 else 0)) H) D.toInt := by
  intro Hd H xs ds w Q s hx hs q
  unfold D.toInt at hs
  split at hs
  · cases hs
    obtain ⟨v, rfl, hv⟩ := pr1 hx
    exact .inl ⟨_, by rw [vw_int hv], q _ _ (res0 (.int _))⟩
  · cases hs
    obtain ⟨v, rfl, hv⟩ := pr1 hx
    exact .inr ⟨_, by rw [vw_bl hv], q _ _ (res0 (.int _))⟩
  · cases hs
def D.toList : List D → Option W
  | [.tup xs] => some (.fr xs)
  | [.lst xs] => some (.fr xs)
  | _ => none
theorem so_list : SoN K (fun xs H Q => ∃ p ys, xs = [.ref p] ∧ (SqL K H p ys ∨ SqT K H p ys) ∧ ∀ l, H l = none → Q (.ref l) (upd H l (.lst ys))) D.toList := by
  intro Hd H xs ds w Q s hx hs q
  unfold D.toList at hs
  split at hs
  · cases hs
    obtain ⟨v, rfl, hv⟩ := pr1 hx
    obtain ⟨a, vs, rfl, h1, _, h2⟩ := vw_tup s hv
    exact ⟨a, vs, rfl, .inr h1, fun l hl => q _ _ (resF hl h2)⟩
  · cases hs
    obtain ⟨v, rfl, hv⟩ := pr1 hx
    obtain ⟨a, vs, rfl, h1, h2⟩ := hv
    exact ⟨a, vs, rfl, .inl h1, fun l hl => q _ _ (resF hl h2)⟩
  · cases hs
def D.toTup : List D → Option W
  | [.tup xs] => some (.cl (.tup xs))
  | [.lst xs] => some (.cl (.tup xs))
  | _ => none
theorem so_tuple : SoN K (fun xs H Q => ∃ p ys, xs = [.ref p] ∧ ((SqL K H p ys ∧ ∀ l, H l = none → Q (.ref l) (upd H l (.tup ys))) ∨ (SqT K H p ys ∧ Q (.ref p) H))) D.toTup := by
  intro Hd H xs ds w Q s hx hs q
  unfold D.toTup at hs
  split at hs
  · cases hs
    obtain ⟨v, rfl, hv⟩ := pr1 hx
    obtain ⟨a, vs, rfl, h1, h1', h2⟩ := vw_tup s hv
    exact ⟨a, vs, rfl, .inr ⟨h1, q _ _ (res0 (.tup h1' h2))⟩⟩
  · cases hs
    obtain ⟨v, rfl, hv⟩ := pr1 hx
    obtain ⟨a, vs, rfl, h1, h2⟩ := hv
    exact ⟨a, vs, rfl, .inl ⟨h1, fun l hl => q _ _ (resT (s := s) hl h2)⟩⟩
  · cases hs
def insI (a : Int) : List Int → List Int
  | [] => [a]
  | b :: r => if a ≤ b then a :: b :: r else b :: insI a r
def srtI : List Int → List Int
  | [] => []
  | a :: r => insI a (srtI r)
theorem insI_perm (a : Int) : ∀ l, (insI a l).Perm (a :: l)
  | [] => List.Perm.refl _
  | b :: r => by
    rw [insI]
    split
    · exact List.Perm.refl _
    · exact ((insI_perm a r).cons b).trans (List.Perm.swap a b r)
theorem srtI_perm : ∀ l, (srtI l).Perm l
  | [] => List.Perm.refl _
  | a :: r => (insI_perm a _).trans ((srtI_perm r).cons a)
theorem insI_up (a : Int) : ∀ l : List Int, l.Pairwise (· ≤ ·) → (insI a l).Pairwise (· ≤ ·)
  | [], _ => by simp [insI]
  | b :: r, h => by
    rw [insI]
    have h' := List.pairwise_cons.mp h
    split
    · rename_i c
      refine List.pairwise_cons.mpr ⟨fun x hx => ?_, h⟩
      rcases List.mem_cons.mp hx with e | hx
      · rw [e]; exact c
      · exact Int.le_trans c (h'.1 x hx)
    · rename_i c
      refine List.pairwise_cons.mpr ⟨fun x hx => ?_, insI_up a r h'.2⟩
      rcases List.mem_cons.mp ((insI_perm a r).mem_iff.mp hx) with e | hx
      · rw [e]; omega
      · exact h'.1 x hx
theorem srtI_up : ∀ l : List Int, (srtI l).Pairwise (· ≤ ·)
  | [] => List.Pairwise.nil
  | a :: r => insI_up a _ (srtI_up r)
theorem up_same : ∀ {l m : List Int}, l.Perm m → l.Pairwise (· ≤ ·) → m.Pairwise (· ≤ ·) → l = m
  | [], m, p, _, _ => (List.nil_perm.mp p).symm
  | a :: l, [], p, _, _ => absurd p.length_eq (by simp)
  | a :: l, b :: m, p, h, g => by
    have h' := List.pairwise_cons.mp h
    have g' := List.pairwise_cons.mp g
    have e : a = b := by
      have h1 : a ∈ b :: m := p.mem_iff.mp List.mem_cons_self
      have h2 : b ∈ a :: l := p.mem_iff.mpr List.mem_cons_self
      have l1 : b ≤ a := by
        rcases List.mem_cons.mp h1 with e | e
        · rw [e]; exact Int.le_refl _
        · exact g'.1 a e
      have l2 : a ≤ b := by
        rcases List.mem_cons.mp h2 with e | e
        · rw [e]; exact Int.le_refl _
        · exact h'.1 b e
      omega
    subst e
    rw [up_same (List.Perm.cons_inv p) h'.2 g'.2]
def D.sorted : List D → Option W
  | [.lst xs] => (dInts xs).map fun ns => .fr ((srtI ns).map .int)
  | _ => none
theorem so_sorted : SoN K (rSortedI K) D.sorted := by
  intro Hd H xs ds w Q s hx hs q
  unfold D.sorted at hs
  split at hs
  · rename_i xs'
    cases h : dInts xs' with
    | none => rw [h] at hs; cases hs
    | some ns =>
      rw [h] at hs
      cases hs
      obtain ⟨v, rfl, hv⟩ := pr1 hx
      obtain ⟨a, vs, rfl, h1, h2⟩ := hv
      rw [dInts_of h] at h2
      rw [dv_ints h2] at h1
      refine ⟨a, ns, rfl, h1, fun ns' p hp hu hn => ?_⟩
      have e : ns' = srtI ns := up_same (hp.trans (srtI_perm ns).symm) hu (srtI_up ns)
      rw [e]
      exact q _ _ (resF hn (dvI _))
  · cases hs
def D.all : List D → Option W
  | [.lst xs] => (dBls xs).map fun bs => .cl (.bl (bs.all id))
  | _ => none
def D.any : List D → Option W
  | [.lst xs] => (dBls xs).map fun bs => .cl (.bl (bs.any id))
  | _ => none
theorem so_all : SoN K (rAll K) D.all := by
  intro Hd H xs ds w Q s hx hs q
  unfold D.all at hs
  split at hs
  · rename_i xs'
    cases h : dBls xs' with
    | none => rw [h] at hs; cases hs
    | some ns =>
      rw [h] at hs
      cases hs
      obtain ⟨v, rfl, hv⟩ := pr1 hx
      obtain ⟨a, vs, rfl, h1, h2⟩ := hv
      rw [dBls_of h] at h2
      rw [dv_bls h2] at h1
      exact ⟨a, ns, rfl, h1, q _ _ (res0 (.bl _))⟩
  · cases hs
theorem so_any : SoN K (rAny K) D.any := by
  intro Hd H xs ds w Q s hx hs q
  unfold D.any at hs
  split at hs
  · rename_i xs'
    cases h : dBls xs' with
    | none => rw [h] at hs; cases hs
    | some ns =>
      rw [h] at hs
      cases hs
      obtain ⟨v, rfl, hv⟩ := pr1 hx
      obtain ⟨a, vs, rfl, h1, h2⟩ := hv
      rw [dBls_of h] at h2
      rw [dv_bls h2] at h1
      exact ⟨a, ns, rfl, h1, q _ _ (res0 (.bl _))⟩
  · cases hs
/-- isinstance of a built-in class -/
def D.tyn : D → Option String
  | .non => some "NoneType"
  | .bl _ => some "bool"
  | .int _ => some "int"
  | .str _ => some "str"
  | .tup _ => some "tuple"
  | .lst _ => some "list"
  | _ => none
inductive Tn where | int | bool | str | tuple | list
  deriving DecidableEq
def Tn.s : Tn → String
  | .int => "int" | .bool => "bool" | .str => "str" | .tuple => "tuple" | .list => "list"
def D.isT : D → Tn → Option Bool
  | .non, _ => some false
  | .bl _, .int => some true
  | .bl _, .bool => some true
  | .bl _, _ => some false
  | .int _, .int => some true
  | .int _, _ => some false
  | .str _, .str => some true
  | .str _, _ => some false
  | .tup _, .tuple => some true
  | .tup _, _ => some false
  | .lst _, .list => some true
  | .lst _, _ => some false
  | _, _ => none
def tnOf (n : String) : Option Tn := if n = "int" then some .int else if n = "bool" then some .bool else if n = "str" then some .str else if n = "tuple" then some .tuple else if n = "list" then some .list else none
theorem tnOf_eq {n : String} {t : Tn} (h : tnOf n = some t) : n = t.s := by
  unfold tnOf at h
  split at h
  · cases h; assumption
  · split at h
    · cases h; assumption
    · split at h
      · cases h; assumption
      · split at h
        · cases h; assumption
        · split at h
          · cases h; assumption
          · cases h
def D.isi : List D → Option W
  | [d, .ty n] => (tnOf n).bind fun t => (d.isT t).map fun b => .cl (.bl b)
  | _ => none
@[simp] theorem tnOf_int : tnOf "int" = some .int := by decide
@[simp] theorem tnOf_bool : tnOf "bool" = some .bool := by decide
@[simp] theorem tnOf_str : tnOf "str" = some .str := by decide
@[simp] theorem tnOf_tuple : tnOf "tuple" = some .tuple := by decide
@[simp] theorem tnOf_list : tnOf "list" = some .list := by decide
theorem tyx_of {Hd H : Hp} {v : V} {d : D} {n : String} (s : Same Hd H) (h : Vw K Hd H v d) (e : d.tyn = some n) : TyX K H v (.type n) := by
  cases d with
  | non => cases e; cases h; exact .base .non
  | bl b => cases e; cases h; exact .base (.bl b)
  | int i => cases e; cases h; exact .base (.int i)
  | str x => cases e; cases h; exact .base (.str x)
  | tup xs =>
    cases e
    obtain ⟨a, vs, rfl, h1, _⟩ := vw_tup s h
    rcases h1 with (h1 | ⟨o, h1⟩) | ⟨o, its, n, h1, hc, _⟩
    · exact .base (.tup h1)
    · exact .fTuple h1
    · exact .kTuple h1 hc
  | lst xs =>
    cases e
    obtain ⟨a, vs, rfl, h1, _⟩ := h
    rcases h1 with (h1 | ⟨o, h1⟩) | ⟨o, its, n, h1, hc, _⟩
    · exact .base (.lst h1)
    · exact .base (.frz h1)
    · exact .kList h1 hc
  | ref a => cases e
  | ty m => cases e
  | fn q => cases e
theorem kit_tab {d : D} {t : Tn} {b : Bool} (h : d.isT t = some b) : ∃ n, d.tyn = some n ∧ kitB n t.s = some b := by
  cases d with
  | non => cases t <;> (cases h; exact ⟨_, rfl, by decide +kernel⟩)
  | bl _ => cases t <;> (cases h; exact ⟨_, rfl, by decide +kernel⟩)
  | int _ => cases t <;> (cases h; exact ⟨_, rfl, by decide +kernel⟩)
  | str _ => cases t <;> (cases h; exact ⟨_, rfl, by decide +kernel⟩)
  | tup _ => cases t <;> (cases h; exact ⟨_, rfl, by decide +kernel⟩)
  | lst _ => cases t <;> (cases h; exact ⟨_, rfl, by decide +kernel⟩)
  | ref _ => cases t <;> cases h
  | ty _ => cases t <;> cases h
  | fn _ => cases t <;> cases h
theorem so_isi : SoN K (rIsi K) D.isi := by
  intro Hd H xs ds w Q s hx hs q
  unfold D.isi at hs
  split at hs
  · rename_i d n
    cases h1 : tnOf n with
    | none => rw [h1] at hs; cases hs
    | some t =>
      rw [h1] at hs
      have hs' : ((d.isT t).map fun b => W.cl (.bl b)) = some w := hs
      cases h2 : d.isT t with
      | none => rw [h2] at hs'; cases hs'
      | some b =>
        rw [h2] at hs'
        cases hs'
        obtain ⟨v, u, rfl, g1, g2⟩ := pr2 hx
        cases g2
        obtain ⟨m, e1, e2⟩ := kit_tab h2
        rw [tnOf_eq h1]
        exact ⟨v, .ty t.s, .type m, .type t.s, b, rfl, .ty _, tyx_of s g1 e1, kit_ty e2, q _ _ (res0 (.bl _))⟩
  · cases hs
/-- repr of lists and tuples -/
def D.repr : List D → Option W
  | [d] => if isDisp d then (py d).bind fun p => if p.showable = true ∧ p.hasDict = false ∧ p.depth ≤ 60 ∧ p.shown.length ≤ sizeLine then some (.cl (.str p.shown)) else none else none
  | _ => none
where isDisp : D → Bool
  | .lst _ => true
  | .tup _ => true
  | _ => false
def rRepr (K : PySem.W.Frag) : List V → Hp → VK → Prop := fun xs H Q => ∃ (a : Addr) (p : PyData), xs = [.ref a] ∧ Dp K H (.ref a) p ∧ p.showable = true ∧ p.hasDict = false ∧ p.depth ≤ 60 ∧ p.shown.length ≤ sizeLine ∧ Q (.str p.shown) H
theorem cr_repr {X : Cx} (hg : X.A.guards = some []) (hu : X.A.units + 64 < cLine) : CallR X (.builtin "repr") (rRepr X.K) := by
  intro pins s σ H vs us Q I r h
  obtain ⟨a, p, rfl, hp, h1, h2, h3, h4, q⟩ := h
  rw [Vals.ref1 r]
  obtain ⟨as, rd⟩ := Dp.reads I p _ _ hp rfl
  exact repr_of_reads' rd h1 (PyData.noDict_hsm h2) hg (by omega) (fun _ _ e => e) (fun h' u tk hk => ⟨.str p.shown, H, I.kept (t' := tk) hk, ⟨u, rfl⟩, q⟩) h4
theorem so_repr : SoN K (rRepr K) D.repr := by
  intro Hd H xs ds w Q s hx hs q
  unfold D.repr at hs
  split at hs
  · rename_i d
    split at hs
    · rename_i hd
      cases h : py d with
      | none => rw [h] at hs; cases hs
      | some p =>
        rw [h] at hs
        have hs' : (if p.showable = true ∧ p.hasDict = false ∧ p.depth ≤ 60 ∧ p.shown.length ≤ sizeLine then some (W.cl (.str p.shown)) else none) = some w := hs
        split at hs'
        · rename_i c
          cases hs'
          obtain ⟨v, rfl, hv⟩ := pr1 hx
          have hf := py_ok _ _ _ (hv.full s) h
          obtain ⟨a, rfl⟩ : ∃ a, v = .ref a := by
            cases d with
            | lst xs => obtain ⟨a, _, rfl, _⟩ := hv; exact ⟨a, rfl⟩
            | tup xs => obtain ⟨a, _, rfl, _⟩ := vw_tup s hv; exact ⟨a, rfl⟩
            | _ => cases hd
          exact ⟨a, p, rfl, hf, c.1, c.2.1, c.2.2.1, c.2.2.2, q _ _ (res0 (.str _))⟩
        · cases hs'
    · cases hs
  · cases hs
end
end Mw
set_option Elab.async false
set_option linter.all false
set_option maxRecDepth 100000
set_option maxHeartbeats 2000000
/-! Mw: defs and their promises (what runs around is known to hold no guard), calls, the law's own call -/
namespace Mw
open PySem PySem.Spec PyProof.Rows L2
/-- the def at f keeps sp wherever no guard runs -/
structure FnG (P : Program) (w : World) (K : PySem.W.Frag) (mg : Str → Option Value) (base : Heap) (k : Nat) (f : Addr) (fd : FuncData) (ps : List Str) (sp : Sp) : Prop where
  len : ∀ vs H Q E, sp vs H Q E → vs.length = ps.length
  run : ∀ (A : Around) (outer : List Env) (s : Shared) (H : Hp) (args : Args) (us : List Value) (vs : List V) (Q : VK) (E : XK), Room k A → A.guards = some [] → Env0 P w K mg base A outer s H → BindsTo s fd args (ps.zip us) → Vals vs us → sp vs H Q E →
    codeAny (model P w) A (.call (.ref f) args) (CR (L2.CX P w) outer P w H s Q E) s
theorem FnG.imp {P : Program} {w : World} {K : PySem.W.Frag} {mg : Str → Option Value} {base : Heap} {k : Nat} {f : Addr} {fd : FuncData} {ps : List Str} {sp sp' : Sp} (F : FnG P w K mg base k f fd ps sp)
    (h : ∀ vs H Q E, sp' vs H Q E → sp vs H Q E) : FnG P w K mg base k f fd ps sp' :=
  ⟨fun vs H Q E q => F.len vs H Q E (h _ _ _ _ q), fun A outer s H args us vs Q E hr hg he hb hv hs => F.run A outer s H args us vs Q E hr hg he hb hv (h _ _ _ _ hs)⟩
theorem FnG.up {P : Program} {w : World} {K : PySem.W.Frag} {mg : Str → Option Value} {base : Heap} {j k : Nat} {f : Addr} {fd : FuncData} {ps : List Str} {sp : Sp} (F : FnG P w K mg base j f fd ps sp) (h : j ≤ k) : FnG P w K mg base k f fd ps sp :=
  ⟨F.len, fun A outer s H args us vs Q E hr => F.run A outer s H args us vs Q E (hr.mono h)⟩
/-- a def by its body -/
theorem fnG_of {P : Program} {w : World} {K : PySem.W.Frag} {mg : Str → Option Value} {base : Heap} {x qual : Str} {params : Arguments} {body : List Stmt} {scope : Scope} {kws : List (Str × V)} {f : Addr} {fd : FuncData} {N ps : List Str} {k : Nat} {sp : Sp}
    (F : FunD K x qual params body scope [] kws f fd) (S : FnScope N ps scope) (len : ∀ vs H Q E, sp vs H Q E → vs.length = ps.length)
    (hbody : ∀ (cdv : Value) (A : Around) (outer : List Env) (s : Shared) (H : Hp) (vs : List V) (Q : VK) (E : XK), Room k (A.deeper (envOfC qual scope s.heap.objs.size f cdv)) → (A.deeper (envOfC qual scope s.heap.objs.size f cdv)).guards = some [] → sp vs H Q E →
      ∃ t, PSs (cxOf (L2.CX P w) P w K mg base N qual scope f cdv A outer s H E) body t ∧ t { nx := fun _ H' => Q .non H', rt := Q } (start N vs) H) : FnG P w K mg base (k + 1) f fd ps sp := by
  obtain ⟨oc, od, dV, kV, doc, pm, an, cdv, ct, osl, rfl, lk, hcd, _, _⟩ := F.ex
  refine ⟨len, fun A outer s H args us vs Q E hr hgd e0 hb r hsp => ?_⟩
  have hl := len _ _ _ _ hsp
  have hin : ∀ b o, base.get? b = some o → s.heap.get? b = some o := fun b o e => (e0.bs b o e).1
  have KX : K.In s.heap := e0.mod.kin.keeps hin
  have lim := e0.mod.nolimit.keeps hin
  refine codeAny_call_function hr.depth (KX _ _ lk) rfl S.co S.gen rfl (PySem.W.codeRec_of KX hcd) (hb _ _ _ _ ?_)
  refine wpAny_newFunctionEnv_cells S.kind (fun y hy => ?_) fun env he s1 x => ?_
  · have hm := (List.of_mem_zip (show (y.1, y.2) ∈ ps.zip us from hy)).1
    exact (S.par y.1 hm).imp id fun q => ⟨q, PySem.W.cellsFrom_some _ _ _ (.inl q)⟩
  subst he
  refine ⟨lim.keeps x.toInCall.keep, codeAny_func ?_⟩
  obtain ⟨t, ht, hq⟩ := hbody cdv A outer s H vs Q E (hr.deeper _) hgd hsp
  have I := inv_start (CX := L2.CX P w) (E := E) S hr.hd e0 hl r x
  refine wpAny_mono (ht.run [] s1 (start N vs) H _ I hq) (fun fl s' hs => ?_) fun e s' hs => hs
  cases fl with
  | ret u => exact let ⟨v, _, H', J, rv, q⟩ := hs; ⟨v, H', J.os, J.bare, J.base, J.hok, rv, q⟩
  | next => exact let ⟨_, H', J, q⟩ := hs; ⟨.non, H', J.os, J.bare, J.base, J.hok, rfl, q⟩
  | brk => exact let ⟨_, _, _, q⟩ := hs; q.elim
  | cont => exact let ⟨_, _, _, q⟩ := hs; q.elim
/-- a call of such a def, what it raises wished for at the caller's slots -/
def tCallG (sp : Sp) (E : Slots → XK) (t : TA) : TE := fun σ H Q => t σ H fun vs H1 => sp vs H1 Q (E σ)
section
variable {X : Cx} {k : Nat} {f : Addr} {fd : FuncData} {ps : List Str} {sp : Sp} {E : Slots → XK} {x : Str} {p pos : Pos} {e : Expr} {es : List Expr} {t : TA}
theorem runG {pins : List (Addr × Obj)} {σ : Slots} {H : Hp} {s : Shared} {Q : VK} {us : List Value} {vs : List V} (F : FnG X.prog X.w X.K X.mg X.base k f fd ps sp) (hr : Room k X.A) (hgd : X.A.guards = some []) (hb : Binds X.K fd ps []) (hx : PassesAt (L2.CX X.prog X.w) X σ (E σ))
    (I : Inv X pins σ H s) (r : Vals vs us) (h : sp vs H Q (E σ)) : wpAny (model X.prog X.w) X.A (call (.ref f) us) (EP X pins σ Q) X.xe s := by
  have b := hb s us I.kIn (by rw [List.append_nil, ← r.length]; exact F.len _ _ _ _ h)
  rw [List.append_nil] at b
  refine wpAny_call (codeAny_mono (F.run X.A X.stack s H ⟨us, []⟩ us vs Q (E σ) hr hgd I.env0 b r h) fun r s' hq => ?_)
  match r, hq with
  | .error e, hq => exact hx pins H s e s' I hq
  | .ok (.ret u), hq => exact I.after hq
theorem pe_callG (F : FnG X.prog X.w X.K X.mg X.base k f fd ps sp) (hr : Room k X.A) (hgd : X.A.guards = some []) (hg : Gl X x) (hm : X.mg x = some (.ref f)) (hk : PySem.W.keepIn X.K (.ref f) = true) (hb : Binds X.K fd ps []) (hx : ∀ σ, PassesAt (L2.CX X.prog X.w) X σ (E σ))
    (ha : PA X (e :: es) t) (hdb : (x == ("__debug__" : Str)) = false := by decide) (he : starEach (e :: es) X.env = (false, eval e X.env) :: starEach es X.env := by rfl) (hpl : (backTo pos (starEach es X.env)).any (·.1) = false := by rfl) :
    PE X (.Call (.Name x p) (e :: es) [] pos) (tCallG sp E t) :=
  ⟨fun pins s σ H Q I h => wpAny_Call_Name_kw (ld_glob I hg hm (PySem.W.callWith_K (h₀ := X.base) I.ok.mod.kin hk (thn (ha.run pos pins s σ H _ I h) fun us s1 ⟨vs, H1, I1, r, q⟩ => ⟨I1.kIn, runG F hr hgd hb (hx σ) I1 r q⟩) he hpl) hdb)⟩
/-- of a name of one's own, in slot i -/
theorem pe_callLG {i : Nat} (F : FnG X.prog X.w X.K X.mg X.base k f fd ps sp) (hr : Room k X.A) (hgd : X.A.guards = some []) (hN : X.N[i]? = some x) (hv : Vis X.env.scope x) (hk : PySem.W.keepIn X.K (.ref f) = true) (hb : Binds X.K fd ps []) (hx : ∀ σ, PassesAt (L2.CX X.prog X.w) X σ (E σ))
    (ha : PA X (e :: es) t) (hdb : (x == ("__debug__" : Str)) = false := by decide) (hcd : (x == ("__classdict__" : Str)) = false := by decide) (he : starEach (e :: es) X.env = (false, eval e X.env) :: starEach es X.env := by rfl) (hpl : (backTo pos (starEach es X.env)).any (·.1) = false := by rfl) :
    PE X (.Call (.Name x p) (e :: es) [] pos) (fun σ H Q => σ[i]? = some (some (.ref f)) ∧ tCallG sp E t σ H Q) := by
  refine ⟨fun pins s σ H Q I h => ?_⟩
  obtain ⟨hs, ht⟩ := h
  refine wpAny_Call_Name_kw (thn ((pe_var (pos := p) hN hv hdb hcd).run pins s σ H (fun v H1 => v = .ref f ∧ H1 = H) I ⟨.ref f, hs, rfl, rfl⟩) fun u s1 ⟨v, H1, I1, r1, q1⟩ => ?_)
  obtain ⟨rfl, rfl⟩ := q1
  cases r1
  exact PySem.W.callWith_K (h₀ := X.base) I.ok.mod.kin hk (thn (ha.run pos pins s1 σ _ _ I1 ht) fun us s2 ⟨vs, H2, I2, r, q⟩ => ⟨I2.kIn, runG F hr hgd hb (hx σ) I2 r q⟩) he hpl
end
/-! ### promises on data -/
/-- how a def ends, told of data -/
inductive RF where
  | ret (w : W) | ex (e : Exn) | no
/-- the value handed back: O, what the caller hides; H ahead, H' behind -/
def RvOk (K : PySem.W.Frag) (O : Addr → Prop) (w : W) (v : V) (H H' : Hp) : Prop := match w with
  | .cl d => Dv K (hid O H') v d
  | .fr ds => ∃ l xs, v = .ref l ∧ H l = none ∧ H' l = some (.lst xs) ∧ DvAll K (hid (fun a => O a ∨ a = l) H') xs ds
  | .bo _ => False
/-- a def that changes nothing that stood -/
def SpP (K : PySem.W.Frag) (ca : Str → Addr) (n : Nat) (f : List D → RF) : Sp := fun vs H Q E => ∃ (O : Addr → Prop) (ds : List D), vs.length = n ∧ (∀ a, O a → ∃ o, H a = some o ∧ nt o = true) ∧ DvAll K (hid O H) vs ds ∧
  match f ds with
  | .ret w => ∀ v H', Same H H' → RvOk K O w v H H' → Q v H'
  | .ex e => ∀ cls d H', Same H H' → ExRel K (hid O H') ca e cls d H' → E cls d H'
  | .no => False
mutual
/-- no list within -/
def D.pure : D → Bool
  | .lst _ => false
  | .tup xs => D.pures xs
  | _ => true
def D.pures : List D → Bool
  | [] => true
  | x :: xs => x.pure && D.pures xs
end
section
variable {K : PySem.W.Frag}
theorem t_hide {O : Addr → Prop} {H : Hp} (hO : ∀ a, O a → ∃ o, H a = some o ∧ nt o = true) {a : Addr} {xs : List V} (h : SqT K H a xs) : SqT K (hid O H) a xs := by
  have no : ∀ u, H a = some u → nt u = false → ¬ O a := fun u e n z => by
    obtain ⟨o, e', n'⟩ := hO a z
    rw [e] at e'
    cases e'
    rw [n] at n'
    cases n'
  rcases h with (h | ⟨o, h⟩) | h
  · exact .inl (.inl (hid_some.mpr ⟨no _ h rfl, h⟩))
  · exact .inl (.inr ⟨o, hid_some.mpr ⟨no _ h rfl, h⟩⟩)
  · exact .inr h
mutual
theorem Dv.hide {O : Addr → Prop} {H : Hp} (hO : ∀ a, O a → ∃ o, H a = some o ∧ nt o = true) : ∀ (d : D) (v : V), Dv K H v d → d.pure = true → Dv K (hid O H) v d
  | .non, _, h, _ => by cases h; exact .non
  | .bl _, _, h, _ => by cases h; exact .bl _
  | .int _, _, h, _ => by cases h; exact .int _
  | .str _, _, h, _ => by cases h; exact .str _
  | .tup ds, _, h, e => by
    cases h with
    | tup hs ha => exact .tup (t_hide hO hs) (DvAll.hide hO ds _ ha (by rw [D.pure] at e; exact e))
  | .lst ds, _, h, e => by rw [D.pure] at e; cases e
  | .ref _, _, h, _ => by cases h; exact .ref _
  | .ty _, _, h, _ => by cases h; exact .ty _
  | .fn q, _, h, _ => by
    cases h with
    | fn h1 h2 =>
      have no : ∀ {a : Addr} {u : HO}, H a = some u → nt u = false → ¬ O a := fun {a u} e n z => by
        obtain ⟨o, e', n'⟩ := hO a z
        rw [e] at e'
        cases e'
        rw [n] at n'
        cases n'
      exact .fn (hid_some.mpr ⟨no h1 rfl, h1⟩) (hid_some.mpr ⟨no h2 rfl, h2⟩)
theorem DvAll.hide {O : Addr → Prop} {H : Hp} (hO : ∀ a, O a → ∃ o, H a = some o ∧ nt o = true) : ∀ (ds : List D) (vs : List V), DvAll K H vs ds → D.pures ds = true → DvAll K (hid O H) vs ds
  | [], _, h, _ => by cases h; exact .nil
  | d :: ds, _, h, e => by
    cases h with
    | cons h1 h2 =>
      rw [D.pures, Bool.and_eq_true] at e
      exact .cons (Dv.hide hO d _ h1 e.1) (DvAll.hide hO ds _ h2 e.2)
end
end
/-- the arguments as data; whether a slot's list is among them -/
def hasBo : List W → Bool
  | [] => false
  | .bo _ :: _ => true
  | _ :: r => hasBo r
/-- behind a call; bo: a slot's list was handed in, so nothing handed back may be it -/
def callFin (bo : Bool) (r : RF) (Γ : Gam) : R (W × Gam) := match r with
  | .ret w => match w with
    | .bo _ => .no
    | .cl d => match bo with
      | false => .ok (.cl d, Γ)
      | true => if d.pure = true then .ok (.cl d, Γ) else .no
    | .fr ds => match bo with
      | false => .ok (.fr ds, Γ)
      | true => .no
  | .ex e => match bo with
    | false => .ex e Γ
    | true => if e.fields.isEmpty = true then .ex e Γ else .no
  | .no => .no
def callP (f : List D → RF) (ms : Gam → R (List W × Gam)) : M := fun Γ => (ms Γ).bind fun p => match vws p.2 p.1 with
  | none => .no
  | some ds => callFin (hasBo p.1) (f ds) p.2
theorem ex_nil {K : PySem.W.Frag} {Hd Hd' : Hp} {ca : Str → Addr} {e : Exn} {cls : Value} {d : Option Addr} {H H' : Hp} (hf : e.fields = []) (h : ExRel K Hd ca e cls d H) : ExRel K Hd' ca e cls d H' := by
  unfold ExRel at h ⊢
  rw [hf] at h ⊢
  exact h
section
variable {K : PySem.W.Frag} {ca : Str → Addr} {Wx : WX} {n : Nat} {f : List D → RF} {t : TA} {ms : Gam → R (List W × Gam)}
theorem vws_dv {c : Fx} {T : Addr → HO → Prop} {Γ : Gam} {σ : Slots} {H : Hp} : ∀ {ws : List W} {vs : List V} {ds : List D}, Paired (fun w v => HvOk K (hid (Oc c T Γ σ) H) w v Γ σ) ws vs → vws Γ ws = some ds → hasBo ws = false → DvAll K (hid (Oc c T Γ σ) H) vs ds
  | _, _, ds, .nil, e, _ => by
    have e' : some [] = some ds := e
    cases e'
    exact .nil
  | w :: ws, _, ds, .cons h t, e, nb => by
    unfold vws at e
    cases w with
    | bo i => cases nb
    | fr xs => exact h.elim
    | cl d =>
      cases e2 : vws Γ ws with
      | none => rw [e2] at e; cases e
      | some ds' =>
        rw [e2] at e
        cases e
        exact .cons h (vws_dv t e2 nb)
theorem paired_len {α β : Type} {R : α → β → Prop} {xs : List α} {ys : List β} (h : Paired R xs ys) : xs.length = ys.length := Paired.length h
theorem vws_full {c : Fx} {T : Addr → HO → Prop} {Γ : Gam} {σ : Slots} {H : Hp} (ok : EnvOk K c T Γ σ H) {ws : List W} {vs : List V} {ds : List D} (h : Paired (fun w v => HvOk K (hid (Oc c T Γ σ) H) w v Γ σ) ws vs) (e : vws Γ ws = some ds) : DvAll K H vs ds := by
  have q := vws_ok ok h e
  clear h e
  induction q with
  | nil => exact .nil
  | cons a b ih => exact .cons (a.full hid_sub) ih
theorem hid_nothing {H : Hp} : hid (fun _ => False) H = H := by
  funext a
  unfold hid
  rw [if_neg (fun z => z)]
theorem rv_ok {c : Fx} {T : Addr → HO → Prop} {Γ : Gam} {σ : Slots} {Hb H H' : Hp} {w : W} {v : V} (ok : EnvOk K c T Γ σ H) (sb : Same Hb (hid (Oc c T Γ σ) H)) (s : Same H H') (h : RvOk K (Oc c T Γ σ) w v H H') : EvOk K c T w v Γ σ H' ∧ Same Hb (hid (Ox c T w v Γ σ) H') := by
  cases w with
  | cl d => exact ⟨⟨ok.same s, h⟩, Ox.cl (sb.trans (hid_mono s fun _ z => z))⟩
  | bo i => exact h.elim
  | fr ds =>
    obtain ⟨l, xs, rfl, hl, hl', ha⟩ := h
    refine ⟨⟨l, xs, rfl, hl', ok.new0 hl, ok.new hl, ok.apart s hl hl', ?_⟩, Ox.fr sb hl s⟩
    refine ha.mono (hid_mono (Same.refl _) fun a z => ?_)
    rcases z with z | ⟨u, z | ⟨z, _⟩⟩ | z
    · exact .inl (.inl z)
    · exact .inl (.inr (.inl ⟨u, z⟩))
    · exact .inr z
    · exact .inl (.inr (.inr z))
theorem ce_callP (ha : Ca K ca Wx t ms) (hn : ∀ ds, f ds ≠ .no → ds.length = n) : Ce K ca Wx (tCallG (SpP K ca n f) (WE Wx) t) (callP f ms) := by
  intro c T Γ σ H Q ok p
  refine ha c T Γ σ H _ ok ((Pst.bind p).imp fun q p vs H1 ok1 hv s1 => ?_)
  cases e1 : vws q.2 q.1 with
  | none => rw [e1] at p; exact p.elim
  | some ds =>
    rw [e1] at p
    have p1 : Pst K ca c T (hid (Oc c T Γ σ) H) Wx (callFin (hasBo q.1) (f ds) q.2) (QE K c T (hid (Oc c T Γ σ) H) σ Q) := p
    have full := vws_full ok1 hv e1
    have step : ∀ {H' : Hp}, Same H1 H' → Same (hid (Oc c T Γ σ) H) (hid (Oc c T q.2 σ) H') := fun s => s1.trans (hid_mono s fun _ z => z)
    cases ef : f ds with
    | no => rw [ef] at p1; exact p1.elim
    | ret w =>
      have hlen : vs.length = n := by rw [full.len]; exact hn ds (by rw [ef]; exact fun z => nomatch z)
      rw [ef] at p1
      cases hb : hasBo q.1 with
      | false =>
        rw [hb] at p1
        refine ⟨Oc c T q.2 σ, ds, hlen, ok1.there, vws_dv hv e1 hb, ?_⟩
        rw [ef]
        intro v H' s r
        cases w with
        | bo i => exact p1.elim
        | cl d => exact let ⟨a, b⟩ := rv_ok ok1 s1 s r; p1 v H' a b
        | fr d => exact let ⟨a, b⟩ := rv_ok ok1 s1 s r; p1 v H' a b
      | true =>
        rw [hb] at p1
        refine ⟨fun _ => False, ds, hlen, fun _ z => z.elim, by rw [hid_nothing]; exact full, ?_⟩
        rw [ef]
        intro v H' s r
        cases w with
        | bo i => exact p1.elim
        | fr d => exact p1.elim
        | cl d =>
          have r' : Dv K (hid (fun _ => False) H') v d := r
          rw [hid_nothing] at r'
          simp only [callFin] at p1
          split at p1
          · rename_i hd
            have ok2 := ok1.same s
            exact p1 v H' ⟨ok2, Dv.hide ok2.there d v r' hd⟩ (Ox.cl (step s))
          · exact p1.elim
    | ex e =>
      have hlen : vs.length = n := by rw [full.len]; exact hn ds (by rw [ef]; exact fun z => nomatch z)
      rw [ef] at p1
      cases hb : hasBo q.1 with
      | false =>
        rw [hb] at p1
        refine ⟨Oc c T q.2 σ, ds, hlen, ok1.there, vws_dv hv e1 hb, ?_⟩
        rw [ef]
        exact fun cls d H' s r => p1 cls d σ H' (ok1.same s) (step s) r
      | true =>
        rw [hb] at p1
        simp only [callFin] at p1
        refine ⟨fun _ => False, ds, hlen, fun _ z => z.elim, by rw [hid_nothing]; exact full, ?_⟩
        rw [ef]
        intro cls d H' s r
        split at p1
        · rename_i hf
          exact p1 cls d σ H' (ok1.same s) (step s) (ex_nil (List.isEmpty_iff.mp hf) r)
        · exact p1.elim
end
section
variable {X : Cx} {ca : Str → Addr} {Wx : WX} {k n : Nat} {a : Addr} {fd : FuncData} {ps : List Str} {f : List D → RF} {x : Str} {p pos : Pos} {e : Expr} {es : List Expr} {ms : Gam → R (List W × Gam)}
/-- f(..) of a def of the module that changes nothing -/
theorem x_call (F : FnG X.prog X.w X.K X.mg X.base k a fd ps (SpP X.K ca n f)) (hn : ∀ ds, f ds ≠ .no → ds.length = n) (hr : Room k X.A) (hgd : X.A.guards = some []) (tk : Takes X Wx) (hg : Gl X x) (hm : X.mg x = some (.ref a)) (hk : PySem.W.keepIn X.K (.ref a) = true) (hb : Binds X.K fd ps [])
    (ha : Sa X ca Wx (e :: es) ms) (hdb : (x == ("__debug__" : Str)) = false := by decide) (he : starEach (e :: es) X.env = (false, eval e X.env) :: starEach es X.env := by rfl) (hpl : (backTo pos (starEach es X.env)).any (·.1) = false := by rfl) :
    Sx X ca Wx (.Call (.Name x p) (e :: es) [] pos) (callP f ms) := by
  obtain ⟨ta, pa, ha⟩ := ha
  exact ⟨_, pe_callG F hr hgd hg hm hk hb (fun σ => passAt tk σ) pa hdb he hpl, ce_callP ha hn⟩
end
end Mw
set_option Elab.async false
set_option linter.all false
set_option maxRecDepth 100000
set_option maxHeartbeats 2000000
/-! Mw: stores, statements -/
namespace Mw
open PySem PySem.Spec PyProof.Rows L2
/-- how a block ends: on; broken off; the next turn; a value handed back -/
inductive Out where
  | nx (Γ : Gam) | bk (Γ : Gam) | ct (Γ : Gam) | rt (w : W) (Γ : Gam)
def PO (K : PySem.W.Frag) (c : Fx) (T : Addr → HO → Prop) (Hb : Hp) (D : Ends) (o : Out) : Prop := match o with
  | .nx Γ' => ∀ σ' H', EnvOk K c T Γ' σ' H' → Same Hb (hid (Oc c T Γ' σ') H') → D.nx σ' H'
  | .bk Γ' => ∀ σ' H', EnvOk K c T Γ' σ' H' → Same Hb (hid (Oc c T Γ' σ') H') → D.bk σ' H'
  | .ct Γ' => ∀ σ' H', EnvOk K c T Γ' σ' H' → Same Hb (hid (Oc c T Γ' σ') H') → D.ct σ' H'
  | .rt w Γ' => ∀ v σ' H', EvOk K c T w v Γ' σ' H' → Same Hb (hid (Ox c T w v Γ' σ') H') → D.rt v H'
theorem PO.base {K : PySem.W.Frag} {c : Fx} {T : Addr → HO → Prop} {Hb Hb' : Hp} {D : Ends} {o : Out} (h : PO K c T Hb D o) (s : Same Hb Hb') : PO K c T Hb' D o := by
  cases o with
  | nx Γ => exact fun σ' H' a b => h σ' H' a (s.trans b)
  | bk Γ => exact fun σ' H' a b => h σ' H' a (s.trans b)
  | ct Γ => exact fun σ' H' a b => h σ' H' a (s.trans b)
  | rt w Γ => exact fun v σ' H' a b => h v σ' H' a (s.trans b)
abbrev MS := Gam → R Out
def Cs (K : PySem.W.Frag) (ca : Str → Addr) (Wx : WX) (t : TS) (m : MS) : Prop := ∀ (c : Fx) (T : Addr → HO → Prop) (Γ : Gam) (σ : Slots) (H : Hp) (D : Ends),
  EnvOk K c T Γ σ H → Pst K ca c T (hid (Oc c T Γ σ) H) Wx (m Γ) (PO K c T (hid (Oc c T Γ σ) H) D) → t D σ H
/-- a statement, a block -/
def Ss (X : Cx) (ca : Str → Addr) (Wx : WX) (st : Stmt) (m : MS) : Prop := ∃ t, PS X st t ∧ Cs X.K ca Wx t m
def Sk (X : Cx) (ca : Str → Addr) (Wx : WX) (st : List Stmt) (m : MS) : Prop := ∃ t, PSs X st t ∧ Cs X.K ca Wx t m
/-! ### stores -/
section
variable {K : PySem.W.Frag} {c : Fx} {T : Addr → HO → Prop} {Γ : Gam} {σ : Slots} {H Hb : Hp}
theorem get_set {α : Type} {l : List α} {i j : Nat} {a b : α} (h : (l.set i a)[j]? = some b) : (j = i ∧ b = a) ∨ (j ≠ i ∧ l[j]? = some b) := by
  by_cases hj : j = i
  · subst hj
    by_cases hi : j < l.length
    · rw [List.getElem?_set_self hi] at h
      exact .inl ⟨rfl, (Option.some.inj h).symm⟩
    · rw [List.getElem?_eq_none (by rw [List.length_set]; omega)] at h
      cases h
  · rw [List.getElem?_set_ne (Ne.symm hj)] at h
    exact .inr ⟨hj, h⟩
theorem set_ne {α : Type} {l : List α} {i j : Nat} {a : α} (h : j ≠ i) : (l.set i a)[j]? = l[j]? := List.getElem?_set_ne (Ne.symm h)
theorem own_put {i : Nat} {d : D} {v : V} {a : Addr} (h : Own (Γ.set i (.val d)) (σ.set i (some v)) a) : Own Γ σ a := by
  obtain ⟨j, b, ds, e1, e2⟩ := h
  rcases get_set e1 with ⟨_, z⟩ | ⟨hj, e1⟩
  · cases z
  · exact ⟨j, b, ds, e1, by rw [set_ne hj] at e2; exact e2⟩
theorem EnvOk.put (h : EnvOk K c T Γ σ H) {i : Nat} (hi : i < Γ.length) {v : V} {d : D} (hv : Dv K (hid (Oc c T Γ σ) H) v d) :
    EnvOk K c T (Γ.set i (.val d)) (σ.set i (some v)) H ∧ Same (hid (Oc c T Γ σ) H) (hid (Oc c T (Γ.set i (.val d)) (σ.set i (some v))) H) := by
  have sub : ∀ a, Oc c T (Γ.set i (.val d)) (σ.set i (some v)) a → Oc c T Γ σ a := fun a q => q.imp id fun q => q.imp id own_put
  have s := hid_mono (Same.refl H) sub
  have q := EnvAt.data h s
  refine ⟨⟨by rw [List.length_set, List.length_set]; exact q.len, fun j d' e => ?_, fun j b ds e => ?_, fun j k b b' ds es l e1 e2 e3 e4 => ?_, q.fr, q.o0, q.tt, q.ii⟩, s⟩
  · rcases get_set e with ⟨rfl, z⟩ | ⟨hj, e⟩
    · cases z
      exact ⟨v, List.getElem?_set_self (by rw [← h.len]; exact hi), hv.mono s⟩
    · rw [set_ne hj]
      exact q.val j d' e
  · rcases get_set e with ⟨_, z⟩ | ⟨hj, e⟩
    · cases z
    · rw [set_ne hj]
      exact q.own j b ds e
  · rcases get_set e1 with ⟨_, z⟩ | ⟨h1, e1⟩
    · cases z
    · rcases get_set e2 with ⟨_, z⟩ | ⟨h2, e2⟩
      · cases z
      · rw [set_ne h1] at e3
        rw [set_ne h2] at e4
        exact q.inj j k b b' ds es l e1 e2 e3 e4
theorem EnvOk.putOwn {l : Addr} {vs : List V} {ds : List D} (h : EnvOk K c (Tl T l vs) Γ σ H) {i : Nat} (hi : i < Γ.length) (hl : H l = some (.lst vs)) (h0 : c.H0 l = none) (hn : ¬ Oc c T Γ σ l)
    (hv : DvAll K (hid (Oc c (Tl T l vs) Γ σ) H) vs ds) :
    EnvOk K c T (Γ.set i (.own false ds)) (σ.set i (some (.ref l))) H ∧ Same (hid (Oc c (Tl T l vs) Γ σ) H) (hid (Oc c T (Γ.set i (.own false ds)) (σ.set i (some (.ref l)))) H) := by
  have sub : ∀ a, Oc c T (Γ.set i (.own false ds)) (σ.set i (some (.ref l))) a → Oc c (Tl T l vs) Γ σ a := fun a q => by
    rcases q with q | ⟨u, q⟩ | ⟨j, b, es, e1, e2⟩
    · exact .inl q
    · exact .inr (.inl ⟨u, .inl q⟩)
    · rcases get_set e1 with ⟨hj, z⟩ | ⟨hj, e1⟩
      · subst hj
        rw [List.getElem?_set_self (by rw [← h.len]; exact hi)] at e2
        cases e2
        exact .inr (.inl ⟨_, .inr ⟨rfl, rfl⟩⟩)
      · rw [set_ne hj] at e2
        exact .inr (.inr ⟨j, b, es, e1, e2⟩)
  have s := hid_mono (Same.refl H) sub
  have q := EnvAt.data h s
  refine ⟨⟨by rw [List.length_set, List.length_set]; exact q.len, fun j d' e => ?_, fun j b es e => ?_, fun j k b b' ds1 es l' e1 e2 e3 e4 => ?_, q.fr, q.o0, fun a u z => q.tt a u (.inl z), q.ii⟩, s⟩
  · rcases get_set e with ⟨_, z⟩ | ⟨hj, e⟩
    · cases z
    · rw [set_ne hj]
      exact q.val j d' e
  · rcases get_set e with ⟨rfl, z⟩ | ⟨hj, e⟩
    · cases z
      exact ⟨l, vs, List.getElem?_set_self (by rw [← h.len]; exact hi), hl, hv.mono s, fun _ => h0, (fun z => Bool.noConfusion z), fun z => hn (.inl z), fun u z => hn (.inr (.inl ⟨u, z⟩))⟩
    · rw [set_ne hj]
      obtain ⟨l', vs', a1, a2, a3, a4, a5, a6, a7⟩ := q.own j b es e
      exact ⟨l', vs', a1, a2, a3, a4, a5, a6, fun u z => a7 u (.inl z)⟩
  · have apart : ∀ (m : Nat) (b : Bool) (ds : List D), Γ[m]? = some (.own b ds) → σ[m]? = some (some (.ref l)) → False := fun m b ds f1 f2 => by
      obtain ⟨l2, _, a1, _, _, _, _, _, a7⟩ := q.own m b ds f1
      rw [f2] at a1
      cases a1
      exact a7 _ (.inr ⟨rfl, rfl⟩)
    have hs : (σ.set i (some (.ref l)))[i]? = some (some (.ref l)) := List.getElem?_set_self (by rw [← h.len]; exact hi)
    rcases get_set e1 with ⟨hj, z⟩ | ⟨h1, _⟩
    · rcases get_set e2 with ⟨h2, _⟩ | ⟨h2, e2⟩
      · rw [hj, h2]
      · rw [hj, hs] at e3
        cases e3
        rw [set_ne h2] at e4
        exact (apart k b' es e2 e4).elim
    · rename_i f1
      rcases get_set e2 with ⟨hk, z⟩ | ⟨h2, e2⟩
      · rw [hk, hs] at e4
        cases e4
        rw [set_ne h1] at e3
        exact (apart j b ds1 f1 e3).elim
      · rw [set_ne h1] at e3
        rw [set_ne h2] at e4
        exact q.inj j k b b' ds1 es l' f1 e2 e3 e4
/-- the list of a slot is changed -/
theorem EnvOk.mut (h : EnvOk K c T Γ σ H) {i : Nat} {b : Bool} {ds ds' : List D} {l : Addr} {vs vs' : List V} (e : Γ[i]? = some (.own b ds)) (es : σ[i]? = some (some (.ref l))) (hl : H l = some (.lst vs)) (hv : DvAll K (hid (Oc c T Γ σ) H) vs' ds') :
    EnvOk K c T (Γ.set i (.own b ds')) σ (upd H l (.lst vs')) ∧ Same (hid (Oc c T Γ σ) H) (hid (Oc c T (Γ.set i (.own b ds')) σ) (upd H l (.lst vs'))) := by
  have hi : i < Γ.length := (List.getElem?_eq_some_iff.mp e).1
  have sub : ∀ a, Oc c T (Γ.set i (.own b ds')) σ a → Oc c T Γ σ a := fun a q => by
    rcases q with q | q | ⟨j, b2, es2, e1, e2⟩
    · exact .inl q
    · exact .inr (.inl q)
    · rcases get_set e1 with ⟨rfl, z⟩ | ⟨hj, e1⟩
      · exact .inr (.inr ⟨j, b, ds, e, e2⟩)
      · exact .inr (.inr ⟨j, b2, es2, e1, e2⟩)
  have inO : Oc c T Γ σ l := .inr (.inr ⟨i, b, ds, e, es⟩)
  have s : Same (hid (Oc c T Γ σ) H) (hid (Oc c T (Γ.set i (.own b ds')) σ) (upd H l (.lst vs'))) := fun a o z => by
    obtain ⟨n, z⟩ := hid_some.mp z
    have hne : a ≠ l := fun q => n (by rw [q]; exact inO)
    exact hid_some.mpr ⟨fun q => n (sub a q), by rw [upd_ne hne]; exact z⟩
  have q := EnvAt.data h s
  have at_ : ∀ a o, H a = some o → nt o = true → ∃ o', upd H l (.lst vs') a = some o' ∧ nt o' = true := fun a o z n => by
    by_cases hne : a = l
    · subst hne
      exact ⟨_, upd_same, rfl⟩
    · exact ⟨o, by rw [upd_ne hne]; exact z, n⟩
  obtain ⟨l0, vs0, a1, a2, a3, a4, a5, a6, a7⟩ := h.own i b ds e
  rw [es] at a1
  cases a1
  refine ⟨⟨by rw [List.length_set]; exact q.len, fun j d' e' => ?_, fun j b2 es2 e' => ?_, fun j k b1 b2 ds1 es1 l' e1 e2 e3 e4 => ?_, fun a o hI z => ?_, fun a z => ?_, fun a o z => ?_, fun j a z => ?_⟩, s⟩
  · rcases get_set e' with ⟨_, z⟩ | ⟨hj, e'⟩
    · cases z
    · exact q.val j d' e'
  · rcases get_set e' with ⟨rfl, z⟩ | ⟨hj, e'⟩
    · cases z
      exact ⟨l, vs', es, upd_same, hv.mono s, a4, a5, a6, a7⟩
    · obtain ⟨l2, vs2, b1, b2', b3, b4, b5, b6, b7⟩ := q.own j b2 es2 e'
      have hne : l2 ≠ l := fun z => by
        subst z
        exact hj (h.inj j i b2 b es2 ds l2 e' e b1 es)
      exact ⟨l2, vs2, b1, by rw [upd_ne hne]; exact b2', b3, b4, b5, b6, b7⟩
  · have w1 : ∃ b ds, Γ[j]? = some (.own b ds) := by
      rcases get_set e1 with ⟨rfl, _⟩ | ⟨_, e1⟩
      · exact ⟨b, ds, e⟩
      · exact ⟨_, _, e1⟩
    have w2 : ∃ b ds, Γ[k]? = some (.own b ds) := by
      rcases get_set e2 with ⟨rfl, _⟩ | ⟨_, e2⟩
      · exact ⟨b, ds, e⟩
      · exact ⟨_, _, e2⟩
    obtain ⟨_, _, w1⟩ := w1
    obtain ⟨_, _, w2⟩ := w2
    exact h.inj j k _ _ _ _ l' w1 w2 e3 e4
  · have hne : a ≠ l := fun q => by
      subst q
      cases b with
      | false => rw [a4 rfl] at z; cases z
      | true => exact hI i (a5 rfl)
    rw [upd_ne hne]
    exact h.fr a o hI z
  · obtain ⟨o, z, n⟩ := h.o0 a z
    exact at_ a o z n
  · obtain ⟨z', n⟩ := h.tt a o z
    have hne : a ≠ l := fun q => a7 o (by rw [← q]; exact z)
    exact ⟨by rw [upd_ne hne]; exact z', n⟩
  · obtain ⟨o, z, n⟩ := h.ii j a z
    exact at_ a o z n
/-- a value is stored in slot i -/
def stoM (i : Nat) (w : W) (Γ : Gam) : R Gam := if i < Γ.length then (match w with
  | .cl d => .ok (Γ.set i (.val d))
  | .fr ds => .ok (Γ.set i (.own false ds))
  | .bo j => if j = i then .ok Γ else match Γ[j]? with
    | some (.own _ ds) => .ok ((Γ.set j (.val (.lst ds))).set i (.val (.lst ds)))
    | _ => .no) else .no
theorem set_self {α : Type} {l : List α} {i : Nat} {a : α} (h : l[i]? = some a) : l.set i a = l := by
  obtain ⟨hi, e⟩ := List.getElem?_eq_some_iff.mp h
  rw [← e]
  exact List.set_getElem_self hi
theorem sto_ok {i : Nat} {w : W} {v : V} {Γ' : Gam} (ev : EvOk K c T w v Γ σ H) (s : Same Hb (hid (Ox c T w v Γ σ) H)) (e : stoM i w Γ = .ok Γ') : EnvOk K c T Γ' (σ.set i (some v)) H ∧ Same Hb (hid (Oc c T Γ' (σ.set i (some v))) H) := by
  unfold stoM at e
  split at e
  · rename_i hi
    cases w with
    | cl d =>
      cases e
      obtain ⟨ok, hv⟩ := ev
      obtain ⟨a, b⟩ := ok.put hi hv
      exact ⟨a, (Ox.dn s).trans b⟩
    | fr ds =>
      cases e
      obtain ⟨l, vs, rfl, hl, h0, hn, ok, hv⟩ := ev
      obtain ⟨a, b⟩ := ok.putOwn hi hl h0 hn hv
      refine ⟨a, s.trans (Same.trans (hid_mono (Same.refl H) fun a z => ?_) b)⟩
      rcases z with z | ⟨u, z | ⟨z, _⟩⟩ | z
      · exact .inl (.inl z)
      · exact .inl (.inr (.inl ⟨u, z⟩))
      · rw [z]; exact .inr ⟨⟨_, rfl⟩, rfl⟩
      · exact .inl (.inr (.inr z))
    | bo j =>
      obtain ⟨ok, hv⟩ := ev
      have e' : (if j = i then R.ok Γ else match Γ[j]? with
        | some (.own _ ds) => .ok ((Γ.set j (.val (.lst ds))).set i (.val (.lst ds)))
        | _ => .no) = .ok Γ' := e
      by_cases hj : j = i
      · rw [if_pos hj] at e'
        cases e'
        subst hj
        rw [set_self hv]
        exact ⟨ok, Ox.dn s⟩
      · rw [if_neg hj] at e'
        cases q : Γ[j]? with
        | none => rw [q] at e'; cases e'
        | some u =>
          rw [q] at e'
          cases u with
          | un => cases e'
          | val d => cases e'
          | own b ds =>
            cases e'
            obtain ⟨a1, a2, a3⟩ := ok.freeze q
            obtain ⟨b1, b2⟩ := a1.put (i := i) (by rw [List.length_set]; exact hi) (a3 v hv)
            exact ⟨b1, (Ox.dn s).trans (a2.trans b2)⟩
  · cases e
def kill : List Nat → Gam → Gam
  | [], Γ => Γ
  | i :: r, Γ => kill r (Γ.set i .un)
theorem EnvOk.kill : ∀ {ks : List Nat} {Γ : Gam}, EnvOk K c T Γ σ H → EnvOk K c T (kill ks Γ) σ H ∧ Same (hid (Oc c T Γ σ) H) (hid (Oc c T (Mw.kill ks Γ) σ) H)
  | [], _, h => ⟨h, Same.refl _⟩
  | i :: r, Γ, h => by
    obtain ⟨a, b⟩ := EnvOk.forget h i
    obtain ⟨a', b'⟩ := EnvOk.kill (ks := r) a
    exact ⟨a', b.trans b'⟩
end
/-! ### statements -/
section
variable {K : PySem.W.Frag} {ca : Str → Addr} {Wx : WX} {te : TE} {m : M} {t u : TS} {a b : MS}
def skM (a b : MS) : MS := fun Γ => (a Γ).bind fun o => match o with
  | .nx Γ' => b Γ'
  | o => .ok o
theorem cs_seq (ha : Cs K ca Wx t a) (hb : Cs K ca Wx u b) : Cs K ca Wx (tSeq t u) (skM a b) := by
  intro c T Γ σ H D ok p
  refine ha c T Γ σ H _ ok ((Pst.bind p).imp fun o p => ?_)
  cases o with
  | nx Γ' => exact fun σ' H' ok' s' => hb c T Γ' σ' H' D ok' (((show Pst K ca c T _ Wx (b Γ') _ from p).base s').imp fun o q => q.base s')
  | bk Γ' => exact p
  | ct Γ' => exact p
  | rt w Γ' => exact p
def nxM : MS := fun Γ => .ok (.nx Γ)
theorem cs_next : Cs K ca Wx tNext nxM := fun c T Γ σ H D ok p => p σ H ok (Same.refl _)
def asgM (i : Nat) (m : M) : MS := fun Γ => (m Γ).bind fun p => (stoM i p.1 p.2).bind fun Γ' => .ok (.nx Γ')
theorem cs_asg {i : Nat} (h : Ce K ca Wx te m) : Cs K ca Wx (tAsg te (gName i)) (asgM i m) := by
  intro c T Γ σ H D ok p
  refine h c T Γ σ H _ ok ((Pst.bind p).imp fun q p v H1 ev s1 => ?_)
  have p' := Pst.bind p
  cases e : stoM i q.1 q.2 with
  | no => rw [e] at p'; exact p'.elim
  | ex e' Γ' =>
    unfold stoM at e
    split at e
    · cases w : q.1 with
      | cl d => rw [w] at e; cases e
      | fr d => rw [w] at e; cases e
      | bo j =>
        rw [w] at e
        simp only at e
        split at e
        · cases e
        · split at e <;> cases e
    · cases e
  | ok Γ' =>
    rw [e] at p'
    obtain ⟨a, b⟩ := sto_ok ev s1 e
    exact p' _ _ a b
def retM (m : M) : MS := fun Γ => (m Γ).bind fun p => .ok (.rt p.1 p.2)
theorem cs_ret (h : Ce K ca Wx te m) : Cs K ca Wx (tRet te) (retM m) := by
  intro c T Γ σ H D ok p
  exact h c T Γ σ H _ ok ((Pst.bind p).imp fun q p v H1 ev s1 => p v σ H1 ev s1)
def drpM (m : M) : MS := fun Γ => (m Γ).bind fun p => .ok (.nx p.2)
theorem cs_drop (h : Ce K ca Wx te m) : Cs K ca Wx (tDrop te) (drpM m) := by
  intro c T Γ σ H D ok p
  exact h c T Γ σ H _ ok ((Pst.bind p).imp fun q p v H1 ev s1 => p σ H1 ev.hold.1 (Ox.dn s1))
def ifS (c : Gam → R (Bool × Gam)) (a b : MS) : MS := fun Γ => (c Γ).bind fun p => match p.1 with
  | true => a p.2
  | false => b p.2
theorem cs_if {tc : TT} {mc : Gam → R (Bool × Gam)} (hc : Cb K ca Wx tc mc) (ha : Cs K ca Wx t a) (hb : Cs K ca Wx u b) : Cs K ca Wx (tIfS tc t u) (ifS mc a b) := by
  intro c T Γ σ H D ok p
  refine hc c T Γ σ H _ ok ((Pst.bind p).imp fun q p H1 ok1 s1 => ?_)
  obtain ⟨k, Γ1⟩ := q
  cases k with
  | true =>
    show if true = true then t D σ H1 else u D σ H1
    rw [if_pos rfl]
    exact ha c T Γ1 σ H1 D ok1 ((Pst.base p s1).imp fun o q => q.base s1)
  | false =>
    show if false = true then t D σ H1 else u D σ H1
    rw [if_neg Bool.false_ne_true]
    exact hb c T Γ1 σ H1 D ok1 ((Pst.base p s1).imp fun o q => q.base s1)
def bkM : MS := fun Γ => .ok (.bk Γ)
def ctM : MS := fun Γ => .ok (.ct Γ)
theorem cs_break : Cs K ca Wx tBreak bkM := fun c T Γ σ H D ok p => p σ H ok (Same.refl _)
theorem cs_cont : Cs K ca Wx tCont ctM := fun c T Γ σ H D ok p => p σ H ok (Same.refl _)
/-- x op= e -/
def augM (i : Nat) (sem : D → D → Option W) (m : M) : MS := fun Γ => match Γ[i]? with
  | some (.val d0) => (m Γ).bind fun p => match (vw p.2 p.1).bind (sem d0) with
    | some (.cl d) => if i < p.2.length then .ok (.nx (p.2.set i (.val d))) else .no
    | _ => .no
  | _ => .no
theorem cs_aug {i : Nat} {sem : D → D → Option W} {r : TIp} (hr : So2 K r sem) (h : Ce K ca Wx te m) : Cs K ca Wx (tAug i te r) (augM i sem m) := by
  intro c T Γ σ H D ok p
  unfold augM at p
  cases q : Γ[i]? with
  | none => rw [q] at p; exact p.elim
  | some u =>
    rw [q] at p
    cases u with
    | un => exact p.elim
    | own b ds => exact p.elim
    | val d0 =>
      obtain ⟨x, e, hx⟩ := ok.val i d0 q
      refine ⟨x, e, h c T Γ σ H _ ok ((Pst.bind p).imp fun q p v H1 ev s1 => ?_)⟩
      replace s1 := Ox.dn s1
      obtain ⟨ok1, hv⟩ := ev.hold
      have hx1 := hx.mono s1
      cases e1 : vw q.2 q.1 with
      | none => rw [e1] at p; exact p.elim
      | some d1 =>
        rw [e1] at p
        have p1 : Pst K ca c T _ Wx (match sem d0 d1 with | some (.cl d) => if i < q.2.length then R.ok (Out.nx (q.2.set i (.val d))) else .no | _ => .no) _ := p
        cases e2 : sem d0 d1 with
        | none => rw [e2] at p1; exact p1.elim
        | some w =>
          rw [e2] at p1
          cases w with
          | bo j => exact p1.elim
          | fr ds => exact p1.elim
          | cl d =>
            refine hr _ _ _ _ _ _ _ _ hid_sub (Vw.of hid_sub hx1) (vw_ok ok1 hv ((vw_hold _ _).trans e1)) e2 fun z H2 rz => ?_
            obtain ⟨⟨ok2, hz⟩, s2⟩ := res_ok ok1 rz
            have p2 : Pst K ca c T _ Wx (if i < q.2.length then R.ok (Out.nx (q.2.set i (.val d))) else .no) _ := p1
            by_cases hi : i < q.2.length
            · rw [if_pos hi] at p2
              obtain ⟨a, b⟩ := ok2.put hi hz
              exact p2 _ _ a (s1.trans ((Ox.dn s2).trans b))
            · rw [if_neg hi] at p2
              exact p2.elim
end
section
variable {X : Cx} {ca : Str → Addr} {Wx : WX} {st : Stmt} {sts : List Stmt} {e : Expr} {m : M} {a b : MS} {pos : Pos}
theorem k_nil : Sk X ca Wx [] nxM := ⟨_, pss_nil, cs_next⟩
theorem k_cons (h1 : Ss X ca Wx st a) (h2 : Sk X ca Wx sts b) : Sk X ca Wx (st :: sts) (skM a b) := let ⟨_, p1, c1⟩ := h1; let ⟨_, p2, c2⟩ := h2; ⟨_, pss_cons p1 p2, cs_seq c1 c2⟩
theorem k_one (h1 : Ss X ca Wx st a) : Sk X ca Wx [st] a := let ⟨_, p1, c1⟩ := h1; ⟨_, pss_one p1, c1⟩
theorem s_pass : Ss X ca Wx (.Pass pos) nxM := ⟨_, ps_pass, cs_next⟩
theorem s_break : Ss X ca Wx (.Break pos) bkM := ⟨_, ps_break, cs_break⟩
theorem s_cont : Ss X ca Wx (.Continue pos) ctM := ⟨_, ps_continue, cs_cont⟩
theorem s_set (i : Nat) {x : Str} {pos' : Pos} (hN : X.N.Nodup) (hi : X.N[i]? = some x) (hx : Loc X.env.scope x) (he : Sx X ca Wx e m) (hs : swapsWith e (some (.Name x pos')) pos.line X.env = pure false := by rfl) (hf : X.fn x = true ∨ X.env.scope.names.lookup x = some .local := by first | exact .inl rfl | exact .inr rfl) :
    Ss X ca Wx (.Assign [.Name x pos'] e pos) (asgM i m) := let ⟨_, p, c⟩ := he; ⟨_, ps_set hN hi hx p hs hf, cs_asg c⟩
theorem s_ret (he : Sx X ca Wx e m) : Ss X ca Wx (.Return (some e) pos) (retM m) := let ⟨_, p, c⟩ := he; ⟨_, ps_ret p, cs_ret c⟩
theorem s_retN : Ss X ca Wx (.Return none pos) (retM (cM .non)) := ⟨_, ps_retN, fun c T Γ σ H D ok p => p .non σ H ⟨ok, .non⟩ (Ox.cl (Same.refl _))⟩
theorem s_expr (he : Sx X ca Wx e m) (hs : swapsWith e none pos.line X.env = pure false := by rfl) : Ss X ca Wx (.Expr e pos) (drpM m) := let ⟨_, p, c⟩ := he; ⟨_, ps_expr p hs, cs_drop c⟩
theorem s_if {c : Expr} {x y : List Stmt} {mc : Gam → R (Bool × Gam)} (hc : Sb X ca Wx c mc) (ha : Sk X ca Wx x a) (hb : Sk X ca Wx y b) : Ss X ca Wx (.If c x y pos) (ifS mc a b) :=
  let ⟨_, p1, c1⟩ := hc; let ⟨_, p2, c2⟩ := ha; let ⟨_, p3, c3⟩ := hb; ⟨_, ps_if p1 p2 p3, cs_if c1 c2 c3⟩
theorem s_aug (i : Nat) {x : Str} {pos' : Pos} {op : Operator} {r : TIp} {sem : D → D → Option W} (hN : X.N.Nodup) (hi : X.N[i]? = some x) (hx : Loc X.env.scope x) (ho : PIp X op r) (hr : So2 X.K r sem) (he : Sx X ca Wx e m) (hf : X.fn x = true ∨ X.env.scope.names.lookup x = some .local := by first | exact .inl rfl | exact .inr rfl) :
    Ss X ca Wx (.AugAssign (.Name x pos') op e pos) (augM i sem m) := let ⟨_, p, c⟩ := he; ⟨_, ps_aug hN hi hx p ho hf, cs_aug hr c⟩
end
/-! ### a, b, .. = a tuple -/
def putAll : List Nat → List D → Gam → Option Gam
  | [], [], Γ => some Γ
  | i :: is, d :: ds, Γ => if i < Γ.length then putAll is ds (Γ.set i (.val d)) else none
  | _, _, _ => none
def gNs : List Nat → TGs
  | [] => gNil
  | i :: is => gCons (gName i) (gNs is)
section
variable {K : PySem.W.Frag} {ca : Str → Addr} {Wx : WX} {c : Fx} {T : Addr → HO → Prop}
theorem put_all : ∀ {is : List Nat} {ds : List D} {vs : List V} {Γ Γ' : Gam} {σ : Slots} {H : Hp} {Q : Slots → Hp → Prop}, EnvOk K c T Γ σ H → DvAll K (hid (Oc c T Γ σ) H) vs ds → putAll is ds Γ = some Γ' →
    (∀ σ' H', EnvOk K c T Γ' σ' H' → Same (hid (Oc c T Γ σ) H) (hid (Oc c T Γ' σ') H') → Q σ' H') → gNs is vs σ H Q
  | [], [], _, Γ, Γ', σ, H, Q, ok, .nil, e, k => by
    have e' : some Γ = some Γ' := e
    cases e'
    exact ⟨rfl, k σ H ok (Same.refl _)⟩
  | i :: is, d :: ds, v :: vs, Γ, Γ', σ, H, Q, ok, .cons h t, e, k => by
    unfold putAll at e
    split at e
    · rename_i hi
      obtain ⟨a, b⟩ := ok.put hi h
      exact ⟨v, vs, rfl, put_all a (t.mono b) e fun σ' H' ok' s' => k σ' H' ok' (b.trans s')⟩
    · cases e
  | [], _ :: _, _, _, _, _, _, _, _, _, e, _ => by cases e
  | _ :: _, [], _, _, _, _, _, _, _, _, e, _ => by cases e
theorem putAll_len : ∀ {is : List Nat} {ds : List D} {Γ Γ' : Gam}, putAll is ds Γ = some Γ' → ds.length = is.length
  | [], [], _, _, _ => rfl
  | i :: is, d :: ds, Γ, Γ', e => by
    unfold putAll at e
    split at e
    · rw [List.length_cons, List.length_cons, putAll_len e]
    · cases e
  | [], _ :: _, _, _, e => by cases e
  | _ :: _, [], _, _, e => by cases e
/-- a target and what it stores -/
def Ct (K : PySem.W.Frag) (g : TG) (tgt : D → Gam → Option Gam) : Prop := ∀ (c : Fx) (T : Addr → HO → Prop) (Γ Γ' : Gam) (σ : Slots) (H : Hp) (v : V) (d : D) (Q : Slots → Hp → Prop), EnvOk K c T Γ σ H → Dv K (hid (Oc c T Γ σ) H) v d → tgt d Γ = some Γ' →
  (∀ σ' H', EnvOk K c T Γ' σ' H' → Same (hid (Oc c T Γ σ) H) (hid (Oc c T Γ' σ') H') → Q σ' H') → g v σ H Q
def tN (i : Nat) : D → Gam → Option Gam := fun d Γ => if i < Γ.length then some (Γ.set i (.val d)) else none
def tT (is : List Nat) : D → Gam → Option Gam := fun d Γ => match d with
  | .tup ds => putAll is ds Γ
  | _ => none
theorem ct_name {i : Nat} : Ct K (gName i) (tN i) := by
  intro c T Γ Γ' σ H v d Q ok hv e k
  unfold tN at e
  split at e
  · rename_i hi
    cases e
    obtain ⟨a, b⟩ := ok.put hi hv
    exact k _ _ a b
  · cases e
theorem ct_tup {is : List Nat} {n : Nat} (hn : is.length = n) : Ct K (gTup K n (gNs is)) (tT is) := by
  intro c T Γ Γ' σ H v d Q ok hv e k
  unfold tT at e
  split at e
  · cases hv with
    | tup hs ha =>
      exact ⟨_, _, rfl, same_t hid_sub hs, by rw [ha.len, putAll_len e, hn], put_all ok ha e k⟩
  · cases e
/-- target = e -/
def unpM (tgt : D → Gam → Option Gam) (m : M) : MS := fun Γ => (m Γ).bind fun p => match p.1 with
  | .cl d => match tgt d p.2 with
    | some Γ' => .ok (.nx Γ')
    | none => .no
  | _ => .no
theorem cs_unp {te : TE} {m : M} {g : TG} {tgt : D → Gam → Option Gam} (hg : Ct K g tgt) (h : Ce K ca Wx te m) : Cs K ca Wx (tAsg te g) (unpM tgt m) := by
  intro c T Γ σ H D ok p
  refine h c T Γ σ H _ ok ((Pst.bind p).imp fun q p v H1 ev s1 => ?_)
  replace s1 := Ox.dn s1
  obtain ⟨w, Γ1⟩ := q
  cases w with
  | bo i => exact p.elim
  | fr ds => exact p.elim
  | cl d =>
    obtain ⟨ok1, hv⟩ := ev
    have p1 : Pst K ca c T _ Wx (match tgt d Γ1 with | some Γ' => R.ok (Out.nx Γ') | none => .no) _ := p
    cases e : tgt d Γ1 with
    | none => rw [e] at p1; exact p1.elim
    | some Γ' =>
      rw [e] at p1
      exact hg c T Γ1 Γ' σ H1 v d D.nx ok1 hv e fun σ' H' ok' s' => p1 σ' H' ok' (s1.trans s')
end
section
variable {X : Cx} {ca : Str → Addr} {Wx : WX} {e : Expr} {m : M} {pos : Pos}
def Sg (X : Cx) (tg : Expr) (tgt : D → Gam → Option Gam) : Prop := ∃ g, PG X tg g ∧ Ct X.K g tgt
theorem g_name (i : Nat) {x : Str} (hN : X.N.Nodup) (hi : X.N[i]? = some x) (hx : Loc X.env.scope x) (hf : X.fn x = true ∨ X.env.scope.names.lookup x = some .local := by first | exact .inl rfl | exact .inr rfl) : Sg X (.Name x pos) (tN i) := ⟨_, pg_name hN hi hx hf, ct_name⟩
theorem gs_nil : PGs X [] (gNs []) := pgs_nil
theorem gs_cons (i : Nat) {is : List Nat} {x : Str} {p : Pos} {es : List Expr} (hN : X.N.Nodup) (hi : X.N[i]? = some x) (hx : Loc X.env.scope x) (hr : PGs X es (gNs is)) (hf : X.fn x = true ∨ X.env.scope.names.lookup x = some .local := by first | exact .inl rfl | exact .inr rfl)
    (hs : (assignEach (.Name x p :: es) X.env).map (·.2) = assign (.Name x p) X.env :: (assignEach es X.env).map (·.2) := by rfl) : PGs X (.Name x p :: es) (gNs (i :: is)) := pgs_cons (pg_name hN hi hx hf) hr hs
theorem g_tup {es : List Expr} {k n : Nat} {is : List Nat} (hc : X.calm = true) (h : PGs X es (gNs is)) (hl : is.length = n) (hn : (assignEach es X.env).length = n := by rfl) (hst : (assignEach es X.env).findIdx? (·.1) = none := by rfl) : Sg X (.Tuple es k pos) (tT is) :=
  ⟨_, pg_tup hc h hn hst, ct_tup hl⟩
theorem s_unp {tg : Expr} {tgt : D → Gam → Option Gam} (hg : Sg X tg tgt) (he : Sx X ca Wx e m) (hs : swapsWithSole [tg] e pos.line X.env = pure false := by rfl) (hw : swappedStores [tg] e X.env = pure none := by rfl) (h1 : (assignEach [tg] X.env).map (·.2) = [assign tg X.env] := by rfl) :
    Ss X ca Wx (.Assign [tg] e pos) (unpM tgt m) := let ⟨_, p, c⟩ := he; let ⟨_, pg, cg⟩ := hg; ⟨_, ps_asg p pg hs hw h1, cs_unp cg c⟩
end
end Mw
set_option Elab.async false
set_option linter.all false
set_option maxRecDepth 100000
set_option maxHeartbeats 2000000
/-! Mw: lists changed in place; several names at once -/
namespace Mw
open PySem PySem.Spec PyProof.Rows L2
/-! ### x, y = a, b -/
def setsR : List Nat → List V → Slots → Slots
  | i :: is, v :: vs, σ => (setsR is vs σ).set i (some v)
  | _, _, σ => σ
def setsF : List Nat → List V → Slots → Slots
  | i :: is, v :: vs, σ => setsF is vs (σ.set i (some v))
  | _, _, σ => σ
theorem setsF_set : ∀ {is : List Nat} {vs : List V} {σ : Slots} {i : Nat} {v : V}, i ∉ is → setsF is vs (σ.set i (some v)) = (setsF is vs σ).set i (some v)
  | [], _, _, _, _, _ => rfl
  | j :: is, [], _, _, _, _ => rfl
  | j :: is, w :: vs, σ, i, v, h => by
    simp only [List.mem_cons, not_or] at h
    unfold setsF
    rw [List.set_comm _ _ h.1, setsF_set h.2]
theorem setsF_eq : ∀ {is : List Nat} {vs : List V} {σ : Slots}, is.Nodup → setsF is vs σ = setsR is vs σ
  | [], _, _, _ => rfl
  | j :: is, [], _, _ => rfl
  | j :: is, w :: vs, σ, h => by
    rw [List.nodup_cons] at h
    unfold setsF setsR
    rw [setsF_set h.1, setsF_eq h.2]
theorem setsR_len : ∀ {is : List Nat} {vs : List V} {σ : Slots}, (setsR is vs σ).length = σ.length
  | [], _, _ => rfl
  | j :: is, [], _ => rfl
  | j :: is, w :: vs, σ => by unfold setsR; rw [List.length_set, setsR_len]
/-- the values for the slots in is, one by one; stored when all are there -/
def parM : List Nat → List M → Gam → R Gam
  | i :: is, m :: ms, Γ => (m Γ).bind fun p => match p.1 with
    | .bo j => (match p.2[j]? with
      | some (.own _ ds) => (parM is ms (p.2.set j (.val (.lst ds)))).bind fun Γ' => if i < Γ'.length then .ok (Γ'.set i (.val (.lst ds))) else .no
      | _ => .no)
    | .cl d => (parM is ms p.2).bind fun Γ' => if i < Γ'.length then .ok (Γ'.set i (.val d)) else .no
    | .fr ds => (parM is ms p.2).bind fun Γ' => if i < Γ'.length then .ok (Γ'.set i (.own false ds)) else .no
  | [], [], Γ => .ok Γ
  | _, _, _ => .no
abbrev QP (K : PySem.W.Frag) (c : Fx) (T : Addr → HO → Prop) (Hb : Hp) (σ : Slots) (is : List Nat) (Q : List V → Hp → Prop) (Γ' : Gam) : Prop := ∀ vs H', vs.length = is.length → EnvOk K c T Γ' (setsR is vs σ) H' → Same Hb (hid (Oc c T Γ' (setsR is vs σ)) H') → Q vs H'
/-- arguments whose values go to the slots in is -/
def Cp (K : PySem.W.Frag) (ca : Str → Addr) (Wx : WX) (ta : TA) (is : List Nat) (ms : List M) : Prop := ∀ (c : Fx) (T : Addr → HO → Prop) (Γ : Gam) (σ : Slots) (H : Hp) (Q : List V → Hp → Prop),
  EnvOk K c T Γ σ H → Pst K ca c T (hid (Oc c T Γ σ) H) Wx (parM is ms Γ) (QP K c T (hid (Oc c T Γ σ) H) σ is Q) → ta σ H Q
section
variable {K : PySem.W.Frag} {ca : Str → Addr} {Wx : WX} {c : Fx} {T : Addr → HO → Prop} {Γ : Gam} {σ : Slots} {H Hb : Hp}
theorem Pst.unT {α : Type} {l : Addr} {vs : List V} {r : R α} {G G' : α → Prop} (h : Pst K ca c T Hb Wx r G) (g : ∀ a, G a → G' a) : Pst K ca c (Tl T l vs) Hb Wx r G' := by
  cases r with
  | ok a => exact g a h
  | ex e Γ =>
    intro cls d σ' H' a b e
    obtain ⟨a1, s1⟩ := a.unapart
    refine h cls d σ' H' a1 (b.trans s1) ?_
    revert e
    unfold ExRel
    rintro ⟨e1, e2⟩
    refine ⟨e1, ?_⟩
    revert e2
    split
    · exact id
    · rintro ⟨dd, vs, f1, f2, f3, f4⟩
      exact ⟨dd, vs, f1, f2, f3, DvAll.mono s1 _ _ f4⟩
  | no => exact h
theorem cp_nil : Cp K ca Wx tNil [] [] := fun c T Γ σ H Q ok p => p [] H rfl ok (Same.refl _)
theorem cp_cons {i : Nat} {is : List Nat} {te : TE} {m : M} {ta : TA} {ms : List M} (he : Ce K ca Wx te m) (hr : Cp K ca Wx ta is ms) : Cp K ca Wx (tCons te ta) (i :: is) (m :: ms) := by
  intro c T Γ σ H Q ok p
  refine he c T Γ σ H _ ok ((Pst.bind (show Pst K ca c T _ Wx ((m Γ).bind _) _ from p)).imp fun q p v H1 ev s1 => ?_)
  obtain ⟨w, Γ1⟩ := q
  cases w with
  | cl d =>
    obtain ⟨ok1, hv⟩ := ev
    replace s1 := Ox.dn s1
    refine hr c T Γ1 σ H1 _ ok1 (((Pst.bind p).base s1).imp fun Γ2 p vs H2 hl ok2 s2 => ?_)
    by_cases hi : i < Γ2.length
    · rw [if_pos hi] at p
      obtain ⟨a, b⟩ := ok2.put hi (hv.mono s2)
      exact p (v :: vs) H2 (by rw [List.length_cons, List.length_cons, hl]) a (s1.trans (s2.trans b))
    · rw [if_neg hi] at p; exact p.elim
  | bo j =>
    obtain ⟨ok1, hv⟩ := ev
    replace s1 := Ox.dn s1
    have p1 : Pst K ca c T _ Wx (match Γ1[j]? with
      | some (.own _ ds) => (parM is ms (Γ1.set j (.val (.lst ds)))).bind fun Γ' => if i < Γ'.length then .ok (Γ'.set i (.val (.lst ds))) else .no
      | _ => .no) _ := p
    cases e : Γ1[j]? with
    | none => rw [e] at p1; exact p1.elim
    | some u =>
      rw [e] at p1
      cases u with
      | un => exact p1.elim
      | val d => exact p1.elim
      | own b ds =>
        obtain ⟨a1, a2, a3⟩ := ok1.freeze e
        refine hr c T _ σ H1 _ a1 (((Pst.bind p1).base (s1.trans a2)).imp fun Γ2 p vs H2 hl ok2 s2 => ?_)
        by_cases hi : i < Γ2.length
        · rw [if_pos hi] at p
          obtain ⟨a, b⟩ := ok2.put hi ((a3 v hv).mono s2)
          exact p (v :: vs) H2 (by rw [List.length_cons, List.length_cons, hl]) a ((s1.trans a2).trans (s2.trans b))
        · rw [if_neg hi] at p; exact p.elim
  | fr ds =>
    obtain ⟨l, xs, rfl, hl0, h0, hn, ok1, hv⟩ := ev
    have sb : Same (hid (Oc c T Γ σ) H) (hid (Oc c (Tl T l xs) Γ1 σ) H1) := fun a o e => by
      obtain ⟨n, e⟩ := hid_some.mp (s1 a o e)
      refine hid_some.mpr ⟨fun z => n ?_, e⟩
      rcases z with z | ⟨u, z | ⟨z, _⟩⟩ | z
      · exact .inl (.inl z)
      · exact .inl (.inr (.inl ⟨u, z⟩))
      · rw [z]; exact .inr ⟨⟨_, rfl⟩, rfl⟩
      · exact .inl (.inr (.inr z))
    refine hr c (Tl T l xs) Γ1 σ H1 _ ok1 (Pst.unT ((Pst.bind p).base sb) fun Γ2 p vs H2 hl ok2 s2 => ?_)
    by_cases hi : i < Γ2.length
    · rw [if_pos hi] at p
      have hl2 : H2 l = some (.lst xs) := (ok2.tt l (.lst xs) (.inr ⟨rfl, rfl⟩)).1
      have hn2 : ¬ Oc c T Γ2 (setsR is vs σ) l := fun z => by
        rcases z with z | ⟨u, z⟩ | ⟨j, b, es, e1, e2⟩
        · exact hn (.inl z)
        · exact hn (.inr (.inl ⟨u, z⟩))
        · obtain ⟨l', _, f1, _, _, _, _, _, f7⟩ := ok2.own j b es e1
          rw [e2] at f1
          cases f1
          exact f7 _ (.inr ⟨rfl, rfl⟩)
      obtain ⟨a, b⟩ := ok2.putOwn hi hl2 h0 hn2 (hv.mono s2)
      exact p (.ref l :: vs) H2 (by rw [List.length_cons, List.length_cons, hl]) a (sb.trans (s2.trans b))
    · rw [if_neg hi] at p; exact p.elim
def parS (is : List Nat) (ms : List M) : MS := fun Γ => (parM is ms Γ).bind fun Γ' => .ok (.nx Γ')
theorem cs_par2 {i j : Nat} {ta : TA} {ms : List M} (hij : i ≠ j) (h : Cp K ca Wx ta [i, j] ms) : Cs K ca Wx (tPar i j ta) (parS [i, j] ms) := by
  intro c T Γ σ H D ok p
  refine h c T Γ σ H _ ok ((Pst.bind p).imp fun Γ' p vs H' hl ok' s' => ?_)
  match vs, hl with
  | [v, w], _ =>
    refine ⟨v, w, rfl, ?_⟩
    have e : setsR [i, j] [v, w] σ = (σ.set i (some v)).set j (some w) := (setsF_eq (is := [i, j]) (vs := [v, w]) (σ := σ) (by simp [hij])).symm
    rw [← e]
    exact p _ _ ok' s'
theorem cs_par3 {i j k : Nat} {ta : TA} {ms : List M} (hij : i ≠ j) (hik : i ≠ k) (hjk : j ≠ k) (h : Cp K ca Wx ta [i, j, k] ms) : Cs K ca Wx (tPar3 i j k ta) (parS [i, j, k] ms) := by
  intro c T Γ σ H D ok p
  refine h c T Γ σ H _ ok ((Pst.bind p).imp fun Γ' p vs H' hl ok' s' => ?_)
  match vs, hl with
  | [u, v, w], _ =>
    refine ⟨u, v, w, rfl, ?_⟩
    have e : setsR [i, j, k] [u, v, w] σ = ((σ.set i (some u)).set j (some v)).set k (some w) := (setsF_eq (is := [i, j, k]) (vs := [u, v, w]) (σ := σ) (by simp [hij, hik, hjk])).symm
    rw [← e]
    exact p _ _ ok' s'
theorem gNs_go : ∀ {is : List Nat} {vs : List V} {σ : Slots} {H : Hp} {Q : Slots → Hp → Prop}, vs.length = is.length → Q (setsF is vs σ) H → gNs is vs σ H Q
  | [], [], σ, H, Q, _, q => ⟨rfl, q⟩
  | i :: is, v :: vs, σ, H, Q, h, q => ⟨v, vs, rfl, gNs_go (by simpa using h) q⟩
  | [], _ :: _, _, _, _, h, _ => by simp at h
  | _ :: _, [], _, _, _, h, _ => by simp at h
theorem cs_parT {is : List Nat} {n : Nat} {ta : TA} {ms : List M} (hd : is.Nodup) (hn : is.length = n) (hz : n ≤ sizeLine) (h : Cp K ca Wx ta is ms) : Cs K ca Wx (tAsg (tTup ta) (gTup K n (gNs is))) (parS is ms) := by
  intro c T Γ σ H D ok p
  refine h c T Γ σ H _ ok ((Pst.bind p).imp fun Γ' p vs H' hl ok' s' => ?_)
  refine ⟨by rw [hl, hn]; exact hz, fun a ha => ⟨a, vs, rfl, .inl (.of upd_same), by rw [hl, hn], gNs_go hl ?_⟩⟩
  have s := same_new (o := HO.tup vs) ha
  rw [setsF_eq hd]
  exact p _ _ (ok'.same s) (s'.trans (hid_mono s fun _ z => z))
end
section
variable {X : Cx} {ca : Str → Addr} {Wx : WX} {e : Expr} {es : List Expr} {m : M} {ms : List M} {pos : Pos}
def Sp1 (X : Cx) (ca : Str → Addr) (Wx : WX) (es : List Expr) (is : List Nat) (ms : List M) : Prop := ∃ ta, PA X es ta ∧ Cp X.K ca Wx ta is ms
theorem p_nil : Sp1 X ca Wx [] [] [] := ⟨_, pa_nil, cp_nil⟩
theorem p_cons (i : Nat) {is : List Nat} (he : Sx X ca Wx e m) (hr : Sp1 X ca Wx es is ms) (hs : starEach (e :: es) X.env = (false, eval e X.env) :: starEach es X.env := by rfl) : Sp1 X ca Wx (e :: es) (i :: is) (m :: ms) :=
  let ⟨_, p1, c1⟩ := he; let ⟨_, p2, c2⟩ := hr; ⟨_, pa_cons p1 p2 hs, cp_cons c1 c2⟩
theorem s_par2 {i j : Nat} {x y : Str} {a b : Expr} {px py pt pt2 : Pos} {kt k2 : Nat} (hc : X.calm = true) (hN : X.N.Nodup) (hi : X.N[i]? = some x) (hj : X.N[j]? = some y) (hx : X.env.scope.names.lookup x = some .local) (hy : X.env.scope.names.lookup y = some .local)
    (ha : Sp1 X ca Wx [a, b] [i, j] ms) (hij : i ≠ j := by decide) (hw : swappedStores [.Tuple [.Name x px, .Name y py] kt pt] (.Tuple [a, b] k2 pt2) X.env = pure (some [x, y]) := by rfl)
    (hs : swapsWithSole [.Tuple [.Name x px, .Name y py] kt pt] (.Tuple [a, b] k2 pt2) pos.line X.env = pure false := by rfl) : Ss X ca Wx (.Assign [.Tuple [.Name x px, .Name y py] kt pt] (.Tuple [a, b] k2 pt2) pos) (parS [i, j] ms) :=
  let ⟨_, p1, c1⟩ := ha; ⟨_, ps_par hc hN hi hj hij hx hy p1 hw hs, cs_par2 hij c1⟩
theorem s_par3 {i j l : Nat} {x y z : Str} {a b c : Expr} {px py pz pt pt2 : Pos} {kt k2 : Nat} (hc : X.calm = true) (hN : X.N.Nodup) (hi : X.N[i]? = some x) (hj : X.N[j]? = some y) (hl : X.N[l]? = some z) (hx : X.env.scope.names.lookup x = some .local) (hy : X.env.scope.names.lookup y = some .local) (hz : X.env.scope.names.lookup z = some .local)
    (ha : Sp1 X ca Wx [a, b, c] [i, j, l] ms) (hij : i ≠ j := by decide) (hil : i ≠ l := by decide) (hjl : j ≠ l := by decide) (hw : swappedStores [.Tuple [.Name x px, .Name y py, .Name z pz] kt pt] (.Tuple [a, b, c] k2 pt2) X.env = pure (some [x, y, z]) := by rfl)
    (hs : swapsWithSole [.Tuple [.Name x px, .Name y py, .Name z pz] kt pt] (.Tuple [a, b, c] k2 pt2) pos.line X.env = pure false := by rfl) : Ss X ca Wx (.Assign [.Tuple [.Name x px, .Name y py, .Name z pz] kt pt] (.Tuple [a, b, c] k2 pt2) pos) (parS [i, j, l] ms) :=
  let ⟨_, p1, c1⟩ := ha; ⟨_, ps_par3 hc hN hi hj hl hij hil hjl hx hy hz p1 hw hs, cs_par3 hij hil hjl c1⟩
theorem s_parT {ts : List Expr} {k k2 n : Nat} {is : List Nat} {pt pt2 : Pos} (hc : X.calm = true) (h : PGs X ts (gNs is)) (ha : Sp1 X ca Wx es is ms) (hd : is.Nodup := by decide) (hl : is.length = n := by rfl) (hz : n ≤ sizeLine := by decide)
    (hs : swapsWithSole [.Tuple ts k pt] (.Tuple es k2 pt2) pos.line X.env = pure false := by rfl) (hw : swappedStores [.Tuple ts k pt] (.Tuple es k2 pt2) X.env = pure none := by rfl) (h1 : (assignEach [.Tuple ts k pt] X.env).map (·.2) = [assign (.Tuple ts k pt) X.env] := by rfl)
    (hn : (assignEach ts X.env).length = n := by rfl) (hst : (assignEach ts X.env).findIdx? (·.1) = none := by rfl) :
    Ss X ca Wx (.Assign [.Tuple ts k pt] (.Tuple es k2 pt2) pos) (parS is ms) :=
  let ⟨_, p1, c1⟩ := ha; ⟨_, ps_asg (pe_tup p1) (pg_tup hc h hn hst) hs hw h1, cs_parT hd hl hz c1⟩
end
/-! ### a list in a slot is changed -/
/-- a value, frozen -/
def clM (m : M) : Gam → R (D × Gam) := fun Γ => (m Γ).bind fun p => match p.1 with
  | .cl d => .ok (d, p.2)
  | .fr ds => .ok (.lst ds, p.2)
  | .bo j => match p.2[j]? with
    | some (.own _ ds) => .ok (.lst ds, p.2.set j (.val (.lst ds)))
    | _ => .no
/-- the slot that m names, and its list -/
def slM (m : M) : Gam → R (Nat × Gam) := fun Γ => (m Γ).bind fun p => match p.1 with
  | .bo j => (match p.2[j]? with
    | some (.own _ _) => .ok (j, p.2)
    | _ => .no)
  | _ => .no
section
variable {K : PySem.W.Frag} {ca : Str → Addr} {Wx : WX} {te to ti : TE} {me mo mi : M}
abbrev QD (K : PySem.W.Frag) (c : Fx) (T : Addr → HO → Prop) (Hb : Hp) (σ : Slots) (Q : VK) (p : D × Gam) : Prop := ∀ v H', EnvOk K c T p.2 σ H' → Dv K (hid (Oc c T p.2 σ) H') v p.1 → Same Hb (hid (Oc c T p.2 σ) H') → Q v H'
theorem ce_cl (h : Ce K ca Wx te me) {c : Fx} {T : Addr → HO → Prop} {Γ : Gam} {σ : Slots} {H : Hp} {Q : VK} (ok : EnvOk K c T Γ σ H) (p : Pst K ca c T (hid (Oc c T Γ σ) H) Wx (clM me Γ) (QD K c T (hid (Oc c T Γ σ) H) σ Q)) : te σ H Q := by
  refine h c T Γ σ H _ ok ((Pst.bind p).imp fun q p v H1 ev s1 => ?_)
  obtain ⟨w, Γ1⟩ := q
  replace s1 := Ox.dn s1
  obtain ⟨ok1, hv⟩ := ev.hold
  cases w with
  | cl d => exact p v H1 ok1 hv s1
  | fr ds => exact p v H1 ok1 hv s1
  | bo j =>
    have p1 : Pst K ca c T _ Wx (match Γ1[j]? with
      | some (.own _ ds) => R.ok (D.lst ds, Γ1.set j (.val (.lst ds)))
      | _ => .no) _ := p
    cases e : Γ1[j]? with
    | none => rw [e] at p1; exact p1.elim
    | some u =>
      rw [e] at p1
      cases u with
      | un => exact p1.elim
      | val d => exact p1.elim
      | own b ds =>
        obtain ⟨a1, a2, a3⟩ := ok1.freeze e
        exact p1 v H1 a1 (a3 v hv) (s1.trans a2)
abbrev QS (K : PySem.W.Frag) (c : Fx) (T : Addr → HO → Prop) (Hb : Hp) (σ : Slots) (Q : VK) (p : Nat × Gam) : Prop := (∃ b ds, p.2[p.1]? = some (.own b ds)) → ∀ v H', EnvOk K c T p.2 σ H' → σ[p.1]? = some (some v) → Same Hb (hid (Oc c T p.2 σ) H') → Q v H'
theorem ce_sl (h : Ce K ca Wx te me) {c : Fx} {T : Addr → HO → Prop} {Γ : Gam} {σ : Slots} {H : Hp} {Q : VK} (ok : EnvOk K c T Γ σ H) (p : Pst K ca c T (hid (Oc c T Γ σ) H) Wx (slM me Γ) (QS K c T (hid (Oc c T Γ σ) H) σ Q)) : te σ H Q := by
  refine h c T Γ σ H _ ok ((Pst.bind p).imp fun q p v H1 ev s1 => ?_)
  obtain ⟨w, Γ1⟩ := q
  replace s1 := Ox.dn s1
  obtain ⟨ok1, hv⟩ := ev.hold
  cases w with
  | cl d => exact p.elim
  | fr ds => exact p.elim
  | bo j =>
    have p1 : Pst K ca c T _ Wx (match Γ1[j]? with
      | some (.own _ _) => R.ok (j, Γ1)
      | _ => .no) _ := p
    cases e : Γ1[j]? with
    | none => rw [e] at p1; exact p1.elim
    | some u =>
      rw [e] at p1
      cases u with
      | un => exact p1.elim
      | val d => exact p1.elim
      | own b ds => exact p1 ⟨b, ds, e⟩ v H1 ok1 hv s1
/-- o[i] = e -/
def setM (mo mi me : M) : MS := fun Γ => (clM me Γ).bind fun p => (slM mo p.2).bind fun q => (clM mi q.2).bind fun r => match r.1, r.2[q.1]? with
  | .int k, some (.own b ds) => match ixN ds.length k with
    | some j => .ok (.nx (r.2.set q.1 (.own b (ds.set j p.1))))
    | none => .no
  | _, _ => .no
theorem cs_set (he : Ce K ca Wx te me) (ho : Ce K ca Wx to mo) (hi : Ce K ca Wx ti mi) : Cs K ca Wx (tAsg te (gSub to ti rSetL)) (setM mo mi me) := by
  intro c T Γ σ H D ok p
  refine ce_cl he ok ((Pst.bind p).imp fun q1 p v H1 ok1 hv s1 => ?_)
  refine ce_sl ho ok1 (((Pst.bind p).base s1).imp fun q2 p key o H2 ok2 ho2 s2 => ?_)
  refine ce_cl hi ok2 (((Pst.bind p).base (s1.trans s2)).imp fun q3 p y H3 ok3 hy s3 => ?_)
  obtain ⟨d3, Γ3⟩ := q3
  obtain ⟨i, Γ2⟩ := q2
  have p1 : Pst K ca c T _ Wx (match d3, Γ3[i]? with
    | .int k, some (.own b ds) => match ixN ds.length k with
      | some j => R.ok (Out.nx (Γ3.set i (.own b (ds.set j q1.1))))
      | none => .no
    | _, _ => .no) _ := p
  split at p1
  · rename_i k b ds e
    cases e2 : ixN ds.length k with
    | none => rw [e2] at p1; exact p1.elim
    | some j =>
      rw [e2] at p1
      obtain ⟨l, xs, a1, a2, a3, _⟩ := ok3.own i b ds e
      rw [ho2] at a1
      cases a1
      have hk : y = .int k := by cases hy; rfl
      refine ⟨l, xs, k, j, rfl, hk, a2, by rw [a3.len]; exact e2, ?_⟩
      obtain ⟨b1, b2⟩ := ok3.mut e ho2 a2 (DvAll.set (hv.mono (s2.trans s3)) j a3)
      exact p1 _ _ b1 (s1.trans (s2.trans (s3.trans b2)))
  · exact p1.elim
/-- o.append(e) -/
def apM (mo me : M) : MS := fun Γ => (slM mo Γ).bind fun q => (clM me q.2).bind fun p => match p.2[q.1]? with
  | some (.own b ds) => if ds.length < sizeLine then .ok (.nx (p.2.set q.1 (.own b (ds ++ [p.1])))) else .no
  | _ => .no
theorem cs_append (ho : Ce K ca Wx to mo) (he : Ce K ca Wx te me) : Cs K ca Wx (tDrop (tBM K "list" rAppend to (tCons te tNil))) (apM mo me) := by
  intro c T Γ σ H D ok p
  refine ce_sl ho ok ((Pst.bind p).imp fun q2 p key o H2 ok2 ho2 s2 => ?_)
  obtain ⟨i, Γ2⟩ := q2
  have hty : tyV K "list" o H2 ∧ (tCons te tNil) σ H2 fun xs H2 => rAppend o xs H2 fun _ H1 => D.nx σ H1 := by
    refine ⟨?_, ?_⟩
    · obtain ⟨b, ds, e⟩ := key
      obtain ⟨l, xs, a1, a2, _⟩ := ok2.own i b ds e
      rw [ho2] at a1
      cases a1
      exact .inl ⟨rfl, xs, .of a2⟩
    · refine ce_cl he ok2 (((Pst.bind p).base s2).imp fun q3 p v H3 ok3 hv s3 => ?_)
      obtain ⟨d, Γ3⟩ := q3
      have p1 : Pst K ca c T _ Wx (match Γ3[i]? with
        | some (.own b ds) => if ds.length < sizeLine then R.ok (Out.nx (Γ3.set i (.own b (ds ++ [d])))) else .no
        | _ => .no) _ := p
      split at p1
      · rename_i b ds e
        by_cases hz : ds.length < sizeLine
        · rw [if_pos hz] at p1
          obtain ⟨l, xs, a1, a2, a3, _⟩ := ok3.own i b ds e
          rw [ho2] at a1
          cases a1
          refine ⟨l, xs, v, rfl, rfl, a2, by rw [a3.len]; exact hz, ?_⟩
          obtain ⟨b1, b2⟩ := ok3.mut e ho2 a2 (a3.append (DvAll.one hv))
          exact p1 _ _ b1 (s2.trans (s3.trans b2))
        · rw [if_neg hz] at p1; exact p1.elim
      · exact p1.elim
  exact hty
/-- o[i] op= e -/
def auS (sem : D → D → Option W) (mo mi me : M) : MS := fun Γ => (slM mo Γ).bind fun q => (clM mi q.2).bind fun r => match r.1, r.2[q.1]? with
  | .int k, some (.own _ ds) => (match ixN ds.length k with
    | some j => (match ds[j]? with
      | some d0 => (clM me r.2).bind fun p => match sem d0 p.1, p.2[q.1]? with
        | some (.cl d), some (.own b es) => (match ixN es.length k with
          | some j' => .ok (.nx (p.2.set q.1 (.own b (es.set j' d))))
          | none => .no)
        | _, _ => .no
      | none => .no)
    | none => .no)
  | _, _ => .no
/-- xs[i] of a list -/
def gIxL (K : PySem.W.Frag) : V → V → Hp → VK → Prop := rIxL K
theorem get_list {X : Cx} : PGet X (gIxL X.K) := by
  intro pins s σ H o i ov iv Q I ro ri h
  obtain ⟨p, xs, k, z, rfl, rfl, hq, he, q⟩ := h
  cases ro
  obtain ⟨t, rfl⟩ := ri
  obtain ⟨its, r, pl, hz⟩ := I.list hq
  obtain ⟨j, h1, h2, h3, h4, h5⟩ := atI_get he
  obtain ⟨w, ew, rw'⟩ := r.get h2
  have hl := r.length
  have hn := line63
  have fin : EP X pins σ Q w s := ⟨z, H, I, rw', q⟩
  by_cases h0 : 0 ≤ k
  · have hj : k.toNat = j := by
      rw [seqIndex_of h0 h5] at h1
      exact Option.some.inj h1
    exact wpAny_getItem_list pl.isList h0 (by omega) (by rw [hj]; simpa using ew) fin
  · have hj : (k + (its.toArray.size : Int)).toNat = j := by
      rw [seqIndex_neg (by omega) h4] at h1
      rw [List.size_toArray, ← hl]
      exact Option.some.inj h1
    exact wpAny_getItem_list_neg pl.isList (by omega) (by rw [List.size_toArray] <;> omega) (by omega) (by rw [hj]; simpa using ew) fin
theorem cs_auS {sem : D → D → Option W} {r : TIp} (hr : So2 K r sem) (ho : Ce K ca Wx to mo) (hi : Ce K ca Wx ti mi) (he : Ce K ca Wx te me) : Cs K ca Wx (tAugS to ti te (gIxL K) r rSetL) (auS sem mo mi me) := by
  intro c T Γ σ H D ok p
  refine ce_sl ho ok ((Pst.bind p).imp fun q2 p key o H2 ok2 ho2 s2 => ?_)
  refine ce_cl hi ok2 (((Pst.bind p).base s2).imp fun q3 p y H3 ok3 hy s3 => ?_)
  obtain ⟨i, Γ2⟩ := q2
  obtain ⟨d3, Γ3⟩ := q3
  have p1 : Pst K ca c T _ Wx (match d3, Γ3[i]? with
    | .int k, some (.own _ ds) => (match ixN ds.length k with
      | some j => (match ds[j]? with
        | some d0 => (clM me Γ3).bind fun p => match sem d0 p.1, p.2[i]? with
          | some (.cl d), some (.own b es) => (match ixN es.length k with
            | some j' => R.ok (Out.nx (p.2.set i (.own b (es.set j' d))))
            | none => .no)
          | _, _ => .no
        | none => .no)
      | none => .no)
    | _, _ => .no) _ := p
  clear p
  split at p1
  · rename_i k b ds e
    cases e2 : ixN ds.length k with
    | none => rw [e2] at p1; exact p1.elim
    | some j =>
      rw [e2] at p1
      cases e3 : ds[j]? with
      | none => simp only [e3] at p1; exact p1.elim
      | some d0 =>
        simp only [e3] at p1
        obtain ⟨l, xs, a1, a2, a3, _⟩ := ok3.own i b ds e
        rw [ho2] at a1
        cases a1
        have hk : y = .int k := by cases hy; rfl
        obtain ⟨x0, ex0, hx0⟩ := a3.get e3
        refine ⟨l, xs, k, x0, rfl, hk, .of a2, ?_, ?_⟩
        · unfold atI
          rw [a3.len, e2]
          exact ex0
        · refine ce_cl he ok3 (((Pst.bind p1).base (s2.trans s3)).imp fun q4 p v H4 ok4 hv s4 => ?_)
          obtain ⟨d4, Γ4⟩ := q4
          have p2 : Pst K ca c T _ Wx (match sem d0 d4, Γ4[i]? with
            | some (.cl d), some (.own b es) => (match ixN es.length k with
              | some j' => R.ok (Out.nx (Γ4.set i (.own b (es.set j' d))))
              | none => .no)
            | _, _ => .no) _ := p
          clear p
          split at p2
          · rename_i d b4 es e4 e5
            cases e6 : ixN es.length k with
            | none => simp only [e6] at p2; exact p2.elim
            | some j' =>
              simp only [e6] at p2
              refine hr _ _ _ _ _ _ _ _ hid_sub (Vw.of hid_sub (hx0.mono s4)) (Vw.of hid_sub hv) e4 fun z H5 rz => ?_
              obtain ⟨⟨ok5, hz⟩, s5⟩ := res_ok ok4 rz
              replace s5 := Ox.dn s5
              obtain ⟨l', xs', c1, c2, c3, _⟩ := ok5.own i b4 es e5
              rw [ho2] at c1
              cases c1
              refine ⟨l, xs', k, j', rfl, hk, c2, by rw [c3.len]; exact e6, ?_⟩
              obtain ⟨b1, b2⟩ := ok5.mut e5 ho2 c2 (DvAll.set hz j' c3)
              exact p2 _ _ b1 (s2.trans (s3.trans (s4.trans (s5.trans b2))))
          · exact p2.elim
  · exact p1.elim
end
section
variable {X : Cx} {ca : Str → Addr} {Wx : WX} {o i e : Expr} {mo mi me : M} {pos tpos apos : Pos}
theorem s_setI (ho : Sx X ca Wx o mo) (hi : Sx X ca Wx i mi) (he : Sx X ca Wx e me)
    (ha : ∀ v, assign (.Subscript o i tpos) X.env v = (do
      let ov ← holding [v] (eval o X.env)
      let iv ← holding [v, ov] (eval i X.env)
      standAt tpos
      holding [v, ov, iv] (setItem ov iv v)
      release [v, ov, iv] []) := by intro _; rfl)
    (hs : swapsWithSole [.Subscript o i tpos] e pos.line X.env = pure false := by rfl) (hw : swappedStores [.Subscript o i tpos] e X.env = pure none := by rfl) (h1 : (assignEach [.Subscript o i tpos] X.env).map (·.2) = [assign (.Subscript o i tpos) X.env] := by rfl) :
    Ss X ca Wx (.Assign [.Subscript o i tpos] e pos) (setM mo mi me) :=
  let ⟨_, p1, c1⟩ := ho; let ⟨_, p2, c2⟩ := hi; let ⟨_, p3, c3⟩ := he; ⟨_, ps_asg p3 (pg_sub p1 p2 set_list ha) hs hw h1, cs_set c3 c1 c2⟩
theorem s_augI {op : Operator} {r : TIp} {sem : D → D → Option W} (hp : PIp X op r) (hr : So2 X.K r sem) (ho : Sx X ca Wx o mo) (hi : Sx X ca Wx i mi) (he : Sx X ca Wx e me)
    (ha : ∀ ov iv new, augStore i ov iv new = (do holding [new, ov, iv] (setItem ov iv new); release [new, ov, iv] []; pure .next) := by intros; rfl) :
    Ss X ca Wx (.AugAssign (.Subscript o i tpos) op e pos) (auS sem mo mi me) :=
  let ⟨_, p1, c1⟩ := ho; let ⟨_, p2, c2⟩ := hi; let ⟨_, p3, c3⟩ := he; ⟨_, ps_augS p1 p2 get_list p3 hp set_list ha, cs_auS hr c1 c2 c3⟩
theorem s_append (ho : Sx X ca Wx o mo) (he : Sx X ca Wx e me)
    (hbase : attributeBase o "append" X.env (eval o X.env) = eval o X.env := by rfl)
    (hfew : ((backTo tpos (starEach [e] X.env)).all (fun x => !x.1) && (backToKw tpos (keywordEach [] X.env)).all (fun x => x.1.isSome)
      && decide (([e] : List Expr).length + ([] : List Keyword).length + (if ([] : List Keyword).isEmpty then 0 else 1) < 30)) = true := by rfl)
    (hline : (apos.endLine == tpos.line) = true := by rfl) (hs : starEach [e] X.env = (false, eval e X.env) :: starEach [] X.env := by rfl)
    (hq : swapsWith (.Call (.Attribute o "append" apos) [e] [] tpos) none pos.line X.env = pure false := by rfl) :
    Ss X ca Wx (.Expr (.Call (.Attribute o "append" apos) [e] [] tpos) pos) (apM mo me) :=
  let ⟨_, p1, c1⟩ := ho; let ⟨_, p3, c3⟩ := he
  ⟨_, ps_expr (pe_bm PySem.F.plainAttrs_list PySem.F.slot_list_append PySem.F.type_list_append mt_append p1 (pa_cons p3 pa_nil hs) hbase hfew hline hs rfl) hq, cs_append c1 c3⟩
/-- ints, in place -/
def D.iadd : D → D → Option W
  | .int i, .int j => some (.cl (.int (i + j)))
  | _, _ => none
def D.isub : D → D → Option W
  | .int i, .int j => some (.cl (.int (i - j)))
  | _, _ => none
theorem so_ipAdd {K : PySem.W.Frag} : So2 K (ipI fun i j => i + j) D.iadd := by
  intro Hd H x y d e w Q s hx hy hs q
  unfold D.iadd at hs
  split at hs
  · cases hs
    have ex := vw_int hx
    have ey := vw_int hy
    subst ex ey
    exact ⟨_, _, rfl, rfl, q _ _ (.inl ⟨rfl, .int _⟩)⟩
  · cases hs
theorem so_ipSub {K : PySem.W.Frag} : So2 K (ipI fun i j => i - j) D.isub := by
  intro Hd H x y d e w Q s hx hy hs q
  unfold D.isub at hs
  split at hs
  · cases hs
    have ex := vw_int hx
    have ey := vw_int hy
    subst ex ey
    exact ⟨_, _, rfl, rfl, q _ _ (.inl ⟨rfl, .int _⟩)⟩
  · cases hs
end
end Mw
set_option Elab.async false
set_option linter.all false
set_option maxRecDepth 100000
set_option maxHeartbeats 2000000
/-! Mw: what is walked; for; comprehensions -/
namespace Mw
open PySem PySem.Spec PyProof.Rows L2
abbrev QI (K : PySem.W.Frag) (c : Fx) (T : Addr → HO → Prop) (Hb : Hp) (σ : Slots) (Q : It → Hp → Prop) (p : List D × Gam) : Prop := ∀ J G Y H1, EnvOk K c T p.2 σ H1 → Same Hb (hid (Oc c T p.2 σ) H1) →
  Walk J p.1.length G Y → (∀ H', Same (hid (Oc c T p.2 σ) H1) H' → G H') →
  (∀ i Hd H x H' d, p.1[i]? = some d → Same (hid (Oc c T p.2 σ) H1) Hd → Same Hd H → Y i H x H' → Res K Hd H (.cl d) x H') → Q J H1
def Ci (K : PySem.W.Frag) (ca : Str → Addr) (Wx : WX) (ti : TI) (m : Gam → R (List D × Gam)) : Prop := ∀ (c : Fx) (T : Addr → HO → Prop) (Γ : Gam) (σ : Slots) (H : Hp) (Q : It → Hp → Prop),
  EnvOk K c T Γ σ H → Pst K ca c T (hid (Oc c T Γ σ) H) Wx (m Γ) (QI K c T (hid (Oc c T Γ σ) H) σ Q) → ti σ H Q
/-- what a for or a comprehension walks -/
def Si (X : Cx) (ca : Str → Addr) (Wx : WX) (tg e : Expr) (m : Gam → R (List D × Gam)) : Prop := ∃ ti, PI X tg e ti ∧ Ci X.K ca Wx ti m
/-! ### a list or a tuple -/
def iSeq (K : PySem.W.Frag) (tl : TE) : TI := fun σ H R => tl σ H fun x H1 => (∃ a, x = .ref a ∧ (∃ xs, SqL K H1 a xs) ∧ R (Itl K a) H1) ∨ (∃ a, x = .ref a ∧ (∃ xs, SqT K H1 a xs) ∧ R (Itt K a) H1)
theorem pi_seq {X : Cx} {tg l : Expr} {tl : TE} (hl : PE X l tl) : PI X tg l (iSeq X.K tl) := by
  refine ⟨fun pins s σ H R I h => ?_⟩
  refine thn (hl.run pins s σ H _ I h) fun v s1 ⟨x, H1, I1, r1, q1⟩ => ?_
  rcases q1 with ⟨a, e, ⟨xs, hq⟩, q⟩ | ⟨a, e, ⟨xs, hq⟩, q⟩
  · subst e
    cases r1
    obtain ⟨its, rv, p, hz⟩ := I1.list hq
    refine wpAny_pyIter_list p.isList ?_
    refine ⟨s1.heap.objs.size, [s1.heap.objs.size], _, _, H1, rfl, I1.kept (t' := s1.toks) fun b o e => Heap.get?_push_of_some _ e, turn_list a _, ⟨_, Heap.get?_push_size _ rfl, rfl, rfl⟩, fun b hb => ?_, q⟩
    have e : b = s1.heap.objs.size := by simpa using hb
    subst e
    exact I1.fpOk (Nat.le_refl _) (I1.hok.fresh (Nat.le_refl _))
  · subst e
    cases r1
    obtain ⟨its, rv, p, hz⟩ := I1.tuple hq
    refine wpAny_pyIter_tuple (show s1.heap.IsTuple a its.toArray from p) ?_
    refine ⟨s1.heap.objs.size, [s1.heap.objs.size], _, _, H1, rfl, I1.kept (t' := s1.toks) fun b o e => Heap.get?_push_of_some _ e, turn_tuple a _, ⟨_, Heap.get?_push_size _ rfl, rfl, rfl⟩, fun b hb => ?_, q⟩
    have e : b = s1.heap.objs.size := by simpa using hb
    subst e
    exact I1.fpOk (Nat.le_refl _) (I1.hok.fresh (Nat.le_refl _))
def seqM (m : M) : Gam → R (List D × Gam) := fun Γ => (clM m Γ).bind fun p => match p.1 with
  | .lst ds => .ok (ds, p.2)
  | .tup ds => .ok (ds, p.2)
  | _ => .no
section
variable {K : PySem.W.Frag} {ca : Str → Addr} {Wx : WX} {te : TE} {m : M}
theorem yat {Hd H H' : Hp} {x : V} {xs : List V} {ds : List D} {d : D} {i : Nat} (hd : DvAll K Hd xs ds) (e : ds[i]? = some d) (y : YAt xs i H x H') : Res K Hd H (.cl d) x H' := by
  obtain ⟨v, e1, hv⟩ := hd.get e
  obtain ⟨rfl, e2⟩ := y
  rw [e1] at e2
  cases e2
  exact .inl ⟨rfl, hv⟩
theorem ci_seq (h : Ce K ca Wx te m) : Ci K ca Wx (iSeq K te) (seqM m) := by
  intro c T Γ σ H Q ok p
  refine ce_cl h ok ((Pst.bind p).imp fun q p v H1 ok1 hv s1 => ?_)
  obtain ⟨d, Γ1⟩ := q
  cases d with
  | lst ds =>
    cases hv with
    | lst hs ha =>
      have p1 : QI K c T _ σ Q (ds, Γ1) := p
      refine .inl ⟨_, rfl, ⟨_, hid_sub.seq hs⟩, p1 _ _ _ H1 ok1 s1 (by rw [← ha.len]; exact walk_list) (fun H' s => s.seq hs) fun i Hd H x H' d e s s' y => yat (DvAll.mono s _ _ ha) e y⟩
  | tup ds =>
    cases hv with
    | tup hs ha =>
      have p1 : QI K c T _ σ Q (ds, Γ1) := p
      refine .inr ⟨_, rfl, ⟨_, same_t hid_sub hs⟩, p1 _ _ _ H1 ok1 s1 (by rw [← ha.len]; exact walk_tup) (fun H' s => same_t s hs) fun i Hd H x H' d e s s' y => yat (DvAll.mono s _ _ ha) e y⟩
  | _ => exact p.elim
end
/-! ### ranges -/
/-- lo, lo + c, .. -/
def rngL (lo c : Int) (n : Nat) : List D := (List.range n).map fun i => .int (lo + (i : Nat) * c)
theorem rngL_len {lo c : Int} {n : Nat} : (rngL lo c n).length = n := by simp [rngL]
theorem rngL_get {lo c : Int} {n i : Nat} {d : D} (h : (rngL lo c n)[i]? = some d) : d = .int (lo + (i : Nat) * c) := by
  unfold rngL at h
  rw [List.getElem?_map] at h
  by_cases hi : i < n
  · rw [List.getElem?_range hi] at h
    cases h
    rfl
  · rw [List.getElem?_eq_none (by simpa using hi)] at h
    cases h
def argI : List W → Option (List Int)
  | [] => some []
  | .cl (.int i) :: ws => (argI ws).bind fun is => some (i :: is)
  | _ => none
abbrev sml (i : Int) : Prop := -(2 ^ 62) ≤ i ∧ i < 2 ^ 62
def rng1M (ms : Gam → R (List W × Gam)) : Gam → R (List D × Gam) := fun Γ => (ms Γ).bind fun p => match argI p.1 with
  | some [j] => if sml j then .ok (rngL 0 1 j.toNat, p.2) else .no
  | _ => .no
def rng2M (ms : Gam → R (List W × Gam)) : Gam → R (List D × Gam) := fun Γ => (ms Γ).bind fun p => match argI p.1 with
  | some [i, j] => if sml i ∧ sml j then .ok (rngL i 1 (j - i).toNat, p.2) else .no
  | _ => .no
def rng3M (ms : Gam → R (List W × Gam)) : Gam → R (List D × Gam) := fun Γ => (ms Γ).bind fun p => match argI p.1 with
  | some [i, j, k] => if sml i ∧ sml j ∧ k = -1 then .ok (rngL i (-1) (i - j).toNat, p.2) else .no
  | _ => .no
section
variable {K : PySem.W.Frag} {ca : Str → Addr} {Wx : WX} {ta : TA} {ms : Gam → R (List W × Gam)}
theorem argI_ok {Hd : Hp} {Γ : Gam} {σ : Slots} : ∀ {ws : List W} {vs : List V} {is : List Int}, Paired (fun w v => HvOk K Hd w v Γ σ) ws vs → argI ws = some is → vs = is.map V.int
  | _, _, is, .nil, e => by
    have e' : some [] = some is := e
    cases e'
    rfl
  | w :: ws, v :: vs, is, .cons h t, e => by
    unfold argI at e
    split at e
    · cases ‹_ :: _ = []›
    · rename_i i ws' e0
      cases e0
      cases e1 : argI ws with
      | none => rw [e1] at e; cases e
      | some js =>
        rw [e1] at e
        cases e
        have hv : v = .int i := by
          have h' : Dv K Hd v (.int i) := h
          cases h'
          rfl
        rw [hv, argI_ok t e1]
        rfl
    · cases e
theorem yfn {Hd H H' : Hp} {x : V} {lo c : Int} {n i : Nat} {d : D} (e : (rngL lo c n)[i]? = some d) (y : YFn (fun i => .int (lo + (i : Nat) * c)) i H x H') : Res K Hd H (.cl d) x H' := by
  obtain ⟨rfl, rfl⟩ := y
  rw [rngL_get e]
  exact .inl ⟨rfl, .int _⟩
theorem yfn1 {Hd H H' : Hp} {x : V} {lo : Int} {n i : Nat} {d : D} (e : (rngL lo 1 n)[i]? = some d) (y : YFn (fun i => .int (lo + i)) i H x H') : Res K Hd H (.cl d) x H' := by
  refine yfn e ⟨y.1, ?_⟩
  rw [y.2]
  show V.int (lo + (i : Nat)) = V.int (lo + (i : Nat) * 1)
  rw [Int.mul_one]
theorem ci_rng1 (h : Ca K ca Wx ta ms) : Ci K ca Wx (iRng1 ta) (rng1M ms) := by
  intro c T Γ σ H Q ok p
  refine h c T Γ σ H _ ok ((Pst.bind p).imp fun q p vs H1 ok1 hv s1 => ?_)
  split at p
  · rename_i j e
    by_cases hj : sml j
    · rw [if_pos hj] at p
      have p1 : QI K c T _ σ Q (rngL 0 1 j.toNat, q.2) := p
      refine ⟨j, argI_ok hv e, hj.1, hj.2, p1 _ _ _ H1 ok1 s1 (by rw [rngL_len]; exact walk_range) (fun _ _ => trivial) fun i Hd H x H' d e _ _ y => yfn1 e y⟩
    · rw [if_neg hj] at p; exact p.elim
  · exact p.elim
theorem ci_rng2 (h : Ca K ca Wx ta ms) : Ci K ca Wx (iRng2 ta) (rng2M ms) := by
  intro c T Γ σ H Q ok p
  refine h c T Γ σ H _ ok ((Pst.bind p).imp fun q p vs H1 ok1 hv s1 => ?_)
  split at p
  · rename_i i j e
    by_cases hj : sml i ∧ sml j
    · rw [if_pos hj] at p
      have p1 : QI K c T _ σ Q (rngL i 1 (j - i).toNat, q.2) := p
      refine ⟨i, j, argI_ok hv e, ⟨hj.1.1, hj.1.2, hj.2.1, hj.2.2⟩, p1 _ _ _ H1 ok1 s1 (by rw [rngL_len]; exact walk_range) (fun _ _ => trivial) fun i Hd H x H' d e _ _ y => yfn1 e y⟩
    · rw [if_neg hj] at p; exact p.elim
  · exact p.elim
theorem ci_rng3 (h : Ca K ca Wx ta ms) : Ci K ca Wx (iRng3 ta) (rng3M ms) := by
  intro c T Γ σ H Q ok p
  refine h c T Γ σ H _ ok ((Pst.bind p).imp fun q p vs H1 ok1 hv s1 => ?_)
  split at p
  · rename_i i j k e
    by_cases hj : sml i ∧ sml j ∧ k = -1
    · rw [if_pos hj] at p
      obtain ⟨h1, h2, rfl⟩ := hj
      have p1 : QI K c T _ σ Q (rngL i (-1) (i - j).toNat, q.2) := p
      refine ⟨i, j, -1, (i - j).toNat, argI_ok hv e, RgC.neg h1.1 h1.2 h2.1 h2.2, p1 _ _ _ H1 ok1 s1 (by rw [rngL_len]; exact walk_rangeC) (fun _ _ => trivial) fun i Hd H x H' d e _ _ y => yfn e y⟩
    · rw [if_neg hj] at p; exact p.elim
  · exact p.elim
end
section
variable {X : Cx} {ca : Str → Addr} {Wx : WX} {tg e : Expr} {m : M} {a b c : Expr} {ms : Gam → R (List W × Gam)} {p pos : Pos}
theorem i_seq (h : Sx X ca Wx e m) : Si X ca Wx tg e (seqM m) := let ⟨_, p1, c1⟩ := h; ⟨_, pi_seq p1, ci_seq c1⟩
theorem i_rng1 (hg : Gl X "range") (hm : X.mg "range" = none) (h : Sa X ca Wx [a] ms) (hs : starEach [a] X.env = [(false, eval a X.env)] := by rfl) : Si X ca Wx tg (.Call (.Name "range" p) [a] [] pos) (rng1M ms) :=
  let ⟨_, p1, c1⟩ := h; ⟨_, pi_range1 hg hm p1 hs, ci_rng1 c1⟩
theorem i_rng2 (hg : Gl X "range") (hm : X.mg "range" = none) (h : Sa X ca Wx [a, b] ms) (hs : starEach [a, b] X.env = [(false, eval a X.env), (false, eval b X.env)] := by rfl) (hs2 : starEach [b] X.env = [(false, eval b X.env)] := by rfl) : Si X ca Wx tg (.Call (.Name "range" p) [a, b] [] pos) (rng2M ms) :=
  let ⟨_, p1, c1⟩ := h; ⟨_, pi_range2 hg hm p1 hs hs2, ci_rng2 c1⟩
theorem i_rng3 (hg : Gl X "range") (hm : X.mg "range" = none) (h : Sa X ca Wx [a, b, c] ms) (hs : starEach [a, b, c] X.env = (false, eval a X.env) :: starEach [b, c] X.env := by rfl) (hpl : (backTo pos (starEach [b, c] X.env)).any (·.1) = false := by rfl) :
    Si X ca Wx tg (.Call (.Name "range" p) [a, b, c] [] pos) (rng3M ms) :=
  let ⟨_, p1, c1⟩ := h; ⟨_, pi_range3 hg hm p1 hs hpl, ci_rng3 c1⟩
end
/-! ### for -/
def forG (tgt : D → Gam → Option Gam) (body : MS) (ks : List Nat) : List D → Gam → R Out
  | [], Γ => .ok (.nx Γ)
  | d :: ds, Γ => match tgt d Γ with
    | none => .no
    | some Γ1 => (body Γ1).bind fun o => match o with
      | .nx Γ2 => forG tgt body ks ds (kill ks Γ2)
      | .ct Γ2 => forG tgt body ks ds (kill ks Γ2)
      | .bk Γ2 => .ok (.nx (kill ks Γ2))
      | .rt w Γ2 => .ok (.rt w Γ2)
def forM (mi : Gam → R (List D × Gam)) (tgt : D → Gam → Option Gam) (body : MS) (ks : List Nat) : MS := fun Γ => (mi Γ).bind fun p => forG tgt body ks p.1 (kill ks p.2)
section
variable {K : PySem.W.Frag} {ca : Str → Addr} {Wx : WX} {ti : TI} {g : TG} {tb : TS} {mi : Gam → R (List D × Gam)} {tgt : D → Gam → Option Gam} {body : MS} {ks : List Nat}
theorem drop_cons {α : Type} {l : List α} {i : Nat} (h : i < l.length) : ∃ a, l[i]? = some a ∧ l.drop i = a :: l.drop (i + 1) := ⟨l[i], by simp [h], List.drop_eq_getElem_cons h⟩
theorem cs_for (hi : Ci K ca Wx ti mi) (hg : Ct K g tgt) (hb : Cs K ca Wx tb body) : Cs K ca Wx (tFor ti g tb) (forM mi tgt body ks) := by
  intro c T Γ σ H D ok p
  refine hi c T Γ σ H _ ok ((Pst.bind p).imp fun q p J G Y H1 ok1 s1 wk st yd => ?_)
  obtain ⟨ds, Γ1⟩ := q
  obtain ⟨okk, sk⟩ := EnvOk.kill (ks := ks) ok1
  refine for_it wk (fun i σ' H' => ∃ Γi, EnvOk K c T Γi σ' H' ∧ Same (hid (Oc c T Γ1 σ) H1) (hid (Oc c T Γi σ') H') ∧ Pst K ca c T (hid (Oc c T Γ σ) H) Wx (forG tgt body ks (ds.drop i) Γi) (PO K c T (hid (Oc c T Γ σ) H) D))
    ⟨_, okk, sk, p⟩ (fun i σ' H' _ ⟨Γi, _, s, _⟩ => st H' (s.trans hid_sub)) ?_ ?_
  · rintro i x σ' H' H2 hlt ⟨Γi, oki, si, pi⟩ y
    obtain ⟨d, e1, e2⟩ := drop_cons hlt
    obtain ⟨⟨ok2, hv⟩, s2⟩ := res_ok oki (yd i _ H' x H2 d e1 si hid_sub y)
    replace s2 := Ox.dn s2
    rw [e2] at pi
    unfold forG at pi
    cases e3 : tgt d Γi with
    | none => rw [e3] at pi; exact pi.elim
    | some Γ3 =>
      rw [e3] at pi
      refine hg c T Γi Γ3 σ' H2 x d _ ok2 hv e3 fun σ3 H3 ok3 s3 => ?_
      have sB : Same (hid (Oc c T Γ σ) H) (hid (Oc c T Γ3 σ3) H3) := s1.trans (si.trans (s2.trans s3))
      refine hb c T Γ3 σ3 H3 _ ok3 (((Pst.bind (show Pst K ca c T _ Wx ((body Γ3).bind _) _ from pi)).base sB).imp fun o po => ?_)
      have nxt : ∀ {Γ4 : Gam}, Pst K ca c T (hid (Oc c T Γ σ) H) Wx (forG tgt body ks (ds.drop (i + 1)) (kill ks Γ4)) (PO K c T (hid (Oc c T Γ σ) H) D) → ∀ σ4 H4, EnvOk K c T Γ4 σ4 H4 → Same (hid (Oc c T Γ3 σ3) H3) (hid (Oc c T Γ4 σ4) H4) →
          ∃ Γi, EnvOk K c T Γi σ4 H4 ∧ Same (hid (Oc c T Γ1 σ) H1) (hid (Oc c T Γi σ4) H4) ∧ Pst K ca c T (hid (Oc c T Γ σ) H) Wx (forG tgt body ks (ds.drop (i + 1)) Γi) (PO K c T (hid (Oc c T Γ σ) H) D) := fun pp σ4 H4 ok4 s4 =>
        let ⟨k1, k2⟩ := EnvOk.kill (ks := ks) ok4
        ⟨_, k1, si.trans (s2.trans (s3.trans (s4.trans k2))), pp⟩
      cases o with
      | nx Γ4 => exact nxt po
      | ct Γ4 => exact nxt po
      | bk Γ4 =>
        intro σ4 H4 ok4 s4
        obtain ⟨k1, k2⟩ := EnvOk.kill (ks := ks) ok4
        exact po σ4 H4 k1 (sB.trans (s4.trans k2))
      | rt w Γ4 => exact fun v σ4 H4 ok4 s4 => po v σ4 H4 ok4 (sB.trans s4)
  · rintro σ' H' ⟨Γi, oki, si, pi⟩
    rw [List.drop_length] at pi
    exact pi σ' H' oki (s1.trans si)
end
theorem s_for {X : Cx} {ca : Str → Addr} {Wx : WX} {tg iter : Expr} {b : List Stmt} {mi : Gam → R (List D × Gam)} {tgt : D → Gam → Option Gam} {body : MS} {pos : Pos} (ks : List Nat) (hp : PassesOwn (model X.prog X.w) X.A X.env X.xe) (hc : X.calm = true) (hi : Si X ca Wx tg iter mi) (hg : Sg X tg tgt) (hb : Sk X ca Wx b body)
    (hs : ∀ x, foldedSetIterable iter X.env x = pure x := by intro _; rfl) : Ss X ca Wx (.For tg iter b [] pos) (forM mi tgt body ks) :=
  let ⟨_, p1, c1⟩ := hi; let ⟨_, p2, c2⟩ := hg; let ⟨_, p3, c3⟩ := hb; ⟨_, ps_for hp hc p1 p2 p3 hs, cs_for c1 c2 c3⟩
end Mw
set_option Elab.async false
set_option linter.all false
set_option maxRecDepth 100000
set_option maxHeartbeats 2000000
/-! Mw: list comprehensions -/
namespace Mw
open PySem PySem.Spec PyProof.Rows L2
/-! ### readings told by mirrors alone -/
def canE (K : PySem.W.Frag) (ca : Str → Addr) (Wx : WX) (m : M) : TE := fun σ H Q => ∃ c T Γ, EnvOk K c T Γ σ H ∧ Pst K ca c T (hid (Oc c T Γ σ) H) Wx (m Γ) (QE K c T (hid (Oc c T Γ σ) H) σ Q)
def canB (K : PySem.W.Frag) (ca : Str → Addr) (Wx : WX) (m : Gam → R (Bool × Gam)) : TT := fun σ H Q => ∃ c T Γ, EnvOk K c T Γ σ H ∧ Pst K ca c T (hid (Oc c T Γ σ) H) Wx (m Γ) (QB K c T (hid (Oc c T Γ σ) H) σ Q)
def canS (K : PySem.W.Frag) (ca : Str → Addr) (Wx : WX) (m : MS) : TS := fun D σ H => ∃ c T Γ, EnvOk K c T Γ σ H ∧ Pst K ca c T (hid (Oc c T Γ σ) H) Wx (m Γ) (PO K c T (hid (Oc c T Γ σ) H) D)
section
variable {X : Cx} {ca : Str → Addr} {Wx : WX} {e : Expr} {m : M} {mb : Gam → R (Bool × Gam)} {ms : MS} {b : List Stmt}
theorem Sx.can (h : Sx X ca Wx e m) : PE X e (canE X.K ca Wx m) := let ⟨_, p, c⟩ := h; ⟨fun pins s σ H Q I ⟨c', T, Γ, ok, q⟩ => p.run pins s σ H Q I (c c' T Γ σ H Q ok q)⟩
theorem Sb.can (h : Sb X ca Wx e mb) : PT X e (canB X.K ca Wx mb) := let ⟨_, p, c⟩ := h; ⟨fun pins s σ H Q I ⟨c', T, Γ, ok, q⟩ => p.run pins s σ H Q I (c c' T Γ σ H Q ok q)⟩
theorem Sk.can (h : Sk X ca Wx b ms) : PSs X b (canS X.K ca Wx ms) := let ⟨_, p, c⟩ := h; ⟨fun pins s σ H Q I ⟨c', T, Γ, ok, q⟩ => p.run pins s σ H Q I (c c' T Γ σ H Q ok q)⟩
end
theorem ce_can {K : PySem.W.Frag} {ca : Str → Addr} {Wx : WX} {m : M} : Ce K ca Wx (canE K ca Wx m) m := fun c T Γ σ H Q ok p => ⟨c, T, Γ, ok, p⟩
theorem cb_can {K : PySem.W.Frag} {ca : Str → Addr} {Wx : WX} {m : Gam → R (Bool × Gam)} : Cb K ca Wx (canB K ca Wx m) m := fun c T Γ σ H Q ok p => ⟨c, T, Γ, ok, p⟩
theorem cs_can {K : PySem.W.Frag} {ca : Str → Addr} {Wx : WX} {m : MS} : Cs K ca Wx (canS K ca Wx m) m := fun c T Γ σ H Q ok p => ⟨c, T, Γ, ok, p⟩
/-! ### the slots told anew -/
section
variable {K : PySem.W.Frag} {c : Fx} {T : Addr → HO → Prop} {Γ Γ' : Gam} {σ σ' : Slots} {H Hb : Hp}
theorem EnvOk.revise (h : EnvOk K c T Γ σ H) (hl : Γ'.length = σ'.length) (ho : ∀ (i : Nat) (b : Bool) (ds : List D), Γ'[i]? = some (.own b ds) → Γ[i]? = some (.own b ds) ∧ σ'[i]? = σ[i]?)
    (hv : ∀ (i : Nat) (d : D), Γ'[i]? = some (.val d) → ∃ v, σ'[i]? = some (some v) ∧ Dv K (hid (Oc c T Γ σ) H) v d) : EnvOk K c T Γ' σ' H ∧ Same (hid (Oc c T Γ σ) H) (hid (Oc c T Γ' σ') H) := by
  have sub : ∀ a, Oc c T Γ' σ' a → Oc c T Γ σ a := fun a q => by
    rcases q with q | q | ⟨j, b, ds, e1, e2⟩
    · exact .inl q
    · exact .inr (.inl q)
    · obtain ⟨f1, f2⟩ := ho j b ds e1
      exact .inr (.inr ⟨j, b, ds, f1, by rw [← f2]; exact e2⟩)
  have s := hid_mono (Same.refl H) sub
  refine ⟨⟨hl, fun i d e => ?_, fun i b ds e => ?_, fun i j b b' ds es l e1 e2 e3 e4 => ?_, h.fr, h.o0, h.tt, h.ii⟩, s⟩
  · obtain ⟨v, e1, e2⟩ := hv i d e
    exact ⟨v, e1, e2.mono s⟩
  · obtain ⟨f1, f2⟩ := ho i b ds e
    obtain ⟨l, vs, a1, a2, a3, a4⟩ := h.own i b ds f1
    exact ⟨l, vs, f2.trans a1, a2, a3.mono s, a4⟩
  · obtain ⟨f1, f2⟩ := ho i b ds e1
    obtain ⟨g1, g2⟩ := ho j b' es e2
    exact h.inj i j b b' ds es l f1 g1 (f2.symm.trans e3) (g2.symm.trans e4)
/-- unknown at vs -/
def unk (vs : List Nat) (Γ : Gam) : Prop := ∀ v ∈ vs, ∀ u, Γ[v]? = some u → u = .un
theorem kill_len : ∀ {ks : List Nat} {Γ : Gam}, (Mw.kill ks Γ).length = Γ.length
  | [], _ => rfl
  | i :: r, Γ => by unfold Mw.kill; rw [kill_len, List.length_set]
theorem kill_out : ∀ {ks : List Nat} {Γ : Gam} {i : Nat}, i ∉ ks → (Mw.kill ks Γ)[i]? = Γ[i]?
  | [], _, _, _ => rfl
  | j :: r, Γ, i, h => by
    simp only [List.mem_cons, not_or] at h
    unfold Mw.kill
    rw [kill_out h.2, set_ne h.1]
theorem kill_in : ∀ {ks : List Nat} {Γ : Gam} {i : Nat} {u : Sl}, i ∈ ks → (Mw.kill ks Γ)[i]? = some u → u = .un
  | j :: r, Γ, i, u, h, e => by
    unfold Mw.kill at e
    by_cases hr : i ∈ r
    · exact kill_in hr e
    · rw [kill_out hr] at e
      have hj : i = j := by
        rcases List.mem_cons.mp h with h | h
        · exact h
        · exact absurd h hr
      subst hj
      rcases get_set e with ⟨_, z⟩ | ⟨z, _⟩
      · exact z
      · exact absurd rfl z
theorem kill_unk {ks : List Nat} {Γ : Gam} : unk ks (Mw.kill ks Γ) := fun _ h _ e => kill_in h e
theorem wipe_in {i : Nat} {x : Option V} : ∀ {vs : List Nat} {σ : Slots}, i ∈ vs → wipe (σ.set i x) vs = wipe σ vs
  | v :: vs, σ, h => by
    unfold wipe
    by_cases hr : i ∈ vs
    · rw [wipe_in hr]
    · have hv : i = v := by
        rcases List.mem_cons.mp h with h | h
        · exact h
        · exact absurd h hr
      subst hv
      have : ∀ (us : List Nat) (σ : Slots), i ∉ us → wipe (σ.set i x) us = (wipe σ us).set i x := by
        intro us
        induction us with
        | nil => intro σ _; rfl
        | cons u us ih =>
          intro σ hu
          simp only [List.mem_cons, not_or] at hu
          unfold wipe
          rw [ih σ hu.2, List.set_comm _ _ hu.1]
      rw [this vs σ hr, List.set_set]
theorem wipe_kill (h : EnvOk K c T Γ σ H) (vs : List Nat) : EnvOk K c T (Mw.kill vs Γ) (wipe σ vs) H ∧ Same (hid (Oc c T Γ σ) H) (hid (Oc c T (Mw.kill vs Γ) (wipe σ vs)) H) := by
  have key : ∀ (i : Nat) (u : Sl), u ≠ .un → (Mw.kill vs Γ)[i]? = some u → i ∉ vs ∧ Γ[i]? = some u := fun i u hu e => by
    have hi : i ∉ vs := fun z => hu (kill_in z e)
    exact ⟨hi, by rw [kill_out hi] at e; exact e⟩
  refine h.revise (by rw [kill_len, wipe_length, h.len]) (fun i b ds e => ?_) fun i d e => ?_
  · obtain ⟨hi, e⟩ := key i (.own b ds) (fun z => nomatch z) e
    exact ⟨e, wipe_out hi⟩
  · obtain ⟨hi, e⟩ := key i (.val d) (fun z => nomatch z) e
    rw [wipe_out hi]
    exact h.val i d e
/-- at vs what Γ0 says, if a value -/
def restG : List Nat → Gam → Gam → Gam
  | [], _, Γ => Γ
  | v :: vs, Γ0, Γ => match Γ0[v]? with
    | some (.val d) => (restG vs Γ0 Γ).set v (.val d)
    | _ => restG vs Γ0 Γ
theorem restG_len : ∀ {vs : List Nat} {Γ0 Γ : Gam}, (restG vs Γ0 Γ).length = Γ.length
  | [], _, _ => rfl
  | v :: vs, Γ0, Γ => by
    unfold restG
    split
    · rw [List.length_set, restG_len]
    · exact restG_len
theorem restG_get : ∀ {vs : List Nat} {Γ0 Γ : Gam} {i : Nat} {u : Sl}, (restG vs Γ0 Γ)[i]? = some u → Γ[i]? = some u ∨ (∃ d, u = .val d ∧ Γ0[i]? = some (.val d))
  | [], _, _, _, _, e => .inl e
  | v :: vs, Γ0, Γ, i, u, e => by
    unfold restG at e
    split at e
    · rename_i d e0
      rcases get_set e with ⟨rfl, rfl⟩ | ⟨_, e⟩
      · exact .inr ⟨d, rfl, e0⟩
      · exact restG_get e
    · exact restG_get e
theorem EnvOk.restore {Γ0 : Gam} {vs : List Nat} (h : EnvOk K c T Γ (wipe σ vs) H) (hu : unk vs Γ) (h0 : ∀ (i : Nat) (d : D), Γ0[i]? = some (.val d) → ∃ v, σ[i]? = some (some v) ∧ Dv K (hid (Oc c T Γ (wipe σ vs)) H) v d) :
    EnvOk K c T (restG vs Γ0 Γ) σ H ∧ Same (hid (Oc c T Γ (wipe σ vs)) H) (hid (Oc c T (restG vs Γ0 Γ) σ) H) := by
  refine h.revise (by rw [restG_len, h.len, wipe_length]) (fun i b ds e => ?_) fun i d e => ?_
  · rcases restG_get e with e | ⟨d, z, _⟩
    · have hi : i ∉ vs := fun z => by cases hu i z _ e
      exact ⟨e, (wipe_out hi).symm⟩
    · cases z
  · rcases restG_get e with e | ⟨d', z, e0⟩
    · have hi : i ∉ vs := fun z => by cases hu i z _ e
      rw [← wipe_out hi (σ := σ)]
      exact h.val i d e
    · cases z
      exact h0 i d e0
/-- the list held apart is longer -/
theorem EnvOk.tgrow {l : Addr} {vs vs' : List V} (h : EnvOk K c (Tl T l vs) Γ σ H) (hn : ¬ c.O0 l) (hT : ∀ o, ¬ T l o) (h0 : c.H0 l = none) (hI : ∀ i, ¬ c.I i l) :
    EnvOk K c (Tl T l vs') Γ σ (upd H l (.lst vs')) ∧ Same (hid (Oc c (Tl T l vs) Γ σ) H) (hid (Oc c (Tl T l vs') Γ σ) (upd H l (.lst vs'))) := by
  have inO : Oc c (Tl T l vs) Γ σ l := .inr (.inl ⟨_, .inr ⟨rfl, rfl⟩⟩)
  have sub : ∀ a, Oc c (Tl T l vs') Γ σ a → Oc c (Tl T l vs) Γ σ a := fun a q => by
    rcases q with q | ⟨u, q | ⟨q, _⟩⟩ | q
    · exact .inl q
    · exact .inr (.inl ⟨u, .inl q⟩)
    · exact .inr (.inl ⟨_, .inr ⟨q, rfl⟩⟩)
    · exact .inr (.inr q)
  have s : Same (hid (Oc c (Tl T l vs) Γ σ) H) (hid (Oc c (Tl T l vs') Γ σ) (upd H l (.lst vs'))) := fun a o z => by
    obtain ⟨n, z⟩ := hid_some.mp z
    have hne : a ≠ l := fun q => n (by rw [q]; exact inO)
    exact hid_some.mpr ⟨fun q => n (sub a q), by rw [upd_ne hne]; exact z⟩
  have q := EnvAt.data h s
  refine ⟨⟨q.len, q.val, fun i b ds e => ?_, q.inj, fun a o hI z => ?_, fun a z => ?_, fun a o z => ?_, fun j a z => ?_⟩, s⟩
  · obtain ⟨l2, vs2, b1, b2', b3, b4, b5, b6, b7⟩ := q.own i b ds e
    have hne : l2 ≠ l := fun z => b7 _ (.inr ⟨z, rfl⟩)
    refine ⟨l2, vs2, b1, by rw [upd_ne hne]; exact b2', b3, b4, b5, b6, fun o z => ?_⟩
    rcases z with z | ⟨z, _⟩
    · exact b7 o (.inl z)
    · exact hne z
  · have hne : a ≠ l := fun q => by rw [q, h0] at z; cases z
    rw [upd_ne hne]
    exact h.fr a o hI z
  · obtain ⟨o, e, n⟩ := h.o0 a z
    have hne : a ≠ l := fun q => hn (by rw [← q]; exact z)
    exact ⟨o, by rw [upd_ne hne]; exact e, n⟩
  · rcases z with z | ⟨rfl, rfl⟩
    · obtain ⟨e, n⟩ := h.tt a o (.inl z)
      have hne : a ≠ l := fun q => hT o (by rw [← q]; exact z)
      exact ⟨by rw [upd_ne hne]; exact e, n⟩
    · exact ⟨upd_same, rfl⟩
  · obtain ⟨o, e, n⟩ := h.ii j a z
    have hne : a ≠ l := fun q => hI j (by rw [← q]; exact z)
    exact ⟨o, by rw [upd_ne hne]; exact e, n⟩
end
/-! ### [e for x in xs if t] -/
def lcG (tgt : D → Gam → Option Gam) (tst : Gam → R (Bool × Gam)) (elt : M) (vs : List Nat) : List D → Gam → List D → Option (List D × Gam)
  | [], Γ, acc => some (acc, Γ)
  | d :: ds, Γ, acc => match tgt d Γ with
    | none => none
    | some Γ1 => match tst Γ1 with
      | .ok (true, Γ2) => (match clM elt Γ2 with
        | .ok (y, Γ3) => if acc.length < sizeLine then lcG tgt tst elt vs ds (kill vs Γ3) (acc ++ [y]) else none
        | _ => none)
      | .ok (false, Γ2) => lcG tgt tst elt vs ds (kill vs Γ2) acc
      | _ => none
def lcM (mi : Gam → R (List D × Gam)) (tgt : D → Gam → Option Gam) (tst : Gam → R (Bool × Gam)) (elt : M) (vs : List Nat) : M := fun Γ => (mi Γ).bind fun p => match lcG tgt tst elt vs p.1 (kill vs p.2) [] with
  | some r => .ok (.fr r.1, restG vs p.2 r.2)
  | none => .no
def yesT : Gam → R (Bool × Gam) := fun Γ => .ok (true, Γ)
abbrev Wx0 : WX := fun _ _ _ _ => False
/-- a target stores at is alone -/
def Cw (g : TG) (is : List Nat) : Prop := ∀ v σ H Q, g v σ H (fun σ' H' => wipe σ' is = wipe σ is → Q σ' H') → g v σ H Q
theorem cw_name {i : Nat} {is : List Nat} (h : i ∈ is) : Cw (gName i) is := fun v σ H Q q => q (wipe_in h)
theorem cw_ns {js : List Nat} : ∀ {is : List Nat} {vs : List V} {σ : Slots} {H : Hp} {Q : Slots → Hp → Prop}, (∀ i ∈ is, i ∈ js) → gNs is vs σ H (fun σ' H' => wipe σ' js = wipe σ js → Q σ' H') → gNs is vs σ H Q
  | [], _, _, _, _, _, ⟨e, q⟩ => ⟨e, q rfl⟩
  | i :: is, _, σ, H, Q, h, ⟨v, r, e, q⟩ => by
    refine ⟨v, r, e, ?_⟩
    refine cw_ns (js := js) (is := is) (fun j hj => h j (List.mem_cons_of_mem _ hj)) (show gNs is r (σ.set i (some v)) H _ from ?_)
    rw [wipe_in (h i List.mem_cons_self)]
    exact q
theorem cw_tup {K : PySem.W.Frag} {n : Nat} {is js : List Nat} (h : ∀ i ∈ is, i ∈ js) : Cw (gTup K n (gNs is)) js := fun v σ H Q ⟨a, xs, e, hs, hn, q⟩ => ⟨a, xs, e, hs, hn, cw_ns h q⟩
theorem wipe_wipe {σ : Slots} : ∀ {vs : List Nat}, wipe (wipe σ vs) vs = wipe σ vs
  | [] => rfl
  | v :: vs => by
    have e : wipe σ (v :: vs) = (wipe σ vs).set v none := rfl
    rw [e, wipe_in List.mem_cons_self]
    show (wipe (wipe σ vs) vs).set v none = _
    rw [wipe_wipe]
section
variable {K : PySem.W.Frag} {ca : Str → Addr} {Wx : WX} {ti : TI} {g : TG} {tt : TT} {te : TE} {mi : Gam → R (List D × Gam)} {tgt : D → Gam → Option Gam} {tst : Gam → R (Bool × Gam)} {elt : M} {vs : List Nat}
theorem ce_lc (hi : Ci K ca Wx ti mi) (hg : Ct K g tgt) (hw : Cw g vs) (ht : Cb K ca Wx0 tt tst) (he : Ce K ca Wx0 te elt) : Ce K ca Wx (tLc ti g tt te vs) (lcM mi tgt tst elt vs) := by
  intro c T Γ σ H Q ok p
  refine hi c T Γ σ H _ ok ((Pst.bind p).imp fun q p J G Y H1 ok1 s1 wk st yd => ?_)
  intro L hD
  obtain ⟨ds, Γ1⟩ := q
  have p0 : Pst K ca c T (hid (Oc c T Γ σ) H) Wx (match lcG tgt tst elt vs ds (kill vs Γ1) [] with
    | some r => R.ok (W.fr r.1, restG vs Γ1 r.2)
    | none => .no) (QE K c T (hid (Oc c T Γ σ) H) σ Q) := p
  clear p
  cases eg : lcG tgt tst elt vs ds (kill vs Γ1) [] with
  | none => rw [eg] at p0; exact p0.elim
  | some rr =>
  rw [eg] at p0
  obtain ⟨res, Γe⟩ := rr
  have ok1' : EnvOk K c T Γ1 σ H1 := ok1
  have hn0 : ¬ c.O0 L := fun z => by obtain ⟨o, e, _⟩ := ok1'.o0 L z; rw [hD] at e; cases e
  have hT0 : ∀ o, ¬ T L o := fun o z => by obtain ⟨e, _⟩ := ok1'.tt L o z; rw [hD] at e; cases e
  have hI0 : ∀ i, ¬ c.I i L := fun i z => by obtain ⟨o, e, _⟩ := ok1'.ii i L z; rw [hD] at e; cases e
  have hH0 : c.H0 L = none := EnvAt.new0 ok1' hD
  have hO0 : ¬ Oc c T Γ1 σ L := EnvAt.new ok1' hD
  have sD := same_new (o := HO.lst []) hD
  have okA := EnvOk.apart ok1' sD hD (vs := []) upd_same
  have sA : Same (hid (Oc c T Γ1 σ) H1) (hid (Oc c (Tl T L []) Γ1 σ) (upd H1 L (.lst []))) := fun a o e => by
    obtain ⟨n, e⟩ := hid_some.mp e
    refine hid_some.mpr ⟨fun z => ?_, sD a o e⟩
    rcases z with z | ⟨u, z | ⟨z, _⟩⟩ | z
    · exact n (.inl z)
    · exact n (.inr (.inl ⟨u, z⟩))
    · rw [z, hD] at e; cases e
    · exact n (.inr (.inr z))
  obtain ⟨okW, sW⟩ := wipe_kill okA vs
  let Pv : Nat → Hp → Prop := fun i H' => ∃ Γi av acc, EnvOk K c (Tl T L av) Γi (wipe σ vs) H' ∧ Same (hid (Oc c T Γ1 σ) H1) (hid (Oc c (Tl T L av) Γi (wipe σ vs)) H') ∧ DvAll K (hid (Oc c (Tl T L av) Γi (wipe σ vs)) H') av acc ∧ unk vs Γi ∧ lcG tgt tst elt vs (ds.drop i) Γi acc = some (res, Γe)
  refine lc_it wk Pv ⟨_, [], [], okW, sA.trans sW, .nil, kill_unk, eg⟩ (fun i H' _ ⟨Γi, av, acc, _, s, _⟩ => st H' (s.trans hid_sub)) ?_ ?_
  · rintro i x H' H2 hlt ⟨Γi, av, acc, oki, si, da, hu, gi⟩ y
    obtain ⟨d, e1, e2⟩ := drop_cons hlt
    obtain ⟨⟨ok2, hv⟩, s2⟩ := res_ok oki (yd i _ H' x H2 d e1 si hid_sub y)
    replace s2 := Ox.dn s2
    rw [e2] at gi
    unfold lcG at gi
    cases e3 : tgt d Γi with
    | none => rw [e3] at gi; cases gi
    | some Γ3 =>
      simp only [e3] at gi
      refine hw x (wipe σ vs) H2 _ (hg c (Tl T L av) Γi Γ3 (wipe σ vs) H2 x d _ ok2 hv e3 fun σ3 H3 ok3 s3 ew => ?_)
      rw [wipe_wipe] at ew
      refine ⟨ew, ?_⟩
      refine ht c (Tl T L av) Γ3 σ3 H3 _ ok3 ?_
      cases et : tst Γ3 with
      | ex e Γ' => rw [et] at gi; cases gi
      | no => rw [et] at gi; cases gi
      | ok qb =>
        obtain ⟨b, Γ4⟩ := qb
        rw [et] at gi
        intro H4 ok4 s4
        cases b with
        | false =>
          show if false = true then _ else Pv (i + 1) H4
          rw [if_neg Bool.false_ne_true]
          obtain ⟨okw, sw⟩ := wipe_kill ok4 vs
          rw [ew] at okw sw
          exact ⟨_, av, acc, okw, si.trans (s2.trans (s3.trans (s4.trans sw))), DvAll.mono (s2.trans (s3.trans (s4.trans sw))) _ _ da, kill_unk, gi⟩
        | true =>
          show if true = true then te σ3 H4 _ else _
          rw [if_pos rfl]
          refine ce_cl he ok4 ?_
          cases ee : clM elt Γ4 with
          | ex e Γ' => simp only [ee] at gi; cases gi
          | no => simp only [ee] at gi; cases gi
          | ok qd =>
            obtain ⟨yv, Γ5⟩ := qd
            simp only [ee] at gi
            by_cases hz : acc.length < sizeLine
            · rw [if_pos hz] at gi
              intro v H5 ok5 hv5 s5
              have hL : H5 L = some (.lst av) := (ok5.tt L _ (.inr ⟨rfl, rfl⟩)).1
              obtain ⟨okg, sg⟩ := EnvOk.tgrow (vs' := av ++ [v]) ok5 hn0 hT0 hH0 hI0
              obtain ⟨okw, sw⟩ := wipe_kill okg vs
              rw [ew] at okw sw
              have sall := s2.trans (s3.trans (s4.trans (s5.trans (sg.trans sw))))
              exact ⟨av, hL, by rw [da.len]; exact hz, _, av ++ [v], acc ++ [yv], okw, si.trans sall, (DvAll.mono sall _ _ da).append (DvAll.one (hv5.mono (sg.trans sw))), kill_unk, gi⟩
            · rw [if_neg hz] at gi; cases gi
  · rintro H' ⟨Γi, av, acc, oki, si, da, hu, gi⟩
    rw [List.drop_length] at gi
    have gi' : some (acc, Γi) = some (res, Γe) := gi
    cases gi'
    obtain ⟨okr, sr⟩ := EnvOk.restore (Γ0 := Γ1) (σ := σ) oki hu fun i d e => by
      obtain ⟨v, f1, f2⟩ := ok1'.val i d e
      exact ⟨v, f1, f2.mono si⟩
    have hl' : H' L = some (.lst av) := (okr.tt L _ (.inr ⟨rfl, rfl⟩)).1
    refine p0 (.ref L) H' ⟨L, av, rfl, hl', hH0, ?_, okr, DvAll.mono sr _ _ da⟩ ?_
    · rintro (z | ⟨u, z⟩ | ⟨j, b, es, f1, f2⟩)
      · exact hn0 z
      · exact hT0 u z
      · obtain ⟨l', _, g1, _, _, _, _, _, g7⟩ := okr.own j b es f1
        rw [f2] at g1
        cases g1
        exact g7 _ (.inr ⟨rfl, rfl⟩)
    · refine (s1.trans (si.trans sr)).trans (hid_mono (Same.refl H') fun a z => ?_)
      rcases z with z | ⟨⟨_, _⟩, z⟩
      · rcases z with z | ⟨u, z⟩ | z
        · exact .inl z
        · exact .inr (.inl ⟨u, .inl z⟩)
        · exact .inr (.inr z)
      · cases z
        exact .inr (.inl ⟨_, .inr ⟨rfl, rfl⟩⟩)
theorem cb_yes : Cb K ca Wx tYes yesT := fun c T Γ σ H Q ok p => p H ok (Same.refl _)
end
section
variable {X : Cx} {ca : Str → Addr} {Wx : WX} {tg iter elt cnd : Expr} {scope : Scope} {own : List (Str × Nat)} {pos spos py : Pos} {g : TG} {mi : Gam → R (List D × Gam)} {tgt : D → Gam → Option Gam} {tst : Gam → R (Bool × Gam)} {m : M}
theorem x_lc (g : TG) (own : List (Str × Nat)) (hc : X.calm = true) (hN : X.N.Nodup) (hi : Si X ca Wx tg iter mi) (ok : blkC X.N X.env.scope scope own = true)
    (hg : ∀ (s : Shared) (H : Hp) (C : Addr) (cl : List (Str × Addr)) (fp : List Addr), PG (X.blk s H scope (compEnvC scope cl C X.env) fp) tg g) (hct : Ct X.K g tgt) (hcw : Cw g (own.map (·.2)))
    (he : ∀ (s : Shared) (H : Hp) (C : Addr) (cl : List (Str × Addr)) (fp : List Addr), Sx (X.blk s H scope (compEnvC scope cl C X.env) fp) ca Wx0 elt m) (hs : ∀ x, foldedSetIterable iter X.env x = pure x := by intro _; rfl) :
    Sx X ca Wx (.ListComp elt [⟨tg, iter, [], 0⟩] scope pos) (lcM mi tgt yesT m (own.map (·.2))) :=
  let ⟨_, p1, c1⟩ := hi
  ⟨_, pe_lc hc hN p1 (blkOk_by ok) hg (fun _ _ _ _ _ => pts_nil) (fun s H C cl fp => (he s H C cl fp).can) hs, ce_lc c1 hct hcw cb_yes ce_can⟩
theorem x_lcIf (g : TG) (own : List (Str × Nat)) (hc : X.calm = true) (hN : X.N.Nodup) (hi : Si X ca Wx tg iter mi) (ok : blkC X.N X.env.scope scope own = true)
    (hg : ∀ (s : Shared) (H : Hp) (C : Addr) (cl : List (Str × Addr)) (fp : List Addr), PG (X.blk s H scope (compEnvC scope cl C X.env) fp) tg g) (hct : Ct X.K g tgt) (hcw : Cw g (own.map (·.2)))
    (ht : ∀ (s : Shared) (H : Hp) (C : Addr) (cl : List (Str × Addr)) (fp : List Addr), Sb (X.blk s H scope (compEnvC scope cl C X.env) fp) ca Wx0 cnd tst)
    (he : ∀ (s : Shared) (H : Hp) (C : Addr) (cl : List (Str × Addr)) (fp : List Addr), Sx (X.blk s H scope (compEnvC scope cl C X.env) fp) ca Wx0 elt m) (hs : ∀ x, foldedSetIterable iter X.env x = pure x := by intro _; rfl) :
    Sx X ca Wx (.ListComp elt [⟨tg, iter, [cnd], 0⟩] scope pos) (lcM mi tgt tst m (own.map (·.2))) :=
  let ⟨_, p1, c1⟩ := hi
  ⟨_, pe_lc hc hN p1 (blkOk_by ok) hg (fun s H C cl fp => pts_one (ht s H C cl fp).can) (fun s H C cl fp => (he s H C cl fp).can) hs, ce_lc c1 hct hcw cb_can ce_can⟩
/-- y = [..] -/
theorem s_lc (i : Nat) {y : Str} (g : TG) (own : List (Str × Nat)) (hc : X.calm = true) (hN : X.N.Nodup) (hy : X.N[i]? = some y) (hyl : X.env.scope.names.lookup y = some .local) (hi : Si X ca Wx tg iter mi) (ok : blkC X.N X.env.scope scope own = true)
    (hg : ∀ (s : Shared) (H : Hp) (C : Addr) (cl : List (Str × Addr)) (fp : List Addr), PG (X.blk s H scope (compEnvC scope cl C X.env) fp) tg g) (hct : Ct X.K g tgt) (hcw : Cw g (own.map (·.2)))
    (he : ∀ (s : Shared) (H : Hp) (C : Addr) (cl : List (Str × Addr)) (fp : List Addr), Sx (X.blk s H scope (compEnvC scope cl C X.env) fp) ca Wx0 elt m)
    (hsw : swapsWith (.ListComp elt [⟨tg, iter, [], 0⟩] scope pos) (some (.Name y py)) spos.line X.env = pure true := by exact sw_true rfl rfl rfl (by decide +kernel)) (hs : ∀ x, foldedSetIterable iter X.env x = pure x := by intro _; rfl) :
    Ss X ca Wx (.Assign [.Name y py] (.ListComp elt [⟨tg, iter, [], 0⟩] scope pos) spos) (asgM i (lcM mi tgt yesT m (own.map (·.2)))) :=
  let ⟨_, p1, c1⟩ := hi
  ⟨_, ps_setLc hc hN hy hyl hsw p1 (blkOk_by ok) hg (fun _ _ _ _ _ => pts_nil) (fun s H C cl fp => (he s H C cl fp).can) hs, cs_asg (ce_lc c1 hct hcw cb_yes ce_can)⟩
theorem s_lcIf (i : Nat) {y : Str} (g : TG) (own : List (Str × Nat)) (hc : X.calm = true) (hN : X.N.Nodup) (hy : X.N[i]? = some y) (hyl : X.env.scope.names.lookup y = some .local) (hi : Si X ca Wx tg iter mi) (ok : blkC X.N X.env.scope scope own = true)
    (hg : ∀ (s : Shared) (H : Hp) (C : Addr) (cl : List (Str × Addr)) (fp : List Addr), PG (X.blk s H scope (compEnvC scope cl C X.env) fp) tg g) (hct : Ct X.K g tgt) (hcw : Cw g (own.map (·.2)))
    (ht : ∀ (s : Shared) (H : Hp) (C : Addr) (cl : List (Str × Addr)) (fp : List Addr), Sb (X.blk s H scope (compEnvC scope cl C X.env) fp) ca Wx0 cnd tst)
    (he : ∀ (s : Shared) (H : Hp) (C : Addr) (cl : List (Str × Addr)) (fp : List Addr), Sx (X.blk s H scope (compEnvC scope cl C X.env) fp) ca Wx0 elt m)
    (hsw : swapsWith (.ListComp elt [⟨tg, iter, [cnd], 0⟩] scope pos) (some (.Name y py)) spos.line X.env = pure true := by exact sw_true rfl rfl rfl (by decide +kernel)) (hs : ∀ x, foldedSetIterable iter X.env x = pure x := by intro _; rfl) :
    Ss X ca Wx (.Assign [.Name y py] (.ListComp elt [⟨tg, iter, [cnd], 0⟩] scope pos) spos) (asgM i (lcM mi tgt tst m (own.map (·.2)))) :=
  let ⟨_, p1, c1⟩ := hi
  ⟨_, ps_setLc hc hN hy hyl hsw p1 (blkOk_by ok) hg (fun s H C cl fp => pts_one (ht s H C cl fp).can) (fun s H C cl fp => (he s H C cl fp).can) hs, cs_asg (ce_lc c1 hct hcw cb_can ce_can)⟩
end
end Mw
set_option Elab.async false
set_option linter.all false
set_option maxRecDepth 100000
set_option maxHeartbeats 2000000
/-! Mw: defs by their bodies; a def that changes its first argument, a list -/
namespace Mw
open PySem PySem.Spec PyProof.Rows L2
def startG (tot : Nat) (ds : List D) : Gam := ds.map Sl.val ++ List.replicate (tot - ds.length) .un
theorem startG_len {tot : Nat} {ds : List D} : (startG tot ds).length = ds.length + (tot - ds.length) := by simp [startG]
theorem startG_get {tot : Nat} {ds : List D} {i : Nat} {u : Sl} (h : (startG tot ds)[i]? = some u) : u = .un ∨ ∃ d, ds[i]? = some d ∧ u = .val d := by
  unfold startG at h
  by_cases hi : i < ds.length
  · rw [List.getElem?_append_left (by simpa using hi), List.getElem?_map] at h
    cases e : ds[i]? with
    | none => rw [e] at h; cases h
    | some d => rw [e] at h; cases h; exact .inr ⟨d, rfl, rfl⟩
  · rw [List.getElem?_append_right (by simpa using Nat.le_of_not_lt hi)] at h
    rw [List.getElem?_replicate] at h
    split at h
    · exact .inl (Option.some.inj h).symm
    · cases h
theorem start_get {N : List Str} {vs : List V} {i : Nat} {v : V} (h : vs[i]? = some v) : (start N vs)[i]? = some (some v) := by
  have hi : i < vs.length := (List.getElem?_eq_some_iff.mp h).1
  unfold L2.start
  rw [List.getElem?_append_left (by simpa using hi), List.getElem?_map, h]
  rfl
theorem start_len {N : List Str} {vs : List V} : (start N vs).length = vs.length + (N.length - vs.length) := by simp [L2.start]
theorem ExRel.mono {K : PySem.W.Frag} {Hd Hd' : Hp} {ca : Str → Addr} {e : Exn} {cls : Value} {d : Option Addr} {H : Hp} (s : Same Hd Hd') (h : ExRel K Hd ca e cls d H) : ExRel K Hd' ca e cls d H := by
  revert h
  unfold ExRel
  rintro ⟨e1, e2⟩
  refine ⟨e1, ?_⟩
  revert e2
  split
  · exact id
  · rintro ⟨dd, vs, f1, f2, f3, f4⟩
    exact ⟨dd, vs, f1, f2, f3, DvAll.mono s _ _ f4⟩
abbrev T0 : Addr → HO → Prop := fun _ _ => False
/-- what a def hands back -/
def finR (r : R Out) : RF := match r with
  | .ok (.rt (.cl d) _) => .ret (.cl d)
  | .ok (.rt (.fr ds) _) => .ret (.fr ds)
  | .ok (.rt (.bo i) Γ) => (match Γ[i]? with
    | some (.own false ds) => .ret (.fr ds)
    | _ => .no)
  | .ok (.nx _) => .ret (.cl .non)
  | .ex e _ => .ex e
  | _ => .no
def mkP (n tot : Nat) (m : MS) : List D → RF := fun ds => if ds.length = n then finR (m (startG tot ds)) else .no
theorem mkP_len {n tot : Nat} {m : MS} (ds : List D) (h : mkP n tot m ds ≠ .no) : ds.length = n := by
  unfold mkP at h
  split at h
  · assumption
  · exact absurd rfl h
section
variable {K : PySem.W.Frag} {ca : Str → Addr}
theorem start_env {N : List Str} {vs : List V} {ds : List D} {H : Hp} {O : Addr → Prop} (hO : ∀ a, O a → ∃ o, H a = some o ∧ nt o = true) (hd : DvAll K (hid O H) vs ds) :
    EnvOk K ⟨H, fun _ _ => False, O⟩ T0 (startG N.length ds) (start N vs) H ∧ hid (Oc ⟨H, fun _ _ => False, O⟩ T0 (startG N.length ds) (start N vs)) H = hid O H := by
  have no : ∀ (i : Nat) (b : Bool) (es : List D), (startG N.length ds)[i]? = some (.own b es) → False := fun i b es e => by
    rcases startG_get e with z | ⟨d, _, z⟩ <;> cases z
  have eq : hid (Oc ⟨H, fun _ _ => False, O⟩ T0 (startG N.length ds) (start N vs)) H = hid O H := by
    refine congrArg (fun P => hid P H) (funext fun a => propext ⟨fun q => ?_, .inl⟩)
    rcases q with q | ⟨_, q⟩ | ⟨i, b, es, e, _⟩
    · exact q
    · exact q.elim
    · exact (no i b es e).elim
  refine ⟨?_, eq⟩
  show EnvAt K (hid (Oc ⟨H, fun _ _ => False, O⟩ T0 (startG N.length ds) (start N vs)) H) _ _ _ _ _
  rw [eq]
  refine ⟨by rw [startG_len, start_len, hd.len], fun i d e => ?_, fun i b es e => (no i b es e).elim, fun i j b b' ds es l e => (no i b ds e).elim, fun a o _ e => e, hO, fun _ _ z => z.elim, fun _ _ z => z.elim⟩
  rcases startG_get e with z | ⟨d', e', z⟩
  · cases z
  · cases z
    obtain ⟨v, ev, hv⟩ := hd.get e'
    exact ⟨v, start_get ev, hv⟩
/-- a def's body and its promise -/
theorem sp_body {t : TS} {m : MS} {N : List Str} {n : Nat} {vs : List V} {H : Hp} {Q : VK} {E : XK} (h : Cs K ca (fun cls d _ H' => E cls d H') t m) (hs : SpP K ca n (mkP n N.length m) vs H Q E) :
    t { nx := fun _ H' => Q .non H', rt := Q } (start N vs) H := by
  obtain ⟨O, ds, hl, hO, hd, hf⟩ := hs
  unfold mkP at hf
  rw [if_pos (by rw [← hd.len]; exact hl)] at hf
  obtain ⟨ok, eq⟩ := start_env (N := N) hO hd
  refine h ⟨H, fun _ _ => False, O⟩ T0 (startG N.length ds) (start N vs) H _ ok ?_
  have frm : ∀ {Γ' : Gam} {σ' : Slots} {H' : Hp} {T : Addr → HO → Prop}, EnvOk K ⟨H, fun _ _ => False, O⟩ T Γ' σ' H' → Same H H' := fun ok' a o e => ok'.fr a o (fun _ z => z) e
  cases e : m (startG N.length ds) with
  | no => rw [e] at hf; exact hf.elim
  | ex e1 Γ1 =>
    rw [e] at hf
    intro cls d σ' H' ok' s' x
    exact hf cls d H' (frm ok') (x.mono (hid_mono (Same.refl H') fun a z => .inl z))
  | ok o =>
    rw [e] at hf
    cases o with
    | bk Γ1 => exact hf.elim
    | ct Γ1 => exact hf.elim
    | nx Γ1 =>
      intro σ' H' ok' s'
      exact hf .non H' (frm ok') .non
    | rt w Γ1 =>
      intro v σ' H' ev s'
      cases w with
      | cl d =>
        obtain ⟨ok', hv⟩ := ev
        exact hf v H' (frm ok') (hv.mono (hid_mono (Same.refl H') fun a z => .inl z))
      | fr es =>
        obtain ⟨l, xs, rfl, hl1, h0, hn, ok', ha⟩ := ev
        refine hf (.ref l) H' (frm ok') ⟨l, xs, rfl, h0, hl1, DvAll.mono (hid_mono (Same.refl H') fun a z => ?_) _ _ ha⟩
        rcases z with z | z
        · exact .inl z
        · exact .inr (.inl ⟨_, .inr ⟨z, rfl⟩⟩)
      | bo i =>
        obtain ⟨ok', hv⟩ := ev
        have hf' : (match (match Γ1[i]? with
          | some (.own false ds) => RF.ret (.fr ds)
          | _ => .no) with
          | .ret w => ∀ v H', Same H H' → RvOk K O w v H H' → Q v H'
          | .ex e => ∀ cls d H', Same H H' → ExRel K (hid O H') ca e cls d H' → E cls d H'
          | .no => False) := hf
        cases eg : Γ1[i]? with
        | none => rw [eg] at hf'; exact hf'.elim
        | some u =>
          rw [eg] at hf'
          cases u with
          | un => exact hf'.elim
          | val d => exact hf'.elim
          | own b es =>
            cases b with
            | true => exact hf'.elim
            | false =>
              obtain ⟨l, xs, a1, a2, a3, a4, a5, a6, a7⟩ := ok'.own i false es eg
              rw [hv] at a1
              cases a1
              refine hf' (.ref l) H' (frm ok') ⟨l, xs, rfl, a4 rfl, a2, DvAll.mono (hid_mono (Same.refl H') fun a z => ?_) _ _ a3⟩
              rcases z with z | z
              · exact .inl z
              · rw [z]; exact .inr (.inr ⟨i, false, es, eg, hv⟩)
end
theorem fn_pure {P : Program} {w : World} {K : PySem.W.Frag} {mg : Str → Option Value} {base : Heap} {x qual : Str} {params : Arguments} {body : List Stmt} {scope : Scope} {kws : List (Str × V)} {f : Addr} {fd : FuncData} {N ps : List Str} {k : Nat} {ca : Str → Addr} {m : MS}
    (F : FunD K x qual params body scope [] kws f fd) (S : FnScope N ps scope)
    (hb : ∀ (cdv : Value) (A : Around) (outer : List Env) (s : Shared) (H : Hp) (E : XK), Room k (A.deeper (envOfC qual scope s.heap.objs.size f cdv)) → (A.deeper (envOfC qual scope s.heap.objs.size f cdv)).guards = some [] →
      Sk (cxOf (L2.CX P w) P w K mg base N qual scope f cdv A outer s H E) ca (fun cls d _ H' => E cls d H') body m) : FnG P w K mg base (k + 1) f fd ps (SpP K ca ps.length (mkP ps.length N.length m)) :=
  fnG_of F S (fun vs H Q E ⟨_, _, hl, _⟩ => hl) fun cdv A outer s H vs Q E hr hgd hsp => let ⟨t, ht, hc⟩ := hb cdv A outer s H E hr hgd; ⟨t, ht, sp_body hc hsp⟩
/-! ### the first argument is a list that is changed -/
inductive RB where
  | ret (d : D) (bs : List D) | no
def SpB (K : PySem.W.Frag) (n : Nat) (f : List D → List D → RB) : Sp := fun vs H Q _ => ∃ (O : Addr → Prop) (l : Addr) (xs vs' : List V) (bs ds : List D), vs = .ref l :: vs' ∧ vs'.length = n ∧ (∀ a, O a → ∃ o, H a = some o ∧ nt o = true) ∧ O l ∧ H l = some (.lst xs) ∧ DvAll K (hid O H) xs bs ∧ DvAll K (hid O H) vs' ds ∧
  match f bs ds with
  | .ret d bs' => ∀ v H' xs', (∀ a o, a ≠ l → H a = some o → H' a = some o) → H' l = some (.lst xs') → DvAll K (hid O H') xs' bs' → Dv K (hid O H') v d → Q v H'
  | .no => False
def fzW (w : W) (Γ : Gam) : Option (D × Gam) := match w with
  | .cl d => some (d, Γ)
  | .fr ds => some (.lst ds, Γ)
  | .bo i => match Γ[i]? with
    | some (.own _ ds) => some (.lst ds, Γ.set i (.val (.lst ds)))
    | _ => none
theorem fz_ok {K : PySem.W.Frag} {c : Fx} {T : Addr → HO → Prop} {w : W} {v : V} {Γ Γ' : Gam} {d : D} {σ : Slots} {H : Hp} (ev : EvOk K c T w v Γ σ H) (e : fzW w Γ = some (d, Γ')) : EnvOk K c T Γ' σ H ∧ Dv K (hid (Oc c T Γ' σ) H) v d := by
  obtain ⟨ok1, hv⟩ := ev.hold
  cases w with
  | cl d => cases e; exact ⟨ok1, hv⟩
  | fr ds => cases e; exact ⟨ok1, hv⟩
  | bo j =>
    have e' : (match Γ[j]? with
      | some (.own _ ds) => some (D.lst ds, Γ.set j (.val (.lst ds)))
      | _ => none) = some (d, Γ') := e
    cases q : Γ[j]? with
    | none => rw [q] at e'; cases e'
    | some u =>
      rw [q] at e'
      cases u with
      | un => cases e'
      | val d => cases e'
      | own b ds =>
        cases e'
        obtain ⟨a1, a2, a3⟩ := ok1.freeze q
        exact ⟨a1, a3 v hv⟩
def bagOf (d : D) (Γ : Gam) : RB := match Γ[(0 : Nat)]? with
  | some (.own true bs) => .ret d bs
  | _ => .no
def finB (r : R Out) : RB := match r with
  | .ok (.rt w Γ) => (match fzW w Γ with
    | some (d, Γ') => bagOf d Γ'
    | none => .no)
  | .ok (.nx Γ) => bagOf .non Γ
  | _ => .no
def startB (tot : Nat) (bs ds : List D) : Gam := .own true bs :: startG (tot - 1) ds
def mkB (n tot : Nat) (m : MS) : List D → List D → RB := fun bs ds => if ds.length = n then finB (m (startB tot bs ds)) else .no
theorem mkB_len {n tot : Nat} {m : MS} (bs ds : List D) (h : mkB n tot m bs ds ≠ .no) : ds.length = n := by
  unfold mkB at h
  split at h
  · assumption
  · exact absurd rfl h
section
variable {K : PySem.W.Frag} {ca : Str → Addr}
theorem sp_bodyB {t : TS} {m : MS} {N : List Str} {n : Nat} {vs : List V} {H : Hp} {Q : VK} {E : XK} (h : Cs K ca (fun cls d _ H' => E cls d H') t m) (hs : SpB K n (mkB n N.length m) vs H Q E) :
    t { nx := fun _ H' => Q .non H', rt := Q } (start N vs) H := by
  obtain ⟨O, l, xs, vs', bs, ds, rfl, hl, hO, hol, hxl, hbs, hd, hf⟩ := hs
  unfold mkB at hf
  rw [if_pos (by rw [← hd.len]; exact hl)] at hf
  have eσ : start N (.ref l :: vs') = some (.ref l) :: (vs'.map some ++ List.replicate (N.length - (vs'.length + 1)) none) := by simp [L2.start]
  have own1 : ∀ (i : Nat) (b : Bool) (es : List D), (startB N.length bs ds)[i]? = some (.own b es) → i = 0 ∧ b = true ∧ es = bs := fun i b es e => by
    cases i with
    | zero =>
      have e' : some (Sl.own true bs) = some (Sl.own b es) := e
      cases e'
      exact ⟨rfl, rfl, rfl⟩
    | succ i =>
      have e' : (startG (N.length - 1) ds)[i]? = some (.own b es) := e
      rcases startG_get e' with z | ⟨d, _, z⟩ <;> cases z
  have eq : hid (Oc ⟨H, fun i a => i = 0 ∧ a = l, fun a => O a ∧ a ≠ l⟩ T0 (startB N.length bs ds) (start N (.ref l :: vs'))) H = hid O H := by
    refine congrArg (fun P => hid P H) (funext fun a => propext ⟨fun q => ?_, fun q => ?_⟩)
    · rcases q with q | ⟨_, q⟩ | ⟨i, b, es, e, e'⟩
      · exact q.1
      · exact q.elim
      · obtain ⟨rfl, _, _⟩ := own1 i b es e
        rw [eσ] at e'
        have e2 : some (some (V.ref l)) = some (some (V.ref a)) := e'
        cases e2
        exact hol
    · by_cases ha : a = l
      · subst ha
        exact .inr (.inr ⟨0, true, bs, rfl, by rw [eσ]; rfl⟩)
      · exact .inl ⟨q, ha⟩
  have ok : EnvOk K ⟨H, fun i a => i = 0 ∧ a = l, fun a => O a ∧ a ≠ l⟩ T0 (startB N.length bs ds) (start N (.ref l :: vs')) H := by
    show EnvAt K (hid (Oc ⟨H, fun i a => i = 0 ∧ a = l, fun a => O a ∧ a ≠ l⟩ T0 (startB N.length bs ds) (start N (.ref l :: vs'))) H) _ _ _ _ _
    rw [eq]
    refine ⟨?_, fun i d e => ?_, fun i b es e => ?_, fun i j b b' ds1 es l1 e1 e2 _ _ => ?_, fun a o _ e => e, fun a z => hO a z.1, fun _ _ z => z.elim, fun i a z => ?_⟩
    · have e1 := hd.len
      rw [eσ]
      simp only [startB, List.length_cons, startG_len, List.length_append, List.length_map, List.length_replicate]
      omega
    · cases i with
      | zero =>
        have e' : some (Sl.own true bs) = some (Sl.val d) := e
        cases e'
      | succ i =>
        have e' : (startG (N.length - 1) ds)[i]? = some (.val d) := e
        rcases startG_get e' with z | ⟨d', e1, z⟩
        · cases z
        · cases z
          obtain ⟨v, ev, hv⟩ := hd.get e1
          exact ⟨v, start_get (vs := .ref l :: vs') (i := i + 1) ev, hv⟩
    · obtain ⟨rfl, rfl, rfl⟩ := own1 i b es e
      exact ⟨l, xs, by rw [eσ]; rfl, hxl, hbs, (fun z => Bool.noConfusion z), fun _ => ⟨rfl, rfl⟩, fun z => z.2 rfl, fun _ z => z⟩
    · obtain ⟨rfl, _, _⟩ := own1 i b ds1 e1
      obtain ⟨rfl, _, _⟩ := own1 j b' es e2
      rfl
    · rw [z.2]; exact ⟨_, hxl, rfl⟩
  refine h ⟨H, fun i a => i = 0 ∧ a = l, fun a => O a ∧ a ≠ l⟩ T0 (startB N.length bs ds) (start N (.ref l :: vs')) H _ ok ?_
  -- from the slots at the end
  have fin : ∀ {Γ' : Gam} {σ' : Slots} {H' : Hp} {d : D} {v : V}, EnvOk K ⟨H, fun i a => i = 0 ∧ a = l, fun a => O a ∧ a ≠ l⟩ T0 Γ' σ' H' → Dv K (hid (Oc ⟨H, fun i a => i = 0 ∧ a = l, fun a => O a ∧ a ≠ l⟩ T0 Γ' σ') H') v d →
      (match bagOf d Γ' with
        | .ret d bs' => ∀ v H' xs', (∀ a o, a ≠ l → H a = some o → H' a = some o) → H' l = some (.lst xs') → DvAll K (hid O H') xs' bs' → Dv K (hid O H') v d → Q v H'
        | .no => False) → Q v H' := fun {Γ' σ' H' d v} ok' hv g => by
    unfold bagOf at g
    cases e : Γ'[(0 : Nat)]? with
    | none => rw [e] at g; exact g.elim
    | some u =>
      rw [e] at g
      cases u with
      | un => exact g.elim
      | val d => exact g.elim
      | own b bs' =>
        cases b with
        | false => exact g.elim
        | true =>
          obtain ⟨l', xs', a1, a2, a3, a4, a5, _⟩ := ok'.own 0 true bs' e
          obtain ⟨_, rfl⟩ := a5 rfl
          have s : Same (hid (Oc ⟨H, fun i a => i = 0 ∧ a = l', fun a => O a ∧ a ≠ l'⟩ T0 Γ' σ') H') (hid O H') := hid_mono (Same.refl H') fun a z => by
            by_cases ha : a = l'
            · rw [ha]; exact .inr (.inr ⟨0, true, bs', e, a1⟩)
            · exact .inl ⟨z, ha⟩
          exact g v H' xs' (fun a o hne z => ok'.fr a o (fun i q => hne q.2) z) a2 (DvAll.mono s _ _ a3) (hv.mono s)
  cases e : m (startB N.length bs ds) with
  | no => rw [e] at hf; exact hf.elim
  | ex e1 Γ1 => rw [e] at hf; exact hf.elim
  | ok o =>
    rw [e] at hf
    cases o with
    | bk Γ1 => exact hf.elim
    | ct Γ1 => exact hf.elim
    | nx Γ1 => exact fun σ' H' ok' s' => fin ok' .non hf
    | rt w Γ1 =>
      intro v σ' H' ev s'
      have hf' : (match (match fzW w Γ1 with
        | some (d, Γ') => bagOf d Γ'
        | none => .no) with
        | .ret d bs' => ∀ v H' xs', (∀ a o, a ≠ l → H a = some o → H' a = some o) → H' l = some (.lst xs') → DvAll K (hid O H') xs' bs' → Dv K (hid O H') v d → Q v H'
        | .no => False) := hf
      cases ez : fzW w Γ1 with
      | none => rw [ez] at hf'; exact hf'.elim
      | some p =>
        obtain ⟨d, Γ2⟩ := p
        rw [ez] at hf'
        obtain ⟨ok2, hv2⟩ := fz_ok ev ez
        exact fin ok2 hv2 hf'
end
theorem fn_bag {P : Program} {w : World} {K : PySem.W.Frag} {mg : Str → Option Value} {base : Heap} {x qual : Str} {params : Arguments} {body : List Stmt} {scope : Scope} {kws : List (Str × V)} {f : Addr} {fd : FuncData} {N ps : List Str} {k n : Nat} {ca : Str → Addr} {m : MS}
    (F : FunD K x qual params body scope [] kws f fd) (S : FnScope N ps scope) (hn : n + 1 = ps.length)
    (hb : ∀ (cdv : Value) (A : Around) (outer : List Env) (s : Shared) (H : Hp) (E : XK), Room k (A.deeper (envOfC qual scope s.heap.objs.size f cdv)) → (A.deeper (envOfC qual scope s.heap.objs.size f cdv)).guards = some [] →
      Sk (cxOf (L2.CX P w) P w K mg base N qual scope f cdv A outer s H E) ca (fun cls d _ H' => E cls d H') body m) : FnG P w K mg base (k + 1) f fd ps (SpB K n (mkB n N.length m)) :=
  fnG_of F S (fun vs H Q E ⟨_, _, _, _, _, _, e, hl, _⟩ => by rw [e, List.length_cons, hl, hn]) fun cdv A outer s H vs Q E hr hgd hsp => let ⟨t, ht, hc⟩ := hb cdv A outer s H E hr hgd; ⟨t, ht, sp_bodyB hc hsp⟩
/-! ### its call -/
def clL : List W → Option (List D)
  | [] => some []
  | .cl d :: ws => (clL ws).bind fun ds => some (d :: ds)
  | _ => none
def callB (f : List D → List D → RB) (ms : Gam → R (List W × Gam)) : M := fun Γ => (ms Γ).bind fun p => match p.1 with
  | .bo i :: ws => (match p.2[i]?, clL ws with
    | some (.own b bs), some ds => (match f bs ds with
      | .ret d bs' => .ok (.cl d, p.2.set i (.own b bs'))
      | .no => .no)
    | _, _ => .no)
  | _ => .no
section
variable {K : PySem.W.Frag} {c : Fx} {T : Addr → HO → Prop} {Γ : Gam} {σ : Slots} {H H' : Hp}
theorem EnvOk.inout (h : EnvOk K c T Γ σ H) {i : Nat} {b : Bool} {ds ds' : List D} {l : Addr} {vs vs' : List V} (e : Γ[i]? = some (.own b ds)) (es : σ[i]? = some (some (.ref l))) (hl : H l = some (.lst vs)) (fr : ∀ a o, a ≠ l → H a = some o → H' a = some o) (hl' : H' l = some (.lst vs'))
    (hv : DvAll K (hid (Oc c T Γ σ) H') vs' ds') :
    EnvOk K c T (Γ.set i (.own b ds')) σ H' ∧ Same (hid (Oc c T Γ σ) H) (hid (Oc c T (Γ.set i (.own b ds')) σ) H') ∧ Same (hid (Oc c T Γ σ) H') (hid (Oc c T (Γ.set i (.own b ds')) σ) H') := by
  have inO : Oc c T Γ σ l := .inr (.inr ⟨i, b, ds, e, es⟩)
  have s1 : Same H (upd H' l (.lst vs)) := fun a o z => by
    by_cases ha : a = l
    · subst ha; rw [upd_same]; rw [hl] at z; exact z
    · rw [upd_ne ha]; exact fr a o ha z
  have ok1 := h.same s1
  have e1 : hid (Oc c T Γ σ) (upd H' l (.lst vs)) = hid (Oc c T Γ σ) H' := hid_upd_in inO
  obtain ⟨a, b'⟩ := ok1.mut e es upd_same (by rw [e1]; exact hv)
  have e2 : upd (upd H' l (.lst vs)) l (.lst vs') = H' := by
    funext a
    by_cases ha : a = l
    · subst ha; rw [upd_same, hl']
    · rw [upd_ne ha, upd_ne ha]
  rw [e2] at a b'
  rw [e1] at b'
  exact ⟨a, (by rw [← e1]; exact hid_mono s1 fun _ z => z : Same _ (hid (Oc c T Γ σ) H')).trans b', b'⟩
end
section
variable {K : PySem.W.Frag} {ca : Str → Addr} {Wx : WX} {n : Nat} {f : List D → List D → RB} {t : TA} {ms : Gam → R (List W × Gam)}
theorem clL_ok {Hd : Hp} {Γ : Gam} {σ : Slots} : ∀ {ws : List W} {vs : List V} {ds : List D}, Paired (fun w v => HvOk K Hd w v Γ σ) ws vs → clL ws = some ds → DvAll K Hd vs ds
  | _, _, ds, .nil, e => by
    have e' : some [] = some ds := e
    cases e'
    exact .nil
  | w :: ws, _, ds, .cons h t, e => by
    cases w with
    | bo i => cases e
    | fr xs => exact h.elim
    | cl d =>
      unfold clL at e
      cases e2 : clL ws with
      | none => rw [e2] at e; cases e
      | some ds' =>
        rw [e2] at e
        cases e
        exact .cons h (clL_ok t e2)
theorem ce_callB (ha : Ca K ca Wx t ms) (hn : ∀ bs ds, f bs ds ≠ .no → ds.length = n) : Ce K ca Wx (tCallG (SpB K n f) (WE Wx) t) (callB f ms) := by
  intro c T Γ σ H Q ok p
  refine ha c T Γ σ H _ ok ((Pst.bind p).imp fun q p vs H1 ok1 hv s1 => ?_)
  obtain ⟨ws, Γ1⟩ := q
  cases hv with
  | nil => exact p.elim
  | cons h t =>
    rename_i w v ws vs
    cases w with
    | cl d => exact p.elim
    | fr d => exact p.elim
    | bo i =>
      have p1 : Pst K ca c T (hid (Oc c T Γ σ) H) Wx (match Γ1[i]?, clL ws with
        | some (.own b bs), some ds => (match f bs ds with
          | .ret d bs' => R.ok (W.cl d, Γ1.set i (.own b bs'))
          | .no => .no)
        | _, _ => .no) (QE K c T (hid (Oc c T Γ σ) H) σ Q) := p
      clear p
      split at p1
      · rename_i b bs ds e1 e2
        obtain ⟨l, xs, a1, a2, a3, _⟩ := ok1.own i b bs e1
        have h' : σ[i]? = some (some v) := h
        rw [h'] at a1
        cases a1
        have hd := clL_ok t e2
        cases ef : f bs ds with
        | no => rw [ef] at p1; exact p1.elim
        | ret d bs' =>
          rw [ef] at p1
          refine ⟨Oc c T Γ1 σ, l, xs, vs, bs, ds, rfl, by rw [hd.len]; exact hn bs ds (by rw [ef]; exact fun z => nomatch z), ok1.there, .inr (.inr ⟨i, b, bs, e1, h'⟩), a2, a3, hd, ?_⟩
          rw [ef]
          intro v H' xs' fr hl' hb' hv'
          obtain ⟨o1, o2, o3⟩ := EnvOk.inout ok1 e1 h' a2 fr hl' hb'
          exact p1 v H' ⟨o1, hv'.mono o3⟩ (Ox.cl (s1.trans o2))
      · exact p1.elim
end
section
variable {X : Cx} {ca : Str → Addr} {Wx : WX} {k n : Nat} {a : Addr} {fd : FuncData} {ps : List Str} {f : List D → List D → RB} {x : Str} {p pos : Pos} {e : Expr} {es : List Expr} {ms : Gam → R (List W × Gam)}
theorem x_callB1 (F : FnG X.prog X.w X.K X.mg X.base k a fd ps (SpB X.K n f)) (hn : ∀ bs ds, f bs ds ≠ .no → ds.length = n) (hr : Room k X.A) (hgd : X.A.guards = some []) (tk : Takes X Wx) (hg : Gl X x) (hm : X.mg x = some (.ref a)) (hk : PySem.W.keepIn X.K (.ref a) = true) (hb : Binds X.K fd ps [])
    (ha : Sa X ca Wx (e :: es) ms) (hdb : (x == ("__debug__" : Str)) = false := by decide) (he : starEach (e :: es) X.env = (false, eval e X.env) :: starEach es X.env := by rfl) (hpl : (backTo pos (starEach es X.env)).any (·.1) = false := by rfl) :
    Sx X ca Wx (.Call (.Name x p) (e :: es) [] pos) (callB f ms) := by
  obtain ⟨ta, pa, ha⟩ := ha
  exact ⟨_, pe_callG F hr hgd hg hm hk hb (fun σ => passAt tk σ) pa hdb he hpl, ce_callB ha hn⟩
end
end Mw
set_option Elab.async false
set_option linter.all false
set_option maxRecDepth 100000
set_option maxHeartbeats 2000000
/-! Mw: raise, try, a def handed on, lambdas -/
namespace Mw
open PySem PySem.Spec PyProof.Rows L2
/-! ### raise X() -/
theorem pmk_own0 {X : Cx} {C : Addr} {bmB : List Value} {B newId initId : String} {x : Str} {p pos : Pos} (F : ExcBaseFacts B newId initId bmB) (q : PySem.W.excIn X.K C bmB newId = true) (gC : X.mg x = some (.ref C))
    (kC : PySem.W.keepIn X.K (.ref C) = true) (r : Raises X (.ref C)) (hg : Gl X x) (hdb : (x == ("__debug__" : Str)) = false := by decide) :
    PMk X (.Call (.Name x p) [] [] pos) (fun _ H Q => Q (.ref C) none H) := by
  intro pins s σ H Q I h
  refine wpAny_Call_Name_kw (ld_glob I hg gC ?_ hdb)
  refine PySem.W.callWith_K0 (first := []) I.kIn kC ?_
  show wpAny _ _ (call (.ref C) []) _ _ _
  obtain ⟨bm, N, nm, qn, bs, hdct, sn, sub, ab, col, dd, k0, k1, k2, k3, k5, mN, hC, hN, hni, T⟩ := exc_obj I.kIn q
  obtain ⟨hp1, g1, d1, tk1, os1⟩ := s
  exact wpAny_call_exc_subT F T hC hN hni (fun h' e hm => mk_of I hm r h (I.hok.gone hm.new)) (Nat.zero_le _)
def raiM (n : Str) : MS := fun Γ => .ex ⟨n, []⟩ Γ
section
variable {K : PySem.W.Frag} {ca : Str → Addr} {Wx : WX}
theorem cs_raise {n : Str} {C : Addr} (hC : ca n = C) : Cs K ca Wx (fun _ σ H => Wx (.ref C) none σ H) (raiM n) := by
  intro c T Γ σ H D ok p
  exact p (.ref C) none σ H ok (Same.refl _) ⟨by rw [hC], rfl⟩
end
theorem s_raise {X : Cx} {ca : Str → Addr} {Wx : WX} {C : Addr} {bmB : List Value} {B newId initId : String} {x : Str} {p pos pos' : Pos} (F : ExcBaseFacts B newId initId bmB) (q : PySem.W.excIn X.K C bmB newId = true) (gC : X.mg x = some (.ref C))
    (kC : PySem.W.keepIn X.K (.ref C) = true) (r : Raises X (.ref C)) (hg : Gl X x) (hca : ca x = C) (hc : X.calm = true) (tk : Takes X Wx) (hdb : (x == ("__debug__" : Str)) = false := by decide) :
    Ss X ca Wx (.Raise (some (.Call (.Name x p) [] [] pos)) none pos') (raiM x) :=
  ⟨_, ps_raise hc tk (pmk_own0 F q gC kC r hg hdb), cs_raise hca⟩
/-! ### try: .. except X: .. -/
/-- mat: is the error of this class caught -/
def tryM (mat : Str → Option Bool) (mb ms : MS) : MS := fun Γ => match mb Γ with
  | .ok o => .ok o
  | .ex e Γ' => (match mat e.name with
    | some true => (match ms Γ' with
      | .ok o => .ok o
      | _ => .no)
    | some false => .ex e Γ'
    | none => .no)
  | .no => .no
theorem s_try {X : Cx} {ca : Str → Addr} {Wx : WX} {x : Str} {cls : Value} {body suite : List Stmt} {b₀ : Stmt} {np pos pos' : Pos} {mat : Str → Option Bool} {mb ms : MS} (hs : X.stack = X.env :: X.outer) (hf : X.env.frame = some X.env.locals) (hc : Names X x cls) (tk : Takes X Wx)
    (hm : ∀ n b, mat n = some b → PySem.W.exmOne X.K (.ref (ca n)) cls = some b)
    (hb : ∀ (W : WX) (pn : List (Addr × Obj)) (xe : Value → Shared → Prop), Takes (X.tr pn xe) W → PassesOwn (model X.prog X.w) X.A X.env xe → Sk (X.tr pn xe) ca W body mb)
    (hsu : ∀ (a : Addr) (pn : List (Addr × Obj)), Sk (X.suite a pn) ca Wx0 (b₀ :: suite) ms) :
    Ss X ca Wx (.Try body [.ExceptHandler (some (.Name x np)) none (b₀ :: suite) pos'] [] [] pos) (tryM mat mb ms) := by
  refine ⟨_, ps_try_only hs hf hc tk (tb := fun W => canS X.K ca W mb) (ts := fun _ _ _ => canS X.K ca Wx0 ms) (fun W pn xe t po => (hb W pn xe t po).can) (fun a oe cls d pn _ _ => (hsu a _).can), ?_⟩
  intro c T Γ σ H D ok p
  refine ⟨c, T, Γ, ok, ?_⟩
  unfold tryM at p
  cases e : mb Γ with
  | no => rw [e] at p; exact p.elim
  | ok o => rw [e] at p; exact p
  | ex e1 Γ1 =>
    rw [e] at p
    intro cv d σ' H' ok' s' x
    have p1 : Pst X.K ca c T (hid (Oc c T Γ σ) H) Wx (match mat e1.name with
      | some true => (match ms Γ1 with
        | .ok o => R.ok o
        | _ => .no)
      | some false => .ex e1 Γ1
      | none => .no) (PO X.K c T (hid (Oc c T Γ σ) H) D) := p
    cases em : mat e1.name with
    | none => rw [em] at p1; exact p1.elim
    | some b =>
      rw [em] at p1
      refine ⟨b, by rw [x.1]; exact hm _ _ em, fun hbt a ha => ?_, fun hbf => ?_⟩
      · subst hbt
        refine ⟨c, T, Γ1, ok', ?_⟩
        cases es : ms Γ1 with
        | no => simp only [es] at p1; exact p1.elim
        | ex e2 Γ2 => simp only [es] at p1; exact p1.elim
        | ok o => simp only [es] at p1; exact PO.base (show PO X.K c T (hid (Oc c T Γ σ) H) D o from p1) s'
      · subst hbf
        exact p1 cv d σ' H' ok' s' x
/-! ### a def of the module in a name of one's own -/
def callL (i : Nat) (tab : List (Addr × (List D → RF))) (ms : Gam → R (List W × Gam)) : M := fun Γ => match Γ[i]? with
  | some (.val (.ref a)) => (match tab.lookup a with
    | some f => callP f ms Γ
    | none => .no)
  | _ => .no
theorem x_callL {X : Cx} {ca : Str → Addr} {Wx : WX} {k n : Nat} {x : Str} {p pos : Pos} {e : Expr} {es : List Expr} {ms : Gam → R (List W × Gam)} (i : Nat) (tab : List (Addr × (List D → RF)))
    (ht : ∀ a f, tab.lookup a = some f → ∃ fd ps, FnG X.prog X.w X.K X.mg X.base k a fd ps (SpP X.K ca n f) ∧ (∀ ds, f ds ≠ .no → ds.length = n) ∧ PySem.W.keepIn X.K (.ref a) = true ∧ Binds X.K fd ps [])
    (hr : Room k X.A) (hgd : X.A.guards = some []) (tk : Takes X Wx) (hN : X.N[i]? = some x) (hv : Vis X.env.scope x) (ha : Sa X ca Wx (e :: es) ms)
    (hdb : (x == ("__debug__" : Str)) = false := by decide) (hcd : (x == ("__classdict__" : Str)) = false := by decide) (he : starEach (e :: es) X.env = (false, eval e X.env) :: starEach es X.env := by rfl) (hpl : (backTo pos (starEach es X.env)).any (·.1) = false := by rfl) :
    Sx X ca Wx (.Call (.Name x p) (e :: es) [] pos) (callL i tab ms) := by
  obtain ⟨ta, pa, ha⟩ := ha
  refine ⟨fun σ H Q => ∃ a f, tab.lookup a = some f ∧ σ[i]? = some (some (.ref a)) ∧ tCallG (SpP X.K ca n f) (WE Wx) ta σ H Q, ⟨fun pins s σ H Q I ⟨a, f, e1, e2, h⟩ => ?_⟩, ?_⟩
  · obtain ⟨fd, ps, F, hn, hk, hb⟩ := ht a f e1
    exact (pe_callLG F hr hgd hN hv hk hb (fun σ => passAt tk σ) pa hdb hcd he hpl).run pins s σ H Q I ⟨e2, h⟩
  · intro c T Γ σ H Q ok p0
    have p1 : Pst X.K ca c T (hid (Oc c T Γ σ) H) Wx (match Γ[i]? with
      | some (.val (.ref a)) => (match tab.lookup a with
        | some f => callP f ms Γ
        | none => .no)
      | _ => .no) (QE X.K c T (hid (Oc c T Γ σ) H) σ Q) := p0
    clear p0
    split at p1
    · rename_i a eg
      cases el : tab.lookup a with
      | none => rw [el] at p1; exact p1.elim
      | some f =>
        rw [el] at p1
        obtain ⟨fd, ps, F, hn, hk, hb⟩ := ht a f el
        obtain ⟨v, ev, hv'⟩ := ok.val i _ eg
        cases hv'
        exact ⟨a, f, el, ev, ce_callP ha hn c T Γ σ H Q ok p1⟩
    · exact p1.elim
/-! ### lambdas -/
def valG (Γ : Gam) : Gam := Γ.map fun u => match u with
  | .val d => .val d
  | _ => .un
def lamR (r : R (W × Gam)) (Γ : Gam) : R (W × Gam) := match r with
  | .ok (.cl d, _) => .ok (.cl d, Γ)
  | .ok (.fr ds, _) => .ok (.fr ds, Γ)
  | .ok (.bo _, _) => .no
  | .ex e _ => .ex e Γ
  | .no => .no
open Classical in
/-- a() of a lambda in slot i -/
noncomputable def actM (i : Nat) (tab : List (LamD × M)) : M := fun Γ => match Γ[i]? with
  | some (.val (.fn q)) => (match tab[q.ix]? with
    | some (q', m) => if q = q' then lamR (m (valG Γ)) Γ else .no
    | none => .no)
  | _ => .no
section
variable {K : PySem.W.Frag} {ca : Str → Addr} {c : Fx} {T : Addr → HO → Prop} {Γ : Gam} {σ : Slots} {H : Hp}
theorem valG_get {i : Nat} {u : Sl} (h : (valG Γ)[i]? = some u) : u = .un ∨ ∃ d, u = .val d ∧ Γ[i]? = some (.val d) := by
  unfold valG at h
  rw [List.getElem?_map] at h
  cases e : Γ[i]? with
  | none => rw [e] at h; cases h
  | some w =>
    rw [e] at h
    cases w with
    | un => cases h; exact .inl rfl
    | val d => cases h; exact .inr ⟨d, rfl, rfl⟩
    | own b ds => cases h; exact .inl rfl
theorem lam_env (ok : EnvOk K c T Γ σ H) : EnvOk K ⟨H, fun _ _ => False, Oc c T Γ σ⟩ T0 (valG Γ) σ H ∧ hid (Oc ⟨H, fun _ _ => False, Oc c T Γ σ⟩ T0 (valG Γ) σ) H = hid (Oc c T Γ σ) H := by
  have no : ∀ (i : Nat) (b : Bool) (es : List D), (valG Γ)[i]? = some (.own b es) → False := fun i b es e => by
    rcases valG_get e with z | ⟨d, z, _⟩ <;> cases z
  have eq : hid (Oc ⟨H, fun _ _ => False, Oc c T Γ σ⟩ T0 (valG Γ) σ) H = hid (Oc c T Γ σ) H := by
    refine congrArg (fun P => hid P H) (funext fun a => propext ⟨fun q => ?_, .inl⟩)
    rcases q with q | ⟨_, q⟩ | ⟨i, b, es, e, _⟩
    · exact q
    · exact q.elim
    · exact (no i b es e).elim
  refine ⟨?_, eq⟩
  show EnvAt K (hid (Oc ⟨H, fun _ _ => False, Oc c T Γ σ⟩ T0 (valG Γ) σ) H) _ _ _ _ _
  rw [eq]
  refine ⟨by rw [valG, List.length_map]; exact ok.len, fun i d e => ?_, fun i b es e => (no i b es e).elim, fun i j b b' ds es l e => (no i b ds e).elim, fun a o _ e => e, ok.there, fun _ _ z => z.elim, fun _ _ z => z.elim⟩
  rcases valG_get e with z | ⟨d', z, e'⟩
  · cases z
  · cases z
    exact ok.val i d e'
end
/-- an entry of the table of lambdas: made in X's frame, its body's mirror is m -/
structure LamOk (X : Cx) (ca : Str → Addr) (k : Nat) (q : LamD) (m : M) : Prop where
  qual : q.qual = X.env.qual ++ "<lambda>"
  clo : q.clo = cloFrom X.env.cells q.scope.names []
  ls : LamX.LamS X.env.scope q.scope
  none : ∀ (qual : Str) (body : Expr) (scope : Scope) (cl : List (Str × Addr)) (pm cdv ct : Value), bindArgs (PySem.W.kla_fn "<lambda>" qual q.params body scope cl pm cdv ct) ⟨[], []⟩ = pure []
  body : ∀ (A : Around) (outer : List Env) (s : Shared) (H : Hp) (E : XK) (f c' : Addr), Room k (A.deeper (LamX.lamEnv X q.scope s.heap.objs.size f c')) → A.guards = some [] → Sx (LamX.lamCx X A outer s H E q.scope f c') ca (fun cls d _ H' => E cls d H') q.body m
theorem x_act {X : Cx} {ca : Str → Addr} {Wx : WX} {k : Nat} {a : Str} {p1 p2 : Pos} (i : Nat) (tab : List (LamD × M)) (ht : ∀ (n : Nat) (q : LamD) (m : M), tab[n]? = some (q, m) → LamOk X ca k q m) (hr : Room (k + 1) X.A) (hgd : X.A.guards = some []) (tk : Takes X Wx)
    (hN : X.N[i]? = some a) (hv : Vis X.env.scope a) (hd : (a == ("__debug__" : Str)) = false := by decide) (hcd : (a == ("__classdict__" : Str)) = false := by decide) :
    Sx X ca Wx (.Call (.Name a p1) [] [] p2) (actM i tab) := by
  refine ⟨fun σ H Q => ∃ (f c' : Addr) (n : Nat) (q : LamD) (m : M), σ[i]? = some (some (.ref f)) ∧ tab[n]? = some (q, m) ∧ H f = some (FnO f c' q) ∧ H c' = some (LamX.CodeO c' q.qual) ∧ canE X.K ca (fun cls d _ H' => Wx cls d σ H') m σ H Q, ⟨fun pins s σ H Q I h => ?_⟩, ?_⟩
  · obtain ⟨f, c', n, q, m, hs, htab, hf, hc, hcan⟩ := h
    have L := ht n q m htab
    refine wpAny_Call_Name_kw (thn ((pe_var (pos := p1) (i := i) hN hv hd hcd).run pins s σ H (fun v H1 => v = .ref f ∧ H1 = H) I ⟨.ref f, hs, rfl, rfl⟩) fun u s1 ⟨v, H1, I1, r1, q1⟩ => ?_)
    obtain ⟨rfl, rfl⟩ := q1
    obtain rfl : u = Value.ref f := r1
    obtain ⟨⟨pm, ctv, of1⟩, _, _⟩ := I1.hok f _ hf
    obtain ⟨⟨oc, vs, t, hoc, hdc, hvc⟩, _, _⟩ := I1.hok c' _ hc
    rw [L.qual] at of1 hvc
    rw [L.clo] at of1
    refine PySem.W.callWith_F0 ⟨_, _, _, _, of1⟩ ?_
    have rc : codeAny (model X.prog X.w) X.A (.call (.ref f) ⟨[], []⟩) (CR (L2.CX X.prog X.w) X.stack X.prog X.w H1 s1 Q (WE Wx σ)) s1 := by
      refine PySem.W.kla_callFunE hr.depth of1 rfl L.ls.co L.ls.gen rfl ⟨c', oc, vs, t, rfl, hoc, hdc, hvc⟩ ?_
      rw [L.none]
      refine wpAny_pure (wpAny_newFunctionEnv (fun y hy => (L.ls.own y hy).2) (fun y hy => absurd hy (by simp)) (fun h₁ hns hsb => ⟨I1.nolimit.fresh _ hsb, ?_⟩) L.ls.kind)
      show codeAny _ _ (.expr q.body (LamX.lamEnv X q.scope s1.heap.objs.size f c')) _ _
      have kp : ∀ b o, s1.heap.get? b = some o → h₁.get? b = some o := fun b o e => hsb.extBut b o (Nat.ne_of_lt (Heap.lt_size e)) (Heap.get?_push_of_some _ e)
      have J : Inv (LamX.lamCx X X.A X.stack s1 H1 (WE Wx σ) q.scope f c') [] σ H1 { s1 with heap := h₁, toks := s1.toks + ([] : List (Str × Value)).length } :=
        LamX.lam_start2 I1 L.ls I1.env0 hr.hd (Un.kept fun _ _ e => e) hns kp
      refine PySem.W.kla_codeExpr (wpAny_mono ((L.body X.A X.stack s1 H1 (WE Wx σ) f c' (hr.deeper _) hgd).can.run [] _ σ H1 Q J hcan) (fun v s' hq => ?_) fun e s' hq => hq)
      obtain ⟨w', H', J', rv, q'⟩ := hq
      exact ⟨w', H', J'.os, J'.bare, J'.base, J'.hok, rv, q'⟩
    refine wpAny_call (codeAny_mono rc fun r s' hq => ?_)
    cases r with
    | error e => exact passAt tk σ pins H1 s1 e s' I1 hq
    | ok fl =>
      cases fl with
      | ret u => exact I1.after hq
      | next => exact False.elim hq
      | brk => exact False.elim hq
      | cont => exact False.elim hq
  · intro c T Γ σ H Q ok p0
    unfold actM at p0
    split at p0
    · rename_i q eg
      split at p0
      · rename_i q' m et
        split at p0
        · rename_i eq
          subst eq
          obtain ⟨v, ev, hv'⟩ := ok.val i _ eg
          cases hv' with
          | fn h1 h2 =>
            rename_i f c'
            refine ⟨f, c', _, q, m, ev, et, hid_sub _ _ h1, hid_sub _ _ h2, ?_⟩
            obtain ⟨okl, eql⟩ := lam_env ok
            refine ⟨_, T0, valG Γ, okl, ?_⟩
            rw [eql]
            have frm : ∀ {Γ' : Gam} {σ' : Slots} {H' : Hp} {T' : Addr → HO → Prop}, EnvOk X.K ⟨H, fun _ _ => False, Oc c T Γ σ⟩ T' Γ' σ' H' → Same H H' := fun ok' a o e => ok'.fr a o (fun _ z => z) e
            cases em : m (valG Γ) with
            | no => rw [em] at p0; exact p0.elim
            | ex e Γ1 =>
              rw [em] at p0
              intro cls d σ' H' ok' s' x
              refine p0 cls d σ H' (ok.same (frm ok')) (hid_mono (frm ok') fun _ z => z) (x.mono (hid_mono (Same.refl H') fun a z => .inl z))
            | ok r =>
              obtain ⟨w, Γ1⟩ := r
              rw [em] at p0
              intro v H' ev' s'
              cases w with
              | bo j => exact p0.elim
              | cl d =>
                obtain ⟨ok', hv''⟩ := ev'
                obtain ⟨a, b⟩ := rv_ok (w := .cl d) ok (Same.refl _) (frm ok') (hv''.mono (hid_mono (Same.refl H') fun a z => .inl z))
                exact p0 v H' a b
              | fr es =>
                obtain ⟨l, xs, rfl, hl1, h0, hn, ok', ha⟩ := ev'
                obtain ⟨a, b⟩ := rv_ok (w := .fr es) ok (Same.refl _) (frm ok') ⟨l, xs, rfl, h0, hl1, DvAll.mono (hid_mono (Same.refl H') fun a z => by
                  rcases z with z | z
                  · exact .inl z
                  · exact .inr (.inl ⟨_, .inr ⟨z, rfl⟩⟩)) _ _ ha⟩
                exact p0 _ H' a b
        · exact p0.elim
      · exact p0.elim
    · exact p0.elim
end Mw
set_option Elab.async false
set_option linter.all false
set_option maxRecDepth 100000
set_option maxHeartbeats 2000000
/-! Mw: the making of lambdas; the law's own body -/
namespace Mw
open PySem PySem.Spec PyProof.Rows L2 LamX
/-- all but P stays -/
def ExtP (P : Addr) (H H1 : Hp) : Prop := ∀ b o, b ≠ P → H b = some o → H1 b = some o
/-- the lambda is made, its object known from now on -/
theorem lam_make3 {X : Cx} {pins : List (Addr × Obj)} {σ : L2.St} {H : Hp} {s : Shared} {c P : Addr} {params : Arguments} {body : Expr} {scope : Scope} {pos : Pos} {E : Value → Shared → Prop} {Q : Value → Shared → Prop} (n : Nat) (I : Inv X pins σ H s) (TB : TabB X.base X.mg c P) (hcode : X.env.code = .ref c)
    (hT : TabS H P (X.env.qual ++ "<lambda>")) (hdef : defaultsOf params X.env = ([], [])) (hfree : ∀ y ∈ scope.names, y.2 = .free → ∃ c, X.env.cells.lookup y.1 = some c)
    (h : ∀ (f c' : Addr) (H1 : Hp) (s' : Shared), Inv X pins σ (upd H1 f (FnO f c' ⟨n, X.env.qual ++ "<lambda>", params, body, scope, cloFrom X.env.cells scope.names []⟩)) s' → ExtP P H H1 → TabS H1 P (X.env.qual ++ "<lambda>") →
      H1 f = none → H1 c' = some (CodeO c' (X.env.qual ++ "<lambda>")) → Q (.ref f) s') :
    wpAny (model X.prog X.w) X.A (eval (.Lambda params body scope pos) X.env) Q E s := by
  obtain ⟨ps, hP, ht, ha⟩ := hT
  refine PySem.W.kla_eval hdef ?_
  have bP : s.heap.BuiltinsAt X.mg P := TB.bm.keeps I.bk
  have hP' : s.heap.get? P = some { cls := .none, data := .fields ps } := I.hok P _ hP
  have new : ∀ (f c' : Addr) (H1 : Hp) (h : Heap) (pm ctv : Value), h.get? f = some (PySem.W.kla_obj "<lambda>" (X.env.qual ++ "<lambda>") params body scope (cloFrom X.env.cells scope.names []) pm c' ctv) →
      ObjOk X.prog X.w (upd H1 f (FnO f c' ⟨n, X.env.qual ++ "<lambda>", params, body, scope, cloFrom X.env.cells scope.names []⟩)) h f (FnO f c' ⟨n, X.env.qual ++ "<lambda>", params, body, scope, cloFrom X.env.cells scope.names []⟩) := fun f c' H1 h pm ctv e =>
    ⟨⟨pm, ctv, e⟩, ⟨_, e⟩, fun h1 h2 ⟨pm, ctv, e1⟩ k => ⟨pm, ctv, k _ e1⟩⟩
  cases hc : codeAmong pos ps.toList with
  | none =>
    refine PySem.W.kla_makeFunction (mg := X.mg) (c := c) (P := P) (ps := ps) (closure_ok hfree) I.ok.glob (I.mod.glob.keeps I.bk) hcode (TB.code.keeps I.bk) hP' ht hc TB.gP bP fun c' ctv h' tk hx hge hlt hrec htb => ?_
    obtain ⟨c2, oc, vs, t, e2, hoc, hd, hv⟩ := hrec
    cases e2
    have hsz : s.heap.objs.size ≤ h'.objs.size := Nat.le_trans hge (Nat.le_of_lt hlt)
    have nC : H c' = none := I.hok.fresh hge
    have I0 := inv_table (t' := tk) (more := #[rawInt pos.line, rawInt pos.col, .ref c']) (h' := h') I hP hx htb hge ⟨oc, vs, t, hoc, hd, hv⟩
    have I1 := I0.laid (t' := tk) (a := h'.objs.size) (o := FnO h'.objs.size c' ⟨n, X.env.qual ++ "<lambda>", params, body, scope, cloFrom X.env.cells scope.names []⟩)
      (h' := h'.push (PySem.W.kla_obj "<lambda>" (X.env.qual ++ "<lambda>") params body scope (cloFrom X.env.cells scope.names []) ((X.mg "__name__").getD .none) c' ctv))
      (fun b u e => Heap.get?_push_of_some _ e) (Nat.le_refl _) (new _ _ _ _ _ _ (Heap.get?_push_size _ rfl))
    have hE : ExtN H (upd (upd H P (.tbl (ps ++ #[rawInt pos.line, rawInt pos.col, .ref c']))) c' (CodeO c' (X.env.qual ++ "<lambda>"))) := fun b o e n => by
      rw [upd_ne (ne_of_none e nC), upd_ne (fun z => n ps (Option.some.inj (e.symm.trans (by rw [z]; exact hP))))]
      exact e
    have eL : (ps ++ #[rawInt pos.line, rawInt pos.col, .ref c']).toList = ps.toList ++ [rawInt pos.line, rawInt pos.col, .ref c'] := by simp
    refine h h'.objs.size c' _ _ I1 (fun b o n e => by rw [upd_ne (ne_of_none e nC), upd_ne n]; exact e) ⟨_, by rw [upd_ne (ne_of_none hP nC), upd_same], by rw [eL]; exact PySem.TriplesOk_snoc _ _ _ _ ht, fun p' cv hcv => ?_⟩ ?_ upd_same
    · rw [eL] at hcv
      rcases among_app _ ht hcv with z | z
      · obtain ⟨c0, e1, e2⟩ := ha p' cv z
        exact ⟨c0, e1, hE _ _ e2 codeO_ne⟩
      · exact ⟨c', z, upd_same⟩
    · have n1 : h'.objs.size ≠ c' := Nat.ne_of_gt hlt
      have n2 : h'.objs.size ≠ P := Nat.ne_of_gt (Nat.lt_of_lt_of_le (Heap.lt_size hP') hsz)
      rw [upd_ne n1, upd_ne n2]
      exact I.hok.fresh hsz
  | some cv =>
    obtain ⟨c', e, hco⟩ := ha pos cv hc
    subst e
    refine PySem.W.kla_makeFunctionHit (mg := X.mg) (c := c) (P := P) (ps := ps) (closure_ok hfree) I.ok.glob (I.mod.glob.keeps I.bk) hcode (TB.code.keeps I.bk) hP' ht hc bP fun ctv h' tk hx hsz => ?_
    have I0 : Inv X pins σ H { s with heap := h', toks := tk } := I.kept fun b o e => hx b o e
    have I1 := I0.laid (t' := tk) (a := h'.objs.size) (o := FnO h'.objs.size c' ⟨n, X.env.qual ++ "<lambda>", params, body, scope, cloFrom X.env.cells scope.names []⟩)
      (h' := h'.push (PySem.W.kla_obj "<lambda>" (X.env.qual ++ "<lambda>") params body scope (cloFrom X.env.cells scope.names []) ((X.mg "__name__").getD .none) c' ctv))
      (fun b u e => Heap.get?_push_of_some _ e) (Nat.le_refl _) (new _ _ _ _ _ _ (Heap.get?_push_size _ rfl))
    exact h h'.objs.size c' H _ I1 (fun _ _ _ e => e) ⟨ps, hP, ht, ha⟩ (I.hok.fresh hsz) hco
/-- the reading of a lambda -/
def tLamE (P : Addr) (q : LamD) : TE := fun _ H Q => TabS H P q.qual ∧ ∀ f c' H1, ExtP P H H1 → TabS H1 P q.qual → H1 f = none → H1 c' = some (CodeO c' q.qual) → Q (.ref f) (upd H1 f (FnO f c' q))
theorem pe_lamE {X : Cx} {c P : Addr} {params : Arguments} {body : Expr} {scope : Scope} {pos : Pos} (n : Nat) (TB : TabB X.base X.mg c P) (hcode : X.env.code = .ref c) (L : LamS X.env.scope scope) (hdef : defaultsOf params X.env = ([], [])) :
    PE X (.Lambda params body scope pos) (tLamE P ⟨n, X.env.qual ++ "<lambda>", params, body, scope, cloFrom X.env.cells scope.names []⟩) := by
  refine ⟨fun pins s σ H Q I h => ?_⟩
  obtain ⟨hT, k⟩ := h
  exact lam_make3 n I TB hcode hT hdef (L.has I.ok) fun f c' H1 s' I1 e t n0 hc => ⟨.ref f, _, I1, rfl, k f c' H1 e t n0 hc⟩
/-! ### the law's body, that tells True -/
/-- the table of code objects, held apart -/
def TPs (P : Addr) (ps : Array Value) : Addr → HO → Prop := fun a o => a = P ∧ o = .tbl ps
/-- a block of the law's -/
def CL (K : PySem.W.Frag) (ca : Str → Addr) (P : Addr) (q : Str) (t : TS) (m : MS) : Prop := ∀ (c : Fx) (Γ : Gam) (σ : Slots) (H : Hp) (D : Ends) (ps : Array Value),
  (∃ i, c.I i P) → (∀ i a, c.I i a → a = P) → c.H0 P ≠ none → EnvOk K c (TPs P ps) Γ σ H → TabS H P q → (∃ Γ', m Γ = .ok (.rt (.cl (.bl true)) Γ')) → (∀ H', D.rt (.bl true) H') → t D σ H
section
variable {K : PySem.W.Frag} {ca : Str → Addr} {P : Addr} {q : Str} {t u : TS} {a b : MS}
theorem tab_same {c : Fx} {T : Addr → HO → Prop} {Γ Γ' : Gam} {σ σ' : Slots} {H H' : Hp} (h : TabS H P q) (hT : ∀ ps, H P = some (.tbl ps) → H' P = some (.tbl ps)) (hO : ∀ a, Oc c T Γ σ a → ∃ o, H a = some o ∧ nt o = true) (s : Same (hid (Oc c T Γ σ) H) (hid (Oc c T Γ' σ') H')) : TabS H' P q := by
  obtain ⟨ps, h1, h2, h3⟩ := h
  refine ⟨ps, hT ps h1, h2, fun pos cv hc => ?_⟩
  obtain ⟨c', e1, e2⟩ := h3 pos cv hc
  refine ⟨c', e1, hid_sub _ _ (s _ _ (hid_some.mpr ⟨fun z => ?_, e2⟩))⟩
  obtain ⟨o, f1, f2⟩ := hO c' z
  rw [e2] at f1
  cases f1
  cases f2
theorem cl_seq (ha : Cs K ca Wx0 t a) (hb : CL K ca P q u b) : CL K ca P q (tSeq t u) (skM a b) := by
  intro c Γ σ H D ps hI hI2 h0 ok hT ⟨Γ', e⟩ hrt
  refine ha c (TPs P ps) Γ σ H _ ok ?_
  unfold skM at e
  cases ea : a Γ with
  | no => rw [ea] at e; cases e
  | ex e1 Γ1 => rw [ea] at e; cases e
  | ok o =>
    rw [ea] at e
    cases o with
    | nx Γ1 =>
      intro σ' H' ok' s'
      refine hb c Γ1 σ' H' D ps hI hI2 h0 ok' (tab_same hT (fun ps' hp => ?_) ok.there s') ⟨Γ', e⟩ hrt
      have z1 := (ok.tt P _ ⟨rfl, rfl⟩).1
      rw [z1] at hp
      cases hp
      exact (ok'.tt P _ ⟨rfl, rfl⟩).1
    | bk Γ1 => cases e
    | ct Γ1 => cases e
    | rt w Γ1 =>
      cases e
      intro v σ' H' ev s'
      obtain ⟨_, hv⟩ := ev
      cases hv
      exact hrt H'
theorem cl_end (ha : Cs K ca Wx0 t a) : CL K ca P q t a := by
  intro c Γ σ H D ps hI hI2 h0 ok hT ⟨Γ', e⟩ hrt
  refine ha c (TPs P ps) Γ σ H _ ok ?_
  rw [e]
  intro v σ' H' ev s'
  obtain ⟨_, hv⟩ := ev
  cases hv
  exact hrt H'
/-- behind the making of a lambda -/
theorem lam_after {c : Fx} {Γ : Gam} {σ : Slots} {H H1 : Hp} {ps : Array Value} {f c' : Addr} {ld : LamD} (hI : ∃ i, c.I i P) (hI2 : ∀ i a, c.I i a → a = P) (h0 : c.H0 P ≠ none) (ok : EnvOk K c (TPs P ps) Γ σ H) (eE : ExtP P H H1) (hT1 : TabS H1 P ld.qual) (hf : H1 f = none) (hc : H1 c' = some (CodeO c' ld.qual)) :
    ∃ ps', EnvOk K c (TPs P ps') Γ σ (upd H1 f (FnO f c' ld)) ∧ TabS (upd H1 f (FnO f c' ld)) P ld.qual ∧ Same (hid (Oc c (TPs P ps) Γ σ) H) (hid (Oc c (TPs P ps') Γ σ) (upd H1 f (FnO f c' ld))) ∧ Dv K (hid (Oc c (TPs P ps') Γ σ) (upd H1 f (FnO f c' ld))) (.ref f) (.fn ld) := by
  obtain ⟨ps', hp', ht', ha'⟩ := id hT1
  have hP := (ok.tt P _ ⟨rfl, rfl⟩).1
  have sf := same_new (o := FnO f c' ld) hf
  have inP : ∀ ps, Oc c (TPs P ps) Γ σ P := fun ps => .inr (.inl ⟨_, rfl, rfl⟩)
  have eqO : ∀ a, Oc c (TPs P ps') Γ σ a → Oc c (TPs P ps) Γ σ a := fun a z => by
    rcases z with z | ⟨_, z, _⟩ | z
    · exact .inl z
    · rw [z]; exact inP ps
    · exact .inr (.inr z)
  have keep : ∀ a o, a ≠ P → H a = some o → upd H1 f (FnO f c' ld) a = some o := fun a o hne e => sf _ _ (eE a o hne e)
  have hPf : P ≠ f := ne_of_none hp' hf
  have hP2 : upd H1 f (FnO f c' ld) P = some (.tbl ps') := by rw [upd_ne hPf]; exact hp'
  have hcf : c' ≠ f := ne_of_none hc hf
  have s : Same (hid (Oc c (TPs P ps) Γ σ) H) (hid (Oc c (TPs P ps') Γ σ) (upd H1 f (FnO f c' ld))) := fun a o e => by
    obtain ⟨n, e⟩ := hid_some.mp e
    exact hid_some.mpr ⟨fun z => n (eqO a z), keep a o (fun z => n (by rw [z]; exact inP ps)) e⟩
  have fresh : H f = none := by
    cases e : H f with
    | none => rfl
    | some o =>
      have z := eE f o (Ne.symm hPf) e
      rw [hf] at z
      cases z
  refine ⟨ps', ⟨ok.len, fun i d e => ?_, fun i b ds e => ?_, ok.inj, fun a o hn e => ?_, fun a z => ?_, fun a o z => ?_, fun i a z => ?_⟩, hT1.ext sf, s, .fn (hid_some.mpr ⟨fun z => EnvAt.new ok fresh (eqO f z), upd_same⟩) (hid_some.mpr ⟨fun z => ?_, by rw [upd_ne hcf]; exact hc⟩)⟩
  · obtain ⟨v, e1, e2⟩ := ok.val i d e
    exact ⟨v, e1, e2.mono s⟩
  · obtain ⟨l, vs, a1, a2, a3, a4, a5, a6, a7⟩ := ok.own i b ds e
    have hl : l ≠ P := fun z => by rw [z, hP] at a2; cases a2
    exact ⟨l, vs, a1, keep _ _ hl a2, a3.mono s, a4, a5, a6, fun o z => hl z.1⟩
  · obtain ⟨j, hj⟩ := hI
    have hne : a ≠ P := fun z => hn j (by rw [z]; exact hj)
    exact keep a o hne (ok.fr a o hn e)
  · by_cases hne : a = P
    · subst hne; exact ⟨_, hP2, rfl⟩
    · obtain ⟨o, e, n⟩ := ok.o0 a z
      exact ⟨o, keep a o hne e, n⟩
  · obtain ⟨rfl, rfl⟩ := z
    exact ⟨hP2, rfl⟩
  · rw [hI2 i a z]; exact ⟨_, hP2, rfl⟩
  · obtain ⟨o, e1, e2⟩ := ok.there c' (eqO c' z)
    have hne : c' ≠ P := fun z => by rw [z, hp'] at hc; cases hc
    have e3 := eE c' o hne e1
    rw [hc] at e3
    cases e3
    cases e2
/-- x = [lambda: ..], and on -/
def lam1M (i : Nat) (ld : LamD) (b : MS) : MS := fun Γ => if i < Γ.length then b (Γ.set i (.own false [.fn ld])) else .no
theorem cl_lam1 {i : Nat} {ld : LamD} (hq : ld.qual = q) (hb : CL K ca P q u b) : CL K ca P q (tSeq (tAsg (tLst (tCons (tLamE P ld) tNil)) (gName i)) u) (lam1M i ld b) := by
  intro c Γ σ H D ps hI hI2 h0 ok hT ⟨Γ', e⟩ hrt
  subst hq
  unfold lam1M at e
  by_cases hi : i < Γ.length
  · rw [if_pos hi] at e
    refine ⟨hT, fun f c' H1 eE hT1 hf hc => ⟨(show 1 ≤ sizeLine by rw [sizeLine_eq]; omega), fun p hp => ?_⟩⟩
    obtain ⟨ps', ok1, t1, s1, d1⟩ := lam_after hI hI2 h0 ok eE hT1 hf hc
    obtain ⟨ev, s2⟩ := res_ok (w := .fr [.fn ld]) ok1 ⟨p, [.ref f], rfl, hp, rfl, DvAll.one d1⟩
    obtain ⟨ok2, s3⟩ := sto_ok (i := i) (Γ' := Γ.set i (.own false [.fn ld])) ev s2 (by unfold stoM; rw [if_pos hi])
    refine hb c _ _ _ D ps' hI hI2 h0 ok2 (tab_same t1 (fun ps2 hp2 => ?_) ok1.there s3) ⟨Γ', e⟩ hrt
    rw [upd_ne (ne_of_none hp2 hp)]
    exact hp2
  · rw [if_neg hi] at e; cases e
/-- x.append(lambda: ..), and on -/
def lamAM (i : Nat) (ld : LamD) (b : MS) : MS := fun Γ => match Γ[i]? with
  | some (.own k ds) => if ds.length < sizeLine then b (Γ.set i (.own k (ds ++ [.fn ld]))) else .no
  | _ => .no
theorem cl_lamA {i : Nat} {ld : LamD} (hq : ld.qual = q) (hb : CL K ca P q u b) : CL K ca P q (tSeq (tDrop (tBM K "list" rAppend (tVar i) (tCons (tLamE P ld) tNil))) u) (lamAM i ld b) := by
  intro c Γ σ H D ps hI hI2 h0 ok hT ⟨Γ', e⟩ hrt
  subst hq
  unfold lamAM at e
  split at e
  · rename_i k ds eg
    by_cases hz : ds.length < sizeLine
    · rw [if_pos hz] at e
      obtain ⟨l, xs, a1, a2, a3, _⟩ := ok.own i k ds eg
      refine ⟨.ref l, a1, .inl ⟨rfl, xs, .of a2⟩, hT, fun f c' H1 eE hT1 hf hc => ?_⟩
      obtain ⟨ps', ok1, t1, s1, d1⟩ := lam_after hI hI2 h0 ok eE hT1 hf hc
      obtain ⟨l', xs', b1, b2, b3, _⟩ := ok1.own i k ds eg
      rw [a1] at b1
      cases b1
      refine ⟨l, xs', .ref f, rfl, rfl, b2, by rw [b3.len]; exact hz, ?_⟩
      obtain ⟨ok2, s3⟩ := ok1.mut eg a1 b2 (b3.append (DvAll.one d1))
      refine hb c _ _ _ D ps' hI hI2 h0 ok2 (tab_same t1 (fun ps2 hp2 => ?_) ok1.there s3) ⟨Γ', e⟩ hrt
      have hl : P ≠ l := fun z => by rw [z, b2] at hp2; cases hp2
      rw [upd_ne hl]
      exact hp2
    · rw [if_neg hz] at e; cases e
  · cases e
end
section
variable {X : Cx} {ca : Str → Addr} {P : Addr} {q : Str} {st : Stmt} {sts : List Stmt} {a b : MS}
/-- statements of the law -/
def SL (X : Cx) (ca : Str → Addr) (P : Addr) (q : Str) (st : List Stmt) (m : MS) : Prop := ∃ t, PSs X st t ∧ CL X.K ca P q t m
theorem l_cons (h1 : Ss X ca Wx0 st a) (h2 : SL X ca P q sts b) : SL X ca P q (st :: sts) (skM a b) := let ⟨_, p1, c1⟩ := h1; let ⟨_, p2, c2⟩ := h2; ⟨_, pss_cons p1 p2, cl_seq c1 c2⟩
theorem l_one (h : Ss X ca Wx0 st a) : SL X ca P q [st] a := let ⟨_, p1, c1⟩ := h; ⟨_, pss_one p1, cl_end c1⟩
theorem l_lam1 {c : Addr} {params : Arguments} {body : Expr} {scope : Scope} {pos lpos py spos : Pos} {y : Str} (i n : Nat) (TB : TabB X.base X.mg c P) (hcode : X.env.code = .ref c) (hq : X.env.qual ++ "<lambda>" = q) (L : lamSB X.env.scope scope = true) (hdef : defaultsOf params X.env = ([], []))
    (hN : X.N.Nodup) (hi : X.N[i]? = some y) (hx : Loc X.env.scope y) (h2 : SL X ca P q sts b) (hs : starEach [.Lambda params body scope lpos] X.env = (false, eval (.Lambda params body scope lpos) X.env) :: starEach [] X.env := by rfl)
    (hsw : swapsWith (.List [.Lambda params body scope lpos] pos) (some (.Name y py)) spos.line X.env = pure false := by rfl) (hf : X.fn y = true ∨ X.env.scope.names.lookup y = some .local := by first | exact .inl rfl | exact .inr rfl) :
    SL X ca P q (.Assign [.Name y py] (.List [.Lambda params body scope lpos] pos) spos :: sts) (lam1M i ⟨n, X.env.qual ++ "<lambda>", params, body, scope, cloFrom X.env.cells scope.names []⟩ b) :=
  let ⟨_, p2, c2⟩ := h2; ⟨_, pss_cons (ps_set hN hi hx (pe_lst (pa_cons (pe_lamE n TB hcode (lamS_by L) hdef) pa_nil hs)) hsw hf) p2, cl_lam1 hq c2⟩
theorem l_lamA {c : Addr} {params : Arguments} {body : Expr} {scope : Scope} {lpos py apos tpos pos : Pos} {y : Str} (i n : Nat) (TB : TabB X.base X.mg c P) (hcode : X.env.code = .ref c) (hq : X.env.qual ++ "<lambda>" = q) (L : lamSB X.env.scope scope = true) (hdef : defaultsOf params X.env = ([], []))
    (hi : X.N[i]? = some y) (hv : Vis X.env.scope y) (h2 : SL X ca P q sts b) (hd : (y == ("__debug__" : Str)) = false := by decide) (hcd : (y == ("__classdict__" : Str)) = false := by decide)
    (hbase : attributeBase (.Name y py) "append" X.env (eval (.Name y py) X.env) = eval (.Name y py) X.env := by rfl)
    (hfew : ((backTo tpos (starEach [.Lambda params body scope lpos] X.env)).all (fun x => !x.1) && (backToKw tpos (keywordEach [] X.env)).all (fun x => x.1.isSome)
      && decide (([.Lambda params body scope lpos] : List Expr).length + ([] : List Keyword).length + (if ([] : List Keyword).isEmpty then 0 else 1) < 30)) = true := by rfl)
    (hline : (apos.endLine == tpos.line) = true := by rfl) (hs : starEach [.Lambda params body scope lpos] X.env = (false, eval (.Lambda params body scope lpos) X.env) :: starEach [] X.env := by rfl)
    (hqt : swapsWith (.Call (.Attribute (.Name y py) "append" apos) [.Lambda params body scope lpos] [] tpos) none pos.line X.env = pure false := by rfl) :
    SL X ca P q (.Expr (.Call (.Attribute (.Name y py) "append" apos) [.Lambda params body scope lpos] [] tpos) pos :: sts) (lamAM i ⟨n, X.env.qual ++ "<lambda>", params, body, scope, cloFrom X.env.cells scope.names []⟩ b) :=
  let ⟨_, p2, c2⟩ := h2
  ⟨_, pss_cons (ps_expr (pe_bm PySem.F.plainAttrs_list PySem.F.slot_list_append PySem.F.type_list_append mt_append (pe_var hi hv hd hcd) (pa_cons (pe_lamE n TB hcode (lamS_by L) hdef) pa_nil hs) hbase hfew hline hs rfl) hqt) p2, cl_lamA hq c2⟩
end
end Mw
set_option Elab.async false
set_option linter.all false
set_option maxRecDepth 100000
set_option maxHeartbeats 2000000
/-! Mw: the law's own call, the head's facts -/
namespace Mw
open PySem PySem.Spec PyProof.Rows L2 LamX
/-! ### the law's promise -/
def scr (ns : List Int) : D := .lst (ns.map .int)
def SpL (K : PySem.W.Frag) (P : Addr) (tot : Nat) (m : Nat → MS) : Sp := fun vs H Q _ => ∃ (a : Addr) (ns : List Int), vs = [.ref a] ∧ SqL K H a (ns.map V.int) ∧ H P = some (.tbl #[]) ∧ (∀ z, ∃ Γ', m z (startG tot [scr ns]) = .ok (.rt (.cl (.bl true)) Γ')) ∧ ∀ H', Q (.bl true) H'
theorem dv_scr {K : PySem.W.Frag} {H : Hp} : ∀ ns : List Int, DvAll K H (ns.map V.int) (ns.map D.int)
  | [] => .nil
  | n :: ns => .cons (.int n) (dv_scr ns)
theorem fn_law {P : Program} {w : World} {K : PySem.W.Frag} {mg : Str → Option Value} {base : Heap} {x qual : Str} {params : Arguments} {body : List Stmt} {scope : Scope} {kws : List (Str × V)} {f c Pt : Addr} {fd : FuncData} {N : List Str} {y : Str} {k : Nat} {ca : Str → Addr} {m : Nat → MS} {q : Str}
    (F : FunD K x qual params body scope [] kws f fd) (S : FnScope N [y] scope) (hc : fd.code = .ref c)
    (hb : ∀ (A : Around) (outer : List Env) (s : Shared) (H : Hp) (E : XK), Room k (A.deeper (envOfC qual scope s.heap.objs.size f (.ref c))) → (A.deeper (envOfC qual scope s.heap.objs.size f (.ref c))).guards = some [] →
      SL (cxOf (L2.CX P w) P w K mg base N qual scope f (.ref c) A outer s H E) ca Pt q body (m s.heap.objs.size)) : FnG P w K mg base (k + 1) f fd [y] (SpL K Pt N.length m) := by
  obtain ⟨oc, od, dV, kV, doc, pm, an, cdv, ct, osl, rfl, lk, hcd, _, _⟩ := F.ex
  obtain rfl : cdv = .ref c := hc
  refine ⟨fun vs H Q E ⟨_, _, e, _⟩ => by rw [e]; rfl, fun A outer s H args us vs Q E hr hgd e0 hb' r hsp => ?_⟩
  obtain ⟨a, ns, rfl, hS, hP, hm, hQ⟩ := hsp
  have hin : ∀ b o, base.get? b = some o → s.heap.get? b = some o := fun b o e => (e0.bs b o e).1
  have KX : K.In s.heap := e0.mod.kin.keeps hin
  have lim := e0.mod.nolimit.keeps hin
  refine codeAny_call_function hr.depth (KX _ _ lk) rfl S.co S.gen rfl (PySem.W.codeRec_of KX hcd) (hb' _ _ _ _ ?_)
  refine wpAny_newFunctionEnv_cells S.kind (fun z hz => ?_) fun env he s1 X => ?_
  · have hm := (List.of_mem_zip (show (z.1, z.2) ∈ [y].zip us from hz)).1
    exact (S.par z.1 hm).imp id fun q => ⟨q, PySem.W.cellsFrom_some _ _ _ (.inl q)⟩
  subst he
  refine ⟨lim.keeps X.toInCall.keep, codeAny_func ?_⟩
  obtain ⟨t, ht, hcl⟩ := hb A outer s H E (hr.deeper _) hgd
  have I := inv_start (CX := L2.CX P w) (E := E) S hr.hd e0 rfl r X
  have no : ∀ (i : Nat) (b : Bool) (es : List D), (startG N.length [scr ns])[i]? = some (.own b es) → False := fun i b es e => by
    rcases startG_get e with z | ⟨d, _, z⟩ <;> cases z
  have hOc : ∀ z, Oc ⟨H, fun _ a => a = Pt, fun _ => False⟩ (TPs Pt #[]) (startG N.length [scr ns]) (L2.start N [.ref a]) z → z = Pt := fun z hz => by
    rcases hz with hz | ⟨_, hz, _⟩ | ⟨i, b, es, e, _⟩
    · exact hz.elim
    · exact hz
    · exact (no i b es e).elim
  have hd : Dv K (hid (Oc ⟨H, fun _ a => a = Pt, fun _ => False⟩ (TPs Pt #[]) (startG N.length [scr ns]) (L2.start N [.ref a])) H) (.ref a) (scr ns) := by
    refine .lst ?_ (dv_scr ns)
    have keep : ∀ o, H a = some o → (∀ ps, o ≠ .tbl ps) → hid (Oc ⟨H, fun _ a => a = Pt, fun _ => False⟩ (TPs Pt #[]) (startG N.length [scr ns]) (L2.start N [.ref a])) H a = some o := fun o e n =>
      hid_some.mpr ⟨fun z => n #[] (by rw [hOc a z, hP] at e; exact (Option.some.inj e).symm), e⟩
    rcases hS with (h | ⟨o, h⟩) | h
    · exact .inl (.inl (keep _ h fun ps z => nomatch z))
    · exact .inl (.inr ⟨o, keep _ h fun ps z => nomatch z⟩)
    · exact .inr h
  have ok : EnvOk K ⟨H, fun _ a => a = Pt, fun _ => False⟩ (TPs Pt #[]) (startG N.length [scr ns]) (L2.start N [.ref a]) H := by
    refine ⟨by rw [startG_len, start_len]; rfl, fun i d e => ?_, fun i b es e => (no i b es e).elim, fun i j b b' ds es l e => (no i b ds e).elim, fun a o _ e => e, fun _ z => z.elim, fun a o z => ?_, fun i a z => ?_⟩
    · rcases startG_get e with z | ⟨d', e', z⟩
      · cases z
      · cases z
        cases i with
        | zero =>
          cases e'
          exact ⟨.ref a, start_get (vs := [.ref a]) rfl, hd⟩
        | succ i => cases e'
    · obtain ⟨rfl, rfl⟩ := z
      exact ⟨hP, rfl⟩
    · obtain rfl : a = Pt := z
      exact ⟨_, hP, rfl⟩
  have hq := hcl ⟨H, fun _ a => a = Pt, fun _ => False⟩ _ _ H { nx := fun _ H' => Q .non H', rt := Q } #[] ⟨0, rfl⟩ (fun _ _ z => z) (by rw [show (⟨H, fun _ a => a = Pt, fun _ => False⟩ : Fx).H0 Pt = H Pt from rfl, hP]; exact fun z => nomatch z) ok (TabS.nil hP) (hm _) hQ
  refine wpAny_mono (ht.run [] s1 (L2.start N [.ref a]) H _ I hq) (fun fl s' hs => ?_) fun e s' hs => hs
  cases fl with
  | ret u => exact let ⟨v, _, H', J, rv, q⟩ := hs; ⟨v, H', J.os, J.bare, J.base, J.hok, rv, q⟩
  | next => exact let ⟨_, H', J, q⟩ := hs; ⟨.non, H', J.os, J.bare, J.base, J.hok, rfl, q⟩
  | brk => exact let ⟨_, _, _, q⟩ := hs; q.elim
  | cont => exact let ⟨_, _, _, q⟩ := hs; q.elim
/-! ### its call by the driver; one table -/
theorem call_law {P : Program} {w : World} {K : PySem.W.Frag} {mg mb : Str → Option Value} {k : Nat} {fa a c Pt : Addr} {fd : FuncData} {x : Str} {sp : Sp} {s₁ : Shared} {vs : List Value} {ns : List Int}
    (KX : K.In s₁.heap) (hns : s₁.heap.Ns mainGlobals mg) (hb : s₁.heap.Ns builtinsNs mb) (hbb : ∀ x : Str, x ≠ "__name__" → mb x = bootBuiltins x) (hlim : s₁.heap.NoLimit) (hg : s₁.gens = #[])
    (hT : s₁.heap.get? Pt = some { cls := .none, data := .fields #[] }) (nT : K.lookup Pt = none) (C : PySem.W.CodeHd s₁.heap c Pt)
    (hbm : ∃ (bm : Addr) (ob : Obj), mg "__builtins__" = some (.ref bm) ∧ bm ≠ builtinsNs ∧ s₁.heap.get? bm = some ob ∧ ob.cls = .type "module" ∧ ob.dict = some builtinsNs ∧ ob.data = .plain)
    (ha : s₁.heap.get? a = some { cls := .type "list", data := .seq vs.toArray }) (hi : IntsAre vs ns) (hl : ns.length ≤ sizeLine) (hr : Room k callerA)
    (F : ∀ base : Heap, K.In base → base.Ns mainGlobals mg → TabB base mg c Pt → FnG P w K mg base k fa fd [x] sp) (hbind : ∀ (s : Shared) (u : Value), BindsTo s fd ⟨[u], []⟩ [(x, u)])
    (hsp : ∀ H : Hp, H Pt = some (.tbl #[]) → SqL K H a (ns.map V.int) → sp [.ref a] H (fun v _ => v = .bl true) fun _ _ _ => False) :
    codeAny (model P w) callerA (.call (.ref fa) ⟨[.ref a], []⟩) (fun r s' => r = .ok (.ret (.bool true)) ∧ OldK s₁.heap s'.heap ∧ s'.os = s₁.os ∧ AllBare s'.gens) s₁ := by
  have rv := vals_ints hi
  have lenV := hi.length
  have naP : a ≠ Pt := fun z => by rw [z, hT] at ha; cases ha
  suffices core : ∀ H : Hp, H Pt = some (.tbl #[]) → (∀ b, b ≠ Pt → H b = none ∨ ∃ o xs, H b = some (.frz o (.lst xs))) → SqL K H a (ns.map V.int) → HOk P w H s₁.heap → (∀ b, H b ≠ none → b = a ∨ b = Pt) → (H a ≠ none → K.lookup a = none) →
      codeAny (model P w) callerA (.call (.ref fa) ⟨[.ref a], []⟩) (fun r s' => r = .ok (.ret (.bool true)) ∧ OldK s₁.heap s'.heap ∧ s'.os = s₁.os ∧ AllBare s'.gens) s₁ by
    cases hk : K.lookup a with
    | some o =>
      have e := KX a o hk
      rw [ha] at e
      cases e
      refine core (fun b => if b = Pt then some (.tbl #[]) else none) (if_pos rfl) (fun b hb => .inl (if_neg hb)) (.inr ⟨_, vs.toArray, _, hk, rfl, rfl, rfl, by rw [List.size_toArray, lenV]; exact hl, by simpa using rv⟩) (fun b u z => ?_) (fun b z => ?_) fun z => absurd (if_neg naP) z
      · by_cases hb : b = Pt
        · have z' := (if_pos hb).symm.trans z
          cases z'
          rw [hb]; exact hT
        · have z' := (if_neg hb).symm.trans z
          cases z'
      · by_cases hb : b = Pt
        · exact .inr hb
        · exact absurd (if_neg hb) z
    | none =>
      refine core (fun b => if b = a then some (.frz { cls := .type "list", data := .seq vs.toArray } (.lst (ns.map V.int))) else if b = Pt then some (.tbl #[]) else none) ((if_neg (Ne.symm naP)).trans (if_pos rfl)) (fun b hb => ?_) (.inl (.inr ⟨_, if_pos rfl⟩)) (fun b u z => ?_) (fun b z => ?_) fun _ => hk
      · by_cases h2 : b = a
        · exact .inr ⟨_, _, if_pos h2⟩
        · exact .inl ((if_neg h2).trans (if_neg hb))
      · by_cases hb : b = a
        · have z' := (if_pos hb).symm.trans z
          cases z'
          rw [hb]
          exact ⟨ha, by rw [List.length_map]; exact hl, vs, _, rv, ha⟩
        · have z1 := (if_neg hb).symm.trans z
          by_cases hb2 : b = Pt
          · have z' := (if_pos hb2).symm.trans z1
            cases z'
            rw [hb2]; exact hT
          · have z' := (if_neg hb2).symm.trans z1
            cases z'
      · by_cases hb : b = a
        · exact .inl hb
        · by_cases hb2 : b = Pt
          · exact .inr hb2
          · exact absurd ((if_neg hb).trans (if_neg hb2)) z
  intro H hH hO hS hok hA hK
  -- what H does not tell of lies in the base
  have noD : ∀ {b : Addr} {o : Obj}, s₁.heap.get? b = some o → (∀ vs n, o.data ≠ .seq vs n) → o.data ≠ .fields #[] → H b = none := fun {b o} e h1 h2 => by
    cases q : H b with
    | none => rfl
    | some u =>
      rcases hA b (by rw [q]; simp) with e' | e'
      · rw [e', ha] at e; cases e; exact (h1 _ _ rfl).elim
      · rw [e', hT] at e; cases e; exact (h2 rfl).elim
  have nsK : ∀ {b : Addr} {m : Str → Option Value}, s₁.heap.Ns b m → (hidT s₁.heap H).Ns b m := fun {b m} ⟨o, es, ep, e, d, r⟩ =>
    ⟨o, es, ep, hidT_get e (noD e (fun vs n z => by rw [d] at z; cases z) (fun z => by rw [d] at z; cases z)), d, r⟩
  have hKb : K.In (hidT s₁.heap H) := fun b o e => hidT_get (KX b o e) (by
    cases q : H b with
    | none => rfl
    | some u =>
      rcases hA b (by rw [q]; simp) with e' | e'
      · rw [e'] at e q; rw [hK (by rw [q]; simp)] at e; cases e
      · rw [e', nT] at e; cases e)
  have hM : L2.Mod K mg (hidT s₁.heap H) := ⟨hKb, nsK hns, ⟨mb, nsK hb, hbb⟩, let ⟨mc, h1, h2⟩ := hlim; ⟨mc, nsK h1, h2⟩⟩
  have TB : TabB (hidT s₁.heap H) mg c Pt := by
    refine ⟨?_, ?_, fun z => ?_⟩
    · obtain ⟨o, us, file, tf, flags, tg, inF, text, tt, e1, r1, r2, r3, rest⟩ := C
      exact ⟨o, us, file, tf, flags, tg, inF, text, tt, hidT_get e1 (noD e1 (fun vs n z => by rw [r2] at z; cases z) fun z => by rw [r2] at z; cases z; simp at r3), r1, r2, r3, rest⟩
    · obtain ⟨bm, ob, b1, b2, b3, b4, b5, b6⟩ := hbm
      have nG : bm ≠ mainGlobals := fun q => by
        obtain ⟨o, es, ep, e, hd, _⟩ := hns
        rw [q, e] at b3; cases b3
        rw [hd] at b6; cases b6
      have nP : bm ≠ Pt := fun q => by rw [q, hT] at b3; cases b3; cases b6
      exact ⟨bm, ob, b1, b2, nG, nP, hidT_get b3 (noD b3 (fun vs n z => by rw [b6] at z; cases z) fun z => by rw [b6] at z; cases z), b4, b5, b6⟩
    · obtain ⟨o, es, ep, e, hd, _⟩ := hns
      rw [z, hT] at e; cases e; cases hd
  have e0 : Env0 P w K mg (hidT s₁.heap H) callerA [] s₁ H := ⟨rfl, hM, fun b o e => of_hidT e, Nat.le_of_eq (hidT_size _ _), trivial, fun b hb => absurd (show b ∈ ([] : List Addr) from hb) (by simp), hok, .of_eq hg⟩
  refine codeAny_mono ((F _ hKb (nsK hns) TB).run callerA [] s₁ H ⟨[.ref a], []⟩ [.ref a] [.ref a] _ _ hr rfl e0 (hbind s₁ (.ref a)) (.cons rfl .nil) (hsp H hH hS)) fun r s' h => ?_
  match r, h with
  | .error e, h =>
    obtain ⟨_, _, _, _, _, _, _, _, _, _, _, _, z⟩ := h
    exact z.elim
  | .ok (.ret u), h =>
    obtain ⟨v, H', os, bare, un, hok', r', rfl⟩ := h
    obtain rfl : u = Value.bool true := r'
    obtain ⟨more, z⟩ := un.tbls Pt #[] hH
    have hm := hok' Pt _ z
    have key : ∀ b o, b ≠ Pt → s₁.heap.get? b = some o → s'.heap.get? b = some o := fun b o nb e => by
      rcases hO b nb with q | ⟨ob, xs, q⟩
      · exact un.keep b o e q (by intro z; exact absurd (show b ∈ ([] : List Addr) from z) (by simp)) (by simp)
      · obtain ⟨e1, _⟩ := hok b _ q
        obtain ⟨e2, _⟩ := hok' b _ (un.frzs b ob _ q)
        rw [e] at e1; cases e1
        exact e2
    refine ⟨rfl, ⟨fun b o e => ?_, fun b o e => ?_⟩, os, bare⟩
    · by_cases hb : b = Pt
      · subst hb
        rw [hT] at e; cases e
        exact .inr (.inl ⟨(C.tab hT).isCodeTable, rfl, #[], _, rfl, by rw [Array.empty_append]; exact hm⟩)
      · exact .inl (key b o hb e)
    · by_cases hb : b = Pt
      · rw [hb]; exact ⟨_, hm⟩
      · exact ⟨o, key b o hb e⟩
  | .ok .next, h => exact False.elim h
  | .ok .brk, h => exact False.elim h
  | .ok .cont, h => exact False.elim h
end Mw
set_option Elab.async false
set_option linter.all false
set_option maxRecDepth 100000
set_option maxHeartbeats 2000000
/-! Mw: the head's fragment, without tables; more facts of it; the end of a law -/
namespace Mw
open PySem PySem.Spec PyProof.Rows L2 LamX
def noTab (o : Obj) : Bool := match o.cls with
  | .none => false
  | _ => true
def frT (g : Addr → Option Obj) (n : Nat) : PySem.W.Frag := (He.frG g (He.asD g n)).filter fun p => noTab p.2
theorem lookup_mem {α : Type} {a : Addr} {o : α} : ∀ {l : List (Addr × α)}, l.lookup a = some o → (a, o) ∈ l
  | (b, u) :: r, h => by
    rw [List.lookup_cons] at h
    cases hb : a == b with
    | true =>
      rw [hb] at h
      cases h
      rw [beq_iff_eq.mp hb]
      exact List.mem_cons_self
    | false =>
      rw [hb] at h
      exact List.mem_cons_of_mem _ (lookup_mem h)
theorem frT_mem {g : Addr → Option Obj} {n : Nat} {a : Addr} {o : Obj} (h : (frT g n).lookup a = some o) : g a = some o ∧ noTab o = true := by
  have h1 := List.mem_filter.mp (lookup_mem h)
  obtain ⟨h1, h2⟩ := h1
  obtain ⟨b, _, e⟩ := List.mem_filterMap.mp h1
  cases eg : g b with
  | none => rw [eg] at e; cases e
  | some u =>
    rw [eg] at e
    cases e
    exact ⟨eg, h2⟩
/-- what is said of the fragment -/
structure Says (fa : List He.Fa) (fn : List He.DefD) (ex : List (PySem.W.Frag → Bool)) (K : PySem.W.Frag) : Prop where
  says : He.SaysD fa fn K
  ex : ∀ b ∈ ex, b K = true
  tab : ∀ a o, K.lookup a = some o → noTab o = true
def obX (n : Nat) (fa : List He.Fa) (fn : List He.DefD) (ex : List (PySem.W.Frag → Bool)) (g : Addr → Option Obj) : He.AlD × Bool := (He.obsD fa fn (frT g n), ex.all fun b => b (frT g n))
def hookX (n : Nat) (fa : List He.Fa) (fn : List He.DefD) (ex : List (PySem.W.Frag → Bool)) : PySem.W.Hook where
  α := He.AlD × Bool
  obs := fun s => obX n fa fn ex s.heap.get?
  val := fun _ => (He.valD fn, true)
  says := fun _ h => ∃ K : PySem.W.Frag, K.In h ∧ Says fa fn ex K
  of := fun _ s e => ⟨frT s.heap.get? n, fun _ _ e => (frT_mem e).1, congrArg Prod.fst e, List.all_eq_true.mp (congrArg Prod.snd e), fun _ _ e => (frT_mem e).2⟩
  keeps := fun _ _ _ ⟨K, hK, c⟩ k => ⟨K, PySem.W.Frag.In.keeps hK k, c⟩
theorem obX_eq {n : Nat} {fa : List He.Fa} {fn : List He.DefD} {ex : List (PySem.W.Frag → Bool)} {g : Addr → Option Obj} {s : Shared} (h : ∀ a, g a = s.heap.get? a) : obX n fa fn ex g = (hookX n fa fn ex).obs s := by
  have e : g = s.heap.get? := funext h
  rw [e]
  rfl
/-- what is to be shown of a law -/
structure LawOk (P : Program) (w : World) (K : PySem.W.Frag) (mg : Str → Option Value) (k n : Nat) (x : Str) (fa : Addr) : Prop where
  ok : ∃ (fd : FuncData) (oc : Value) (od : Option Addr) (osl : Array (Option Value)) (tot : Nat) (m : Nat → MS), K.lookup fa = some ⟨oc, od, .func fd, osl⟩ ∧ (∀ (s : Shared) (u : Value), BindsTo s fd ⟨[u], []⟩ [(x, u)]) ∧
    (∀ (base : Heap) (c Pt : Addr), K.In base → base.Ns mainGlobals mg → TabB base mg c Pt → fd.code = .ref c → FnG P w K mg base k fa fd [x] (SpL K Pt tot m)) ∧
    ∀ (ns : List Int), ns.length ≤ n → (∀ z ∈ ns, Builtin.Int.intBits z ≤ 1048576) → ∀ z, ∃ Γ', m z (startG tot [scr ns]) = .ok (.rt (.cl (.bl true)) Γ')
theorem walk_law {l : PySem.W.OpenLaw} {n k kh : Nat} {q : Program} {loose : List Str} {XP : (Str → Option Value) → Heap → Prop} {d : DefRec} {x : Str} {fa : List He.Fa} {fn : List He.DefD} {ex : List (PySem.W.Frag → Bool)}
    (hn : l.most = some n) (hn2 : n ≤ sizeLine) (hdf : d.params.defaults = []) (hr : Room k callerA) (hrec : ((recsOf q).any fun e => e.name == d.name) = true)
    (F : ∀ (w : World) (mg : Str → Option Value) (a : Addr) (h : Heap) (K : PySem.W.Frag), K.In h → Says fa fn ex K → h.Ns mainGlobals mg → mg d.name = some (.ref a) → LawOk l.prog w K mg k n x a) :
    PySem.W.WalkO q loose XP (hookX kh fa fn ex).says l.row.toRowW d [] (fun f vs => PySem.call f vs) := by
  refine Att.attach_callB hn hdf fun w s₀ s₁ mg mb fa' o pm cd doc a vs ns G Y ho hd hcd hmg hobj hints hlen hbits hg => ?_
  obtain ⟨K, KX, S⟩ := Y
  obtain ⟨fd, oc, od, osl, tot, m, hk, hb, hF, hm⟩ := (F w mg fa' _ K KX S G.T.g hmg).ok
  obtain ⟨dL, hmem, hn1⟩ := List.any_eq_true.mp hrec
  have hn2' : dL.name = d.name := beq_iff_eq.mp hn1
  obtain ⟨a', o', fd', c', P', h1, h2, h3, h4, h5, h6⟩ := G.T.tab dL hmem
  rw [hn2', hmg] at h1
  cases h1
  have g1 := KX _ _ hk
  rw [g1] at h2
  cases h2
  cases h3
  have hT : s₁.heap.get? P' = some { cls := .none, data := .fields #[] } := h6.2
  have nT : K.lookup P' = none := by
    cases e : K.lookup P' with
    | none => rfl
    | some u =>
      have z := S.tab _ _ e
      have e2 := KX _ _ e
      rw [hT] at e2
      cases e2
      cases z
  exact call_law KX G.T.g G.T.b G.T.builtins G.T.nolimit hg hT nT (PySem.W.CodeHd.of h5 h6) G.T.bmain hobj hints (Nat.le_trans hlen hn2) hr (fun base k1 k2 TB => hF base c' P' k1 k2 TB h4) hb
    fun H hH hS => ⟨a, ns, rfl, hS, hH, hm ns hlen hbits, fun _ => rfl⟩
end Mw
set_option Elab.async false
set_option linter.all false
set_option maxRecDepth 100000
set_option maxHeartbeats 2000000
/-! Mw: small rules over the head's facts -/
namespace Mw
open PySem PySem.Spec PyProof.Rows L2
/-- the def at f keeps sp, and is called as any -/
structure FnH (P : Program) (w : World) (K : PySem.W.Frag) (mg : Str → Option Value) (base : Heap) (k : Nat) (f : Addr) (sp : Sp) : Prop where
  ok : ∃ (fd : FuncData) (ps : List Str), FnG P w K mg base k f fd ps sp ∧ PySem.W.keepIn K (.ref f) = true ∧ Binds K fd ps []
theorem FnH.up {P : Program} {w : World} {K : PySem.W.Frag} {mg : PySem.Str → Option Value} {base : Heap} {j k : Nat} {f : Addr} {sp : Sp} (F : FnH P w K mg base j f sp) (h : j ≤ k) : FnH P w K mg base k f sp := let ⟨fd, ps, F, a, b⟩ := F.ok; ⟨fd, ps, F.up h, a, b⟩
theorem un_ok {k : Nat} {A : Around} (r : Room k A) : A.units + 64 < cLine := by have := r.un; omega
section
variable {X : Cx} {ca : Str → Addr} {Wx : WX} {k n : Nat} {a : Addr} {x : Str} {p pos : Pos} {e : Expr} {es : List Expr} {ms : Gam → R (List W × Gam)}
theorem x_callH {tot : Nat} {m : MS} (F : FnH X.prog X.w X.K X.mg X.base k a (SpP X.K ca n (mkP n tot m))) (hr : Room k X.A) (hgd : X.A.guards = some []) (tk : Takes X Wx) (hg : Gl X x) (hm : X.mg x = some (.ref a))
    (ha : Sa X ca Wx (e :: es) ms) (hdb : (x == ("__debug__" : Str)) = false := by decide) (he : starEach (e :: es) X.env = (false, eval e X.env) :: starEach es X.env := by rfl) (hpl : (backTo pos (starEach es X.env)).any (·.1) = false := by rfl) :
    Sx X ca Wx (.Call (.Name x p) (e :: es) [] pos) (callP (mkP n tot m) ms) := let ⟨_, _, F, hk, hb⟩ := F.ok; x_call F mkP_len hr hgd tk hg hm hk hb ha hdb he hpl
theorem x_callBH {tot : Nat} {m : MS} (F : FnH X.prog X.w X.K X.mg X.base k a (SpB X.K n (mkB n tot m))) (hr : Room k X.A) (hgd : X.A.guards = some []) (tk : Takes X Wx) (hg : Gl X x) (hm : X.mg x = some (.ref a))
    (ha : Sa X ca Wx (e :: es) ms) (hdb : (x == ("__debug__" : Str)) = false := by decide) (he : starEach (e :: es) X.env = (false, eval e X.env) :: starEach es X.env := by rfl) (hpl : (backTo pos (starEach es X.env)).any (·.1) = false := by rfl) :
    Sx X ca Wx (.Call (.Name x p) (e :: es) [] pos) (callB (mkB n tot m) ms) := let ⟨_, _, F, hk, hb⟩ := F.ok; x_callB1 F mkB_len hr hgd tk hg hm hk hb ha hdb he hpl
/-- a table of defs handed on -/
def TabOk (X : Cx) (ca : Str → Addr) (k n : Nat) (tab : List (Addr × (List D → RF))) : Prop := ∀ a f, tab.lookup a = some f → (∀ ds, f ds ≠ .no → ds.length = n) ∧ FnH X.prog X.w X.K X.mg X.base k a (SpP X.K ca n f)
theorem tab_nil : TabOk X ca k n [] := fun _ _ e => nomatch e
theorem tab_cons {tot : Nat} {m : MS} {tab : List (Addr × (List D → RF))} (F : FnH X.prog X.w X.K X.mg X.base k a (SpP X.K ca n (mkP n tot m))) (h : TabOk X ca k n tab) : TabOk X ca k n ((a, mkP n tot m) :: tab) := fun b f e => by
  rw [List.lookup_cons] at e
  cases hb : b == a with
  | true =>
    rw [hb] at e
    cases e
    rw [beq_iff_eq.mp hb]
    exact ⟨mkP_len, F⟩
  | false => rw [hb] at e; exact h b f e
theorem x_callLH (i : Nat) {tab : List (Addr × (List D → RF))} (ht : TabOk X ca k n tab) (hr : Room k X.A) (hgd : X.A.guards = some []) (tk : Takes X Wx) (hN : X.N[i]? = some x) (hv : Vis X.env.scope x) (ha : Sa X ca Wx (e :: es) ms)
    (hdb : (x == ("__debug__" : Str)) = false := by decide) (hcd : (x == ("__classdict__" : Str)) = false := by decide) (he : starEach (e :: es) X.env = (false, eval e X.env) :: starEach es X.env := by rfl) (hpl : (backTo pos (starEach es X.env)).any (·.1) = false := by rfl) :
    Sx X ca Wx (.Call (.Name x p) (e :: es) [] pos) (callL i tab ms) :=
  x_callL (k := k) (n := n) i tab (fun a f e => let ⟨h1, h2⟩ := ht a f e; let ⟨fd, ps, F, hk, hb⟩ := h2.ok; ⟨fd, ps, F, h1, hk, hb⟩) hr hgd tk hN hv ha hdb hcd he hpl
/-- an int, a tuple, a def of the module -/
theorem x_gint {i : Int} (hg : Gl X x) (hm : ∃ t, X.mg x = some (.int i t)) (hd : (x == ("__debug__" : Str)) = false := by decide) : Sx X ca Wx (.Name x pos) (cM (.int i)) := let ⟨t, h⟩ := hm; x_glob (v := .int i) hg h ⟨t, rfl⟩ (fun _ => .int i) hd
theorem x_gref (hg : Gl X x) (hm : X.mg x = some (.ref a)) (hd : (x == ("__debug__" : Str)) = false := by decide) : Sx X ca Wx (.Name x pos) (cM (.ref a)) := x_glob (v := .ref a) hg hm rfl (fun _ => .ref a) hd
theorem dv_his {K : PySem.W.Frag} {H : Hp} : ∀ is : List Int, DvAll K H ((is.map He.Dv.int).map (He.Dv.v K)) (is.map D.int)
  | [] => .nil
  | i :: is => .cons (.int i) (dv_his is)
theorem x_gtupI {is : List Int} (hg : Gl X x) (hm : X.mg x = some (.ref (He.ga X.K x))) (h : He.tupB X.K x (is.map .int) = true) (hd : (x == ("__debug__" : Str)) = false := by decide) : Sx X ca Wx (.Name x pos) (cM (.tup (is.map .int))) :=
  x_glob (v := .ref (He.ga X.K x)) hg hm rfl (fun H => .tup (He.tupB_ok h H) (dv_his is)) hd
theorem x_v (i : Nat) (hN : X.N[i]? = some x := by rfl) (hv : Vis X.env.scope x := by first | exact .inl rfl | exact .inr (.inl rfl) | exact .inr (.inr rfl)) (hd : (x == ("__debug__" : Str)) = false := by decide) (hcd : (x == ("__classdict__" : Str)) = false := by decide) : Sx X ca Wx (.Name x pos) (vM i) := x_var i hN hv hd hcd
theorem s_st (i : Nat) {pos' : Pos} {m : M} (hN : X.N.Nodup) (he : Sx X ca Wx e m) (hi : X.N[i]? = some x := by rfl) (hx : Loc X.env.scope x := by first | exact .inl rfl | exact .inr rfl) (hs : swapsWith e (some (.Name x pos')) pos.line X.env = pure false := by rfl) (hf : X.fn x = true ∨ X.env.scope.names.lookup x = some .local := by first | exact .inl rfl | exact .inr rfl) :
    Ss X ca Wx (.Assign [.Name x pos'] e pos) (asgM i m) := s_set i hN hi hx he hs hf
end
end Mw
set_option Elab.async false
set_option linter.all false
set_option maxRecDepth 100000
set_option maxHeartbeats 2000000
namespace Mw
open PySem PySem.Spec PyProof.Rows
/-- enumerate(v): its two new cells, for whatever begins -/
theorem meets_enum1 {v : Value} {o : Obj} {H : Heap → Prop} (B : Begins v o H) :
    Meets (Builtin.«enumerate.__new__» ⟨[.type "enumerate", v], []⟩) (fun _ R s => H s.heap ∧
      R (.ok (.ret (.ref (s.heap.push o).objs.size))) { s with heap := (s.heap.push o).push { cls := .type "enumerate", data := .fields #[.none, .bool false, .ref s.heap.objs.size, rawInt 0, .none, .none] } }) :=
  .of_wp fun prog w A R s h => by
    obtain ⟨hp, g, d, tk, os⟩ := s
    obtain ⟨h1, h⟩ := h
    have hsub := sub_enumerate
    have q1 : ∀ {A' : Around} {E : Value → Shared → Prop} {Q : Value → Shared → Prop}, Q (.ref hp.objs.size) ⟨hp.push o, g, d, tk, os⟩ → wpAny (model prog w) A' (pyIter v) Q E ⟨hp, g, d, tk, os⟩ :=
      fun q => B.iter prog w _ _ ⟨hp, g, d, tk, os⟩ _ h1 q
    wp_walk using q1
    refine wpAny_stack_any fun st => wpAny_pure ?_
    split
    · rename_i c _ _ _ _ _
      cases (c == Value.type "enumerate")
      · wp_walk using q1
        exact ⟨_, rfl, h⟩
      · wp_walk using q1
        exact ⟨_, rfl, h⟩
    · wp_walk using q1
      exact ⟨_, rfl, h⟩
theorem call_enum1 {prog : Program} {w : World} {A : Around} {E : Value → Shared → Prop} {s : Shared} {v : Value} {o : Obj} {H : Heap → Prop} {Q : Value → Shared → Prop} (B : Begins v o H) (h1 : H s.heap)
    (h : ∀ h', IsEnum h' (s.heap.objs.size + 1) s.heap.objs.size 0 .none → h'.get? s.heap.objs.size = some o → h'.objs.size = s.heap.objs.size + 2 →
      (∀ b o, s.heap.get? b = some o → h'.get? b = some o) → Q (.ref (s.heap.objs.size + 1)) { s with heap := h' }) :
    wpAny (model prog w) A (call (.type "enumerate") [v]) Q E s := by
  refine callType_new F.called_enumerate (by decide) (F.typeCall_enumerate_1 _) (F.newCall_enumerate_1 _) (fun obj => F.args_object_init_2 obj _) F.entry_enumerate_new (meets_enum1 B) ⟨h1, ?_⟩
  have hz : (s.heap.push o).objs.size = s.heap.objs.size + 1 := Heap.size_push ..
  show _ ∧ _
  rw [hz]
  have he : IsEnum ((s.heap.push o).push { cls := .type "enumerate", data := .fields #[.none, .bool false, .ref s.heap.objs.size, rawInt 0, .none, .none] }) (s.heap.objs.size + 1) s.heap.objs.size 0 .none := by
    have := Heap.get?_push_size (s.heap.push o) (o := { cls := .type "enumerate", data := .fields #[.none, .bool false, .ref s.heap.objs.size, rawInt 0, .none, .none] }) rfl
    rw [hz] at this; exact this
  exact ⟨⟨_, he, rfl⟩, h _ he (Heap.get?_push_of_some _ (Heap.get?_push_size _ B.free)) (by rw [Heap.size_push, hz]) fun b o x => Heap.get?_push_of_some _ (Heap.get?_push_of_some _ x)⟩
theorem wpAny_pyNext_enum_endT {prog : Program} {w : World} {A : Around} {E : Value → Shared → Prop} {s : Shared} {e it t : Addr} {i : Nat} {items : Array Value} {old : Value} {Q : Option Value → Shared → Prop} (hh : A.handled = none)
    (he : IsEnum s.heap e it i old) (hit : s.heap.IsTupleIter it t i) (ht : s.heap.IsTuple t items) (hx : items[i]? = none)
    (hQ : ∀ h', Heap.ExtBut it s.heap h' → Q none { s with heap := h' }) : wpAny (model prog w) A (pyNext (.ref e)) Q E s := by
  have hT : s.TypeIs (.ref e) "enumerate" := ⟨_, he, rfl⟩
  unfold pyNext
  refine wpAny_bind (wpAny_attempt (wpAny_callSpecial?_slot (name := Str.ofString "__next__") hT F.slot_enumerate_next
    (wpAny_call_entry F.slot_enumerate_next hT F.entry_enumerate_next ?_ (F.args_enumerate_next_1 _))))
  show wpAny _ _ (field (.ref e) 2 >>= _) _ _ _
  refine wpAny_bind (wpAny_field he rfl (x := .ref it) rfl ?_)
  refine wpAny_bind (wpAny_nextOf_tuple_end hh hit ht hx fun h' x he' hx' => ?_)
  obtain ⟨o, ho, hc⟩ := hx'
  refine wpAny_bind (wpAny_isInstance (T := "StopIteration") (b := true) ⟨o, ho, hc⟩ isSubtype_stop ?_)
  exact wpAny_pure (hQ _ he')
end Mw
namespace Mw
open PySem PySem.Spec PyProof.Rows L2
def IteT (K : PySem.W.Frag) (a : Addr) : It :=
  ⟨fun i H => ∃ (xs : List V) (x : V), SqT K H a xs ∧ xs[i]? = some x, fun i H v H' => ∃ T x, v = .ref T ∧ H T = none ∧ H' = upd H T (.tup [.int (i : Nat), x]) ∧ ∀ xs, SqT K H a xs → xs[i]? = some x, fun i H => ∃ xs : List V, SqT K H a xs ∧ xs.length ≤ i⟩
theorem turn_enumT {P : Program} {w : World} {K : PySem.W.Frag} {elts : List Expr} {kk : Nat} {tpos : Pos} (a e it : Addr) :
    Turn P w K (.Tuple elts kk tpos) (IteT K a) [e, it] e (fun i h => (∃ old, IsEnum h e it ((i : Nat) : Int) old) ∧ h.IsTupleIter it a i ∧ e ≠ it) where
  mem := by simp
  obj := fun i h st b hb => by
    obtain ⟨⟨old, he⟩, ⟨o, ho, hc, hd⟩, _⟩ := st
    have e' : b = e ∨ b = it := by simpa using hb
    rcases e' with z | z
    · rw [z]; exact ⟨_, he, fun v q => nomatch q⟩
    · rw [z]; exact ⟨o, ho, fun v q => by rw [hd] at q; cases q⟩
  keep := fun i h h' st k => let ⟨⟨old, he⟩, hi, hne⟩ := st; ⟨⟨old, k e (by simp) _ he⟩, hi.at fun o q => k it (by simp) o q, hne⟩
  item := by
    intro X hP hw hK hc i pins s σ H E I hf st hg
    subst hP hw hK
    obtain ⟨⟨old, he⟩, hit, hne⟩ := st
    obtain ⟨xs, x, hq, hx⟩ := hg
    obtain ⟨its, rv, p, hz⟩ := I.tuple hq
    obtain ⟨u, hu, ru⟩ := rv.get hx
    have hel : e < s.heap.objs.size := Heap.lt_size he
    have hil : it < s.heap.objs.size := by obtain ⟨_, q, _⟩ := hit; exact Heap.lt_size q
    have pt : s.heap.IsTuple a its.toArray := p
    have nae : a ≠ e := fun z => by
      obtain ⟨o, q, _, n, d⟩ := pt
      rw [z] at q
      have q2 := he.symm.trans q
      cases q2
      cases d
    have nai : a ≠ it := fun z => by
      obtain ⟨o, q, _, n, d⟩ := pt
      obtain ⟨o', q', _, d'⟩ := hit
      rw [z, q'] at q
      cases q
      rw [d'] at d
      cases d
    have Dr := Draws.tuple (prog := X.prog) (w := X.w) (A := X.A.in1) (show X.A.in1.handled = none from I.ok.hd hc) it a nai its.toArray
    have hi' : i < its.toArray.size := by
      have hl := (List.getElem?_eq_some_iff.mp hu).1
      simpa using hl
    refine wpAny_pyNext_enum_itemD Dr he ⟨hit, pt⟩ hi' hne (by simp only [List.mem_cons, List.not_mem_nil, or_false, not_or]; exact ⟨hne, Ne.symm nae⟩) fun x0 h' tk hx0 ho hst' hT hsz hk => ?_
    have ex : x0 = u := by
      have z1 : its[i]? = some x0 := by simpa using hx0
      rw [hu] at z1
      exact (Option.some.inj z1).symm
    subst ex
    have hit' := hst'.1
    refine ⟨_, rfl, wpAny_letOwnedTupleGo_enum (s := { s with heap := h', toks := tk + 1 }) ho fun h'' he' sb => ?_⟩
    have hT2 : h''.get? s.heap.objs.size = some { cls := .type "tuple", data := .seq #[.int i tk, x0] } := (sb.2 _ (Nat.ne_of_gt hel)).trans hT
    have new : ObjOk X.prog X.w (upd H s.heap.objs.size (.tup [.int (i : Nat), x])) h'' s.heap.objs.size (.tup [.int (i : Nat), x]) :=
      ⟨by show 2 ≤ sizeLine; decide, [.int i tk, x0], .cons ⟨_, rfl⟩ (.cons ru .nil), ⟨_, hT2, rfl, _, rfl⟩⟩
    have I1 : Inv X pins σ (upd H s.heap.objs.size (.tup [.int (i : Nat), x])) { s with heap := h'', toks := tk + 1 } :=
      I.turnedNew (ch := [e, it]) (fun b ob hb q => (sb.2 b (fun z => hb (by simp [z]))).trans (hk b ob (fun z => hb (by simp [z])) (fun z => hb (by simp [z])) q)) hf (Nat.le_refl _) new
    refine ⟨.ref s.heap.objs.size, _, I1, rfl, ⟨_, x, rfl, I.hok.fresh (Nat.le_refl _), rfl, fun ys hy => by rw [I.tuple_inj hy hq]; exact hx⟩, ⟨⟨x0, ?_⟩, hit'.at fun o q => (sb.2 it (Ne.symm hne)).trans q, hne⟩, fun b hb => ?_⟩
    · have e1 : ((i + 1 : Nat) : Int) = (i : Int) + 1 := by omega
      rw [e1]; exact he'
    · have hb' : b < s.heap.objs.size := by
        have e' : b = e ∨ b = it := by simpa using hb
        rcases e' with z | z
        · rw [z]; exact hel
        · rw [z]; exact hil
      rw [upd_ne (Nat.ne_of_lt hb')]
      exact (hf b hb).1
  done := by
    intro X hP hw hK hc i pins s σ H E I hf st hg
    subst hP hw hK
    obtain ⟨⟨old, he⟩, hit, hne⟩ := st
    obtain ⟨xs, hq, hx⟩ := hg
    obtain ⟨its, rv, p, hz⟩ := I.tuple hq
    obtain ⟨f0, f1, f2, f3, f4, f5⟩ := hf it (by simp)
    have hl := rv.length
    have pt : s.heap.IsTuple a its.toArray := p
    have nai : a ≠ it := fun z => by
      obtain ⟨o, q, _, n, d⟩ := pt
      obtain ⟨o', q', _, d'⟩ := hit
      rw [z, q'] at q
      cases q
      rw [d'] at d
      cases d
    exact wpAny_pyNext_enum_endT (I.ok.hd hc) he hit pt (by simp; omega) fun h' eb => ⟨rfl, I.turned (t' := s.toks) (fun b o hb q => eb b o hb q) f0 f1 f3 f4 f5⟩
  self := fun A i s Q E st h => let ⟨⟨_, he⟩, _⟩ := st; wpAny_pyIter_enum he h
theorem walk_enumT {K : PySem.W.Frag} {a : Addr} {xs : List V} : Walk (IteT K a) xs.length (fun H => SqT K H a xs) (YPair (fun i => some (.int (i : Nat))) (fun i => xs[i]?)) :=
  ⟨fun i _ hi q => ⟨xs, xs[i], q, by simp [hi]⟩, fun _ q => ⟨xs, q, Nat.le_refl _⟩, fun _ _ _ _ _ q y => let ⟨T, x, e1, e2, e3, e4⟩ := y; ⟨T, _, x, e1, e2, e3, rfl, e4 xs q⟩⟩
def iEnumS (K : PySem.W.Frag) (te : TE) : TI := fun σ H R => tCons te tNil σ H fun vs H1 => ∃ x, vs = [x] ∧ ((∃ a xs, x = .ref a ∧ SqL K H1 a xs ∧ R (Ite K a) H1) ∨ (∃ a xs, x = .ref a ∧ SqT K H1 a xs ∧ R (IteT K a) H1))
theorem pi_enumS {X : Cx} {e : Expr} {te : TE} {p pos tpos : Pos} {elts : List Expr} {kk : Nat} (hg : Gl X "enumerate") (hm : X.mg "enumerate" = none) (he : PE X e te) (hs : starEach [e] X.env = (false, eval e X.env) :: starEach [] X.env := by rfl) :
    PI X (.Tuple elts kk tpos) (.Call (.Name "enumerate" p) [e] [] pos) (iEnumS X.K te) := by
  refine ⟨fun pins s σ H R I h => ?_⟩
  have ha : PA X [e] (tCons te tNil) := pa_cons he pa_nil hs
  refine Call_ (ld_blt I hg hm boot_enumerate (PyProof.Rows.callWith_type1 (thn (ha.run pos pins s σ H _ I h) fun us s1 ⟨vs, H1, I1, r1, q1⟩ => ?_) hs rfl))
  obtain ⟨x, ex, q⟩ := q1
  subst ex
  have fin : ∀ (a : Addr) (J : It) (tn : Nat → Heap → Prop) (h' : Heap), (∀ b o, s1.heap.get? b = some o → h'.get? b = some o) → Turn X.prog X.w X.K (.Tuple elts kk tpos) J [s1.heap.objs.size + 1, s1.heap.objs.size] (s1.heap.objs.size + 1) tn → tn 0 h' → R J H1 →
      PIE X pins σ (.Tuple elts kk tpos) R (.ref (s1.heap.objs.size + 1)) { s1 with heap := h' } := fun a J tn h' hk T st q => by
    have I2 : Inv X pins σ H1 { s1 with heap := h' } := I1.kept (t' := s1.toks) hk
    refine ⟨s1.heap.objs.size + 1, [s1.heap.objs.size + 1, s1.heap.objs.size], _, _, H1, rfl, I2, T, st, fun b hb => ?_, q⟩
    have e' : b = s1.heap.objs.size + 1 ∨ b = s1.heap.objs.size := by simpa using hb
    have hle : s1.heap.objs.size ≤ b := by
      rcases e' with z | z
      · rw [z]; exact Nat.le_add_right _ _
      · rw [z]; exact Nat.le_refl _
    exact I1.fpOk hle (I1.hok.fresh hle)
  cases r1 with
  | cons r rr =>
    cases rr
    rcases q with ⟨a, xs, rfl, hq, q⟩ | ⟨a, xs, rfl, hq, q⟩
    · cases r
      obtain ⟨its, rv, p', hz⟩ := I1.list hq
      exact call_enumerate_list p'.isList fun h' he hit hsz hk => wpAny_pyIter_enum he (fin a _ _ h' hk (turn_enum a (s1.heap.objs.size + 1) s1.heap.objs.size) ⟨⟨.none, he⟩, hit, Nat.succ_ne_self _⟩ q)
    · cases r
      obtain ⟨its, rv, p', hz⟩ := I1.tuple hq
      exact call_enum1 (begins_tuple a its.toArray) (show s1.heap.IsTuple a its.toArray from p') fun h' he hit hsz hk => wpAny_pyIter_enum he (fin a _ _ h' hk (turn_enumT a (s1.heap.objs.size + 1) s1.heap.objs.size) ⟨⟨.none, he⟩, ⟨_, hit, rfl, rfl⟩, Nat.succ_ne_self _⟩ q)
/-- (0, a), (1, b), .. -/
def enumL (ds : List D) : List D := (List.range ds.length).zipWith (fun i d => .tup [.int (i : Nat), d]) ds
theorem enumL_len {ds : List D} : (enumL ds).length = ds.length := by simp [enumL]
theorem enumL_get {ds : List D} {i : Nat} {d : D} (h : (enumL ds)[i]? = some d) : ∃ e, ds[i]? = some e ∧ d = .tup [.int (i : Nat), e] := by
  unfold enumL at h
  rw [List.getElem?_zipWith] at h
  by_cases hi : i < ds.length
  · rw [List.getElem?_range hi, List.getElem?_eq_getElem hi] at h
    exact ⟨ds[i], by simp [hi], (Option.some.inj h).symm⟩
  · rw [List.getElem?_eq_none (by simpa using hi)] at h
    cases h
def enumM (m : M) : Gam → R (List D × Gam) := fun Γ => (clM m Γ).bind fun p => match p.1 with
  | .lst ds => .ok (enumL ds, p.2)
  | .tup ds => .ok (enumL ds, p.2)
  | _ => .no
theorem ypair {K : PySem.W.Frag} {Hd H H' : Hp} {x : V} {xs : List V} {ds : List D} {d : D} {i : Nat} (hd : DvAll K Hd xs ds) (e : (enumL ds)[i]? = some d) (y : YPair (fun i => some (.int (i : Nat))) (fun i => xs[i]?) i H x H') (s : Same Hd H) : Res K Hd H (.cl d) x H' := by
  obtain ⟨d0, e0, rfl⟩ := enumL_get e
  obtain ⟨T, u, v, rfl, hT, rfl, e1, e2⟩ := y
  cases e1
  obtain ⟨v', f1, f2⟩ := hd.get e0
  have e3 : xs[i]? = some v := e2
  rw [f1] at e3
  cases e3
  have nT : Hd T = none := by
    cases q : Hd T with
    | none => rfl
    | some o => have z := s _ _ q; rw [hT] at z; cases z
  exact .inr ⟨T, _, hT, rfl, .tup (.inl (.of upd_same)) (.cons (.int _) (DvAll.one (f2.mono (same_new nT))))⟩
theorem ci_enum {K : PySem.W.Frag} {ca : Str → Addr} {Wx : WX} {te : TE} {m : M} (h : Ce K ca Wx te m) : Ci K ca Wx (iEnumS K te) (enumM m) := by
  intro c T Γ σ H Q ok p
  refine ce_cl h ok ((Pst.bind p).imp fun q p v H1 ok1 hv s1 => ?_)
  obtain ⟨d, Γ1⟩ := q
  cases d with
  | lst ds =>
    cases hv with
    | lst hs ha =>
      have p1 : QI K c T _ σ Q (enumL ds, Γ1) := p
      exact ⟨_, rfl, .inl ⟨_, _, rfl, hid_sub.seq hs, p1 _ _ _ H1 ok1 s1 (by rw [enumL_len, ← ha.len]; exact walk_enum) (fun H' s => s.seq hs) fun i Hd H x H' d e s s' y => ypair (DvAll.mono s _ _ ha) e y s'⟩⟩
  | tup ds =>
    cases hv with
    | tup hs ha =>
      have p1 : QI K c T _ σ Q (enumL ds, Γ1) := p
      exact ⟨_, rfl, .inr ⟨_, _, rfl, same_t hid_sub hs, p1 _ _ _ H1 ok1 s1 (by rw [enumL_len, ← ha.len]; exact walk_enumT) (fun H' s => same_t s hs) fun i Hd H x H' d e s s' y => ypair (DvAll.mono s _ _ ha) e y s'⟩⟩
  | _ => exact p.elim
theorem i_enum {X : Cx} {ca : Str → Addr} {Wx : WX} {e : Expr} {m : M} {p pos tpos : Pos} {elts : List Expr} {kk : Nat} (hg : Gl X "enumerate") (hm : X.mg "enumerate" = none) (h : Sx X ca Wx e m) (hs : starEach [e] X.env = (false, eval e X.env) :: starEach [] X.env := by rfl) :
    Si X ca Wx (.Tuple elts kk tpos) (.Call (.Name "enumerate" p) [e] [] pos) (enumM m) := let ⟨_, p1, c1⟩ := h; ⟨_, pi_enumS hg hm p1 hs, ci_enum c1⟩
end Mw
set_option Elab.async false
set_option linter.all false
set_option maxRecDepth 100000
set_option maxHeartbeats 2000000
/-! Mw: mirrors reckoned -/
namespace Mw
open PySem PySem.Spec PyProof.Rows L2
section
variable {Γ : Gam} {a b : MS} {m ma mb mc : M} {ta tb : Gam → R (Bool × Gam)}
@[simp] theorem skM_eq : skM a b Γ = (a Γ).bind fun o => match o with
  | .nx Γ' => b Γ'
  | o => .ok o := (rfl)
@[simp] theorem nxM_eq : nxM Γ = .ok (.nx Γ) := (rfl)
@[simp] theorem bkM_eq : bkM Γ = .ok (.bk Γ) := (rfl)
@[simp] theorem ctM_eq : ctM Γ = .ok (.ct Γ) := (rfl)
@[simp] theorem asgM_eq {i : Nat} : asgM i m Γ = (m Γ).bind fun p => (stoM i p.1 p.2).bind fun Γ' => .ok (.nx Γ') := (rfl)
@[simp] theorem retM_eq : retM m Γ = (m Γ).bind fun p => .ok (.rt p.1 p.2) := (rfl)
@[simp] theorem drpM_eq : drpM m Γ = (m Γ).bind fun p => .ok (.nx p.2) := (rfl)
@[simp] theorem ifS_eq : ifS ta a b Γ = (ta Γ).bind fun p => match p.1 with
  | true => a p.2
  | false => b p.2 := (rfl)
@[simp] theorem raiM_eq {n : Str} : raiM n Γ = .ex ⟨n, []⟩ Γ := (rfl)
@[simp] theorem cM_eq {d : D} : cM d Γ = .ok (.cl d, Γ) := (rfl)
@[simp] theorem vM_eq {i : Nat} : vM i Γ = match Γ[i]? with
  | some (.val d) => .ok (.cl d, Γ)
  | some (.own _ _) => .ok (.bo i, Γ)
  | _ => .no := (rfl)
@[simp] theorem aNil_eq : aNil Γ = .ok ([], Γ) := (rfl)
@[simp] theorem aCons_eq {ms : Gam → R (List W × Gam)} : aCons m ms Γ = (m Γ).bind fun p => (ms p.2).bind fun q => .ok (hold p.1 :: q.1, q.2) := (rfl)
@[simp] theorem bin2_eq {sem : D → D → Option W} : bin2 sem ma mb Γ = (ma Γ).bind fun p => (mb p.2).bind fun q => fin ((vw q.2 p.1).bind fun a => (vw q.2 q.1).bind fun b => sem a b) q.2 := (rfl)
@[simp] theorem un1_eq {sem : D → Option W} : un1 sem ma Γ = (ma Γ).bind fun p => fin ((vw p.2 p.1).bind sem) p.2 := (rfl)
@[simp] theorem callN_eq {sem : List D → Option W} {ms : Gam → R (List W × Gam)} : callN sem ms Γ = (ms Γ).bind fun p => fin ((vws p.2 p.1).bind sem) p.2 := (rfl)
@[simp] theorem tstM_eq : tstM ma Γ = (ma Γ).bind fun p => match (vw p.2 p.1).bind tru with
  | some b => .ok (b, p.2)
  | none => .no := (rfl)
@[simp] theorem tstB_eq : tstB ma Γ = (ma Γ).bind fun p => match p.1 with
  | .cl (.bl b) => .ok (b, p.2)
  | _ => .no := (rfl)
@[simp] theorem notT_eq : notT ta Γ = (ta Γ).bind fun p => .ok (!p.1, p.2) := (rfl)
@[simp] theorem vw_cl {d : D} : vw Γ (.cl d) = some d := (rfl)
@[simp] theorem vw_fr {ds : List D} : vw Γ (.fr ds) = some (.lst ds) := (rfl)
@[simp] theorem vws_nil : vws Γ [] = some [] := (rfl)
@[simp] theorem vws_cons {w : W} {ws : List W} : vws Γ (w :: ws) = (vw Γ w).bind fun d => (vws Γ ws).bind fun ds => some (d :: ds) := (rfl)
@[simp] theorem hold_cl {d : D} : hold (.cl d) = .cl d := (rfl)
@[simp] theorem hold_fr {ds : List D} : hold (.fr ds) = .cl (.lst ds) := (rfl)
@[simp] theorem hold_bo {i : Nat} : hold (.bo i) = .bo i := (rfl)
@[simp] theorem hasBo_nil : hasBo [] = false := (rfl)
@[simp] theorem hasBo_cl {d : D} {ws : List W} : hasBo (.cl d :: ws) = hasBo ws := (rfl)
@[simp] theorem hasBo_bo {i : Nat} {ws : List W} : hasBo (.bo i :: ws) = true := (rfl)
@[simp] theorem clL_nil : clL [] = some [] := (rfl)
@[simp] theorem clL_cl {d : D} {ws : List W} : clL (.cl d :: ws) = (clL ws).bind fun ds => some (d :: ds) := (rfl)
@[simp] theorem cln_nil : cln Γ [] = some ([], Γ) := (rfl)
@[simp] theorem cln_cl {d : D} {ws : List W} : cln Γ (.cl d :: ws) = (cln Γ ws).bind fun p => some (d :: p.1, p.2) := (rfl)
@[simp] theorem sto_cl {i : Nat} {d : D} (h : i < Γ.length) : stoM i (.cl d) Γ = .ok (Γ.set i (.val d)) := if_pos h
@[simp] theorem sto_fr {i : Nat} {ds : List D} (h : i < Γ.length) : stoM i (.fr ds) Γ = .ok (Γ.set i (.own false ds)) := if_pos h
theorem callP_eq {f : List D → RF} {ms : Gam → R (List W × Gam)} : callP f ms Γ = (ms Γ).bind fun p => match vws p.2 p.1 with
  | none => .no
  | some ds => callFin (hasBo p.1) (f ds) p.2 := (rfl)
theorem mkP_eq {n tot : Nat} {s : MS} {ds : List D} : mkP n tot s ds = if ds.length = n then finR (s (startG tot ds)) else .no := (rfl)
theorem andM_eq : Mw.andM ma mb Γ = (ma Γ).bind fun p => match p.1 with
  | .cl d => match tru d with
    | some true => mb p.2
    | some false => .ok (.cl d, p.2)
    | none => .no
  | _ => .no := (rfl)
theorem orM_eq : Mw.orM ma mb Γ = (ma Γ).bind fun p => match p.1 with
  | .cl d => match tru d with
    | some true => .ok (.cl d, p.2)
    | some false => mb p.2
    | none => .no
  | _ => .no := (rfl)
theorem andM_bl {x y : Bool} {Γ1 Γ2 : Gam} (h1 : ma Γ = .ok (.cl (.bl x), Γ1)) (h2 : x = true → mb Γ1 = .ok (.cl (.bl y), Γ1)) : Mw.andM ma mb Γ = .ok (.cl (.bl (x && y)), Γ1) := by
  rw [andM_eq, h1]
  cases x with
  | false => rfl
  | true => exact h2 rfl
theorem orM_bl {x y : Bool} {Γ1 : Gam} (h1 : ma Γ = .ok (.cl (.bl x), Γ1)) (h2 : x = false → mb Γ1 = .ok (.cl (.bl y), Γ1)) : Mw.orM ma mb Γ = .ok (.cl (.bl (x || y)), Γ1) := by
  rw [orM_eq, h1]
  cases x with
  | true => rfl
  | false => exact h2 rfl
@[simp] theorem notM_eq : Mw.notM ma Γ = (ma Γ).bind fun p => fin ((vw p.2 p.1).bind fun d => (tru d).bind fun b => some (.cl (.bl (!b)))) p.2 := (rfl)
@[simp] theorem ifM_eq : ifM ta ma mb Γ = (ta Γ).bind fun p => match p.1 with
  | true => ma p.2
  | false => mb p.2 := (rfl)
@[simp] theorem andT_eq : andT ta tb Γ = (ta Γ).bind fun p => match p.1 with
  | true => tb p.2
  | false => .ok (false, p.2) := (rfl)
@[simp] theorem orT_eq : orT ta tb Γ = (ta Γ).bind fun p => match p.1 with
  | true => .ok (true, p.2)
  | false => tb p.2 := (rfl)
@[simp] theorem tupM_eq {ms : Gam → R (List W × Gam)} : tupM ms Γ = (ms Γ).bind fun p => match cln p.2 p.1 with
  | some q => if q.1.length ≤ sizeLine then .ok (.cl (.tup q.1), q.2) else .no
  | none => .no := (rfl)
@[simp] theorem lstM_eq {ms : Gam → R (List W × Gam)} : lstM ms Γ = (ms Γ).bind fun p => match cln p.2 p.1 with
  | some q => if q.1.length ≤ sizeLine then .ok (.fr q.1, q.2) else .no
  | none => .no := (rfl)
@[simp] theorem unpM_eq {tgt : D → Gam → Option Gam} : unpM tgt m Γ = (m Γ).bind fun p => match p.1 with
  | .cl d => match tgt d p.2 with
    | some Γ' => .ok (.nx Γ')
    | none => .no
  | _ => .no := (rfl)
@[simp] theorem chn_eq {s1 s2 : D → D → Option W} : chn s1 s2 ma mb mc Γ = (ma Γ).bind fun p => (mb p.2).bind fun q => match (vw q.2 p.1).bind fun a => (vw q.2 q.1).bind fun b => s1 a b with
  | some (.cl (.bl true)) => (mc q.2).bind fun r => fin ((vw r.2 q.1).bind fun b => (vw r.2 r.1).bind fun c => s2 b c) r.2
  | some (.cl (.bl false)) => .ok (.cl (.bl false), q.2)
  | _ => .no := (rfl)
/-! ints, truths, tuples -/
@[simp] theorem add_int {a b : Int} : D.add (.int a) (.int b) = some (.cl (.int (a + b))) := (rfl)
@[simp] theorem sub_int' {a b : Int} : D.sub (.int a) (.int b) = some (.cl (.int (a - b))) := (rfl)
@[simp] theorem cmp_int {f : Int → Int → Bool} {a b : Int} : D.cmpI f (.int a) (.int b) = some (.cl (.bl (f a b))) := (rfl)
@[simp] theorem neg_int' {a : Int} : D.neg (.int a) = some (.cl (.int (-a))) := (rfl)
@[simp] theorem tru_bl {b : Bool} : tru (.bl b) = some b := (rfl)
@[simp] theorem isN_nn : D.isN .non .non = some (.cl (.bl true)) := (rfl)
@[simp] theorem isN_tn {ds : List D} : D.isN (.tup ds) .non = some (.cl (.bl false)) := (rfl)
@[simp] theorem isN_bb {a b : Bool} : D.isN (.bl a) (.bl b) = some (.cl (.bl (decide (a = b)))) := (rfl)
@[simp] theorem notN_nn : D.notN .non .non = some (.cl (.bl false)) := (rfl)
@[simp] theorem notN_tn {ds : List D} : D.notN (.tup ds) .non = some (.cl (.bl true)) := (rfl)
@[simp] theorem notN_bb {a b : Bool} : D.notN (.bl a) (.bl b) = some (.cl (.bl (!decide (a = b)))) := (rfl)
theorem at_k {α : Type} {ds : List α} {k : Nat} {d : α} (h : ds[k]? = some d) : atI ds (k : Int) = some d := by
  have hk : k < ds.length := (List.getElem?_eq_some_iff.mp h).1
  unfold atI ixN
  rw [if_pos (Int.natCast_nonneg k), if_pos (by omega)]
  simpa using h
theorem ix_tk {ds : List D} {k : Nat} {d : D} (h : ds[k]? = some d) : D.ix (.tup ds) (.int (k : Int)) = some (.cl d) := by show (atI ds (k : Int)).map W.cl = _; rw [at_k h]; rfl
theorem ix_lk {ds : List D} {k : Nat} {d : D} (h : ds[k]? = some d) : D.ix (.lst ds) (.int (k : Int)) = some (.cl d) := by show (atI ds (k : Int)).map W.cl = _; rw [at_k h]; rfl
@[simp] theorem ix_t0 {a : D} {t : List D} : D.ix (.tup (a :: t)) (.int 0) = some (.cl a) := ix_tk (k := 0) rfl
@[simp] theorem ix_t1 {a b : D} {t : List D} : D.ix (.tup (a :: b :: t)) (.int 1) = some (.cl b) := ix_tk (k := 1) rfl
@[simp] theorem ix_t2 {a b c : D} {t : List D} : D.ix (.tup (a :: b :: c :: t)) (.int 2) = some (.cl c) := ix_tk (k := 2) rfl
@[simp] theorem ix_l0 {a : D} {t : List D} : D.ix (.lst (a :: t)) (.int 0) = some (.cl a) := ix_lk (k := 0) rfl
@[simp] theorem ix_l1 {a b : D} {t : List D} : D.ix (.lst (a :: b :: t)) (.int 1) = some (.cl b) := ix_lk (k := 1) rfl
@[simp] theorem ix_l2 {a b c : D} {t : List D} : D.ix (.lst (a :: b :: c :: t)) (.int 2) = some (.cl c) := ix_lk (k := 2) rfl
@[simp] theorem ix_l3 {a b c d : D} {t : List D} : D.ix (.lst (a :: b :: c :: d :: t)) (.int 3) = some (.cl d) := ix_lk (k := 3) rfl
@[simp] theorem eq_ii {a b : Int} : D.eq (.int a) (.int b) = some (.cl (.bl (decide (a = b)))) := by
  simp only [D.eq, D.eqC, D.strs, D.eqB, py, Option.bind_some, SeqAt.shaped, PyData.canLay0, PyData.depth, PyData.eqv]
  rfl
@[simp] theorem ne_ii {a b : Int} : D.ne (.int a) (.int b) = some (.cl (.bl (!decide (a = b)))) := by
  simp only [D.ne, D.eqC, D.strs, D.eqB, py, Option.bind_some, SeqAt.shaped, PyData.canLay0, PyData.depth, PyData.eqv]
  rfl
@[simp] theorem len_t {ds : List D} : D.len [.tup ds] = some (.cl (.int ds.length)) := (rfl)
@[simp] theorem len_l {ds : List D} : D.len [.lst ds] = some (.cl (.int ds.length)) := (rfl)
@[simp] theorem callFin_cl {d : D} : callFin false (.ret (.cl d)) Γ = .ok (.cl d, Γ) := (rfl)
@[simp] theorem callFin_fr {ds : List D} : callFin false (.ret (.fr ds)) Γ = .ok (.fr ds, Γ) := (rfl)
@[simp] theorem callFin_ex {e : Exn} : callFin false (.ex e) Γ = .ex e Γ := (rfl)
@[simp] theorem isi_it {i : Int} : D.isi [.int i, .ty "int"] = some (.cl (.bl true)) := by kernel_rfl
@[simp] theorem isi_ib {i : Int} : D.isi [.int i, .ty "bool"] = some (.cl (.bl false)) := by kernel_rfl
@[simp] theorem isi_bi {i : Bool} : D.isi [.bl i, .ty "int"] = some (.cl (.bl true)) := by kernel_rfl
@[simp] theorem isi_bb {i : Bool} : D.isi [.bl i, .ty "bool"] = some (.cl (.bl true)) := by kernel_rfl
@[simp] theorem isi_tt {ds : List D} : D.isi [.tup ds, .ty "tuple"] = some (.cl (.bl true)) := by kernel_rfl
@[simp] theorem isi_lt {ds : List D} : D.isi [.lst ds, .ty "tuple"] = some (.cl (.bl false)) := by kernel_rfl
@[simp] theorem isi_nt : D.isi [.non, .ty "tuple"] = some (.cl (.bl false)) := by kernel_rfl
@[simp] theorem sum_t {ns : List Int} : D.sum [.tup (ns.map .int)] = some (.cl (.int ns.sum)) := by simp [D.sum]
@[simp] theorem sum_l {ns : List Int} : D.sum [.lst (ns.map .int)] = some (.cl (.int ns.sum)) := by simp [D.sum]
@[simp] theorem clM_eq : clM m Γ = (m Γ).bind fun p => match p.1 with
  | .cl d => .ok (d, p.2)
  | .fr ds => .ok (.lst ds, p.2)
  | .bo j => match p.2[j]? with
    | some (.own _ ds) => .ok (.lst ds, p.2.set j (.val (.lst ds)))
    | _ => .no := (rfl)
@[simp] theorem seqM_eq : seqM m Γ = (clM m Γ).bind fun p => match p.1 with
  | .lst ds => .ok (ds, p.2)
  | .tup ds => .ok (ds, p.2)
  | _ => .no := (rfl)
@[simp] theorem yesT_eq : yesT Γ = .ok (true, Γ) := (rfl)
/-! comprehensions -/
theorem kill1 {i : Nat} {d : D} : kill [i] (Γ.set i (.val d)) = Γ.set i .un := by
  show (Γ.set i (.val d)).set i .un = _
  rw [List.set_set]
theorem lcG_fil {i : Nat} {tst : Gam → R (Bool × Gam)} {elt : M} {p : D → Bool} {f : D → D} (hi : i < Γ.length) : ∀ {ds acc : List D}, acc.length + ds.length ≤ sizeLine → (∀ d ∈ ds, tst (Γ.set i (.val d)) = .ok (p d, Γ.set i (.val d))) →
    (∀ d ∈ ds, p d = true → clM elt (Γ.set i (.val d)) = .ok (f d, Γ.set i (.val d))) → lcG (tN i) tst elt [i] ds (Γ.set i .un) acc = some (acc ++ (ds.filter p).map f, Γ.set i .un)
  | [], acc, _, _, _ => by simp [lcG]
  | d :: ds, acc, hz, ht, he => by
    have ih := fun acc h => lcG_fil (tst := tst) (elt := elt) (p := p) (f := f) hi (ds := ds) (acc := acc) h (fun d hd => ht d (List.mem_cons_of_mem _ hd)) fun d hd => he d (List.mem_cons_of_mem _ hd)
    have e1 : tN i d (Γ.set i .un) = some (Γ.set i (.val d)) := by
      unfold tN
      rw [if_pos (by rw [List.length_set]; exact hi), List.set_set]
    unfold lcG
    rw [e1]
    simp only []
    rw [ht d List.mem_cons_self]
    cases hp : p d with
    | false =>
      simp only [hp]
      rw [kill1, ih acc (by simp at hz ⊢; omega), List.filter_cons_of_neg (by rw [hp]; decide)]
    | true =>
      simp only [hp]
      rw [he d List.mem_cons_self hp]
      simp only []
      rw [if_pos (by simp at hz; omega), kill1, ih _ (by simp at hz ⊢; omega), List.filter_cons_of_pos hp, List.map_cons, List.append_assoc]
      rfl
theorem rest1 {i : Nat} (hi : Γ[i]? = some .un ∨ ∃ d, Γ[i]? = some (.val d)) : restG [i] Γ (Γ.set i .un) = Γ := by
  rcases hi with h | ⟨d, h⟩
  · show (match Γ[i]? with
      | some (.val d) => (Γ.set i .un).set i (.val d)
      | _ => Γ.set i .un) = Γ
    rw [h]
    exact set_self h
  · show (match Γ[i]? with
      | some (.val d) => (Γ.set i .un).set i (.val d)
      | _ => Γ.set i .un) = Γ
    rw [h]
    simp only []
    rw [List.set_set]
    exact set_self h
theorem lcM_fil {mi : Gam → R (List D × Gam)} {tst : Gam → R (Bool × Gam)} {elt : M} {i : Nat} {ds : List D} {Γ1 : Gam} (p : D → Bool) (f : D → D) (hm : mi Γ = .ok (ds, Γ1)) (hi : Γ1[i]? = some .un ∨ ∃ d, Γ1[i]? = some (.val d)) (hz : ds.length ≤ sizeLine)
    (ht : ∀ d ∈ ds, tst (Γ1.set i (.val d)) = .ok (p d, Γ1.set i (.val d))) (he : ∀ d ∈ ds, p d = true → clM elt (Γ1.set i (.val d)) = .ok (f d, Γ1.set i (.val d))) : lcM mi (tN i) tst elt [i] Γ = .ok (.fr ((ds.filter p).map f), Γ1) := by
  have hl : i < Γ1.length := by
    rcases hi with h | ⟨d, h⟩ <;> exact (List.getElem?_eq_some_iff.mp h).1
  show (mi Γ).bind _ = _
  rw [hm]
  show (match lcG (tN i) tst elt [i] ds (Γ1.set i .un) [] with
    | some r => R.ok (W.fr r.1, restG [i] Γ1 r.2)
    | none => .no) = _
  rw [lcG_fil hl (by simpa using hz) ht he]
  simp only [List.nil_append]
  rw [rest1 hi]
theorem lcM_map {mi : Gam → R (List D × Gam)} {elt : M} {i : Nat} {ds : List D} {Γ1 : Gam} (f : D → D) (hm : mi Γ = .ok (ds, Γ1)) (hi : Γ1[i]? = some .un ∨ ∃ d, Γ1[i]? = some (.val d)) (hz : ds.length ≤ sizeLine)
    (he : ∀ d ∈ ds, clM elt (Γ1.set i (.val d)) = .ok (f d, Γ1.set i (.val d))) : lcM mi (tN i) yesT elt [i] Γ = .ok (.fr (ds.map f), Γ1) := by
  have q := lcM_fil (tst := yesT) (fun _ => true) f hm hi hz (fun d _ => rfl) fun d hd _ => he d hd
  rw [q, List.filter_eq_self.mpr fun _ _ => rfl]
/-! for -/
theorem forG_fold {σ : Type} {tgt : D → Gam → Option Gam} {body : MS} {ks : List Nat} (g : σ → Gam) (step : σ → D → σ) (I : σ → Prop) : ∀ {ds : List D} {s : σ}, I s → (∀ s d, d ∈ ds → I s → I (step s d) ∧ ∃ Γ1 Γ2, tgt d (g s) = some Γ1 ∧ body Γ1 = .ok (.nx Γ2) ∧ kill ks Γ2 = g (step s d)) →
    forG tgt body ks ds (g s) = .ok (.nx (g (ds.foldl step s))) ∧ I (ds.foldl step s)
  | [], s, hI, _ => ⟨rfl, hI⟩
  | d :: ds, s, hI, h => by
    obtain ⟨hI', Γ1, Γ2, e1, e2, e3⟩ := h s d List.mem_cons_self hI
    obtain ⟨q, qI⟩ := forG_fold g step I (ds := ds) hI' fun s d hd => h s d (List.mem_cons_of_mem _ hd)
    refine ⟨?_, qI⟩
    unfold forG
    rw [e1]
    simp only []
    rw [e2]
    simp only [R.bind_ok]
    rw [e3, q]
    rfl
/-- Pv by the turn -/
theorem forG_inv {tgt : D → Gam → Option Gam} {body : MS} {ks : List Nat} (Pv : Nat → Gam → Prop) : ∀ {ds : List D} {n : Nat} {Γ : Gam}, Pv n Γ → (∀ j d Γ, ds[j]? = some d → Pv (n + j) Γ → ∃ Γ1 Γ2, tgt d Γ = some Γ1 ∧ body Γ1 = .ok (.nx Γ2) ∧ Pv (n + j + 1) (kill ks Γ2)) →
    ∃ Γ', forG tgt body ks ds Γ = .ok (.nx Γ') ∧ Pv (n + ds.length) Γ'
  | [], n, Γ, h, _ => ⟨Γ, rfl, h⟩
  | d :: ds, n, Γ, h, hs => by
    obtain ⟨Γ1, Γ2, e1, e2, e3⟩ := hs 0 d Γ rfl h
    obtain ⟨Γ', q1, q2⟩ := forG_inv Pv (ds := ds) (n := n + 1) e3 fun j d' Γ' hj hp => by
      have z := hs (j + 1) d' Γ' (by simpa using hj) (by rw [show n + (j + 1) = n + 1 + j by omega]; exact hp)
      rw [show n + (j + 1) + 1 = n + 1 + j + 1 by omega] at z
      exact z
    refine ⟨Γ', ?_, by rw [List.length_cons, show n + (ds.length + 1) = n + 1 + ds.length by omega]; exact q2⟩
    unfold forG
    rw [e1]
    simp only []
    rw [e2]
    simp only [R.bind_ok]
    exact q1
end
end Mw
set_option Elab.async false
set_option linter.all false
set_option maxRecDepth 100000
set_option maxHeartbeats 2000000
/-! Mw: mirrors by steps -/
namespace Mw
open PySem PySem.Spec PyProof.Rows L2
section
variable {Γ Γ1 Γ2 : Gam} {a b : MS} {m : M} {d : D} {i : Nat}
theorem sk_nx (h : a Γ = .ok (.nx Γ1)) : skM a b Γ = b Γ1 := by
  unfold skM
  rw [h]
  rfl
theorem sk_rt {w : W} (h : a Γ = .ok (.rt w Γ1)) : skM a b Γ = .ok (.rt w Γ1) := by
  unfold skM
  rw [h]
  rfl
theorem sk_ex {e : Exn} (h : a Γ = .ex e Γ1) : skM a b Γ = .ex e Γ1 := by
  unfold skM
  rw [h]
  rfl
theorem mkP_of {n tot : Nat} {m : MS} {ds : List D} {r : R Out} (hl : ds.length = n) (h0 : startG tot ds = Γ) (h : m Γ = r) : mkP n tot m ds = finR r := by
  rw [mkP_eq, if_pos hl, h0, h]
theorem mkB_of {n tot : Nat} {m : MS} {bs ds : List D} {r : R Out} (hl : ds.length = n) (h0 : startB tot bs ds = Γ) (h : m Γ = r) : mkB n tot m bs ds = finB r := by
  unfold mkB
  rw [if_pos hl, h0, h]
theorem forM_of {mi : Gam → R (List D × Gam)} {tgt : D → Gam → Option Gam} {body : MS} {ks : List Nat} {ds : List D} (h : mi Γ = .ok (ds, Γ1)) : Mw.forM mi tgt body ks Γ = forG tgt body ks ds (kill ks Γ1) := by
  unfold Mw.forM
  rw [h]
  rfl
theorem rng2_of {ms : Gam → R (List W × Gam)} {ws : List W} {i j : Int} (h : ms Γ = .ok (ws, Γ1)) (ha : argI ws = some [i, j]) (hi : sml i) (hj : sml j) : rng2M ms Γ = .ok (rngL i 1 (j - i).toNat, Γ1) := by
  unfold rng2M
  rw [h]
  simp only [R.bind_ok]
  rw [ha]
  simp only []
  rw [if_pos ⟨hi, hj⟩]
theorem rng3_of {ms : Gam → R (List W × Gam)} {ws : List W} {i j : Int} (h : ms Γ = .ok (ws, Γ1)) (ha : argI ws = some [i, j, -1]) (hi : sml i) (hj : sml j) : rng3M ms Γ = .ok (rngL i (-1) (i - j).toNat, Γ1) := by
  unfold rng3M
  rw [h]
  simp only [R.bind_ok]
  rw [ha]
  simp only []
  rw [if_pos ⟨hi, hj, trivial⟩]
theorem rng1_of {ms : Gam → R (List W × Gam)} {ws : List W} {j : Int} (h : ms Γ = .ok (ws, Γ1)) (ha : argI ws = some [j]) (hj : sml j) : rng1M ms Γ = .ok (rngL 0 1 j.toNat, Γ1) := by
  unfold rng1M
  rw [h]
  simp only [R.bind_ok]
  rw [ha]
  simp only []
  rw [if_pos hj]
theorem sml_of {i : Int} (h1 : -1000000 ≤ i) (h2 : i ≤ 1000000) : sml i := by
  show -(2 ^ 62) ≤ i ∧ i < 2 ^ 62
  simp only [Int.reducePow, Int.reduceNeg]
  omega
theorem ap_of {mo me : M} {k : Bool} {ds : List D} (h1 : slM mo Γ = .ok (i, Γ1)) (h2 : clM me Γ1 = .ok (d, Γ2)) (h3 : Γ2[i]? = some (.own k ds)) (hz : ds.length < sizeLine) : apM mo me Γ = .ok (.nx (Γ2.set i (.own k (ds ++ [d])))) := by
  unfold apM
  rw [h1]
  simp only [R.bind_ok]
  rw [h2]
  simp only [R.bind_ok]
  rw [h3]
  simp only []
  rw [if_pos hz]
theorem asg_cl (h : m Γ = .ok (.cl d, Γ1)) (hi : i < Γ1.length) : asgM i m Γ = .ok (.nx (Γ1.set i (.val d))) := by
  rw [asgM_eq, h]
  simp only [R.bind_ok]
  rw [sto_cl hi]
  rfl
theorem asg_fr {ds : List D} (h : m Γ = .ok (.fr ds, Γ1)) (hi : i < Γ1.length) : asgM i m Γ = .ok (.nx (Γ1.set i (.own false ds))) := by
  rw [asgM_eq, h]
  simp only [R.bind_ok]
  rw [sto_fr hi]
  rfl
theorem asg_bo (h : m Γ = .ok (.bo i, Γ1)) (hi : i < Γ1.length) : asgM i m Γ = .ok (.nx Γ1) := by
  rw [asgM_eq, h]
  simp only [R.bind_ok]
  unfold stoM
  rw [if_pos hi]
  simp
theorem if_t {t : Gam → R (Bool × Gam)} (h : t Γ = .ok (true, Γ1)) : ifS t a b Γ = a Γ1 := by
  rw [ifS_eq, h]
  rfl
theorem if_f {t : Gam → R (Bool × Gam)} (h : t Γ = .ok (false, Γ1)) : ifS t a b Γ = b Γ1 := by
  rw [ifS_eq, h]
  rfl
theorem callB_of {f : List D → List D → RB} {ms : Gam → R (List W × Gam)} {ws : List W} {ds bs bs' : List D} {k : Bool} (h : ms Γ = .ok (.bo i :: ws, Γ1)) (hg : Γ1[i]? = some (.own k bs)) (hc : clL ws = some ds) (hf : f bs ds = .ret d bs') : callB f ms Γ = .ok (.cl d, Γ1.set i (.own k bs')) := by
  unfold callB
  rw [h]
  simp only [R.bind_ok]
  rw [hg, hc]
  simp only []
  rw [hf]
theorem callP_cl {f : List D → RF} {ms : Gam → R (List W × Gam)} {ws : List W} {ds : List D} (h : ms Γ = .ok (ws, Γ1)) (hv : vws Γ1 ws = some ds) (hb : hasBo ws = false) (hf : f ds = .ret (.cl d)) : callP f ms Γ = .ok (.cl d, Γ1) := by
  rw [callP_eq, h]
  simp only [R.bind_ok]
  rw [hv]
  simp only []
  rw [hf, hb]
  rfl
@[simp] theorem vw_bo : vw Γ (.bo i) = match Γ[i]? with
    | some (.own _ ds) => some (.lst ds)
    | _ => none := (rfl)
@[simp] theorem oNone_eq : oNone Γ = .ok (none, Γ) := (rfl)
@[simp] theorem oSome_eq : oSome m Γ = (m Γ).bind fun p => match p.1 with
  | .cl (.int i) => .ok (some i, p.2)
  | _ => .no := (rfl)
@[simp] theorem sl3_eq {sem : D → Option Int → Option Int → Option W} {lo hi : Gam → R (Option Int × Gam)} : sl3 sem m lo hi Γ = (m Γ).bind fun p => (lo p.2).bind fun l => (hi l.2).bind fun h => fin ((vw h.2 p.1).bind fun d => sem d l.1 h.1) h.2 := (rfl)
@[simp] theorem slM_eq : slM m Γ = (m Γ).bind fun p => match p.1 with
  | .bo j => (match p.2[j]? with
    | some (.own _ _) => .ok (j, p.2)
    | _ => .no)
  | _ => .no := (rfl)
theorem slM_v {k : Bool} {ds : List D} (h : Γ[i]? = some (.own k ds)) : slM (vM i) Γ = .ok (i, Γ) := by
  simp [h]
end
@[simp] theorem sl_t {xs : List D} {lo hi : Option Int} : D.sl (.tup xs) lo hi = some (.cl (.tup (cutD xs lo hi))) := (rfl)
@[simp] theorem sl_l {xs : List D} {lo hi : Option Int} : D.sl (.lst xs) lo hi = some (.fr (cutD xs lo hi)) := (rfl)
@[simp] theorem toInt_i {i : Int} : D.toInt [.int i] = some (.cl (.int i)) := (rfl)
@[simp] theorem toTup_t {xs : List D} : D.toTup [.tup xs] = some (.cl (.tup xs)) := (rfl)
@[simp] theorem toTup_l {xs : List D} : D.toTup [.lst xs] = some (.cl (.tup xs)) := (rfl)
@[simp] theorem toList_t {xs : List D} : D.toList [.tup xs] = some (.fr xs) := (rfl)
@[simp] theorem toList_l {xs : List D} : D.toList [.lst xs] = some (.fr xs) := (rfl)
@[simp] theorem iadd_i {i j : Int} : D.iadd (.int i) (.int j) = some (.cl (.int (i + j))) := (rfl)
theorem mod_i {a b : Int} (h : 0 < b) : D.mod (.int a) (.int b) = some (.cl (.int (a % b))) := if_pos h
theorem fdiv_i {a b : Int} (h : 0 < b) (h' : b < 1073741824) : D.fdiv (.int a) (.int b) = some (.cl (.int (a / b))) := if_pos ⟨h, h'⟩
theorem mul_l {a b : Int} (h : -18446744073709551616 < a ∧ a < 18446744073709551616) : D.mul (.int a) (.int b) = some (.cl (.int (a * b))) := if_pos (.inl (by simpa using h))
theorem mul_r {a b : Int} (h : -18446744073709551616 < b ∧ b < 18446744073709551616) : D.mul (.int a) (.int b) = some (.cl (.int (a * b))) := if_pos (.inr (by simpa using h))
theorem pow_18 : D.pow (.int 10) (.int 18) = some (.cl (.int 1000000000000000000)) := by
  show (if (0 : Int) ≤ 18 ∧ (18 : Int) ≤ 1000000 ∧ (10 : Int).natAbs < 2 ^ 64 then some (W.cl (D.int ((10 : Int) ^ (18 : Int).toNat))) else none) = _
  rw [if_pos (by decide)]
  rfl
theorem add_tt {a b : List D} (h : a.length + b.length ≤ sizeLine) : D.add (.tup a) (.tup b) = some (.cl (.tup (a ++ b))) := if_pos h
theorem add_ll {a b : List D} (h : a.length + b.length ≤ sizeLine) : D.add (.lst a) (.lst b) = some (.fr (a ++ b)) := if_pos h
theorem atI_snoc {α : Type} {l : List α} {x : α} : atI (l ++ [x]) (-1) = some x := by
  unfold atI ixN
  rw [if_neg (by decide), if_pos (by simp; omega)]
  simp only [Option.bind_some, List.length_append, List.length_cons, List.length_nil]
  rw [show (-1 + ((l.length + (0 + 1) : Nat) : Int)).toNat = l.length by omega]
  simp
theorem ix_tl {l : List D} {x : D} : D.ix (.tup (l ++ [x])) (.int (-1)) = some (.cl x) := by show (atI (l ++ [x]) (-1)).map W.cl = _; rw [atI_snoc]; rfl
theorem ix_ll {l : List D} {x : D} : D.ix (.lst (l ++ [x])) (.int (-1)) = some (.cl x) := by show (atI (l ++ [x]) (-1)).map W.cl = _; rw [atI_snoc]; rfl
theorem cutD_map {α : Type} {f : α → D} {l : List α} {lo hi : Option Int} : cutD (l.map f) lo hi = ((l.drop (HT.sIx l.length 0 lo)).take (HT.sIx l.length l.length hi - HT.sIx l.length 0 lo)).map f := by
  unfold cutD
  rw [List.length_map, ← List.map_drop, ← List.map_take]
theorem cutD_le {xs : List D} {lo hi : Option Int} : (cutD xs lo hi).length ≤ xs.length := by
  unfold cutD
  rw [List.length_take, List.length_drop]
  omega
theorem sIx_k {n k : Nat} {dflt : Nat} (h : k ≤ n) : HT.sIx n dflt (some (k : Int)) = k := by
  rw [HT.sIx_nat, Nat.min_eq_left h]
/-! counting lists -/
def upL (k : Int) (m : Nat) : List D := (List.range m).map fun i => .int (k + (i : Nat) * 1)
theorem upL_succ {k : Int} {m : Nat} : upL k (m + 1) = .int k :: upL (k + 1) m := by
  unfold upL
  rw [List.range_succ_eq_map, List.map_cons, List.map_map]
  congr 1
  · simp
  · refine List.map_congr_left fun i _ => ?_
    show D.int (k + ((i + 1 : Nat) : Int) * 1) = D.int (k + 1 + (i : Int) * 1)
    congr 1
    push_cast
    omega
theorem rng_up {k : Int} {m : Nat} : rngL k 1 m = upL k m := rfl
def dnL (m : Nat) : List D := (List.range m).map fun i => .int ((m : Int) - 1 + (i : Nat) * (-1))
theorem dnL_succ {m : Nat} : dnL (m + 1) = .int m :: dnL m := by
  unfold dnL
  rw [List.range_succ_eq_map, List.map_cons, List.map_map]
  congr 1
  · congr 1
    push_cast
    omega
  · refine List.map_congr_left fun i _ => ?_
    show D.int (((m + 1 : Nat) : Int) - 1 + ((i + 1 : Nat) : Int) * (-1)) = D.int ((m : Int) - 1 + (i : Int) * (-1))
    congr 1
    push_cast
    omega
theorem rng_dn {m : Nat} : rngL ((m : Int) - 1) (-1) m = dnL m := rfl
theorem mem_up {k : Int} {m : Nat} {d : D} (h : d ∈ upL k m) : ∃ i : Nat, i < m ∧ d = .int (k + (i : Int)) := by
  obtain ⟨i, hi, rfl⟩ := List.mem_map.mp h
  exact ⟨i, List.mem_range.mp hi, by rw [Int.mul_one]⟩
/-! ints -/
theorem eqF_int {a b : Int} : D.eqF (.int a) (.int b) = (a == b) := rfl
theorem nin_ints {x : Int} {ns : List Int} : D.nin (.int x) (.lst (ns.map .int)) = some (.cl (.bl (!decide (x ∈ ns)))) := by
  unfold D.nin D.items
  simp only [Option.bind_some]
  rw [if_pos ⟨rfl, by rw [List.all_eq_true]; intro d hd; obtain ⟨y, _, rfl⟩ := List.mem_map.mp hd; rfl⟩]
  congr 4
  rw [List.any_map]
  induction ns with
  | nil => rfl
  | cons y ns ih =>
    rw [List.any_cons, ih]
    simp only [Function.comp_apply, eqF_int, List.mem_cons]
    by_cases h : y = x
    · subst h; simp
    · simp [h, Ne.symm h]
theorem insI_mem {a x : Int} : ∀ {l : List Int}, x ∈ insI a l ↔ x = a ∨ x ∈ l
  | [] => by simp [insI]
  | b :: r => by
    unfold insI
    split
    · simp
    · rw [List.mem_cons, insI_mem, List.mem_cons]
      constructor
      · rintro (h | h | h)
        · exact .inr (.inl h)
        · exact .inl h
        · exact .inr (.inr h)
      · rintro (h | h | h)
        · exact .inr (.inl h)
        · exact .inl h
        · exact .inr (.inr h)
theorem srtI_mem {x : Int} : ∀ {l : List Int}, x ∈ srtI l ↔ x ∈ l
  | [] => by simp [srtI]
  | a :: r => by unfold srtI; rw [insI_mem, srtI_mem, List.mem_cons]
theorem insI_len {a : Int} : ∀ {l : List Int}, (insI a l).length = l.length + 1
  | [] => rfl
  | b :: r => by
    unfold insI
    split
    · rfl
    · rw [List.length_cons, insI_len, List.length_cons]
theorem srtI_len : ∀ {l : List Int}, (srtI l).length = l.length
  | [] => rfl
  | a :: r => by unfold srtI; rw [insI_len, srtI_len, List.length_cons]
theorem insI_lt {a : Int} : ∀ {l : List Int}, a ∉ l → l.Pairwise (· < ·) → (insI a l).Pairwise (· < ·)
  | [], _, _ => by simp [insI]
  | b :: r, h, p => by
    unfold insI
    rw [List.mem_cons, not_or] at h
    rw [List.pairwise_cons] at p
    split
    · rename_i hb
      refine List.pairwise_cons.mpr ⟨fun y hy => ?_, List.pairwise_cons.mpr p⟩
      rcases List.mem_cons.mp hy with rfl | hy
      · omega
      · have := p.1 y hy; omega
    · rename_i hb
      refine List.pairwise_cons.mpr ⟨fun y hy => ?_, insI_lt h.2 p.2⟩
      rcases insI_mem.mp hy with rfl | hy
      · omega
      · exact p.1 y hy
theorem srtI_lt : ∀ {l : List Int}, l.Nodup → (srtI l).Pairwise (· < ·)
  | [], _ => by simp [srtI]
  | a :: r, h => by
    rw [List.nodup_cons] at h
    exact insI_lt (fun z => h.1 (srtI_mem.mp z)) (srtI_lt h.2)
theorem lt_last {l : List Int} {x : Int} (p : (l ++ [x]).Pairwise (· < ·)) : ∀ y ∈ l ++ [x], y ≤ x := by
  intro y hy
  rcases List.mem_append.mp hy with h | h
  · exact Int.le_of_lt ((List.pairwise_append.mp p).2.2 y h x (List.mem_singleton.mpr rfl))
  · rw [List.mem_singleton.mp h]; exact Int.le_refl _
theorem snoc_of {α : Type} {l : List α} (h : l ≠ []) : ∃ u x, l = u ++ [x] := ⟨l.dropLast, l.getLast h, (List.dropLast_concat_getLast h).symm⟩
@[simp] theorem sorted_l {ns : List Int} : D.sorted [.lst (ns.map .int)] = some (.fr ((srtI ns).map .int)) := by
  show (dInts (ns.map D.int)).map _ = _
  rw [dInts_map]
  rfl
theorem szK {n : Nat} (h : n ≤ 100000) : n ≤ sizeLine := by rw [sizeLine_eq]; omega
end Mw
set_option Elab.async false
set_option linter.all false
set_option maxRecDepth 100000
set_option maxHeartbeats 2000000
/-! Mw: plain data of bounded size: == and repr tell -/
namespace Mw
open PySem PySem.Spec PyProof.Rows L2
mutual
/-- plain data without functions, types, things of the heap; no truth beside an int -/
def D.pl : D → Bool
  | .non => true
  | .bl _ => true
  | .int _ => true
  | .str s => PyData.strOk s
  | .tup xs => D.pls xs
  | .lst xs => D.pls xs
  | _ => false
def D.pls : List D → Bool
  | [] => true
  | x :: xs => x.pl && D.pls xs
end
structure Sz (d : D) (k w : Nat) : Prop where
  ex : ∃ p, py d = some p ∧ p.canLay0 = true ∧ p.intsShort 13 = true ∧ p.showable = true ∧ p.hasDict = false ∧ p.depth ≤ k ∧ p.weight ≤ w ∧ PyData.eqv p p = true
structure SzA (ds : List D) (k w : Nat) : Prop where
  ex : ∃ ps, pys ds = some ps ∧ PyData.canLayAll0 ps = true ∧ PyData.intsShortAll 13 ps = true ∧ PyData.showableAll ps = true ∧ PyData.hasDictAll ps = false ∧ PyData.depthAll ps ≤ k ∧ PyData.weightAll ps ≤ w ∧ PyData.eqvAll ps ps = true
theorem Sz.mono {d : D} {k w k' w' : Nat} (h : Sz d k w) (h1 : k ≤ k') (h2 : w ≤ w') : Sz d k' w' := by
  obtain ⟨p, a, b, c, e, f, g, i, j⟩ := h.ex
  exact ⟨p, a, b, c, e, f, by omega, by omega, j⟩
theorem SzA.mono {d : List D} {k w k' w' : Nat} (h : SzA d k w) (h1 : k ≤ k') (h2 : w ≤ w') : SzA d k' w' := by
  obtain ⟨p, a, b, c, e, f, g, i, j⟩ := h.ex
  exact ⟨p, a, b, c, e, f, by omega, by omega, j⟩
theorem Sz.non : Sz .non 0 0 := ⟨.none, by simp [py], by simp [PyData.canLay0], by simp [PyData.intsShort], by simp [PyData.showable], by simp [PyData.hasDict], by simp [PyData.depth], by simp [PyData.weight], by simp [PyData.eqv]⟩
theorem Sz.bl (b : Bool) : Sz (.bl b) 0 0 := ⟨.bool b, by simp [py], by simp [PyData.canLay0], by simp [PyData.intsShort], by simp [PyData.showable], by simp [PyData.hasDict], by simp [PyData.depth], by simp [PyData.weight], by simp [PyData.eqv]⟩
theorem log2_40 {n : Nat} (h : n < 1000000000000) : n.log2 < 40 := by
  by_cases h0 : n = 0
  · subst h0; decide
  · rw [Nat.log2_lt h0]
    exact Nat.lt_of_lt_of_le h (by decide)
theorem Sz.int {i : Int} (h1 : -1000000000000 < i) (h2 : i < 1000000000000) : Sz (.int i) 0 40 := by
  have h : i.natAbs < 1000000000000 := by omega
  have hl := log2_40 h
  refine ⟨.int i, by simp [py], by simp [PyData.canLay0], ?_, ?_, by simp [PyData.hasDict], by simp [PyData.depth], ?_, by simp [PyData.eqv]⟩
  · simp only [PyData.intsShort, decide_eq_true_eq]
    exact PyData.shown_int_le h
  · simp only [PyData.showable, decide_eq_true_eq]
    omega
  · simp only [PyData.weight]
    split <;> omega
theorem Sz.str {z : Str} (h : PyData.strOk z = true) : Sz (.str z) 0 z.cps.size := ⟨.str z, by simp [py], by simpa [PyData.canLay0] using h, by simp [PyData.intsShort], by simp [PyData.showable], by simp [PyData.hasDict], by simp [PyData.depth], by simp [PyData.weight], by simp [PyData.eqv]⟩
theorem SzA.nil : SzA [] 0 0 := ⟨[], by simp [pys], by simp [PyData.canLayAll0], by simp [PyData.intsShortAll], by simp [PyData.showableAll], by simp [PyData.hasDictAll], by simp [PyData.depthAll], by simp [PyData.weightAll], by simp [PyData.eqvAll]⟩
theorem SzA.cons {d : D} {ds : List D} {k w w' : Nat} (h : Sz d k w) (hs : SzA ds k w') : SzA (d :: ds) k (w + 1 + w') := by
  obtain ⟨p, a, b, c, e, f, g, i, j⟩ := h.ex
  obtain ⟨ps, a', b', c', e', f', g', i', j'⟩ := hs.ex
  refine ⟨p :: ps, by simp [pys, a, a'], by simp [PyData.canLayAll0, b, b'], by simp [PyData.intsShortAll, c, c'], by simp [PyData.showableAll, e, e'], by simp [PyData.hasDictAll, f, f'], ?_, ?_, by simp [PyData.eqvAll, j, j']⟩
  · simp only [PyData.depthAll]; omega
  · simp only [PyData.weightAll]; omega
theorem SzA.of {k w : Nat} : ∀ {ds : List D}, (∀ d ∈ ds, Sz d k w) → SzA ds k (ds.length * (w + 1))
  | [], _ => SzA.nil.mono (Nat.zero_le _) (Nat.zero_le _)
  | d :: ds, h => (SzA.cons (h d List.mem_cons_self) (SzA.of fun x hx => h x (List.mem_cons_of_mem _ hx))).mono (Nat.le_refl _) (by rw [List.length_cons, Nat.succ_mul]; omega)
theorem Sz.tup {ds : List D} {k w : Nat} (h : SzA ds k w) : Sz (.tup ds) (k + 1) w := by
  obtain ⟨ps, a, b, c, e, f, g, i, j⟩ := h.ex
  refine ⟨.tuple ps, by simp [py, a], by simpa [PyData.canLay0] using b, by simpa [PyData.intsShort] using c, by simpa [PyData.showable] using e, by simpa [PyData.hasDict] using f, ?_, ?_, by simpa [PyData.eqv] using j⟩
  · simp only [PyData.depth]; omega
  · simp only [PyData.weight]; omega
theorem Sz.lst {ds : List D} {k w : Nat} (h : SzA ds k w) : Sz (.lst ds) (k + 1) w := by
  obtain ⟨ps, a, b, c, e, f, g, i, j⟩ := h.ex
  refine ⟨.list ps, by simp [py, a], by simpa [PyData.canLay0] using b, by simpa [PyData.intsShort] using c, by simpa [PyData.showable] using e, by simpa [PyData.hasDict] using f, ?_, ?_, by simpa [PyData.eqv] using j⟩
  · simp only [PyData.depth]; omega
  · simp only [PyData.weight]; omega
theorem Sz.ints {ns : List Int} (h : ∀ n ∈ ns, -1000000000000 < n ∧ n < 1000000000000) : SzA (ns.map .int) 0 (ns.length * 41) := by
  have z := SzA.of (ds := ns.map .int) (k := 0) (w := 40) fun d hd => by
    obtain ⟨n, hn, rfl⟩ := List.mem_map.mp hd
    exact Sz.int (h n hn).1 (h n hn).2
  rw [List.length_map] at z
  exact z
theorem repr_sz {d : D} {k w : Nat} (h : Sz d k w) (hk : k ≤ 60) (hw : w ≤ 1048576) (hd : D.repr.isDisp d = true) : ∃ z, D.repr [d] = some (.cl (.str z)) := by
  obtain ⟨p, a, b, c, e, f, g, i, j⟩ := h.ex
  have hl : PyData.layable0 p = true := by
    unfold PyData.layable0
    rw [b, decide_eq_true (show p.depth ≤ 64 by omega), decide_eq_true (show p.weight ≤ 2 ^ 20 by omega)]
    rfl
  have hs := shown_le13 hl c
  refine ⟨p.shown, ?_⟩
  show (if D.repr.isDisp d = true then (py d).bind (fun p => if p.showable = true ∧ p.hasDict = false ∧ p.depth ≤ 60 ∧ p.shown.length ≤ sizeLine then some (W.cl (D.str p.shown)) else none) else none) = _
  rw [if_pos hd, a]
  simp only [Option.bind_some]
  rw [if_pos ⟨e, f, by omega, Nat.le_trans hs (by rw [sizeLine_eq]; omega)⟩]
theorem eqB_self {d : D} {k w : Nat} (h : Sz d k w) (hk : k ≤ 64) : D.eqB d d = some true := by
  obtain ⟨p, a, b, c, e, f, g, i, j⟩ := h.ex
  have hs : SeqAt.shaped p = true := by
    unfold SeqAt.shaped
    rw [b, decide_eq_true (show p.depth ≤ 64 by omega)]
    rfl
  unfold D.eqB
  rw [a]
  simp only [Option.bind_some]
  rw [if_pos ⟨hs, hs⟩, j]
theorem eqC_self {d : D} {k w : Nat} (h : Sz d k w) (hk : k ≤ 64) : D.eqC d d = some true := by
  unfold D.eqC
  cases hz : D.strs d d with
  | none => exact eqB_self h hk
  | some p =>
    obtain ⟨h1, h2⟩ := strs_ok hz
    rw [h1] at h2
    injection h2 with h2
    simp only []
    rw [h2]
    simp
theorem eq_self {d : D} {k w : Nat} (h : Sz d k w) (hk : k ≤ 64) : D.eq d d = some (.cl (.bl true)) := by
  unfold D.eq
  rw [eqC_self h hk]
  rfl
theorem ne_self {d : D} {k w : Nat} (h : Sz d k w) (hk : k ≤ 64) : D.ne d d = some (.cl (.bl false)) := by
  unfold D.ne
  rw [eqC_self h hk]
  rfl
theorem eq_ss {a b : Str} : D.eq (.str a) (.str b) = some (.cl (.bl (a == b))) := rfl
theorem ne_ss {a b : Str} : D.ne (.str a) (.str b) = some (.cl (.bl (!(a == b)))) := rfl
@[simp] theorem ne_bb {a b : Bool} : D.ne (.bl a) (.bl b) = some (.cl (.bl (!decide (a = b)))) := by
  simp only [D.ne, D.eqC, D.strs, D.eqB, py, Option.bind_some, SeqAt.shaped, PyData.canLay0, PyData.depth, PyData.eqv]
  cases a <;> cases b <;> rfl
@[simp] theorem eq_bb {a b : Bool} : D.eq (.bl a) (.bl b) = some (.cl (.bl (decide (a = b)))) := by
  simp only [D.eq, D.eqC, D.strs, D.eqB, py, Option.bind_some, SeqAt.shaped, PyData.canLay0, PyData.depth, PyData.eqv]
  cases a <;> cases b <;> rfl
/-- == of tuples of ints -/
theorem eqvAll_ints : ∀ {a b : List Int}, PyData.eqvAll (a.map .int) (b.map .int) = decide (a = b)
  | [], [] => by simp [PyData.eqvAll]
  | [], y :: b => by simp [PyData.eqvAll]
  | x :: a, [] => by simp [PyData.eqvAll]
  | x :: a, y :: b => by
    simp only [List.map_cons, PyData.eqvAll, PyData.eqv, eqvAll_ints, List.cons.injEq]
    by_cases h : x = y <;> simp [h]
theorem pys_ints : ∀ {a : List Int}, pys (a.map .int) = some (a.map .int)
  | [] => rfl
  | x :: a => by
    rw [List.map_cons, pys, pys_ints, py]
    rfl
theorem canL_ints : ∀ {a : List Int}, PyData.canLayAll0 (a.map .int) = true
  | [] => by simp [PyData.canLayAll0]
  | x :: a => by simp [PyData.canLayAll0, PyData.canLay0, canL_ints]
theorem dep_ints : ∀ {a : List Int}, PyData.depthAll (a.map .int) = 0
  | [] => by simp [PyData.depthAll]
  | x :: a => by simp [PyData.depthAll, PyData.depth, dep_ints]
theorem shp_t {a : List Int} : SeqAt.shaped (.tuple (a.map .int)) = true := by simp [SeqAt.shaped, PyData.canLay0, PyData.depth, canL_ints, dep_ints]
theorem shp_l {a : List Int} : SeqAt.shaped (.list (a.map .int)) = true := by simp [SeqAt.shaped, PyData.canLay0, PyData.depth, canL_ints, dep_ints]
theorem eqC_ti {a b : List Int} : D.eqC (.tup (a.map .int)) (.tup (b.map .int)) = some (decide (a = b)) := by
  show D.eqB _ _ = _
  unfold D.eqB
  rw [py, py, pys_ints, pys_ints]
  simp only [Option.map_some, Option.bind_some]
  rw [if_pos ⟨shp_t, shp_t⟩, PyData.eqv, eqvAll_ints]
theorem eqC_li {a b : List Int} : D.eqC (.lst (a.map .int)) (.lst (b.map .int)) = some (decide (a = b)) := by
  show D.eqB _ _ = _
  unfold D.eqB
  rw [py, py, pys_ints, pys_ints]
  simp only [Option.map_some, Option.bind_some]
  rw [if_pos ⟨shp_l, shp_l⟩, PyData.eqv, eqvAll_ints]
theorem eq_ti {a b : List Int} : D.eq (.tup (a.map .int)) (.tup (b.map .int)) = some (.cl (.bl (decide (a = b)))) := by unfold D.eq; rw [eqC_ti]; rfl
theorem ne_ti {a b : List Int} : D.ne (.tup (a.map .int)) (.tup (b.map .int)) = some (.cl (.bl (!decide (a = b)))) := by unfold D.ne; rw [eqC_ti]; rfl
theorem eq_li {a b : List Int} : D.eq (.lst (a.map .int)) (.lst (b.map .int)) = some (.cl (.bl (decide (a = b)))) := by unfold D.eq; rw [eqC_li]; rfl
theorem ne_li {a b : List Int} : D.ne (.lst (a.map .int)) (.lst (b.map .int)) = some (.cl (.bl (!decide (a = b)))) := by unfold D.ne; rw [eqC_li]; rfl
theorem callFin_b {Γ : Gam} {k b : Bool} : callFin k (.ret (.cl (.bl b))) Γ = .ok (.cl (.bl b), Γ) := by
  cases k <;> rfl
end Mw
set_option Elab.async false
set_option linter.all false
set_option maxRecDepth 100000
/-! Mw: defs of unlike names stand apart -/
namespace Mw
open PySem PySem.Spec PyProof.Rows L2
theorem fun_ne {K : PySem.W.Frag} {x qual x' qual' : Str} {params params' : Arguments} {body body' : List Stmt} {scope scope' : Scope} {dvs dvs' : List V} {kws kws' : List (Str × V)} {f f' : Addr} {fd fd' : FuncData}
    (F : FunD K x qual params body scope dvs kws f fd) (F' : FunD K x' qual' params' body' scope' dvs' kws' f' fd') (h : x ≠ x') : f ≠ f' := by
  intro e
  subst e
  obtain ⟨oc, od, dV, kV, doc, pm, an, cdv, ct, osl, rfl, lk, _⟩ := F.ex
  obtain ⟨oc', od', dV', kV', doc', pm', an', cdv', ct', osl', rfl, lk', _⟩ := F'.ex
  rw [lk] at lk'
  injection lk' with lk'
  injection lk' with _ _ e _
  injection e with e
  exact h (congrArg FuncData.name e)
end Mw
set_option Elab.async false
set_option linter.all false
set_option maxRecDepth 100000
/-! k30: the plain law -/
namespace KM
structure Bd where
  lo : Int
  hi : Int
  sl : Option (Int × Int)
abbrev St3 := Int × Int × Int
def Bd.one (b : Bd) : Int := match b.sl with
  | none => 0
  | some _ => 1
def Bd.held (b : Bd) (L E : Int) : Bool := decide (L ≤ b.hi) && match b.sl with
  | none => true
  | some (p, _) => decide (E ≤ p)
def Bd.enough (b : Bd) (L E : Int) : Bool := decide (b.lo ≤ L) || match b.sl with
  | none => false
  | some (_, r) => decide (r ≤ E)
def Bd.filled (b : Bd) (s : St3) (x : Int) : St3 := if 0 < s.1 ∧ b.held (s.2.1 + x) (s.2.2 + b.one) = true then (s.1, s.2.1 + x, s.2.2 + b.one) else (s.1 + 1, x, b.one)
def Bd.closed (b : Bd) (s : St3) (x : Int) : St3 := if b.enough (s.2.1 + x) (s.2.2 + b.one) = true then (s.1 + 1, 0, 0) else (s.1, s.2.1 + x, s.2.2 + b.one)
def ahead (s t : St3) : Bool := decide (t.1 < s.1) || (decide (s.1 = t.1) && (decide (t.2.1 ≤ s.2.1) && decide (t.2.2 ≤ s.2.2)))
def Ah (s t : St3) : Prop := t.1 < s.1 ∨ (s.1 = t.1 ∧ t.2.1 ≤ s.2.1 ∧ t.2.2 ≤ s.2.2)
theorem ahead_iff {s t : St3} : ahead s t = true ↔ Ah s t := by simp [ahead, Ah]
structure Nn (s : St3) : Prop where
  p : 0 ≤ s.1
  l : 0 ≤ s.2.1
  e : 0 ≤ s.2.2
theorem Ah.refl (s : St3) : Ah s s := .inr ⟨rfl, Int.le_refl _, Int.le_refl _⟩
theorem one_nn (b : Bd) : 0 ≤ b.one := by unfold Bd.one; split <;> omega
theorem held_mono {b : Bd} {L E L' E' : Int} (h1 : L ≤ L') (h2 : E ≤ E') (h : b.held L' E' = true) : b.held L E = true := by
  obtain ⟨lo, hi, sl⟩ := b
  unfold Bd.held at h ⊢
  rcases sl with _ | ⟨p, r⟩
  · simp only [Bool.and_true, decide_eq_true_eq] at h ⊢
    omega
  · simp only [Bool.and_eq_true, decide_eq_true_eq] at h ⊢
    omega
theorem enough_mono {b : Bd} {L E L' E' : Int} (h1 : L ≤ L') (h2 : E ≤ E') (h : b.enough L E = true) : b.enough L' E' = true := by
  obtain ⟨lo, hi, sl⟩ := b
  unfold Bd.enough at h ⊢
  rcases sl with _ | ⟨p, r⟩
  · simp only [Bool.or_false, decide_eq_true_eq] at h ⊢
    omega
  · simp only [Bool.or_eq_true, decide_eq_true_eq] at h ⊢
    omega
theorem nn_filled {b : Bd} {s : St3} {x : Int} (h : Nn s) (hx : 0 ≤ x) : Nn (b.filled s x) := by
  have h1 := one_nn b
  obtain ⟨a, c, d⟩ := h
  unfold Bd.filled
  split
  · exact ⟨a, by show 0 ≤ s.2.1 + x; omega, by show 0 ≤ s.2.2 + b.one; omega⟩
  · exact ⟨by show 0 ≤ s.1 + 1; omega, hx, h1⟩
theorem nn_closed {b : Bd} {s : St3} {x : Int} (h : Nn s) (hx : 0 ≤ x) : Nn (b.closed s x) := by
  have h1 := one_nn b
  obtain ⟨a, c, d⟩ := h
  unfold Bd.closed
  split
  · exact ⟨by show 0 ≤ s.1 + 1; omega, Int.le_refl _, Int.le_refl _⟩
  · exact ⟨a, by show 0 ≤ s.2.1 + x; omega, by show 0 ≤ s.2.2 + b.one; omega⟩
theorem mono_filled {b : Bd} {s t : St3} {x : Int} (hs : Nn s) (ht : Nn t) (hx : 0 ≤ x) (h : Ah s t) : Ah (b.filled s x) (b.filled t x) := by
  have h1 := one_nn b
  obtain ⟨P, L, E⟩ := s
  obtain ⟨P', L', E'⟩ := t
  obtain ⟨a1, a2, a3⟩ := hs
  obtain ⟨b1, b2, b3⟩ := ht
  have h : P' < P ∨ (P = P' ∧ L' ≤ L ∧ E' ≤ E) := h
  have a1 : 0 ≤ P := a1
  have a2 : 0 ≤ L := a2
  have a3 : 0 ≤ E := a3
  have b1 : 0 ≤ P' := b1
  have b2 : 0 ≤ L' := b2
  have b3 : 0 ≤ E' := b3
  show Ah (if 0 < P ∧ b.held (L + x) (E + b.one) = true then (P, L + x, E + b.one) else (P + 1, x, b.one)) (if 0 < P' ∧ b.held (L' + x) (E' + b.one) = true then (P', L' + x, E' + b.one) else (P' + 1, x, b.one))
  by_cases c1 : 0 < P ∧ b.held (L + x) (E + b.one) = true
  · rw [if_pos c1]
    by_cases c2 : 0 < P' ∧ b.held (L' + x) (E' + b.one) = true
    · rw [if_pos c2]
      show P' < P ∨ (P = P' ∧ L' + x ≤ L + x ∧ E' + b.one ≤ E + b.one)
      omega
    · rw [if_neg c2]
      show P' + 1 < P ∨ (P = P' + 1 ∧ x ≤ L + x ∧ b.one ≤ E + b.one)
      rcases h with h | ⟨h, h2, h3⟩
      · omega
      · exact absurd ⟨by omega, held_mono (by omega) (by omega) c1.2⟩ c2
  · rw [if_neg c1]
    by_cases c2 : 0 < P' ∧ b.held (L' + x) (E' + b.one) = true
    · rw [if_pos c2]
      show P' < P + 1 ∨ _
      omega
    · rw [if_neg c2]
      show P' + 1 < P + 1 ∨ (P + 1 = P' + 1 ∧ x ≤ x ∧ b.one ≤ b.one)
      omega
theorem mono_closed {b : Bd} {s t : St3} {x : Int} (hs : Nn s) (ht : Nn t) (hx : 0 ≤ x) (h : Ah s t) : Ah (b.closed s x) (b.closed t x) := by
  have h1 := one_nn b
  obtain ⟨P, L, E⟩ := s
  obtain ⟨P', L', E'⟩ := t
  obtain ⟨a1, a2, a3⟩ := hs
  obtain ⟨b1, b2, b3⟩ := ht
  have h : P' < P ∨ (P = P' ∧ L' ≤ L ∧ E' ≤ E) := h
  have a1 : 0 ≤ P := a1
  have a2 : 0 ≤ L := a2
  have a3 : 0 ≤ E := a3
  have b1 : 0 ≤ P' := b1
  have b2 : 0 ≤ L' := b2
  have b3 : 0 ≤ E' := b3
  show Ah (if b.enough (L + x) (E + b.one) = true then (P + 1, 0, 0) else (P, L + x, E + b.one)) (if b.enough (L' + x) (E' + b.one) = true then (P' + 1, 0, 0) else (P', L' + x, E' + b.one))
  by_cases c1 : b.enough (L + x) (E + b.one) = true
  · rw [if_pos c1]
    by_cases c2 : b.enough (L' + x) (E' + b.one) = true
    · rw [if_pos c2]
      show P' + 1 < P + 1 ∨ (P + 1 = P' + 1 ∧ (0 : Int) ≤ 0 ∧ (0 : Int) ≤ 0)
      omega
    · rw [if_neg c2]
      show P' < P + 1 ∨ _
      omega
  · rw [if_neg c1]
    by_cases c2 : b.enough (L' + x) (E' + b.one) = true
    · rw [if_pos c2]
      show P' + 1 < P ∨ (P = P' + 1 ∧ 0 ≤ L + x ∧ 0 ≤ E + b.one)
      rcases h with h | ⟨h, h2, h3⟩
      · omega
      · exact absurd (enough_mono (by omega) (by omega) c2) c1
    · rw [if_neg c2]
      show P' < P ∨ (P = P' ∧ L' + x ≤ L + x ∧ E' + b.one ≤ E + b.one)
      omega
/-! ### words -/
abbrev Pos (w : List Int) : Prop := ∀ x ∈ w, 0 ≤ x
def full (b : Bd) (s : St3) (w : List Int) : St3 := w.foldl b.filled s
def soon (b : Bd) (s : St3) (w : List Int) : St3 := w.foldl b.closed s
theorem nn_full {b : Bd} : ∀ {w : List Int} {s : St3}, Nn s → Pos w → Nn (full b s w)
  | [], _, h, _ => h
  | x :: w, s, h, hp => nn_full (w := w) (nn_filled h (hp x List.mem_cons_self)) fun y hy => hp y (List.mem_cons_of_mem _ hy)
theorem nn_soon {b : Bd} : ∀ {w : List Int} {s : St3}, Nn s → Pos w → Nn (soon b s w)
  | [], _, h, _ => h
  | x :: w, s, h, hp => nn_soon (w := w) (nn_closed h (hp x List.mem_cons_self)) fun y hy => hp y (List.mem_cons_of_mem _ hy)
theorem mono_full {b : Bd} : ∀ {w : List Int} {s t : St3}, Nn s → Nn t → Pos w → Ah s t → Ah (full b s w) (full b t w)
  | [], _, _, _, _, _, h => h
  | x :: w, s, t, hs, ht, hp, h => by
    have hx := hp x List.mem_cons_self
    exact mono_full (w := w) (nn_filled hs hx) (nn_filled ht hx) (fun y hy => hp y (List.mem_cons_of_mem _ hy)) (mono_filled hs ht hx h)
theorem mono_soon {b : Bd} : ∀ {w : List Int} {s t : St3}, Nn s → Nn t → Pos w → Ah s t → Ah (soon b s w) (soon b t w)
  | [], _, _, _, _, _, h => h
  | x :: w, s, t, hs, ht, hp, h => by
    have hx := hp x List.mem_cons_self
    exact mono_soon (w := w) (nn_closed hs hx) (nn_closed ht hx) (fun y hy => hp y (List.mem_cons_of_mem _ hy)) (mono_closed hs ht hx h)
theorem Ah.pg {s t : St3} (h : Ah s t) : t.1 ≤ s.1 := by
  rcases h with h | ⟨h, _⟩
  · omega
  · omega
theorem full_append {b : Bd} {s : St3} {u v : List Int} : full b s (u ++ v) = full b (full b s u) v := List.foldl_append ..
theorem soon_append {b : Bd} {s : St3} {u v : List Int} : soon b s (u ++ v) = soon b (soon b s u) v := List.foldl_append ..
/-- more pages before -/
theorem shift_filled {b : Bd} {P L E c x : Int} (hP : 0 < P) (hc : 0 ≤ c) : b.filled (P + c, L, E) x = ((b.filled (P, L, E) x).1 + c, (b.filled (P, L, E) x).2) ∧ 0 < (b.filled (P, L, E) x).1 := by
  unfold Bd.filled
  by_cases h : b.held (L + x) (E + b.one) = true
  · rw [if_pos ⟨by show 0 < P + c; omega, h⟩, if_pos ⟨hP, h⟩]
    exact ⟨rfl, hP⟩
  · rw [if_neg fun z => h z.2, if_neg fun z => h z.2]
    exact ⟨by show (P + c + 1, x, b.one) = (P + 1 + c, x, b.one); rw [show P + c + 1 = P + 1 + c by omega], by show 0 < P + 1; omega⟩
theorem shift_full {b : Bd} {c : Int} (hc : 0 ≤ c) : ∀ {w : List Int} {P L E : Int}, 0 < P → (full b (P + c, L, E) w).1 = (full b (P, L, E) w).1 + c
  | [], _, _, _, _ => rfl
  | x :: w, P, L, E, hP => by
    obtain ⟨e, h⟩ := shift_filled (b := b) (L := L) (E := E) (x := x) hP hc
    show (full b (b.filled (P + c, L, E) x) w).1 = (full b (b.filled (P, L, E) x) w).1 + c
    rw [e]
    generalize b.filled (P, L, E) x = s at h ⊢
    obtain ⟨P', L', E'⟩ := s
    exact shift_full hc (w := w) h
/-- pages of a word, filled -/
def G (b : Bd) (w : List Int) : Int := (full b (0, 0, 0) w).1
def n1 (b : Bd) (w : List Int) : Int := b.one * (w.length : Int)
theorem first {b : Bd} {x : Int} : b.filled (0, 0, 0) x = (1, x, b.one) := by
  unfold Bd.filled
  rw [if_neg fun z => absurd z.1 (by decide)]
  rfl
/-- a page that is open takes up to some place, and the rest is filled anew -/
theorem greedy_has {b : Bd} : ∀ (w : List Int) (S E : Int), ∃ j, j ≤ w.length ∧ (∀ i, 1 ≤ i → i ≤ j → b.held (S + (w.take i).sum) (E + n1 b (w.take i)) = true) ∧ (full b (1, S, E) w).1 = 1 + G b (w.drop j)
  | [], S, E => ⟨0, Nat.le_refl _, fun i h1 h2 => by omega, rfl⟩
  | y :: w, S, E => by
    by_cases h : b.held (S + y) (E + b.one) = true
    · obtain ⟨j, j1, j2, j3⟩ := greedy_has (b := b) w (S + y) (E + b.one)
      refine ⟨j + 1, by simpa using j1, fun i h1 h2 => ?_, ?_⟩
      · obtain ⟨k, rfl⟩ : ∃ k, i = k + 1 := ⟨i - 1, by omega⟩
        by_cases hk : k = 0
        · subst hk
          have : n1 b ((y :: w).take 1) = b.one := by simp [n1]
          rw [this]
          simpa using h
        · have z := j2 k (by omega) (by omega)
          have e1 : S + ((y :: w).take (k + 1)).sum = S + y + (w.take k).sum := by
            rw [List.take_succ_cons, List.sum_cons]; omega
          have e2 : E + n1 b ((y :: w).take (k + 1)) = E + b.one + n1 b (w.take k) := by
            unfold n1
            rw [List.take_succ_cons, List.length_cons]
            push_cast
            rw [Int.mul_add, Int.mul_one]
            omega
          rw [e1, e2]
          exact z
      · show (full b (b.filled (1, S, E) y) w).1 = _
        have : b.filled (1, S, E) y = (1, S + y, E + b.one) := by
          unfold Bd.filled
          rw [if_pos ⟨(show (0 : Int) < 1 by decide), h⟩]
        rw [this, j3]
        rfl
    · refine ⟨0, Nat.zero_le _, fun i h1 h2 => by omega, ?_⟩
      show (full b (b.filled (1, S, E) y) w).1 = 1 + (full b (b.filled (0, 0, 0) y) w).1
      have : b.filled (1, S, E) y = (1 + 1, y, b.one) := by
        unfold Bd.filled
        rw [if_neg fun z => h z.2]
      rw [this, first, shift_full (by decide) (by decide)]
      omega
/-- no cut does better -/
theorem greedy_le {b : Bd} : ∀ (k : Nat) (w : List Int) (S E : Int), k ≤ w.length → 0 ≤ S → 0 ≤ E → Pos w → (∀ i, 1 ≤ i → i ≤ k → b.held (S + (w.take i).sum) (E + n1 b (w.take i)) = true) → (full b (1, S, E) w).1 ≤ 1 + G b (w.drop k)
  | 0, [], S, E, _, _, _, _, _ => by simp [full, G]
  | 0, y :: w, S, E, _, hS, hE, hp, _ => by
    have h1 := one_nn b
    have hy := hp y List.mem_cons_self
    show (full b (b.filled (1, S, E) y) w).1 ≤ 1 + (full b (b.filled (0, 0, 0) y) w).1
    rw [first, show 1 + (full b (1, y, b.one) w).1 = (full b (1 + 1, y, b.one) w).1 by rw [shift_full (by decide) (by decide)]; omega]
    refine Ah.pg (mono_full ⟨by show (0 : Int) ≤ 1 + 1; decide, hy, h1⟩ (nn_filled ⟨by show (0 : Int) ≤ 1; decide, hS, hE⟩ hy) (fun z hz => hp z (List.mem_cons_of_mem _ hz)) ?_)
    unfold Bd.filled
    split
    · exact .inl (by show (1 : Int) < 1 + 1; decide)
    · exact .inr ⟨rfl, Int.le_refl _, Int.le_refl _⟩
  | k + 1, [], _, _, h, _, _, _, _ => by simp at h
  | k + 1, y :: w, S, E, hk, hS, hE, hp, hh => by
    have h1 := one_nn b
    have hy := hp y List.mem_cons_self
    have h0 : b.held (S + y) (E + b.one) = true := by
      have z := hh 1 (Nat.le_refl _) (by omega)
      have : n1 b ((y :: w).take 1) = b.one := by simp [n1]
      rw [this] at z
      simpa using z
    show (full b (b.filled (1, S, E) y) w).1 ≤ _
    have : b.filled (1, S, E) y = (1, S + y, E + b.one) := by
      unfold Bd.filled
      rw [if_pos ⟨(show (0 : Int) < 1 by decide), h0⟩]
    rw [this]
    refine greedy_le k w (S + y) (E + b.one) (by simpa using hk) (by omega) (by omega) (fun z hz => hp z (List.mem_cons_of_mem _ hz)) fun i i1 i2 => ?_
    have z := hh (i + 1) (by omega) (by omega)
    have e1 : S + ((y :: w).take (i + 1)).sum = S + y + (w.take i).sum := by
      rw [List.take_succ_cons, List.sum_cons]; omega
    have e2 : E + n1 b ((y :: w).take (i + 1)) = E + b.one + n1 b (w.take i) := by
      unfold n1
      rw [List.take_succ_cons, List.length_cons]
      push_cast
      rw [Int.mul_add, Int.mul_one]
      omega
    rw [e1, e2] at z
    exact z
/-- the word as a page -/
def heldW (b : Bd) (u : List Int) : Bool := b.held u.sum (u.length : Int)
def enoughW (b : Bd) (u : List Int) : Bool := b.enough u.sum (u.length : Int)
theorem held_n1 {b : Bd} {u : List Int} : b.held u.sum (n1 b u) = heldW b u := by
  obtain ⟨lo, hi, sl⟩ := b
  unfold heldW Bd.held n1 Bd.one
  cases sl with
  | none => rfl
  | some p => simp
theorem enough_n1 {b : Bd} {u : List Int} : b.enough u.sum (n1 b u) = enoughW b u := by
  obtain ⟨lo, hi, sl⟩ := b
  unfold enoughW Bd.enough n1 Bd.one
  cases sl with
  | none => rfl
  | some p => simp
theorem held_x {b : Bd} {x : Int} {w : List Int} {i : Nat} : b.held (x + (w.take i).sum) (b.one + n1 b (w.take i)) = heldW b ((x :: w).take (i + 1)) := by
  rw [← held_n1]
  congr 1
  unfold n1
  rw [List.take_succ_cons, List.length_cons]
  push_cast
  rw [Int.mul_add, Int.mul_one]
  omega
/-- the least over the first cuts -/
theorem G_le {b : Bd} {x : Int} {w : List Int} (hp : Pos (x :: w)) {k : Nat} (hk : k ≤ w.length) (h : ∀ i, 1 ≤ i → i ≤ k + 1 → heldW b ((x :: w).take i) = true) : G b (x :: w) ≤ 1 + G b ((x :: w).drop (k + 1)) := by
  show (full b (b.filled (0, 0, 0) x) w).1 ≤ _
  rw [first]
  refine greedy_le k w x b.one hk (hp x List.mem_cons_self) (one_nn b) (fun z hz => hp z (List.mem_cons_of_mem _ hz)) fun i i1 i2 => ?_
  rw [held_x]
  exact h (i + 1) (by omega) (by omega)
theorem G_has {b : Bd} {x : Int} {w : List Int} (h0 : heldW b [x] = true) : ∃ k, k ≤ w.length ∧ (∀ i, 1 ≤ i → i ≤ k + 1 → heldW b ((x :: w).take i) = true) ∧ G b (x :: w) = 1 + G b ((x :: w).drop (k + 1)) := by
  obtain ⟨j, j1, j2, j3⟩ := greedy_has (b := b) w x b.one
  refine ⟨j, j1, fun i i1 i2 => ?_, ?_⟩
  · obtain ⟨i', rfl⟩ : ∃ k, i = k + 1 := ⟨i - 1, by omega⟩
    by_cases hi : i' = 0
    · subst hi; simpa using h0
    · rw [← held_x]
      exact j2 i' (by omega) (by omega)
  · show (full b (b.filled (0, 0, 0) x) w).1 = _
    rw [first, j3]
    rfl
/-! ### closed as soon as can be -/
def S (b : Bd) (w : List Int) : Int := (soon b (0, 0, 0) w).1
theorem soon_ge {b : Bd} : ∀ (u : List Int) (P L E : Int), 0 ≤ P → 0 ≤ L → 0 ≤ E → Pos u → u ≠ [] → b.enough (L + u.sum) (E + n1 b u) = true → P + 1 ≤ (soon b (P, L, E) u).1
  | [], _, _, _, _, _, _, _, h, _ => absurd rfl h
  | x :: u, P, L, E, hP, hL, hE, hp, _, h => by
    have h1 := one_nn b
    have hx := hp x List.mem_cons_self
    have hu : Pos u := fun z hz => hp z (List.mem_cons_of_mem _ hz)
    show P + 1 ≤ (soon b (b.closed (P, L, E) x) u).1
    by_cases c : b.enough (L + x) (E + b.one) = true
    · have : b.closed (P, L, E) x = (P + 1, 0, 0) := by unfold Bd.closed; rw [if_pos c]
      rw [this]
      -- pages never fall
      have up : ∀ (v : List Int) (s : St3), s.1 ≤ (soon b s v).1 := by
        intro v
        induction v with
        | nil => intro s; exact Int.le_refl _
        | cons y v ih =>
          intro s
          refine Int.le_trans ?_ (ih (b.closed s y))
          unfold Bd.closed
          split
          · show s.1 ≤ s.1 + 1; omega
          · exact Int.le_refl _
      exact up u (P + 1, 0, 0)
    · have : b.closed (P, L, E) x = (P, L + x, E + b.one) := by unfold Bd.closed; rw [if_neg c]
      rw [this]
      have hn : u ≠ [] := fun z => c (by
        subst z
        have e : n1 b [x] = b.one := by simp [n1]
        rw [e] at h
        simpa using h)
      refine soon_ge u P (L + x) (E + b.one) hP (by omega) (by omega) hu hn ?_
      have e1 : L + (x :: u).sum = L + x + u.sum := by rw [List.sum_cons]; omega
      have e2 : E + n1 b (x :: u) = E + b.one + n1 b u := by
        unfold n1
        rw [List.length_cons]
        push_cast
        rw [Int.mul_add, Int.mul_one]
        omega
      rw [e1, e2] at h
      exact h
theorem S_ge {b : Bd} {u v : List Int} (hp : Pos (u ++ v)) (hv : v ≠ []) (h : enoughW b v = true) : S b u + 1 ≤ S b (u ++ v) := by
  have hu : Pos u := fun z hz => hp z (List.mem_append_left _ hz)
  have hv' : Pos v := fun z hz => hp z (List.mem_append_right _ hz)
  have n0 : Nn (0, 0, 0) := ⟨Int.le_refl _, Int.le_refl _, Int.le_refl _⟩
  have nu := nn_soon (b := b) n0 hu
  unfold S
  rw [soon_append]
  have k1 := soon_ge (b := b) v (soon b (0, 0, 0) u).1 0 0 nu.p (Int.le_refl _) (Int.le_refl _) hv' hv (by rw [Int.zero_add, Int.zero_add, enough_n1]; exact h)
  refine Int.le_trans k1 (Ah.pg (mono_soon nu ⟨nu.p, Int.le_refl _, Int.le_refl _⟩ hv' (.inr ⟨rfl, nu.l, nu.e⟩)))
theorem S_up {b : Bd} {u v : List Int} : S b u ≤ S b (u ++ v) := by
  have up : ∀ (v : List Int) (s : St3), s.1 ≤ (soon b s v).1 := by
    intro v
    induction v with
    | nil => intro s; exact Int.le_refl _
    | cons y v ih =>
      intro s
      refine Int.le_trans ?_ (ih (b.closed s y))
      unfold Bd.closed
      split
      · show s.1 ≤ s.1 + 1; omega
      · exact Int.le_refl _
  unfold S
  rw [soon_append]
  exact up v _
/-- the open rest is a word's end -/
theorem soon_rest {b : Bd} (w : List Int) : ∃ u v, w = u ++ v ∧ soon b (0, 0, 0) w = (S b u, v.sum, n1 b v) ∧ S b w = S b u := by
  suffices h : ∀ (n : Nat) (w : List Int), w.length = n → ∃ u v, w = u ++ v ∧ soon b (0, 0, 0) w = (S b u, v.sum, n1 b v) ∧ S b w = S b u from h _ w rfl
  intro n
  induction n with
  | zero =>
    intro w hw
    have : w = [] := List.length_eq_zero_iff.mp hw
    subst this
    exact ⟨[], [], rfl, by simp [soon, S, n1], rfl⟩
  | succ n ih =>
    intro w hw
    have hne : w ≠ [] := fun z => by rw [z] at hw; simp at hw
    obtain ⟨w', x, rfl⟩ : ∃ w' x, w = w' ++ [x] := ⟨w.dropLast, w.getLast hne, (List.dropLast_concat_getLast hne).symm⟩
    obtain ⟨u, v, e1, e2, e3⟩ := ih w' (by simpa using hw)
    have e4 : soon b (0, 0, 0) (w' ++ [x]) = b.closed (S b u, v.sum, n1 b v) x := by
      rw [soon_append, e2]
      rfl
    by_cases c : b.enough (v.sum + x) (n1 b v + b.one) = true
    · refine ⟨w' ++ [x], [], by simp, ?_, rfl⟩
      have e5 : b.closed (S b u, v.sum, n1 b v) x = (S b u + 1, 0, 0) := by unfold Bd.closed; rw [if_pos c]
      have e6 : S b (w' ++ [x]) = S b u + 1 := by
        show (soon b (0, 0, 0) (w' ++ [x])).1 = _
        rw [e4, e5]
      rw [e4, e5, e6]
      simp [n1]
    · refine ⟨u, v ++ [x], by rw [e1]; simp, ?_, ?_⟩
      · rw [e4]
        unfold Bd.closed
        rw [if_neg c]
        have : n1 b (v ++ [x]) = n1 b v + b.one := by
          unfold n1
          rw [List.length_append]
          push_cast
          rw [Int.mul_add]
          simp
        rw [this, List.sum_append]
        simp
      · show (soon b (0, 0, 0) (w' ++ [x])).1 = _
        rw [e4]
        unfold Bd.closed
        rw [if_neg c]
/-- closed now, or as before -/
theorem S_snoc {b : Bd} (w : List Int) (x : Int) : S b (w ++ [x]) = S b w ∨ ∃ u v, w ++ [x] = u ++ v ∧ v ≠ [] ∧ enoughW b v = true ∧ S b (w ++ [x]) = S b u + 1 := by
  obtain ⟨u, v, e1, e2, e3⟩ := soon_rest (b := b) w
  have e4 : soon b (0, 0, 0) (w ++ [x]) = b.closed (S b u, v.sum, n1 b v) x := by
    rw [soon_append, e2]
    rfl
  by_cases c : b.enough (v.sum + x) (n1 b v + b.one) = true
  · refine .inr ⟨u, v ++ [x], by rw [e1]; simp, by simp, ?_, ?_⟩
    · rw [← enough_n1]
      have : n1 b (v ++ [x]) = n1 b v + b.one := by
        unfold n1
        rw [List.length_append]
        push_cast
        rw [Int.mul_add]
        simp
      rw [this, List.sum_append]
      simpa using c
    · unfold S
      rw [e4]
      unfold Bd.closed
      rw [if_pos c]
      rfl
  · left
    rw [e3]
    unfold S
    rw [e4]
    unfold Bd.closed
    rw [if_neg c]
    rfl
end KM
set_option Elab.async false
set_option linter.all false
set_option maxRecDepth 100000
/-! k30: the least and the greatest over cuts -/
namespace KM
open Mw
/-- how many of the next entries go on the page -/
def cnt (b : Bd) : Int → Int → List Int → Nat
  | _, _, [] => 0
  | S, E, x :: u => if b.held (S + x) (E + 1) = true then cnt b (S + x) (E + 1) u + 1 else 0
theorem cnt_le {b : Bd} : ∀ {u : List Int} {S E : Int}, cnt b S E u ≤ u.length
  | [], _, _ => Nat.le_refl _
  | x :: u, S, E => by
    unfold cnt
    split
    · exact Nat.succ_le_succ cnt_le
    · exact Nat.zero_le _
theorem cnt_held {b : Bd} : ∀ {u : List Int} {S E : Int} {i : Nat}, 1 ≤ i → i ≤ cnt b S E u → b.held (S + (u.take i).sum) (E + (i : Int)) = true
  | [], _, _, i, h1, h2 => by simp [cnt] at h2; omega
  | x :: u, S, E, i, h1, h2 => by
    unfold cnt at h2
    split at h2
    · rename_i h
      obtain ⟨k, rfl⟩ : ∃ k, i = k + 1 := ⟨i - 1, by omega⟩
      by_cases hk : k = 0
      · subst hk
        simpa using h
      · have z := cnt_held (b := b) (u := u) (S := S + x) (E := E + 1) (i := k) (by omega) (by omega)
        have e1 : S + ((x :: u).take (k + 1)).sum = S + x + (u.take k).sum := by rw [List.take_succ_cons, List.sum_cons]; omega
        have e2 : E + ((k + 1 : Nat) : Int) = E + 1 + (k : Int) := by omega
        rw [e1, e2]
        exact z
    · omega
theorem cnt_max {b : Bd} : ∀ {u : List Int} {S E : Int} {k : Nat}, k ≤ u.length → (∀ i : Nat, 1 ≤ i → i ≤ k → b.held (S + (u.take i).sum) (E + (i : Int)) = true) → k ≤ cnt b S E u
  | [], _, _, k, h, _ => h
  | x :: u, S, E, 0, _, _ => Nat.zero_le _
  | x :: u, S, E, k + 1, h, hh => by
    have h0 := hh 1 (Nat.le_refl _) (by omega)
    have h0' : b.held (S + x) (E + 1) = true := by simpa using h0
    unfold cnt
    rw [if_pos h0']
    refine Nat.succ_le_succ (cnt_max (by simpa using h) fun i i1 i2 => ?_)
    have z := hh (i + 1) (by omega) (by omega)
    have e1 : S + ((x :: u).take (i + 1)).sum = S + x + (u.take i).sum := by rw [List.take_succ_cons, List.sum_cons]; omega
    have e2 : E + ((i + 1 : Nat) : Int) = E + 1 + (i : Int) := by omega
    rw [e1, e2] at z
    exact z
theorem held_take {b : Bd} {u : List Int} {i : Nat} (hi : i ≤ u.length) : heldW b (u.take i) = b.held (0 + (u.take i).sum) (0 + (i : Int)) := by
  unfold heldW
  rw [List.length_take, Nat.min_eq_left hi, Int.zero_add, Int.zero_add]
theorem minO_of {l : List Int} {m : Int} (hm : m ∈ l) (h : ∀ x ∈ l, m ≤ x) : minO l = some m := by
  cases l with
  | nil => simp at hm
  | cons a r =>
    show some (minL a r) = some m
    have h1 := minL_le r a m hm
    have h2 := h _ (minL_mem r a)
    rw [show minL a r = m by omega]
theorem maxO_of {l : List Int} {m : Int} (hm : m ∈ l) (h : ∀ x ∈ l, x ≤ m) : maxO l = some m := by
  cases l with
  | nil => simp at hm
  | cons a r =>
    show some (maxL a r) = some m
    have h1 := le_maxL r a m hm
    have h2 := h _ (maxL_mem r a)
    rw [show maxL a r = m by omega]
theorem few_min {b : Bd} {x : Int} {w : List Int} (hp : Pos (x :: w)) (h0 : heldW b [x] = true) :
    minO ((List.range (cnt b 0 0 (x :: w))).map fun j => G b ((x :: w).drop (j + 1))) = some (G b (x :: w) - 1) := by
  refine minO_of ?_ fun y hy => ?_
  · obtain ⟨k, k1, k2, k3⟩ := G_has (b := b) (w := w) h0
    refine List.mem_map.mpr ⟨k, List.mem_range.mpr (cnt_max (by simpa using k1) fun i i1 i2 => ?_), by omega⟩
    rw [← held_take (by simp; omega)]
    exact k2 i i1 i2
  · obtain ⟨k, hk, rfl⟩ := List.mem_map.mp hy
    have hk := List.mem_range.mp hk
    have hl := cnt_le (b := b) (u := x :: w) (S := 0) (E := 0)
    have hl' : cnt b 0 0 (x :: w) ≤ w.length + 1 := by simpa using hl
    have z := G_le (b := b) hp (k := k) (by omega) fun i i1 i2 => by
      rw [held_take (by simp; omega)]
      exact cnt_held i1 (by omega)
    omega
/-- the pages closed so far: over all cuts behind which enough lies -/
theorem most_max {b : Bd} {w : List Int} {x : Int} (hp : Pos (w ++ [x])) :
    maxO ((((List.range (w.length + 1)).filter fun k => enoughW b ((w ++ [x]).drop k)).map fun k => S b (w.take k) + 1) ++ [S b w]) = some (S b (w ++ [x])) := by
  refine maxO_of ?_ fun y hy => ?_
  · rcases S_snoc (b := b) w x with h | ⟨u, v, e, hv, he, hs⟩
    · rw [h]; simp
    · refine List.mem_append_left _ (List.mem_map.mpr ⟨u.length, List.mem_filter.mpr ⟨List.mem_range.mpr ?_, ?_⟩, ?_⟩)
      · have q := congrArg List.length e
        simp at q
        have : 0 < v.length := List.length_pos_iff.mpr hv
        omega
      · rw [e, List.drop_left]
        exact he
      · have hul : u.length ≤ w.length := by
          have q := congrArg List.length e
          simp at q
          have : 0 < v.length := List.length_pos_iff.mpr hv
          omega
        have : w.take u.length = u := by
          have q : (w ++ [x]).take u.length = u := by rw [e, List.take_left]
          rw [List.take_append_of_le_length hul] at q
          exact q
        rw [this, hs]
  · rcases List.mem_append.mp hy with h | h
    · obtain ⟨k, hk, rfl⟩ := List.mem_map.mp h
      obtain ⟨k1, k2⟩ := List.mem_filter.mp hk
      have k1 := List.mem_range.mp k1
      have e : w ++ [x] = w.take k ++ (w ++ [x]).drop k := by
        have q := List.take_append_drop k (w ++ [x])
        rw [List.take_append_of_le_length (by omega)] at q
        exact q.symm
      have hne : (w ++ [x]).drop k ≠ [] := by
        intro z
        have q := congrArg List.length z
        rw [List.length_drop] at q
        simp at q
        omega
      have z := S_ge (b := b) (u := w.take k) (v := (w ++ [x]).drop k) (by rw [← e]; exact hp) hne k2
      rw [← e] at z
      exact z
    · have : y = S b w := by simpa using h
      rw [this]
      exact S_up
/-- bounds of both -/
theorem full_len {b : Bd} : ∀ {w : List Int} {s : St3}, (full b s w).1 ≤ s.1 + w.length ∧ s.1 ≤ (full b s w).1
  | [], s => by simp [full]
  | x :: w, s => by
    have z := full_len (b := b) (w := w) (s := b.filled s x)
    have q : (b.filled s x).1 ≤ s.1 + 1 ∧ s.1 ≤ (b.filled s x).1 := by
      unfold Bd.filled
      split
      · show s.1 ≤ s.1 + 1 ∧ s.1 ≤ s.1; omega
      · show s.1 + 1 ≤ s.1 + 1 ∧ s.1 ≤ s.1 + 1; omega
    show (full b (b.filled s x) w).1 ≤ s.1 + ((w.length + 1 : Nat) : Int) ∧ s.1 ≤ (full b (b.filled s x) w).1
    omega
theorem soon_len {b : Bd} : ∀ {w : List Int} {s : St3}, (soon b s w).1 ≤ s.1 + w.length ∧ s.1 ≤ (soon b s w).1
  | [], s => by simp [soon]
  | x :: w, s => by
    have z := soon_len (b := b) (w := w) (s := b.closed s x)
    have q : (b.closed s x).1 ≤ s.1 + 1 ∧ s.1 ≤ (b.closed s x).1 := by
      unfold Bd.closed
      split
      · show s.1 + 1 ≤ s.1 + 1 ∧ s.1 ≤ s.1 + 1; omega
      · show s.1 ≤ s.1 + 1 ∧ s.1 ≤ s.1; omega
    show (soon b (b.closed s x) w).1 ≤ s.1 + ((w.length + 1 : Nat) : Int) ∧ s.1 ≤ (soon b (b.closed s x) w).1
    omega
theorem G_bd {b : Bd} {w : List Int} : 0 ≤ G b w ∧ G b w ≤ w.length := by
  have z := full_len (b := b) (w := w) (s := (0, 0, 0))
  have z' : G b w ≤ 0 + (w.length : Int) ∧ 0 ≤ G b w := z
  omega
theorem S_bd {b : Bd} {w : List Int} : 0 ≤ S b w ∧ S b w ≤ w.length := by
  have z := soon_len (b := b) (w := w) (s := (0, 0, 0))
  have z' : S b w ≤ 0 + (w.length : Int) ∧ 0 ≤ S b w := z
  omega
end KM
set_option Elab.async false
set_option linter.all false
set_option maxRecDepth 100000
set_option maxHeartbeats 4000000
namespace G
open PySem PySem.Spec PyProof.Rows L2 Mw LamX
def top (i : Nat) : Stmt := PySem.Challenge.pw_pagebooks_k30_readers_fill_and_close.main.body.getD i (.Pass ⟨0, 0, 0, 0⟩)
abbrev s_is_integer : Stmt := top 6
def d_is_integer : He.DefD := ⟨("is_integer", none), "is_integer", "is_integer", defArgs s_is_integer, defBody s_is_integer, defScope s_is_integer, [], []⟩
abbrev N_is_integer : List PySem.Str := ["thing"]
theorem sc_is_integer : FnScope N_is_integer ["thing"] (defScope s_is_integer) := ⟨rfl, rfl, rfl, by decide +kernel, rfl, by decide +kernel, by decide +kernel⟩
abbrev s_is_count : Stmt := top 7
def d_is_count : He.DefD := ⟨("is_count", none), "is_count", "is_count", defArgs s_is_count, defBody s_is_count, defScope s_is_count, [], []⟩
abbrev N_is_count : List PySem.Str := ["thing"]
theorem sc_is_count : FnScope N_is_count ["thing"] (defScope s_is_count) := ⟨rfl, rfl, rfl, by decide +kernel, rfl, by decide +kernel, by decide +kernel⟩
abbrev s_is_between : Stmt := top 8
def d_is_between : He.DefD := ⟨("is_between", none), "is_between", "is_between", defArgs s_is_between, defBody s_is_between, defScope s_is_between, [], []⟩
abbrev N_is_between : List PySem.Str := ["thing", "least", "most"]
theorem sc_is_between : FnScope N_is_between ["thing", "least", "most"] (defScope s_is_between) := ⟨rfl, rfl, rfl, by decide +kernel, rfl, by decide +kernel, by decide +kernel⟩
abbrev s_is_sized : Stmt := top 9
def d_is_sized : He.DefD := ⟨("is_sized", none), "is_sized", "is_sized", defArgs s_is_sized, defBody s_is_sized, defScope s_is_sized, [], []⟩
abbrev N_is_sized : List PySem.Str := ["thing", "many"]
theorem sc_is_sized : FnScope N_is_sized ["thing", "many"] (defScope s_is_sized) := ⟨rfl, rfl, rfl, by decide +kernel, rfl, by decide +kernel, by decide +kernel⟩
abbrev s_are_falling : Stmt := top 11
def d_are_falling : He.DefD := ⟨("are_falling", none), "are_falling", "are_falling", defArgs s_are_falling, defBody s_are_falling, defScope s_are_falling, [], []⟩
abbrev N_are_falling : List PySem.Str := ["thing", "most"]
theorem sc_are_falling : FnScope N_are_falling ["thing", "most"] (defScope s_are_falling) := ⟨rfl, rfl, rfl, by decide +kernel, rfl, by decide +kernel, by decide +kernel⟩
abbrev s_is_slots : Stmt := top 12
def d_is_slots : He.DefD := ⟨("is_slots", none), "is_slots", "is_slots", defArgs s_is_slots, defBody s_is_slots, defScope s_is_slots, [], []⟩
abbrev N_is_slots : List PySem.Str := ["thing"]
theorem sc_is_slots : FnScope N_is_slots ["thing"] (defScope s_is_slots) := ⟨rfl, rfl, rfl, by decide +kernel, rfl, by decide +kernel, by decide +kernel⟩
abbrev s_is_bounds : Stmt := top 18
def d_is_bounds : He.DefD := ⟨("is_bounds", none), "is_bounds", "is_bounds", defArgs s_is_bounds, defBody s_is_bounds, defScope s_is_bounds, [], []⟩
abbrev N_is_bounds : List PySem.Str := ["thing"]
theorem sc_is_bounds : FnScope N_is_bounds ["thing"] (defScope s_is_bounds) := ⟨rfl, rfl, rfl, by decide +kernel, rfl, by decide +kernel, by decide +kernel⟩
abbrev s_is_length_word : Stmt := top 19
def d_is_length_word : He.DefD := ⟨("is_length_word", none), "is_length_word", "is_length_word", defArgs s_is_length_word, defBody s_is_length_word, defScope s_is_length_word, [], []⟩
abbrev N_is_length_word : List PySem.Str := ["thing", "one"]
theorem sc_is_length_word : FnScope N_is_length_word ["thing"] (defScope s_is_length_word) := ⟨rfl, rfl, rfl, by decide +kernel, rfl, by decide +kernel, by decide +kernel⟩
abbrev s_check_bounds : Stmt := top 20
def d_check_bounds : He.DefD := ⟨("check_bounds", none), "check_bounds", "check_bounds", defArgs s_check_bounds, defBody s_check_bounds, defScope s_check_bounds, [], []⟩
abbrev N_check_bounds : List PySem.Str := ["bounds"]
theorem sc_check_bounds : FnScope N_check_bounds ["bounds"] (defScope s_check_bounds) := ⟨rfl, rfl, rfl, by decide +kernel, rfl, by decide +kernel, by decide +kernel⟩
abbrev s_check_word : Stmt := top 21
def d_check_word : He.DefD := ⟨("check_word", none), "check_word", "check_word", defArgs s_check_word, defBody s_check_word, defScope s_check_word, [], []⟩
abbrev N_check_word : List PySem.Str := ["bounds", "word", "one"]
theorem sc_check_word : FnScope N_check_word ["bounds", "word"] (defScope s_check_word) := ⟨rfl, rfl, rfl, by decide +kernel, rfl, by decide +kernel, by decide +kernel⟩
abbrev s_held : Stmt := top 22
def d_held : He.DefD := ⟨("held", none), "held", "held", defArgs s_held, defBody s_held, defScope s_held, [], []⟩
abbrev N_held : List PySem.Str := ["bounds", "lengths", "entries"]
theorem sc_held : FnScope N_held ["bounds", "lengths", "entries"] (defScope s_held) := ⟨rfl, rfl, rfl, by decide +kernel, rfl, by decide +kernel, by decide +kernel⟩
abbrev s_enough : Stmt := top 23
def d_enough : He.DefD := ⟨("enough", none), "enough", "enough", defArgs s_enough, defBody s_enough, defScope s_enough, [], []⟩
abbrev N_enough : List PySem.Str := ["bounds", "lengths", "entries"]
theorem sc_enough : FnScope N_enough ["bounds", "lengths", "entries"] (defScope s_enough) := ⟨rfl, rfl, rfl, by decide +kernel, rfl, by decide +kernel, by decide +kernel⟩
abbrev s_holds : Stmt := top 24
def d_holds : He.DefD := ⟨("holds", none), "holds", "holds", defArgs s_holds, defBody s_holds, defScope s_holds, [], []⟩
abbrev N_holds : List PySem.Str := ["bounds", "word"]
theorem sc_holds : FnScope N_holds ["bounds", "word"] (defScope s_holds) := ⟨rfl, rfl, rfl, by decide +kernel, rfl, by decide +kernel, by decide +kernel⟩
abbrev s_is_enough : Stmt := top 25
def d_is_enough : He.DefD := ⟨("is_enough", none), "is_enough", "is_enough", defArgs s_is_enough, defBody s_is_enough, defScope s_is_enough, [], []⟩
abbrev N_is_enough : List PySem.Str := ["bounds", "word"]
theorem sc_is_enough : FnScope N_is_enough ["bounds", "word"] (defScope s_is_enough) := ⟨rfl, rfl, rfl, by decide +kernel, rfl, by decide +kernel, by decide +kernel⟩
abbrev s_is_standing : Stmt := top 26
def d_is_standing : He.DefD := ⟨("is_standing", none), "is_standing", "is_standing", defArgs s_is_standing, defBody s_is_standing, defScope s_is_standing, [], []⟩
abbrev N_is_standing : List PySem.Str := ["thing", "one"]
theorem sc_is_standing : FnScope N_is_standing ["thing"] (defScope s_is_standing) := ⟨rfl, rfl, rfl, by decide +kernel, rfl, by decide +kernel, by decide +kernel⟩
abbrev s_filled : Stmt := top 27
def d_filled : He.DefD := ⟨("filled", none), "filled", "filled", defArgs s_filled, defBody s_filled, defScope s_filled, [], []⟩
abbrev N_filled : List PySem.Str := ["bounds", "standing", "length", "pages", "lengths", "entries", "one"]
theorem sc_filled : FnScope N_filled ["bounds", "standing", "length"] (defScope s_filled) := ⟨rfl, rfl, rfl, by decide +kernel, rfl, by decide +kernel, by decide +kernel⟩
abbrev s_closed : Stmt := top 28
def d_closed : He.DefD := ⟨("closed", none), "closed", "closed", defArgs s_closed, defBody s_closed, defScope s_closed, [], []⟩
abbrev N_closed : List PySem.Str := ["bounds", "standing", "length", "pages", "lengths", "entries", "one"]
theorem sc_closed : FnScope N_closed ["bounds", "standing", "length"] (defScope s_closed) := ⟨rfl, rfl, rfl, by decide +kernel, rfl, by decide +kernel, by decide +kernel⟩
abbrev s_check_step : Stmt := top 29
def d_check_step : He.DefD := ⟨("check_step", none), "check_step", "check_step", defArgs s_check_step, defBody s_check_step, defScope s_check_step, [], []⟩
abbrev N_check_step : List PySem.Str := ["bounds", "standing", "length"]
theorem sc_check_step : FnScope N_check_step ["bounds", "standing", "length"] (defScope s_check_step) := ⟨rfl, rfl, rfl, by decide +kernel, rfl, by decide +kernel, by decide +kernel⟩
abbrev s_full_step : Stmt := top 30
def d_full_step : He.DefD := ⟨("full_step", none), "full_step", "full_step", defArgs s_full_step, defBody s_full_step, defScope s_full_step, [], []⟩
abbrev N_full_step : List PySem.Str := ["bounds", "standing", "length"]
theorem sc_full_step : FnScope N_full_step ["bounds", "standing", "length"] (defScope s_full_step) := ⟨rfl, rfl, rfl, by decide +kernel, rfl, by decide +kernel, by decide +kernel⟩
abbrev s_soon_step : Stmt := top 31
def d_soon_step : He.DefD := ⟨("soon_step", none), "soon_step", "soon_step", defArgs s_soon_step, defBody s_soon_step, defScope s_soon_step, [], []⟩
abbrev N_soon_step : List PySem.Str := ["bounds", "standing", "length"]
theorem sc_soon_step : FnScope N_soon_step ["bounds", "standing", "length"] (defScope s_soon_step) := ⟨rfl, rfl, rfl, by decide +kernel, rfl, by decide +kernel, by decide +kernel⟩
abbrev s_read_by : Stmt := top 32
def d_read_by : He.DefD := ⟨("read_by", none), "read_by", "read_by", defArgs s_read_by, defBody s_read_by, defScope s_read_by, [], []⟩
abbrev N_read_by : List PySem.Str := ["step", "bounds", "word", "standing", "length"]
theorem sc_read_by : FnScope N_read_by ["step", "bounds", "word"] (defScope s_read_by) := ⟨rfl, rfl, rfl, by decide +kernel, rfl, by decide +kernel, by decide +kernel⟩
abbrev s_full_standing : Stmt := top 33
def d_full_standing : He.DefD := ⟨("full_standing", none), "full_standing", "full_standing", defArgs s_full_standing, defBody s_full_standing, defScope s_full_standing, [], []⟩
abbrev N_full_standing : List PySem.Str := ["bounds", "word"]
theorem sc_full_standing : FnScope N_full_standing ["bounds", "word"] (defScope s_full_standing) := ⟨rfl, rfl, rfl, by decide +kernel, rfl, by decide +kernel, by decide +kernel⟩
abbrev s_soon_standing : Stmt := top 34
def d_soon_standing : He.DefD := ⟨("soon_standing", none), "soon_standing", "soon_standing", defArgs s_soon_standing, defBody s_soon_standing, defScope s_soon_standing, [], []⟩
abbrev N_soon_standing : List PySem.Str := ["bounds", "word"]
theorem sc_soon_standing : FnScope N_soon_standing ["bounds", "word"] (defScope s_soon_standing) := ⟨rfl, rfl, rfl, by decide +kernel, rfl, by decide +kernel, by decide +kernel⟩
abbrev s_full_pages : Stmt := top 35
def d_full_pages : He.DefD := ⟨("full_pages", none), "full_pages", "full_pages", defArgs s_full_pages, defBody s_full_pages, defScope s_full_pages, [], []⟩
abbrev N_full_pages : List PySem.Str := ["bounds", "word"]
theorem sc_full_pages : FnScope N_full_pages ["bounds", "word"] (defScope s_full_pages) := ⟨rfl, rfl, rfl, by decide +kernel, rfl, by decide +kernel, by decide +kernel⟩
abbrev s_soon_pages : Stmt := top 36
def d_soon_pages : He.DefD := ⟨("soon_pages", none), "soon_pages", "soon_pages", defArgs s_soon_pages, defBody s_soon_pages, defScope s_soon_pages, [], []⟩
abbrev N_soon_pages : List PySem.Str := ["bounds", "word"]
theorem sc_soon_pages : FnScope N_soon_pages ["bounds", "word"] (defScope s_soon_pages) := ⟨rfl, rfl, rfl, by decide +kernel, rfl, by decide +kernel, by decide +kernel⟩
abbrev s_is_split : Stmt := top 37
def d_is_split : He.DefD := ⟨("is_split", none), "is_split", "is_split", defArgs s_is_split, defBody s_is_split, defScope s_is_split, [], []⟩
abbrev N_is_split : List PySem.Str := ["bounds", "word", "many"]
theorem sc_is_split : FnScope N_is_split ["bounds", "word", "many"] (defScope s_is_split) := ⟨rfl, rfl, rfl, by decide +kernel, rfl, by decide +kernel, by decide +kernel⟩
abbrev s_ahead : Stmt := top 38
def d_ahead : He.DefD := ⟨("ahead", none), "ahead", "ahead", defArgs s_ahead, defBody s_ahead, defScope s_ahead, [], []⟩
abbrev N_ahead : List PySem.Str := ["one", "other"]
theorem sc_ahead : FnScope N_ahead ["one", "other"] (defScope s_ahead) := ⟨rfl, rfl, rfl, by decide +kernel, rfl, by decide +kernel, by decide +kernel⟩
abbrev s_is_ahead : Stmt := top 39
def d_is_ahead : He.DefD := ⟨("is_ahead", none), "is_ahead", "is_ahead", defArgs s_is_ahead, defBody s_is_ahead, defScope s_is_ahead, [], []⟩
abbrev N_is_ahead : List PySem.Str := ["one", "other"]
theorem sc_is_ahead : FnScope N_is_ahead ["one", "other"] (defScope s_is_ahead) := ⟨rfl, rfl, rfl, by decide +kernel, rfl, by decide +kernel, by decide +kernel⟩
abbrev s__law_bag : Stmt := top 41
def d__law_bag : He.DefD := ⟨("_law_bag", none), "_law_bag", "_law_bag", defArgs s__law_bag, defBody s__law_bag, defScope s__law_bag, [], []⟩
abbrev N__law_bag : List PySem.Str := ["script", "cell"]
theorem sc__law_bag : FnScope N__law_bag ["script"] (defScope s__law_bag) := ⟨rfl, rfl, rfl, by decide +kernel, rfl, by decide +kernel, by decide +kernel⟩
abbrev s__law_take : Stmt := top 42
def d__law_take : He.DefD := ⟨("_law_take", none), "_law_take", "_law_take", defArgs s__law_take, defBody s__law_take, defScope s__law_take, [], []⟩
abbrev N__law_take : List PySem.Str := ["bag", "many", "cell", "stirred", "value", "first", "second"]
theorem sc__law_take : FnScope N__law_take ["bag", "many"] (defScope s__law_take) := ⟨rfl, rfl, rfl, by decide +kernel, rfl, by decide +kernel, by decide +kernel⟩
abbrev s__law_some : Stmt := top 43
def d__law_some : He.DefD := ⟨("_law_some", none), "_law_some", "_law_some", defArgs s__law_some, defBody s__law_some, defScope s__law_some, [], []⟩
abbrev N__law_some : List PySem.Str := ["bag", "things"]
theorem sc__law_some : FnScope N__law_some ["bag", "things"] (defScope s__law_some) := ⟨rfl, rfl, rfl, by decide +kernel, rfl, by decide +kernel, by decide +kernel⟩
abbrev s__law_alike : Stmt := top 44
def d__law_alike : He.DefD := ⟨("_law_alike", none), "_law_alike", "_law_alike", defArgs s__law_alike, defBody s__law_alike, defScope s__law_alike, [], []⟩
abbrev N__law_alike : List PySem.Str := ["found", "due"]
theorem sc__law_alike : FnScope N__law_alike ["found", "due"] (defScope s__law_alike) := ⟨rfl, rfl, rfl, by decide +kernel, rfl, by decide +kernel, by decide +kernel⟩
abbrev s__law_lengths : Stmt := top 45
def d__law_lengths : He.DefD := ⟨("_law_lengths", none), "_law_lengths", "_law_lengths", defArgs s__law_lengths, defBody s__law_lengths, defScope s__law_lengths, [], []⟩
abbrev N__law_lengths : List PySem.Str := ["bag", "most", "found", "lap", "one"]
theorem sc__law_lengths : FnScope N__law_lengths ["bag", "most"] (defScope s__law_lengths) := ⟨rfl, rfl, rfl, by decide +kernel, rfl, by decide +kernel, by decide +kernel⟩
abbrev s__law_bounds : Stmt := top 46
def d__law_bounds : He.DefD := ⟨("_law_bounds", none), "_law_bounds", "_law_bounds", defArgs s__law_bounds, defBody s__law_bounds, defScope s__law_bounds, [], []⟩
abbrev N__law_bounds : List PySem.Str := ["bag", "lengths", "least", "room", "enough_v"]
theorem sc__law_bounds : FnScope N__law_bounds ["bag", "lengths"] (defScope s__law_bounds) := ⟨rfl, rfl, rfl, by decide +kernel, rfl, by decide +kernel, by decide +kernel⟩
abbrev s__law_word : Stmt := top 47
def d__law_word : He.DefD := ⟨("_law_word", none), "_law_word", "_law_word", defArgs s__law_word, defBody s__law_word, defScope s__law_word, [], []⟩
abbrev N__law_word : List PySem.Str := ["bag", "lengths", "most", "found", "lap", "run", "one", "again"]
theorem sc__law_word : FnScope N__law_word ["bag", "lengths", "most"] (defScope s__law_word) := ⟨rfl, rfl, rfl, by decide +kernel, rfl, by decide +kernel, by decide +kernel⟩
abbrev s__law_holds : Stmt := top 48
def d__law_holds : He.DefD := ⟨("_law_holds", none), "_law_holds", "_law_holds", defArgs s__law_holds, defBody s__law_holds, defScope s__law_holds, [], []⟩
abbrev N__law_holds : List PySem.Str := ["bounds", "word"]
theorem sc__law_holds : FnScope N__law_holds ["bounds", "word"] (defScope s__law_holds) := ⟨rfl, rfl, rfl, by decide +kernel, rfl, by decide +kernel, by decide +kernel⟩
abbrev s__law_enough : Stmt := top 49
def d__law_enough : He.DefD := ⟨("_law_enough", none), "_law_enough", "_law_enough", defArgs s__law_enough, defBody s__law_enough, defScope s__law_enough, [], []⟩
abbrev N__law_enough : List PySem.Str := ["bounds", "word"]
theorem sc__law_enough : FnScope N__law_enough ["bounds", "word"] (defScope s__law_enough) := ⟨rfl, rfl, rfl, by decide +kernel, rfl, by decide +kernel, by decide +kernel⟩
abbrev s__law_fewest : Stmt := top 50
def d__law_fewest : He.DefD := ⟨("_law_fewest", none), "_law_fewest", "_law_fewest", defArgs s__law_fewest, defBody s__law_fewest, defScope s__law_fewest, [], []⟩
abbrev N__law_fewest : List PySem.Str := ["bounds", "word", "every", "found", "begin", "end"]
theorem sc__law_fewest : FnScope N__law_fewest ["bounds", "word"] (defScope s__law_fewest) := ⟨rfl, rfl, rfl, by decide +kernel, rfl, by decide +kernel, by decide +kernel⟩
abbrev s__law_most : Stmt := top 51
def d__law_most : He.DefD := ⟨("_law_most", none), "_law_most", "_law_most", defArgs s__law_most, defBody s__law_most, defScope s__law_most, [], []⟩
abbrev N__law_most : List PySem.Str := ["bounds", "word", "found", "end", "some", "begin"]
theorem sc__law_most : FnScope N__law_most ["bounds", "word"] (defScope s__law_most) := ⟨rfl, rfl, rfl, by decide +kernel, rfl, by decide +kernel, by decide +kernel⟩
abbrev s__law_ends : Stmt := top 52
def d__law_ends : He.DefD := ⟨("_law_ends", none), "_law_ends", "_law_ends", defArgs s__law_ends, defBody s__law_ends, defScope s__law_ends, [], []⟩
abbrev N__law_ends : List PySem.Str := ["bounds", "word", "begin", "total", "found", "end"]
theorem sc__law_ends : FnScope N__law_ends ["bounds", "word", "begin"] (defScope s__law_ends) := ⟨rfl, rfl, rfl, by decide +kernel, rfl, by decide +kernel, by decide +kernel⟩
abbrev s__law_bare : Stmt := top 53
def d__law_bare : He.DefD := ⟨("_law_bare", none), "_law_bare", "_law_bare", defArgs s__law_bare, defBody s__law_bare, defScope s__law_bare, [], []⟩
abbrev N__law_bare : List PySem.Str := ["bag", "bounds"]
theorem sc__law_bare : FnScope N__law_bare ["bag", "bounds"] (defScope s__law_bare) := ⟨rfl, rfl, rfl, by decide +kernel, rfl, by decide +kernel, by decide +kernel⟩
abbrev s_law : Stmt := top 54
def d_law : He.DefD := ⟨("law", none), "law", "law", defArgs s_law, defBody s_law, defScope s_law, [], []⟩
abbrev N_law : List PySem.Str := ["script", "bag", "lengths", "bounds", "word", "looked", "full", "soon", "page", "open_rest", "at", "length", "ahead_v", "counts", "many", "lap", "one", "other", "due", "steps", "bad", "acts", "act", "its", "step", "pair"]
theorem sc_law : FnScope N_law ["script"] (defScope s_law) := ⟨rfl, rfl, rfl, by decide +kernel, rfl, by decide +kernel, by decide +kernel⟩
def fn : List He.DefD := [d_is_integer, d_is_count, d_is_between, d_is_sized, d_are_falling, d_is_slots, d_is_bounds, d_is_length_word, d_check_bounds, d_check_word, d_held, d_enough, d_holds, d_is_enough, d_is_standing, d_filled, d_closed, d_check_step, d_full_step, d_soon_step, d_read_by, d_full_standing, d_soon_standing, d_full_pages, d_soon_pages, d_is_split, d_ahead, d_is_ahead, d__law_bag, d__law_take] ++ [d__law_some, d__law_alike, d__law_lengths, d__law_bounds, d__law_word, d__law_holds, d__law_enough, d__law_fewest, d__law_most, d__law_ends, d__law_bare, d_law]
def fa : List He.Fa := [.glo "is_integer", .glo "is_count", .glo "is_between", .glo "is_sized", .glo "are_falling", .glo "is_slots", .glo "is_bounds", .glo "is_length_word", .glo "check_bounds", .glo "check_word", .glo "held", .glo "enough", .glo "holds", .glo "is_enough", .glo "is_standing", .glo "filled", .glo "closed", .glo "check_step", .glo "full_step", .glo "soon_step", .glo "read_by", .glo "full_standing", .glo "soon_standing", .glo "full_pages", .glo "soon_pages", .glo "is_split", .glo "ahead", .glo "is_ahead", .glo "_law_bag", .glo "_law_take"] ++ [.glo "_law_some", .glo "_law_alike", .glo "_law_lengths", .glo "_law_bounds", .glo "_law_word", .glo "_law_holds", .glo "_law_enough", .glo "_law_fewest", .glo "_law_most", .glo "_law_ends", .glo "_law_bare", .glo "law", .int "MOST_SLOTS" 30, .int "MOST_ROOM" 60, .int "MOST_LENGTH" 12, .int "MOST_WORD" 1000, .glo "START", .glo "PageError", .exc "PageError", .glo "Nothing", .exc "Nothing", .exm "PageError" "Nothing" false, .exm "Nothing" "Nothing" true, .free "abs", .free "all", .free "any", .free "bool", .free "enumerate", .free "int", .free "isinstance"] ++ [.free "len", .free "list", .free "max", .free "min", .free "range", .free "repr", .free "sorted", .free "sum", .free "tuple"]
def ex : List (PySem.W.Frag → Bool) := [(fun K => He.tupB K "START" (([0, 0, 0] : List Int).map .int))]
def loose : List PySem.Str := (["_wall", "__name__", "PageError", "Nothing", "MOST_SLOTS", "is_integer", "is_count", "is_between", "is_sized", "are_falling", "is_slots", "MOST_ROOM", "MOST_LENGTH", "MOST_WORD", "START", "is_bounds", "is_length_word", "check_bounds", "check_word", "held", "enough", "holds", "is_enough", "is_standing", "filled", "closed", "check_step", "full_step", "soon_step", "read_by"] : List PySem.Str) ++ (["full_standing", "soon_standing", "full_pages", "soon_pages", "is_split", "ahead", "is_ahead", "_law_bag", "_law_take", "_law_some", "_law_alike", "_law_lengths", "_law_bounds", "_law_word", "_law_holds", "_law_enough", "_law_fewest", "_law_most", "_law_ends", "_law_bare"] : List PySem.Str)
def mat_Nothing (n : PySem.Str) : Option Bool := if n = "PageError" then some false else if n = "Nothing" then some true else none
theorem mat_Nothing_ok {K : PySem.W.Frag} (C : Says fa fn ex K) : ∀ n b, mat_Nothing n = some b → PySem.W.exmOne K (.ref (He.ga K n)) (.ref (He.ga K "Nothing")) = some b := by
  intro n b h
  unfold mat_Nothing at h
  split at h
  · rename_i e
    subst e
    cases h
    exact He.exm_ok (x := "PageError") (y := "Nothing") (C.says.fact 51 rfl)
  split at h
  · rename_i e
    subst e
    cases h
    exact He.exm_ok (x := "Nothing") (y := "Nothing") (C.says.fact 52 rfl)
  cases h
def m_is_integer : MS := (retM (andM (callN D.isi (aCons (vM 0) (aCons (cM (.ty "int")) aNil))) (notM (callN D.isi (aCons (vM 0) (aCons (cM (.ty "bool")) aNil))))))
theorem g_is_integer {P : Program} {w : World} {K : PySem.W.Frag} {mg : PySem.Str → Option Value} {base h : Heap} (KX : K.In h) (G : h.Ns mainGlobals mg) (C : Says fa fn ex K) : FnH P w K mg base 1 (He.ga K "is_integer") (SpP K (He.ga K) 1 (mkP 1 1 m_is_integer)) := by
  obtain ⟨fd, F⟩ := C.says.def_ 0 (d := d_is_integer) rfl
  refine ⟨fd, ["thing"], fn_pure (N := N_is_integer) (ca := He.ga K) F sc_is_integer (fun cdv A outer s H E hr hgd => ?_), F.kp, F.bindsN fun _ _ _ _ _ _ us hl => match us, hl with | [_], _ => rfl⟩
  have tk : Takes (cxOf (L2.CX P w) P w K mg base N_is_integer "is_integer" (defScope s_is_integer) (He.ga K "is_integer") cdv A outer s H E) (fun cls d _ H' => E cls d H') := takes_of rfl rfl rfl rfl
  have po : PassesOwn (model P w) (cxOf (L2.CX P w) P w K mg base N_is_integer "is_integer" (defScope s_is_integer) (He.ga K "is_integer") cdv A outer s H E).A (cxOf (L2.CX P w) P w K mg base N_is_integer "is_integer" (defScope s_is_integer) (He.ga K "is_integer") cdv A outer s H E).env (cxOf (L2.CX P w) P w K mg base N_is_integer "is_integer" (defScope s_is_integer) (He.ga K "is_integer") cdv A outer s H E).xe := passes_of rfl
  exact (k_one (s_ret (x_and (x_callB call_isi so_isi rfl (He.free_ok KX G (C.says.fact 59 rfl)) (by first | rfl | kernel_rfl) (a_cons (x_v 0) (a_cons (x_ty rfl (He.free_ok KX G (C.says.fact 58 rfl)) (by first | rfl | kernel_rfl)) a_nil))) (x_one (x_not (x_callB call_isi so_isi rfl (He.free_ok KX G (C.says.fact 59 rfl)) (by first | rfl | kernel_rfl) (a_cons (x_v 0) (a_cons (x_ty rfl (He.free_ok KX G (C.says.fact 56 rfl)) (by first | rfl | kernel_rfl)) a_nil))))))))
def m_is_sized : MS := (retM (andM (callN D.isi (aCons (vM 0) (aCons (cM (.ty "tuple")) aNil))) (bin2 D.eq (callN D.len (aCons (vM 0) aNil)) (vM 1))))
theorem g_is_sized {P : Program} {w : World} {K : PySem.W.Frag} {mg : PySem.Str → Option Value} {base h : Heap} (KX : K.In h) (G : h.Ns mainGlobals mg) (C : Says fa fn ex K) : FnH P w K mg base 1 (He.ga K "is_sized") (SpP K (He.ga K) 2 (mkP 2 2 m_is_sized)) := by
  obtain ⟨fd, F⟩ := C.says.def_ 3 (d := d_is_sized) rfl
  refine ⟨fd, ["thing", "many"], fn_pure (N := N_is_sized) (ca := He.ga K) F sc_is_sized (fun cdv A outer s H E hr hgd => ?_), F.kp, F.bindsN fun _ _ _ _ _ _ us hl => match us, hl with | [_, _], _ => rfl⟩
  have tk : Takes (cxOf (L2.CX P w) P w K mg base N_is_sized "is_sized" (defScope s_is_sized) (He.ga K "is_sized") cdv A outer s H E) (fun cls d _ H' => E cls d H') := takes_of rfl rfl rfl rfl
  have po : PassesOwn (model P w) (cxOf (L2.CX P w) P w K mg base N_is_sized "is_sized" (defScope s_is_sized) (He.ga K "is_sized") cdv A outer s H E).A (cxOf (L2.CX P w) P w K mg base N_is_sized "is_sized" (defScope s_is_sized) (He.ga K "is_sized") cdv A outer s H E).env (cxOf (L2.CX P w) P w K mg base N_is_sized "is_sized" (defScope s_is_sized) (He.ga K "is_sized") cdv A outer s H E).xe := passes_of rfl
  exact (k_one (s_ret (x_and (x_callB call_isi so_isi rfl (He.free_ok KX G (C.says.fact 59 rfl)) (by first | rfl | kernel_rfl) (a_cons (x_v 0) (a_cons (x_ty rfl (He.free_ok KX G (C.says.fact 68 rfl)) (by first | rfl | kernel_rfl)) a_nil))) (x_one (x_cmp (op_eqA (un_ok hr)) so_eq (x_callB cr_lenD so_len rfl (He.free_ok KX G (C.says.fact 60 rfl)) (by first | rfl | kernel_rfl) (a_cons (x_v 0) a_nil)) (x_v 1) (nomark _))))))
def m_held : MS := (retM (andM (bin2 D.le (vM 1) (bin2 D.ix (vM 0) (cM (.int 1)))) (orM (bin2 D.isN (bin2 D.ix (vM 0) (cM (.int 2))) (cM .non)) (bin2 D.le (vM 2) (bin2 D.ix (bin2 D.ix (vM 0) (cM (.int 2))) (cM (.int 0)))))))
theorem g_held {P : Program} {w : World} {K : PySem.W.Frag} {mg : PySem.Str → Option Value} {base h : Heap} (KX : K.In h) (G : h.Ns mainGlobals mg) (C : Says fa fn ex K) : FnH P w K mg base 1 (He.ga K "held") (SpP K (He.ga K) 3 (mkP 3 3 m_held)) := by
  obtain ⟨fd, F⟩ := C.says.def_ 10 (d := d_held) rfl
  refine ⟨fd, ["bounds", "lengths", "entries"], fn_pure (N := N_held) (ca := He.ga K) F sc_held (fun cdv A outer s H E hr hgd => ?_), F.kp, F.bindsN fun _ _ _ _ _ _ us hl => match us, hl with | [_, _, _], _ => rfl⟩
  have tk : Takes (cxOf (L2.CX P w) P w K mg base N_held "held" (defScope s_held) (He.ga K "held") cdv A outer s H E) (fun cls d _ H' => E cls d H') := takes_of rfl rfl rfl rfl
  have po : PassesOwn (model P w) (cxOf (L2.CX P w) P w K mg base N_held "held" (defScope s_held) (He.ga K "held") cdv A outer s H E).A (cxOf (L2.CX P w) P w K mg base N_held "held" (defScope s_held) (He.ga K "held") cdv A outer s H E).env (cxOf (L2.CX P w) P w K mg base N_held "held" (defScope s_held) (He.ga K "held") cdv A outer s H E).xe := passes_of rfl
  exact (k_one (s_ret (x_and (x_cmp op_le so_cmpI (x_v 1) (x_ix ix_seq so_ix (x_v 0) x_int (fun _ _ => rfl)) (nomark _)) (x_one (x_or (x_cmp op_isD so_is (x_ix ix_seq so_ix (x_v 0) x_int (fun _ _ => rfl)) x_non (nomark _)) (x_one (x_cmp op_le so_cmpI (x_v 2) (x_ix ix_seq so_ix (x_ix ix_seq so_ix (x_v 0) x_int (fun _ _ => rfl)) x_int (fun _ _ => rfl)) (nomark _))))))))
def m_enough : MS := (retM (orM (bin2 D.ge (vM 1) (bin2 D.ix (vM 0) (cM (.int 0)))) (andM (bin2 D.notN (bin2 D.ix (vM 0) (cM (.int 2))) (cM .non)) (bin2 D.ge (vM 2) (bin2 D.ix (bin2 D.ix (vM 0) (cM (.int 2))) (cM (.int 1)))))))
theorem g_enough {P : Program} {w : World} {K : PySem.W.Frag} {mg : PySem.Str → Option Value} {base h : Heap} (KX : K.In h) (G : h.Ns mainGlobals mg) (C : Says fa fn ex K) : FnH P w K mg base 1 (He.ga K "enough") (SpP K (He.ga K) 3 (mkP 3 3 m_enough)) := by
  obtain ⟨fd, F⟩ := C.says.def_ 11 (d := d_enough) rfl
  refine ⟨fd, ["bounds", "lengths", "entries"], fn_pure (N := N_enough) (ca := He.ga K) F sc_enough (fun cdv A outer s H E hr hgd => ?_), F.kp, F.bindsN fun _ _ _ _ _ _ us hl => match us, hl with | [_, _, _], _ => rfl⟩
  have tk : Takes (cxOf (L2.CX P w) P w K mg base N_enough "enough" (defScope s_enough) (He.ga K "enough") cdv A outer s H E) (fun cls d _ H' => E cls d H') := takes_of rfl rfl rfl rfl
  have po : PassesOwn (model P w) (cxOf (L2.CX P w) P w K mg base N_enough "enough" (defScope s_enough) (He.ga K "enough") cdv A outer s H E).A (cxOf (L2.CX P w) P w K mg base N_enough "enough" (defScope s_enough) (He.ga K "enough") cdv A outer s H E).env (cxOf (L2.CX P w) P w K mg base N_enough "enough" (defScope s_enough) (He.ga K "enough") cdv A outer s H E).xe := passes_of rfl
  exact (k_one (s_ret (x_or (x_cmp op_ge so_cmpI (x_v 1) (x_ix ix_seq so_ix (x_v 0) x_int (fun _ _ => rfl)) (nomark _)) (x_one (x_and (x_cmp op_notD so_not (x_ix ix_seq so_ix (x_v 0) x_int (fun _ _ => rfl)) x_non (nomark _)) (x_one (x_cmp op_ge so_cmpI (x_v 2) (x_ix ix_seq so_ix (x_ix ix_seq so_ix (x_v 0) x_int (fun _ _ => rfl)) x_int (fun _ _ => rfl)) (nomark _))))))))
def m_ahead : MS := (retM (orM (bin2 D.gt (bin2 D.ix (vM 0) (cM (.int 0))) (bin2 D.ix (vM 1) (cM (.int 0)))) (andM (bin2 D.eq (bin2 D.ix (vM 0) (cM (.int 0))) (bin2 D.ix (vM 1) (cM (.int 0)))) (andM (bin2 D.ge (bin2 D.ix (vM 0) (cM (.int 1))) (bin2 D.ix (vM 1) (cM (.int 1)))) (bin2 D.ge (bin2 D.ix (vM 0) (cM (.int 2))) (bin2 D.ix (vM 1) (cM (.int 2))))))))
theorem g_ahead {P : Program} {w : World} {K : PySem.W.Frag} {mg : PySem.Str → Option Value} {base h : Heap} (KX : K.In h) (G : h.Ns mainGlobals mg) (C : Says fa fn ex K) : FnH P w K mg base 1 (He.ga K "ahead") (SpP K (He.ga K) 2 (mkP 2 2 m_ahead)) := by
  obtain ⟨fd, F⟩ := C.says.def_ 26 (d := d_ahead) rfl
  refine ⟨fd, ["one", "other"], fn_pure (N := N_ahead) (ca := He.ga K) F sc_ahead (fun cdv A outer s H E hr hgd => ?_), F.kp, F.bindsN fun _ _ _ _ _ _ us hl => match us, hl with | [_, _], _ => rfl⟩
  have tk : Takes (cxOf (L2.CX P w) P w K mg base N_ahead "ahead" (defScope s_ahead) (He.ga K "ahead") cdv A outer s H E) (fun cls d _ H' => E cls d H') := takes_of rfl rfl rfl rfl
  have po : PassesOwn (model P w) (cxOf (L2.CX P w) P w K mg base N_ahead "ahead" (defScope s_ahead) (He.ga K "ahead") cdv A outer s H E).A (cxOf (L2.CX P w) P w K mg base N_ahead "ahead" (defScope s_ahead) (He.ga K "ahead") cdv A outer s H E).env (cxOf (L2.CX P w) P w K mg base N_ahead "ahead" (defScope s_ahead) (He.ga K "ahead") cdv A outer s H E).xe := passes_of rfl
  exact (k_one (s_ret (x_or (x_cmp op_gt so_cmpI (x_ix ix_seq so_ix (x_v 0) x_int (fun _ _ => rfl)) (x_ix ix_seq so_ix (x_v 1) x_int (fun _ _ => rfl)) (nomark _)) (x_one (x_and (x_cmp (op_eqA (un_ok hr)) so_eq (x_ix ix_seq so_ix (x_v 0) x_int (fun _ _ => rfl)) (x_ix ix_seq so_ix (x_v 1) x_int (fun _ _ => rfl)) (nomark _)) (x_and (x_cmp op_ge so_cmpI (x_ix ix_seq so_ix (x_v 0) x_int (fun _ _ => rfl)) (x_ix ix_seq so_ix (x_v 1) x_int (fun _ _ => rfl)) (nomark _)) (x_one (x_cmp op_ge so_cmpI (x_ix ix_seq so_ix (x_v 0) x_int (fun _ _ => rfl)) (x_ix ix_seq so_ix (x_v 1) x_int (fun _ _ => rfl)) (nomark _)))))))))
def m__law_bag : MS := (retM (lstM (aCons (cM (.int 0)) (aCons (cM (.int 1234567891)) (aCons (cM (.int 0)) (aCons (lcM (seqM (sl3 D.sl (vM 0) oNone (oSome (cM (.int 63))))) (tN 1) yesT (callN D.abs (aCons (vM 1) aNil)) [1]) aNil))))))
theorem g__law_bag {P : Program} {w : World} {K : PySem.W.Frag} {mg : PySem.Str → Option Value} {base h : Heap} (KX : K.In h) (G : h.Ns mainGlobals mg) (C : Says fa fn ex K) : FnH P w K mg base 1 (He.ga K "_law_bag") (SpP K (He.ga K) 1 (mkP 1 2 m__law_bag)) := by
  obtain ⟨fd, F⟩ := C.says.def_ 28 (d := d__law_bag) rfl
  refine ⟨fd, ["script"], fn_pure (N := N__law_bag) (ca := He.ga K) F sc__law_bag (fun cdv A outer s H E hr hgd => ?_), F.kp, F.bindsN fun _ _ _ _ _ _ us hl => match us, hl with | [_], _ => rfl⟩
  have tk : Takes (cxOf (L2.CX P w) P w K mg base N__law_bag "_law_bag" (defScope s__law_bag) (He.ga K "_law_bag") cdv A outer s H E) (fun cls d _ H' => E cls d H') := takes_of rfl rfl rfl rfl
  have po : PassesOwn (model P w) (cxOf (L2.CX P w) P w K mg base N__law_bag "_law_bag" (defScope s__law_bag) (He.ga K "_law_bag") cdv A outer s H E).A (cxOf (L2.CX P w) P w K mg base N__law_bag "_law_bag" (defScope s__law_bag) (He.ga K "_law_bag") cdv A outer s H E).env (cxOf (L2.CX P w) P w K mg base N__law_bag "_law_bag" (defScope s__law_bag) (He.ga K "_law_bag") cdv A outer s H E).xe := passes_of rfl
  exact (k_one (s_ret (x_lst (a_cons x_int (a_cons x_int (a_cons x_int (a_cons (x_lc (gName 1) [("cell", 1)] rfl sc__law_bag.nd (i_seq (x_slice sl_D so_sl (x_v 0) o_none (o_some x_int))) (by kernel_rfl) (fun _ _ _ _ _ => (pg_name (i := 1) sc__law_bag.nd rfl (by first | exact .inl rfl | exact .inr rfl))) ct_name (cw_name (by decide)) (fun _ _ _ _ _ => (x_callB call_abs so_abs rfl (He.free_ok KX G (C.says.fact 53 rfl)) (by first | rfl | kernel_rfl) (a_cons (x_v 1) a_nil)))) a_nil)))))))
def m__law_take_s1 : MS := (ifS (tstB (bin2 D.eq (bin2 D.ix (vM 0) (cM (.int 0))) (cM (.int 0)))) (skM (asgM 2 (bin2 D.ix (bin2 D.add (sl3 D.sl (bin2 D.ix (vM 0) (cM (.int 3))) (oSome (bin2 D.ix (vM 0) (cM (.int 2)))) oNone) (lstM (aCons (cM (.int 0)) aNil))) (cM (.int 0)))) (skM (auS D.iadd (vM 0) (cM (.int 2)) (cM (.int 1))) (skM (ifS (tstB (bin2 D.ge (vM 2) (bin2 D.pow (cM (.int 10)) (cM (.int 18))))) (setM (vM 0) (cM (.int 0)) (vM 2)) nxM) (skM (asgM 3 (bin2 D.add (bin2 D.add (bin2 D.mul (bin2 D.ix (vM 0) (cM (.int 1))) (cM (.int 48271))) (bin2 D.mod (callN D.toInt (aCons (vM 2) aNil)) (cM (.int 2147483647)))) (bin2 D.mul (cM (.int 7919)) (bin2 D.ix (vM 0) (cM (.int 2)))))) (setM (vM 0) (cM (.int 1)) (bin2 D.mod (callN D.toInt (aCons (vM 3) aNil)) (cM (.int 2147483647)))))))) nxM)
def m__law_take_s2 : MS := (ifS (tstB (bin2 D.gt (bin2 D.ix (vM 0) (cM (.int 0))) (cM (.int 0)))) (skM (asgM 4 (bin2 D.mod (callN D.toInt (aCons (bin2 D.ix (vM 0) (cM (.int 0))) aNil)) (vM 1))) (skM (setM (vM 0) (cM (.int 0)) (bin2 D.fdiv (callN D.toInt (aCons (bin2 D.ix (vM 0) (cM (.int 0))) aNil)) (vM 1))) (retM (vM 4)))) nxM)
def m__law_take_s3 : MS := (asgM 5 (bin2 D.mod (callN D.toInt (aCons (bin2 D.mul (bin2 D.add (bin2 D.ix (vM 0) (cM (.int 1))) (cM (.int 1))) (cM (.int 39373))) aNil)) (cM (.int 1000000007))))
def m__law_take_s4 : MS := (asgM 6 (bin2 D.mod (callN D.toInt (aCons (bin2 D.mul (bin2 D.mod (callN D.toInt (aCons (bin2 D.mul (vM 5) (vM 5)) aNil)) (cM (.int 998244353))) (cM (.int 30011))) aNil)) (cM (.int 998244353))))
def m__law_take_s5 : MS := (retM (bin2 D.mod (callN D.toInt (aCons (bin2 D.fdiv (vM 6) (cM (.int 7))) aNil)) (vM 1)))
def m__law_take : MS := (skM m__law_take_s1 (skM m__law_take_s2 (skM m__law_take_s3 (skM m__law_take_s4 m__law_take_s5))))
theorem g__law_take {P : Program} {w : World} {K : PySem.W.Frag} {mg : PySem.Str → Option Value} {base h : Heap} (KX : K.In h) (G : h.Ns mainGlobals mg) (C : Says fa fn ex K) : FnH P w K mg base 1 (He.ga K "_law_take") (SpB K 1 (mkB 1 7 m__law_take)) := by
  obtain ⟨fd, F⟩ := C.says.def_ 29 (d := d__law_take) rfl
  refine ⟨fd, ["bag", "many"], fn_bag (N := N__law_take) (ca := He.ga K) F sc__law_take rfl (fun cdv A outer s H E hr hgd => ?_), F.kp, F.bindsN fun _ _ _ _ _ _ us hl => match us, hl with | [_, _], _ => rfl⟩
  have tk : Takes (cxOf (L2.CX P w) P w K mg base N__law_take "_law_take" (defScope s__law_take) (He.ga K "_law_take") cdv A outer s H E) (fun cls d _ H' => E cls d H') := takes_of rfl rfl rfl rfl
  have po : PassesOwn (model P w) (cxOf (L2.CX P w) P w K mg base N__law_take "_law_take" (defScope s__law_take) (He.ga K "_law_take") cdv A outer s H E).A (cxOf (L2.CX P w) P w K mg base N__law_take "_law_take" (defScope s__law_take) (He.ga K "_law_take") cdv A outer s H E).env (cxOf (L2.CX P w) P w K mg base N__law_take "_law_take" (defScope s__law_take) (He.ga K "_law_take") cdv A outer s H E).xe := passes_of rfl
  exact (k_cons (s_if (t_cmp (op_eqA (un_ok hr)) so_eq (x_ix ix_seq so_ix (x_v 0) x_int (fun _ _ => rfl)) x_int (nomark _)) (k_cons (s_st 2 sc__law_take.nd (x_ix ix_seq so_ix (x_bin op_addD so_add (x_slice sl_D so_sl (x_ix ix_seq so_ix (x_v 0) x_int (fun _ _ => rfl)) (o_some (x_ix ix_seq so_ix (x_v 0) x_int (fun _ _ => rfl))) o_none) (x_lst (a_cons x_int a_nil))) x_int (fun _ _ => rfl))) (k_cons (s_augI ip_add so_ipAdd (x_v 0) x_int x_int) (k_cons (s_if (t_cmp op_ge so_cmpI (x_v 2) (x_bin op_pow so_pow x_int x_int) (nomark _)) (k_one (s_setI (x_v 0) x_int (x_v 2))) k_nil) (k_cons (s_st 3 sc__law_take.nd (x_bin op_addD so_add (x_bin op_addD so_add (x_bin op_mulD so_mul (x_ix ix_seq so_ix (x_v 0) x_int (fun _ _ => rfl)) x_int) (x_bin op_mod so_mod (x_callTy call_int1 so_int rfl (He.free_ok KX G (C.says.fact 58 rfl)) (by first | rfl | kernel_rfl) (a_cons (x_v 2) a_nil)) x_int)) (x_bin op_mulD so_mul x_int (x_ix ix_seq so_ix (x_v 0) x_int (fun _ _ => rfl))))) (k_one (s_setI (x_v 0) x_int (x_bin op_mod so_mod (x_callTy call_int1 so_int rfl (He.free_ok KX G (C.says.fact 58 rfl)) (by first | rfl | kernel_rfl) (a_cons (x_v 3) a_nil)) x_int))))))) k_nil) (k_cons (s_if (t_cmp op_gt so_cmpI (x_ix ix_seq so_ix (x_v 0) x_int (fun _ _ => rfl)) x_int (nomark _)) (k_cons (s_st 4 sc__law_take.nd (x_bin op_mod so_mod (x_callTy call_int1 so_int rfl (He.free_ok KX G (C.says.fact 58 rfl)) (by first | rfl | kernel_rfl) (a_cons (x_ix ix_seq so_ix (x_v 0) x_int (fun _ _ => rfl)) a_nil)) (x_v 1))) (k_cons (s_setI (x_v 0) x_int (x_bin op_fdiv so_fdiv (x_callTy call_int1 so_int rfl (He.free_ok KX G (C.says.fact 58 rfl)) (by first | rfl | kernel_rfl) (a_cons (x_ix ix_seq so_ix (x_v 0) x_int (fun _ _ => rfl)) a_nil)) (x_v 1))) (k_one (s_ret (x_v 4))))) k_nil) (k_cons (s_st 5 sc__law_take.nd (x_bin op_mod so_mod (x_callTy call_int1 so_int rfl (He.free_ok KX G (C.says.fact 58 rfl)) (by first | rfl | kernel_rfl) (a_cons (x_bin op_mulD so_mul (x_bin op_addD so_add (x_ix ix_seq so_ix (x_v 0) x_int (fun _ _ => rfl)) x_int) x_int) a_nil)) x_int)) (k_cons (s_st 6 sc__law_take.nd (x_bin op_mod so_mod (x_callTy call_int1 so_int rfl (He.free_ok KX G (C.says.fact 58 rfl)) (by first | rfl | kernel_rfl) (a_cons (x_bin op_mulD so_mul (x_bin op_mod so_mod (x_callTy call_int1 so_int rfl (He.free_ok KX G (C.says.fact 58 rfl)) (by first | rfl | kernel_rfl) (a_cons (x_bin op_mulD so_mul (x_v 5) (x_v 5)) a_nil)) x_int) x_int) a_nil)) x_int)) (k_one (s_ret (x_bin op_mod so_mod (x_callTy call_int1 so_int rfl (He.free_ok KX G (C.says.fact 58 rfl)) (by first | rfl | kernel_rfl) (a_cons (x_bin op_fdiv so_fdiv (x_v 6) x_int) a_nil)) (x_v 1))))))))
def m__law_alike : MS := (retM (andM (bin2 D.eq (callN D.repr (aCons (vM 0) aNil)) (callN D.repr (aCons (vM 1) aNil))) (bin2 D.eq (vM 0) (vM 1))))
theorem g__law_alike {P : Program} {w : World} {K : PySem.W.Frag} {mg : PySem.Str → Option Value} {base h : Heap} (KX : K.In h) (G : h.Ns mainGlobals mg) (C : Says fa fn ex K) : FnH P w K mg base 1 (He.ga K "_law_alike") (SpP K (He.ga K) 2 (mkP 2 2 m__law_alike)) := by
  obtain ⟨fd, F⟩ := C.says.def_ 31 (d := d__law_alike) rfl
  refine ⟨fd, ["found", "due"], fn_pure (N := N__law_alike) (ca := He.ga K) F sc__law_alike (fun cdv A outer s H E hr hgd => ?_), F.kp, F.bindsN fun _ _ _ _ _ _ us hl => match us, hl with | [_, _], _ => rfl⟩
  have tk : Takes (cxOf (L2.CX P w) P w K mg base N__law_alike "_law_alike" (defScope s__law_alike) (He.ga K "_law_alike") cdv A outer s H E) (fun cls d _ H' => E cls d H') := takes_of rfl rfl rfl rfl
  have po : PassesOwn (model P w) (cxOf (L2.CX P w) P w K mg base N__law_alike "_law_alike" (defScope s__law_alike) (He.ga K "_law_alike") cdv A outer s H E).A (cxOf (L2.CX P w) P w K mg base N__law_alike "_law_alike" (defScope s__law_alike) (He.ga K "_law_alike") cdv A outer s H E).env (cxOf (L2.CX P w) P w K mg base N__law_alike "_law_alike" (defScope s__law_alike) (He.ga K "_law_alike") cdv A outer s H E).xe := passes_of rfl
  exact (k_one (s_ret (x_and (x_cmp (op_eqA (un_ok hr)) so_eq (x_callB (cr_repr hgd (un_ok hr)) so_repr rfl (He.free_ok KX G (C.says.fact 65 rfl)) (by first | rfl | kernel_rfl) (a_cons (x_v 0) a_nil)) (x_callB (cr_repr hgd (un_ok hr)) so_repr rfl (He.free_ok KX G (C.says.fact 65 rfl)) (by first | rfl | kernel_rfl) (a_cons (x_v 1) a_nil)) (nomark _)) (x_one (x_cmp (op_eqA (un_ok hr)) so_eq (x_v 0) (x_v 1) (nomark _))))))
def m__law_holds : MS := (retM (andM (bin2 D.le (callN D.sum (aCons (vM 1) aNil)) (bin2 D.ix (vM 0) (cM (.int 1)))) (orM (bin2 D.isN (bin2 D.ix (vM 0) (cM (.int 2))) (cM .non)) (bin2 D.le (callN D.len (aCons (vM 1) aNil)) (bin2 D.ix (bin2 D.ix (vM 0) (cM (.int 2))) (cM (.int 0)))))))
theorem g__law_holds {P : Program} {w : World} {K : PySem.W.Frag} {mg : PySem.Str → Option Value} {base h : Heap} (KX : K.In h) (G : h.Ns mainGlobals mg) (C : Says fa fn ex K) : FnH P w K mg base 1 (He.ga K "_law_holds") (SpP K (He.ga K) 2 (mkP 2 2 m__law_holds)) := by
  obtain ⟨fd, F⟩ := C.says.def_ 35 (d := d__law_holds) rfl
  refine ⟨fd, ["bounds", "word"], fn_pure (N := N__law_holds) (ca := He.ga K) F sc__law_holds (fun cdv A outer s H E hr hgd => ?_), F.kp, F.bindsN fun _ _ _ _ _ _ us hl => match us, hl with | [_, _], _ => rfl⟩
  have tk : Takes (cxOf (L2.CX P w) P w K mg base N__law_holds "_law_holds" (defScope s__law_holds) (He.ga K "_law_holds") cdv A outer s H E) (fun cls d _ H' => E cls d H') := takes_of rfl rfl rfl rfl
  have po : PassesOwn (model P w) (cxOf (L2.CX P w) P w K mg base N__law_holds "_law_holds" (defScope s__law_holds) (He.ga K "_law_holds") cdv A outer s H E).A (cxOf (L2.CX P w) P w K mg base N__law_holds "_law_holds" (defScope s__law_holds) (He.ga K "_law_holds") cdv A outer s H E).env (cxOf (L2.CX P w) P w K mg base N__law_holds "_law_holds" (defScope s__law_holds) (He.ga K "_law_holds") cdv A outer s H E).xe := passes_of rfl
  exact (k_one (s_ret (x_and (x_cmp op_le so_cmpI (x_callB (cr_sumD rfl) so_sum rfl (He.free_ok KX G (C.says.fact 67 rfl)) (by first | rfl | kernel_rfl) (a_cons (x_v 1) a_nil)) (x_ix ix_seq so_ix (x_v 0) x_int (fun _ _ => rfl)) (nomark _)) (x_one (x_or (x_cmp op_isD so_is (x_ix ix_seq so_ix (x_v 0) x_int (fun _ _ => rfl)) x_non (nomark _)) (x_one (x_cmp op_le so_cmpI (x_callB cr_lenD so_len rfl (He.free_ok KX G (C.says.fact 60 rfl)) (by first | rfl | kernel_rfl) (a_cons (x_v 1) a_nil)) (x_ix ix_seq so_ix (x_ix ix_seq so_ix (x_v 0) x_int (fun _ _ => rfl)) x_int (fun _ _ => rfl)) (nomark _))))))))
def m__law_enough : MS := (retM (orM (bin2 D.ge (callN D.sum (aCons (vM 1) aNil)) (bin2 D.ix (vM 0) (cM (.int 0)))) (andM (bin2 D.notN (bin2 D.ix (vM 0) (cM (.int 2))) (cM .non)) (bin2 D.ge (callN D.len (aCons (vM 1) aNil)) (bin2 D.ix (bin2 D.ix (vM 0) (cM (.int 2))) (cM (.int 1)))))))
theorem g__law_enough {P : Program} {w : World} {K : PySem.W.Frag} {mg : PySem.Str → Option Value} {base h : Heap} (KX : K.In h) (G : h.Ns mainGlobals mg) (C : Says fa fn ex K) : FnH P w K mg base 1 (He.ga K "_law_enough") (SpP K (He.ga K) 2 (mkP 2 2 m__law_enough)) := by
  obtain ⟨fd, F⟩ := C.says.def_ 36 (d := d__law_enough) rfl
  refine ⟨fd, ["bounds", "word"], fn_pure (N := N__law_enough) (ca := He.ga K) F sc__law_enough (fun cdv A outer s H E hr hgd => ?_), F.kp, F.bindsN fun _ _ _ _ _ _ us hl => match us, hl with | [_, _], _ => rfl⟩
  have tk : Takes (cxOf (L2.CX P w) P w K mg base N__law_enough "_law_enough" (defScope s__law_enough) (He.ga K "_law_enough") cdv A outer s H E) (fun cls d _ H' => E cls d H') := takes_of rfl rfl rfl rfl
  have po : PassesOwn (model P w) (cxOf (L2.CX P w) P w K mg base N__law_enough "_law_enough" (defScope s__law_enough) (He.ga K "_law_enough") cdv A outer s H E).A (cxOf (L2.CX P w) P w K mg base N__law_enough "_law_enough" (defScope s__law_enough) (He.ga K "_law_enough") cdv A outer s H E).env (cxOf (L2.CX P w) P w K mg base N__law_enough "_law_enough" (defScope s__law_enough) (He.ga K "_law_enough") cdv A outer s H E).xe := passes_of rfl
  exact (k_one (s_ret (x_or (x_cmp op_ge so_cmpI (x_callB (cr_sumD rfl) so_sum rfl (He.free_ok KX G (C.says.fact 67 rfl)) (by first | rfl | kernel_rfl) (a_cons (x_v 1) a_nil)) (x_ix ix_seq so_ix (x_v 0) x_int (fun _ _ => rfl)) (nomark _)) (x_one (x_and (x_cmp op_notD so_not (x_ix ix_seq so_ix (x_v 0) x_int (fun _ _ => rfl)) x_non (nomark _)) (x_one (x_cmp op_ge so_cmpI (x_callB cr_lenD so_len rfl (He.free_ok KX G (C.says.fact 60 rfl)) (by first | rfl | kernel_rfl) (a_cons (x_v 1) a_nil)) (x_ix ix_seq so_ix (x_ix ix_seq so_ix (x_v 0) x_int (fun _ _ => rfl)) x_int (fun _ _ => rfl)) (nomark _))))))))
def m__law_ends_s1 : MS := (parS [3, 4] [(cM (.int 0)), (lstM aNil)])
def m__law_ends_b1 : MS := (skM (augM 3 D.iadd (bin2 D.ix (vM 1) (bin2 D.sub (vM 5) (cM (.int 1))))) (skM (ifS (orT (tstB (bin2 D.gt (vM 3) (bin2 D.ix (vM 0) (cM (.int 1))))) (andT (tstB (bin2 D.notN (bin2 D.ix (vM 0) (cM (.int 2))) (cM .non))) (tstB (bin2 D.gt (bin2 D.sub (vM 5) (vM 2)) (bin2 D.ix (bin2 D.ix (vM 0) (cM (.int 2))) (cM (.int 0))))))) bkM nxM) (ifS (orT (tstB (bin2 D.ge (vM 3) (bin2 D.ix (vM 0) (cM (.int 0))))) (andT (tstB (bin2 D.notN (bin2 D.ix (vM 0) (cM (.int 2))) (cM .non))) (tstB (bin2 D.ge (bin2 D.sub (vM 5) (vM 2)) (bin2 D.ix (bin2 D.ix (vM 0) (cM (.int 2))) (cM (.int 1))))))) (apM (vM 4) (vM 5)) nxM)))
def m__law_ends_s2 : MS := (forM (rng2M (aCons (bin2 D.add (vM 2) (cM (.int 1))) (aCons (bin2 D.add (callN D.len (aCons (vM 1) aNil)) (cM (.int 1))) aNil))) (tN 5) m__law_ends_b1 [5])
def m__law_ends_s3 : MS := (retM (vM 4))
def m__law_ends : MS := (skM m__law_ends_s1 (skM m__law_ends_s2 m__law_ends_s3))
theorem g__law_ends {P : Program} {w : World} {K : PySem.W.Frag} {mg : PySem.Str → Option Value} {base h : Heap} (KX : K.In h) (G : h.Ns mainGlobals mg) (C : Says fa fn ex K) : FnH P w K mg base 1 (He.ga K "_law_ends") (SpP K (He.ga K) 3 (mkP 3 6 m__law_ends)) := by
  obtain ⟨fd, F⟩ := C.says.def_ 39 (d := d__law_ends) rfl
  refine ⟨fd, ["bounds", "word", "begin"], fn_pure (N := N__law_ends) (ca := He.ga K) F sc__law_ends (fun cdv A outer s H E hr hgd => ?_), F.kp, F.bindsN fun _ _ _ _ _ _ us hl => match us, hl with | [_, _, _], _ => rfl⟩
  have tk : Takes (cxOf (L2.CX P w) P w K mg base N__law_ends "_law_ends" (defScope s__law_ends) (He.ga K "_law_ends") cdv A outer s H E) (fun cls d _ H' => E cls d H') := takes_of rfl rfl rfl rfl
  have po : PassesOwn (model P w) (cxOf (L2.CX P w) P w K mg base N__law_ends "_law_ends" (defScope s__law_ends) (He.ga K "_law_ends") cdv A outer s H E).A (cxOf (L2.CX P w) P w K mg base N__law_ends "_law_ends" (defScope s__law_ends) (He.ga K "_law_ends") cdv A outer s H E).env (cxOf (L2.CX P w) P w K mg base N__law_ends "_law_ends" (defScope s__law_ends) (He.ga K "_law_ends") cdv A outer s H E).xe := passes_of rfl
  exact (k_cons (s_par2 rfl sc__law_ends.nd rfl rfl rfl rfl (p_cons 3 x_int (p_cons 4 (x_lst a_nil) p_nil))) (k_cons (s_for [5] po rfl (i_rng2 rfl (He.free_ok KX G (C.says.fact 64 rfl)) (a_cons (x_bin op_addD so_add (x_v 2) x_int) (a_cons (x_bin op_addD so_add (x_callB cr_lenD so_len rfl (He.free_ok KX G (C.says.fact 60 rfl)) (by first | rfl | kernel_rfl) (a_cons (x_v 1) a_nil)) x_int) a_nil))) (g_name 5 sc__law_ends.nd rfl (by first | exact .inl rfl | exact .inr rfl)) (k_cons (s_aug 3 sc__law_ends.nd rfl (by first | exact .inl rfl | exact .inr rfl) ip_add so_ipAdd (x_ix ix_seq so_ix (x_v 1) (x_bin op_sub so_sub (x_v 5) x_int) (fun _ _ => rfl))) (k_cons (s_if (t_w (w_or (t_cmp op_gt so_cmpI (x_v 3) (x_ix ix_seq so_ix (x_v 0) x_int (fun _ _ => rfl)) (nomark _)) (w_or1 (t_w (w_and (t_cmp op_notD so_not (x_ix ix_seq so_ix (x_v 0) x_int (fun _ _ => rfl)) x_non (nomark _)) (w_and1 (t_cmp op_gt so_cmpI (x_bin op_sub so_sub (x_v 5) (x_v 2)) (x_ix ix_seq so_ix (x_ix ix_seq so_ix (x_v 0) x_int (fun _ _ => rfl)) x_int (fun _ _ => rfl)) (nomark _)))))))) (k_one s_break) k_nil) (k_one (s_if (t_w (w_or (t_cmp op_ge so_cmpI (x_v 3) (x_ix ix_seq so_ix (x_v 0) x_int (fun _ _ => rfl)) (nomark _)) (w_or1 (t_w (w_and (t_cmp op_notD so_not (x_ix ix_seq so_ix (x_v 0) x_int (fun _ _ => rfl)) x_non (nomark _)) (w_and1 (t_cmp op_ge so_cmpI (x_bin op_sub so_sub (x_v 5) (x_v 2)) (x_ix ix_seq so_ix (x_ix ix_seq so_ix (x_v 0) x_int (fun _ _ => rfl)) x_int (fun _ _ => rfl)) (nomark _)))))))) (k_one (s_append (x_v 4) (x_v 5))) k_nil))))) (k_one (s_ret (x_v 4)))))
def m_is_count : MS := (retM (andM (callP (mkP 1 1 m_is_integer) (aCons (vM 0) aNil)) (bin2 D.ge (vM 0) (cM (.int 0)))))
theorem g_is_count {P : Program} {w : World} {K : PySem.W.Frag} {mg : PySem.Str → Option Value} {base h : Heap} (KX : K.In h) (G : h.Ns mainGlobals mg) (C : Says fa fn ex K) : FnH P w K mg base 2 (He.ga K "is_count") (SpP K (He.ga K) 1 (mkP 1 1 m_is_count)) := by
  obtain ⟨fd, F⟩ := C.says.def_ 1 (d := d_is_count) rfl
  refine ⟨fd, ["thing"], fn_pure (N := N_is_count) (ca := He.ga K) F sc_is_count (fun cdv A outer s H E hr hgd => ?_), F.kp, F.bindsN fun _ _ _ _ _ _ us hl => match us, hl with | [_], _ => rfl⟩
  have tk : Takes (cxOf (L2.CX P w) P w K mg base N_is_count "is_count" (defScope s_is_count) (He.ga K "is_count") cdv A outer s H E) (fun cls d _ H' => E cls d H') := takes_of rfl rfl rfl rfl
  have po : PassesOwn (model P w) (cxOf (L2.CX P w) P w K mg base N_is_count "is_count" (defScope s_is_count) (He.ga K "is_count") cdv A outer s H E).A (cxOf (L2.CX P w) P w K mg base N_is_count "is_count" (defScope s_is_count) (He.ga K "is_count") cdv A outer s H E).env (cxOf (L2.CX P w) P w K mg base N_is_count "is_count" (defScope s_is_count) (He.ga K "is_count") cdv A outer s H E).xe := passes_of rfl
  exact (k_one (s_ret (x_and (x_callH (g_is_integer KX G C) (hr.mono (by decide)) hgd tk rfl (He.glo_ok KX G (C.says.fact 0 rfl)) (a_cons (x_v 0) a_nil)) (x_one (x_cmp op_ge so_cmpI (x_v 0) x_int (nomark _))))))
def m_is_between : MS := (retM (andM (callP (mkP 1 1 m_is_integer) (aCons (vM 0) aNil)) (chn D.le D.le (vM 1) (vM 0) (vM 2))))
theorem g_is_between {P : Program} {w : World} {K : PySem.W.Frag} {mg : PySem.Str → Option Value} {base h : Heap} (KX : K.In h) (G : h.Ns mainGlobals mg) (C : Says fa fn ex K) : FnH P w K mg base 2 (He.ga K "is_between") (SpP K (He.ga K) 3 (mkP 3 3 m_is_between)) := by
  obtain ⟨fd, F⟩ := C.says.def_ 2 (d := d_is_between) rfl
  refine ⟨fd, ["thing", "least", "most"], fn_pure (N := N_is_between) (ca := He.ga K) F sc_is_between (fun cdv A outer s H E hr hgd => ?_), F.kp, F.bindsN fun _ _ _ _ _ _ us hl => match us, hl with | [_, _, _], _ => rfl⟩
  have tk : Takes (cxOf (L2.CX P w) P w K mg base N_is_between "is_between" (defScope s_is_between) (He.ga K "is_between") cdv A outer s H E) (fun cls d _ H' => E cls d H') := takes_of rfl rfl rfl rfl
  have po : PassesOwn (model P w) (cxOf (L2.CX P w) P w K mg base N_is_between "is_between" (defScope s_is_between) (He.ga K "is_between") cdv A outer s H E).A (cxOf (L2.CX P w) P w K mg base N_is_between "is_between" (defScope s_is_between) (He.ga K "is_between") cdv A outer s H E).env (cxOf (L2.CX P w) P w K mg base N_is_between "is_between" (defScope s_is_between) (He.ga K "is_between") cdv A outer s H E).xe := passes_of rfl
  exact (k_one (s_ret (x_and (x_callH (g_is_integer KX G C) (hr.mono (by decide)) hgd tk rfl (He.glo_ok KX G (C.says.fact 0 rfl)) (a_cons (x_v 0) a_nil)) (x_one (x_chain op_le so_cmpI op_le so_cmpI (x_v 1) (x_v 0) (x_v 2))))))
def m_filled : MS := (skM (unpM (tT [3, 4, 5]) (vM 1)) (skM (asgM 6 (ifM (tstB (bin2 D.isN (bin2 D.ix (vM 0) (cM (.int 2))) (cM .non))) (cM (.int 0)) (cM (.int 1)))) (skM (ifS (andT (tstB (bin2 D.gt (vM 3) (cM (.int 0)))) (tstM (callP (mkP 3 3 m_held) (aCons (vM 0) (aCons (bin2 D.add (vM 4) (vM 2)) (aCons (bin2 D.add (vM 5) (vM 6)) aNil)))))) (retM (tupM (aCons (vM 3) (aCons (bin2 D.add (vM 4) (vM 2)) (aCons (bin2 D.add (vM 5) (vM 6)) aNil))))) nxM) (retM (tupM (aCons (bin2 D.add (vM 3) (cM (.int 1))) (aCons (vM 2) (aCons (vM 6) aNil))))))))
theorem g_filled {P : Program} {w : World} {K : PySem.W.Frag} {mg : PySem.Str → Option Value} {base h : Heap} (KX : K.In h) (G : h.Ns mainGlobals mg) (C : Says fa fn ex K) : FnH P w K mg base 2 (He.ga K "filled") (SpP K (He.ga K) 3 (mkP 3 7 m_filled)) := by
  obtain ⟨fd, F⟩ := C.says.def_ 15 (d := d_filled) rfl
  refine ⟨fd, ["bounds", "standing", "length"], fn_pure (N := N_filled) (ca := He.ga K) F sc_filled (fun cdv A outer s H E hr hgd => ?_), F.kp, F.bindsN fun _ _ _ _ _ _ us hl => match us, hl with | [_, _, _], _ => rfl⟩
  have tk : Takes (cxOf (L2.CX P w) P w K mg base N_filled "filled" (defScope s_filled) (He.ga K "filled") cdv A outer s H E) (fun cls d _ H' => E cls d H') := takes_of rfl rfl rfl rfl
  have po : PassesOwn (model P w) (cxOf (L2.CX P w) P w K mg base N_filled "filled" (defScope s_filled) (He.ga K "filled") cdv A outer s H E).A (cxOf (L2.CX P w) P w K mg base N_filled "filled" (defScope s_filled) (He.ga K "filled") cdv A outer s H E).env (cxOf (L2.CX P w) P w K mg base N_filled "filled" (defScope s_filled) (He.ga K "filled") cdv A outer s H E).xe := passes_of rfl
  exact (k_cons (s_unp (g_tup (is := [3, 4, 5]) rfl (gs_cons 3 sc_filled.nd rfl (by first | exact .inl rfl | exact .inr rfl) (gs_cons 4 sc_filled.nd rfl (by first | exact .inl rfl | exact .inr rfl) (gs_cons 5 sc_filled.nd rfl (by first | exact .inl rfl | exact .inr rfl) gs_nil))) rfl) (x_v 1)) (k_cons (s_st 6 sc_filled.nd (x_if (t_cmp op_isD so_is (x_ix ix_seq so_ix (x_v 0) x_int (fun _ _ => rfl)) x_non (nomark _)) x_int x_int)) (k_cons (s_if (t_w (w_and (t_cmp op_gt so_cmpI (x_v 3) x_int (nomark _)) (w_and1 (t_val (x_callH (g_held KX G C) (hr.mono (by decide)) hgd tk rfl (He.glo_ok KX G (C.says.fact 10 rfl)) (a_cons (x_v 0) (a_cons (x_bin op_addD so_add (x_v 4) (x_v 2)) (a_cons (x_bin op_addD so_add (x_v 5) (x_v 6)) a_nil)))))))) (k_one (s_ret (x_tup (a_cons (x_v 3) (a_cons (x_bin op_addD so_add (x_v 4) (x_v 2)) (a_cons (x_bin op_addD so_add (x_v 5) (x_v 6)) a_nil)))))) k_nil) (k_one (s_ret (x_tup (a_cons (x_bin op_addD so_add (x_v 3) x_int) (a_cons (x_v 2) (a_cons (x_v 6) a_nil)))))))))
def m_closed : MS := (skM (unpM (tT [3, 4, 5]) (vM 1)) (skM (asgM 6 (ifM (tstB (bin2 D.isN (bin2 D.ix (vM 0) (cM (.int 2))) (cM .non))) (cM (.int 0)) (cM (.int 1)))) (skM (ifS (tstM (callP (mkP 3 3 m_enough) (aCons (vM 0) (aCons (bin2 D.add (vM 4) (vM 2)) (aCons (bin2 D.add (vM 5) (vM 6)) aNil))))) (retM (tupM (aCons (bin2 D.add (vM 3) (cM (.int 1))) (aCons (cM (.int 0)) (aCons (cM (.int 0)) aNil))))) nxM) (retM (tupM (aCons (vM 3) (aCons (bin2 D.add (vM 4) (vM 2)) (aCons (bin2 D.add (vM 5) (vM 6)) aNil))))))))
theorem g_closed {P : Program} {w : World} {K : PySem.W.Frag} {mg : PySem.Str → Option Value} {base h : Heap} (KX : K.In h) (G : h.Ns mainGlobals mg) (C : Says fa fn ex K) : FnH P w K mg base 2 (He.ga K "closed") (SpP K (He.ga K) 3 (mkP 3 7 m_closed)) := by
  obtain ⟨fd, F⟩ := C.says.def_ 16 (d := d_closed) rfl
  refine ⟨fd, ["bounds", "standing", "length"], fn_pure (N := N_closed) (ca := He.ga K) F sc_closed (fun cdv A outer s H E hr hgd => ?_), F.kp, F.bindsN fun _ _ _ _ _ _ us hl => match us, hl with | [_, _, _], _ => rfl⟩
  have tk : Takes (cxOf (L2.CX P w) P w K mg base N_closed "closed" (defScope s_closed) (He.ga K "closed") cdv A outer s H E) (fun cls d _ H' => E cls d H') := takes_of rfl rfl rfl rfl
  have po : PassesOwn (model P w) (cxOf (L2.CX P w) P w K mg base N_closed "closed" (defScope s_closed) (He.ga K "closed") cdv A outer s H E).A (cxOf (L2.CX P w) P w K mg base N_closed "closed" (defScope s_closed) (He.ga K "closed") cdv A outer s H E).env (cxOf (L2.CX P w) P w K mg base N_closed "closed" (defScope s_closed) (He.ga K "closed") cdv A outer s H E).xe := passes_of rfl
  exact (k_cons (s_unp (g_tup (is := [3, 4, 5]) rfl (gs_cons 3 sc_closed.nd rfl (by first | exact .inl rfl | exact .inr rfl) (gs_cons 4 sc_closed.nd rfl (by first | exact .inl rfl | exact .inr rfl) (gs_cons 5 sc_closed.nd rfl (by first | exact .inl rfl | exact .inr rfl) gs_nil))) rfl) (x_v 1)) (k_cons (s_st 6 sc_closed.nd (x_if (t_cmp op_isD so_is (x_ix ix_seq so_ix (x_v 0) x_int (fun _ _ => rfl)) x_non (nomark _)) x_int x_int)) (k_cons (s_if (t_val (x_callH (g_enough KX G C) (hr.mono (by decide)) hgd tk rfl (He.glo_ok KX G (C.says.fact 11 rfl)) (a_cons (x_v 0) (a_cons (x_bin op_addD so_add (x_v 4) (x_v 2)) (a_cons (x_bin op_addD so_add (x_v 5) (x_v 6)) a_nil))))) (k_one (s_ret (x_tup (a_cons (x_bin op_addD so_add (x_v 3) x_int) (a_cons x_int (a_cons x_int a_nil)))))) k_nil) (k_one (s_ret (x_tup (a_cons (x_v 3) (a_cons (x_bin op_addD so_add (x_v 4) (x_v 2)) (a_cons (x_bin op_addD so_add (x_v 5) (x_v 6)) a_nil)))))))))
def m__law_some : MS := (retM (bin2 D.ix (vM 1) (callB (mkB 1 7 m__law_take) (aCons (vM 0) (aCons (callN D.len (aCons (vM 1) aNil)) aNil)))))
theorem g__law_some {P : Program} {w : World} {K : PySem.W.Frag} {mg : PySem.Str → Option Value} {base h : Heap} (KX : K.In h) (G : h.Ns mainGlobals mg) (C : Says fa fn ex K) : FnH P w K mg base 2 (He.ga K "_law_some") (SpB K 1 (mkB 1 2 m__law_some)) := by
  obtain ⟨fd, F⟩ := C.says.def_ 30 (d := d__law_some) rfl
  refine ⟨fd, ["bag", "things"], fn_bag (N := N__law_some) (ca := He.ga K) F sc__law_some rfl (fun cdv A outer s H E hr hgd => ?_), F.kp, F.bindsN fun _ _ _ _ _ _ us hl => match us, hl with | [_, _], _ => rfl⟩
  have tk : Takes (cxOf (L2.CX P w) P w K mg base N__law_some "_law_some" (defScope s__law_some) (He.ga K "_law_some") cdv A outer s H E) (fun cls d _ H' => E cls d H') := takes_of rfl rfl rfl rfl
  have po : PassesOwn (model P w) (cxOf (L2.CX P w) P w K mg base N__law_some "_law_some" (defScope s__law_some) (He.ga K "_law_some") cdv A outer s H E).A (cxOf (L2.CX P w) P w K mg base N__law_some "_law_some" (defScope s__law_some) (He.ga K "_law_some") cdv A outer s H E).env (cxOf (L2.CX P w) P w K mg base N__law_some "_law_some" (defScope s__law_some) (He.ga K "_law_some") cdv A outer s H E).xe := passes_of rfl
  exact (k_one (s_ret (x_ix ix_seq so_ix (x_v 1) (x_callBH (g__law_take KX G C) (hr.mono (by decide)) hgd tk rfl (He.glo_ok KX G (C.says.fact 29 rfl)) (a_cons (x_v 0) (a_cons (x_callB cr_lenD so_len rfl (He.free_ok KX G (C.says.fact 60 rfl)) (by first | rfl | kernel_rfl) (a_cons (x_v 1) a_nil)) a_nil))) (fun _ _ => rfl))))
def m__law_lengths_s1 : MS := (asgM 2 (lstM (aCons (bin2 D.add (cM (.int 1)) (callB (mkB 1 7 m__law_take) (aCons (vM 0) (aCons (vM 1) aNil)))) aNil)))
def m__law_lengths_b1 : MS := (skM (asgM 4 (bin2 D.add (cM (.int 1)) (callB (mkB 1 7 m__law_take) (aCons (vM 0) (aCons (vM 1) aNil))))) (asgM 2 (ifM (tstB (bin2 D.nin (vM 4) (vM 2))) (bin2 D.add (vM 2) (lstM (aCons (vM 4) aNil))) (vM 2))))
def m__law_lengths_s2 : MS := (forM (rng1M (aCons (callB (mkB 1 7 m__law_take) (aCons (vM 0) (aCons (cM (.int 4)) aNil))) aNil)) (tN 3) m__law_lengths_b1 [3, 4])
def m__law_lengths_s3 : MS := (retM (callN D.toTup (aCons (callN D.sorted (aCons (vM 2) aNil)) aNil)))
def m__law_lengths : MS := (skM m__law_lengths_s1 (skM m__law_lengths_s2 m__law_lengths_s3))
theorem g__law_lengths {P : Program} {w : World} {K : PySem.W.Frag} {mg : PySem.Str → Option Value} {base h : Heap} (KX : K.In h) (G : h.Ns mainGlobals mg) (C : Says fa fn ex K) : FnH P w K mg base 2 (He.ga K "_law_lengths") (SpB K 1 (mkB 1 5 m__law_lengths)) := by
  obtain ⟨fd, F⟩ := C.says.def_ 32 (d := d__law_lengths) rfl
  refine ⟨fd, ["bag", "most"], fn_bag (N := N__law_lengths) (ca := He.ga K) F sc__law_lengths rfl (fun cdv A outer s H E hr hgd => ?_), F.kp, F.bindsN fun _ _ _ _ _ _ us hl => match us, hl with | [_, _], _ => rfl⟩
  have tk : Takes (cxOf (L2.CX P w) P w K mg base N__law_lengths "_law_lengths" (defScope s__law_lengths) (He.ga K "_law_lengths") cdv A outer s H E) (fun cls d _ H' => E cls d H') := takes_of rfl rfl rfl rfl
  have po : PassesOwn (model P w) (cxOf (L2.CX P w) P w K mg base N__law_lengths "_law_lengths" (defScope s__law_lengths) (He.ga K "_law_lengths") cdv A outer s H E).A (cxOf (L2.CX P w) P w K mg base N__law_lengths "_law_lengths" (defScope s__law_lengths) (He.ga K "_law_lengths") cdv A outer s H E).env (cxOf (L2.CX P w) P w K mg base N__law_lengths "_law_lengths" (defScope s__law_lengths) (He.ga K "_law_lengths") cdv A outer s H E).xe := passes_of rfl
  exact (k_cons (s_st 2 sc__law_lengths.nd (x_lst (a_cons (x_bin op_addD so_add x_int (x_callBH (g__law_take KX G C) (hr.mono (by decide)) hgd tk rfl (He.glo_ok KX G (C.says.fact 29 rfl)) (a_cons (x_v 0) (a_cons (x_v 1) a_nil)))) a_nil))) (k_cons (s_for [3, 4] po rfl (i_rng1 rfl (He.free_ok KX G (C.says.fact 64 rfl)) (a_cons (x_callBH (g__law_take KX G C) (hr.mono (by decide)) hgd tk rfl (He.glo_ok KX G (C.says.fact 29 rfl)) (a_cons (x_v 0) (a_cons x_int a_nil))) a_nil)) (g_name 3 sc__law_lengths.nd rfl (by first | exact .inl rfl | exact .inr rfl)) (k_cons (s_st 4 sc__law_lengths.nd (x_bin op_addD so_add x_int (x_callBH (g__law_take KX G C) (hr.mono (by decide)) hgd tk rfl (He.glo_ok KX G (C.says.fact 29 rfl)) (a_cons (x_v 0) (a_cons (x_v 1) a_nil))))) (k_one (s_st 2 sc__law_lengths.nd (x_if (t_cmp op_notIn_seq so_nin (x_v 4) (x_v 2) (by rfl)) (x_bin op_addD so_add (x_v 2) (x_lst (a_cons (x_v 4) a_nil))) (x_v 2)))))) (k_one (s_ret (x_callTy call_tuple_of so_tuple rfl (He.free_ok KX G (C.says.fact 68 rfl)) (by first | rfl | kernel_rfl) (a_cons (x_callB cr_sortedI so_sorted rfl (He.free_ok KX G (C.says.fact 66 rfl)) (by first | rfl | kernel_rfl) (a_cons (x_v 2) a_nil)) a_nil))))))
def m__law_bounds_s1 : MS := (asgM 2 (bin2 D.add (cM (.int 1)) (callB (mkB 1 7 m__law_take) (aCons (vM 0) (aCons (cM (.int 9)) aNil)))))
def m__law_bounds_s2 : MS := (asgM 3 (bin2 D.add (bin2 D.sub (bin2 D.add (vM 2) (bin2 D.ix (vM 1) (un1 D.neg (cM (.int 1))))) (cM (.int 1))) (callB (mkB 1 7 m__law_take) (aCons (vM 0) (aCons (cM (.int 9)) aNil)))))
def m__law_bounds_s3 : MS := (asgM 4 (bin2 D.add (cM (.int 1)) (callB (mkB 1 7 m__law_take) (aCons (vM 0) (aCons (cM (.int 5)) aNil)))))
def m__law_bounds_s4 : MS := (retM (tupM (aCons (vM 2) (aCons (vM 3) (aCons (ifM (tstB (bin2 D.eq (callB (mkB 1 7 m__law_take) (aCons (vM 0) (aCons (cM (.int 2)) aNil))) (cM (.int 0)))) (tupM (aCons (bin2 D.add (vM 4) (callB (mkB 1 7 m__law_take) (aCons (vM 0) (aCons (cM (.int 4)) aNil)))) (aCons (vM 4) aNil))) (cM .non)) aNil)))))
def m__law_bounds : MS := (skM m__law_bounds_s1 (skM m__law_bounds_s2 (skM m__law_bounds_s3 m__law_bounds_s4)))
theorem g__law_bounds {P : Program} {w : World} {K : PySem.W.Frag} {mg : PySem.Str → Option Value} {base h : Heap} (KX : K.In h) (G : h.Ns mainGlobals mg) (C : Says fa fn ex K) : FnH P w K mg base 2 (He.ga K "_law_bounds") (SpB K 1 (mkB 1 5 m__law_bounds)) := by
  obtain ⟨fd, F⟩ := C.says.def_ 33 (d := d__law_bounds) rfl
  refine ⟨fd, ["bag", "lengths"], fn_bag (N := N__law_bounds) (ca := He.ga K) F sc__law_bounds rfl (fun cdv A outer s H E hr hgd => ?_), F.kp, F.bindsN fun _ _ _ _ _ _ us hl => match us, hl with | [_, _], _ => rfl⟩
  have tk : Takes (cxOf (L2.CX P w) P w K mg base N__law_bounds "_law_bounds" (defScope s__law_bounds) (He.ga K "_law_bounds") cdv A outer s H E) (fun cls d _ H' => E cls d H') := takes_of rfl rfl rfl rfl
  have po : PassesOwn (model P w) (cxOf (L2.CX P w) P w K mg base N__law_bounds "_law_bounds" (defScope s__law_bounds) (He.ga K "_law_bounds") cdv A outer s H E).A (cxOf (L2.CX P w) P w K mg base N__law_bounds "_law_bounds" (defScope s__law_bounds) (He.ga K "_law_bounds") cdv A outer s H E).env (cxOf (L2.CX P w) P w K mg base N__law_bounds "_law_bounds" (defScope s__law_bounds) (He.ga K "_law_bounds") cdv A outer s H E).xe := passes_of rfl
  exact (k_cons (s_st 2 sc__law_bounds.nd (x_bin op_addD so_add x_int (x_callBH (g__law_take KX G C) (hr.mono (by decide)) hgd tk rfl (He.glo_ok KX G (C.says.fact 29 rfl)) (a_cons (x_v 0) (a_cons x_int a_nil))))) (k_cons (s_st 3 sc__law_bounds.nd (x_bin op_addD so_add (x_bin op_sub so_sub (x_bin op_addD so_add (x_v 2) (x_ix ix_seq so_ix (x_v 1) (x_un un_neg so_neg x_int) (fun _ _ => rfl))) x_int) (x_callBH (g__law_take KX G C) (hr.mono (by decide)) hgd tk rfl (He.glo_ok KX G (C.says.fact 29 rfl)) (a_cons (x_v 0) (a_cons x_int a_nil))))) (k_cons (s_st 4 sc__law_bounds.nd (x_bin op_addD so_add x_int (x_callBH (g__law_take KX G C) (hr.mono (by decide)) hgd tk rfl (He.glo_ok KX G (C.says.fact 29 rfl)) (a_cons (x_v 0) (a_cons x_int a_nil))))) (k_one (s_ret (x_tup (a_cons (x_v 2) (a_cons (x_v 3) (a_cons (x_if (t_cmp (op_eqA (un_ok hr)) so_eq (x_callBH (g__law_take KX G C) (hr.mono (by decide)) hgd tk rfl (He.glo_ok KX G (C.says.fact 29 rfl)) (a_cons (x_v 0) (a_cons x_int a_nil))) x_int (nomark _)) (x_tup (a_cons (x_bin op_addD so_add (x_v 4) (x_callBH (g__law_take KX G C) (hr.mono (by decide)) hgd tk rfl (He.glo_ok KX G (C.says.fact 29 rfl)) (a_cons (x_v 0) (a_cons x_int a_nil)))) (a_cons (x_v 4) a_nil))) x_non) a_nil)))))))))
def m__law_fewest_s1 : MS := (parS [2, 3] [(tupM (aCons (cM (.int 1)) (aCons (bin2 D.ix (vM 0) (cM (.int 1))) (aCons (ifM (tstB (bin2 D.isN (bin2 D.ix (vM 0) (cM (.int 2))) (cM .non))) (cM .non) (tupM (aCons (bin2 D.ix (bin2 D.ix (vM 0) (cM (.int 2))) (cM (.int 0))) (aCons (cM (.int 1)) aNil)))) aNil)))), (lstM (aCons (cM (.int 0)) aNil))])
def m__law_fewest_b1 : MS := (apM (vM 3) (bin2 D.add (cM (.int 1)) (callN D.min (aCons (lcM (seqM (callP (mkP 3 6 m__law_ends) (aCons (vM 2) (aCons (vM 1) (aCons (vM 4) aNil))))) (tN 5) yesT (bin2 D.ix (vM 3) (bin2 D.sub (callN D.len (aCons (vM 1) aNil)) (vM 5))) [5]) aNil))))
def m__law_fewest_s2 : MS := (forM (rng3M (aCons (bin2 D.sub (callN D.len (aCons (vM 1) aNil)) (cM (.int 1))) (aCons (un1 D.neg (cM (.int 1))) (aCons (un1 D.neg (cM (.int 1))) aNil)))) (tN 4) m__law_fewest_b1 [4])
def m__law_fewest_s3 : MS := (retM (bin2 D.ix (vM 3) (un1 D.neg (cM (.int 1)))))
def m__law_fewest : MS := (skM m__law_fewest_s1 (skM m__law_fewest_s2 m__law_fewest_s3))
theorem g__law_fewest {P : Program} {w : World} {K : PySem.W.Frag} {mg : PySem.Str → Option Value} {base h : Heap} (KX : K.In h) (G : h.Ns mainGlobals mg) (C : Says fa fn ex K) : FnH P w K mg base 2 (He.ga K "_law_fewest") (SpP K (He.ga K) 2 (mkP 2 6 m__law_fewest)) := by
  obtain ⟨fd, F⟩ := C.says.def_ 37 (d := d__law_fewest) rfl
  refine ⟨fd, ["bounds", "word"], fn_pure (N := N__law_fewest) (ca := He.ga K) F sc__law_fewest (fun cdv A outer s H E hr hgd => ?_), F.kp, F.bindsN fun _ _ _ _ _ _ us hl => match us, hl with | [_, _], _ => rfl⟩
  have tk : Takes (cxOf (L2.CX P w) P w K mg base N__law_fewest "_law_fewest" (defScope s__law_fewest) (He.ga K "_law_fewest") cdv A outer s H E) (fun cls d _ H' => E cls d H') := takes_of rfl rfl rfl rfl
  have po : PassesOwn (model P w) (cxOf (L2.CX P w) P w K mg base N__law_fewest "_law_fewest" (defScope s__law_fewest) (He.ga K "_law_fewest") cdv A outer s H E).A (cxOf (L2.CX P w) P w K mg base N__law_fewest "_law_fewest" (defScope s__law_fewest) (He.ga K "_law_fewest") cdv A outer s H E).env (cxOf (L2.CX P w) P w K mg base N__law_fewest "_law_fewest" (defScope s__law_fewest) (He.ga K "_law_fewest") cdv A outer s H E).xe := passes_of rfl
  exact (k_cons (s_parT (is := [2, 3]) (n := 2) rfl (gs_cons 2 sc__law_fewest.nd rfl (by first | exact .inl rfl | exact .inr rfl) (gs_cons 3 sc__law_fewest.nd rfl (by first | exact .inl rfl | exact .inr rfl) gs_nil)) (p_cons 2 (x_tup (a_cons x_int (a_cons (x_ix ix_seq so_ix (x_v 0) x_int (fun _ _ => rfl)) (a_cons (x_if (t_cmp op_isD so_is (x_ix ix_seq so_ix (x_v 0) x_int (fun _ _ => rfl)) x_non (nomark _)) x_non (x_tup (a_cons (x_ix ix_seq so_ix (x_ix ix_seq so_ix (x_v 0) x_int (fun _ _ => rfl)) x_int (fun _ _ => rfl)) (a_cons x_int a_nil)))) a_nil)))) (p_cons 3 (x_lst (a_cons x_int a_nil)) p_nil))) (k_cons (s_for [4] po rfl (i_rng3 rfl (He.free_ok KX G (C.says.fact 64 rfl)) (a_cons (x_bin op_sub so_sub (x_callB cr_lenD so_len rfl (He.free_ok KX G (C.says.fact 60 rfl)) (by first | rfl | kernel_rfl) (a_cons (x_v 1) a_nil)) x_int) (a_cons (x_un un_neg so_neg x_int) (a_cons (x_un un_neg so_neg x_int) a_nil)))) (g_name 4 sc__law_fewest.nd rfl (by first | exact .inl rfl | exact .inr rfl)) (k_one (s_append (x_v 3) (x_bin op_addD so_add x_int (x_callB (cr_minD rfl) so_min rfl (He.free_ok KX G (C.says.fact 63 rfl)) (by first | rfl | kernel_rfl) (a_cons (x_lc (gName 5) [("end", 5)] rfl sc__law_fewest.nd (i_seq (x_callH (g__law_ends KX G C) (hr.mono (by decide)) hgd tk rfl (He.glo_ok KX G (C.says.fact 39 rfl)) (a_cons (x_v 2) (a_cons (x_v 1) (a_cons (x_v 4) a_nil))))) (by kernel_rfl) (fun _ _ _ _ _ => (pg_name (i := 5) sc__law_fewest.nd rfl (by first | exact .inl rfl | exact .inr rfl))) ct_name (cw_name (by decide)) (fun _ _ _ _ _ => (x_ix ix_seq so_ix (x_v 3) (x_bin op_sub so_sub (x_callB cr_lenD so_len rfl (He.free_ok KX G (C.says.fact 60 rfl)) (by first | rfl | kernel_rfl) (a_cons (x_v 1) a_nil)) (x_v 5)) (fun _ _ => rfl)))) a_nil)))))) (k_one (s_ret (x_ix ix_seq so_ix (x_v 3) (x_un un_neg so_neg x_int) (fun _ _ => rfl))))))
def m__law_most_s1 : MS := (asgM 2 (lstM (aCons (cM (.int 0)) aNil)))
def m__law_most_b1 : MS := (skM (asgM 4 (lcM (rng1M (aCons (vM 3) aNil)) (tN 5) (tstM (callP (mkP 2 2 m__law_enough) (aCons (vM 0) (aCons (sl3 D.sl (vM 1) (oSome (vM 5)) (oSome (vM 3))) aNil)))) (bin2 D.add (bin2 D.ix (vM 2) (vM 5)) (cM (.int 1))) [5])) (apM (vM 2) (callN D.max (aCons (bin2 D.add (vM 4) (lstM (aCons (bin2 D.ix (vM 2) (un1 D.neg (cM (.int 1)))) aNil))) aNil))))
def m__law_most_s2 : MS := (forM (rng2M (aCons (cM (.int 1)) (aCons (bin2 D.add (callN D.len (aCons (vM 1) aNil)) (cM (.int 1))) aNil))) (tN 3) m__law_most_b1 [3, 4])
def m__law_most_s3 : MS := (retM (bin2 D.ix (vM 2) (un1 D.neg (cM (.int 1)))))
def m__law_most : MS := (skM m__law_most_s1 (skM m__law_most_s2 m__law_most_s3))
theorem g__law_most {P : Program} {w : World} {K : PySem.W.Frag} {mg : PySem.Str → Option Value} {base h : Heap} (KX : K.In h) (G : h.Ns mainGlobals mg) (C : Says fa fn ex K) : FnH P w K mg base 2 (He.ga K "_law_most") (SpP K (He.ga K) 2 (mkP 2 6 m__law_most)) := by
  obtain ⟨fd, F⟩ := C.says.def_ 38 (d := d__law_most) rfl
  refine ⟨fd, ["bounds", "word"], fn_pure (N := N__law_most) (ca := He.ga K) F sc__law_most (fun cdv A outer s H E hr hgd => ?_), F.kp, F.bindsN fun _ _ _ _ _ _ us hl => match us, hl with | [_, _], _ => rfl⟩
  have tk : Takes (cxOf (L2.CX P w) P w K mg base N__law_most "_law_most" (defScope s__law_most) (He.ga K "_law_most") cdv A outer s H E) (fun cls d _ H' => E cls d H') := takes_of rfl rfl rfl rfl
  have po : PassesOwn (model P w) (cxOf (L2.CX P w) P w K mg base N__law_most "_law_most" (defScope s__law_most) (He.ga K "_law_most") cdv A outer s H E).A (cxOf (L2.CX P w) P w K mg base N__law_most "_law_most" (defScope s__law_most) (He.ga K "_law_most") cdv A outer s H E).env (cxOf (L2.CX P w) P w K mg base N__law_most "_law_most" (defScope s__law_most) (He.ga K "_law_most") cdv A outer s H E).xe := passes_of rfl
  exact (k_cons (s_st 2 sc__law_most.nd (x_lst (a_cons x_int a_nil))) (k_cons (s_for [3, 4] po rfl (i_rng2 rfl (He.free_ok KX G (C.says.fact 64 rfl)) (a_cons x_int (a_cons (x_bin op_addD so_add (x_callB cr_lenD so_len rfl (He.free_ok KX G (C.says.fact 60 rfl)) (by first | rfl | kernel_rfl) (a_cons (x_v 1) a_nil)) x_int) a_nil))) (g_name 3 sc__law_most.nd rfl (by first | exact .inl rfl | exact .inr rfl)) (k_cons (s_lcIf 4 (gName 5) [("begin", 5)] rfl sc__law_most.nd rfl rfl (i_rng1 rfl (He.free_ok KX G (C.says.fact 64 rfl)) (a_cons (x_v 3) a_nil)) (by kernel_rfl) (fun _ _ _ _ _ => (pg_name (i := 5) sc__law_most.nd rfl (by first | exact .inl rfl | exact .inr rfl))) ct_name (cw_name (by decide)) (fun _ _ _ _ _ => (t_val (x_callH (g__law_enough KX G C) (hr.mono (by decide)) hgd LamX.takes0 rfl (He.glo_ok KX G (C.says.fact 36 rfl)) (a_cons (x_v 0) (a_cons (x_slice sl_D so_sl (x_v 1) (o_some (x_v 5)) (o_some (x_v 3))) a_nil))))) (fun _ _ _ _ _ => (x_bin op_addD so_add (x_ix ix_seq so_ix (x_v 2) (x_v 5) (fun _ _ => rfl)) x_int))) (k_one (s_append (x_v 2) (x_callB (cr_maxD rfl) so_max rfl (He.free_ok KX G (C.says.fact 62 rfl)) (by first | rfl | kernel_rfl) (a_cons (x_bin op_addD so_add (x_v 4) (x_lst (a_cons (x_ix ix_seq so_ix (x_v 2) (x_un un_neg so_neg x_int) (fun _ _ => rfl)) a_nil))) a_nil)))))) (k_one (s_ret (x_ix ix_seq so_ix (x_v 2) (x_un un_neg so_neg x_int) (fun _ _ => rfl))))))
def m__law_bare : MS := (retM (tupM (aCons (callB (mkB 1 7 m__law_take) (aCons (vM 0) (aCons (cM (.int 4)) aNil))) (aCons (callB (mkB 1 7 m__law_take) (aCons (vM 0) (aCons (bin2 D.add (bin2 D.ix (vM 1) (cM (.int 1))) (cM (.int 1))) aNil))) (aCons (callB (mkB 1 7 m__law_take) (aCons (vM 0) (aCons (cM (.int 6)) aNil))) aNil)))))
theorem g__law_bare {P : Program} {w : World} {K : PySem.W.Frag} {mg : PySem.Str → Option Value} {base h : Heap} (KX : K.In h) (G : h.Ns mainGlobals mg) (C : Says fa fn ex K) : FnH P w K mg base 2 (He.ga K "_law_bare") (SpB K 1 (mkB 1 2 m__law_bare)) := by
  obtain ⟨fd, F⟩ := C.says.def_ 40 (d := d__law_bare) rfl
  refine ⟨fd, ["bag", "bounds"], fn_bag (N := N__law_bare) (ca := He.ga K) F sc__law_bare rfl (fun cdv A outer s H E hr hgd => ?_), F.kp, F.bindsN fun _ _ _ _ _ _ us hl => match us, hl with | [_, _], _ => rfl⟩
  have tk : Takes (cxOf (L2.CX P w) P w K mg base N__law_bare "_law_bare" (defScope s__law_bare) (He.ga K "_law_bare") cdv A outer s H E) (fun cls d _ H' => E cls d H') := takes_of rfl rfl rfl rfl
  have po : PassesOwn (model P w) (cxOf (L2.CX P w) P w K mg base N__law_bare "_law_bare" (defScope s__law_bare) (He.ga K "_law_bare") cdv A outer s H E).A (cxOf (L2.CX P w) P w K mg base N__law_bare "_law_bare" (defScope s__law_bare) (He.ga K "_law_bare") cdv A outer s H E).env (cxOf (L2.CX P w) P w K mg base N__law_bare "_law_bare" (defScope s__law_bare) (He.ga K "_law_bare") cdv A outer s H E).xe := passes_of rfl
  exact (k_one (s_ret (x_tup (a_cons (x_callBH (g__law_take KX G C) (hr.mono (by decide)) hgd tk rfl (He.glo_ok KX G (C.says.fact 29 rfl)) (a_cons (x_v 0) (a_cons x_int a_nil))) (a_cons (x_callBH (g__law_take KX G C) (hr.mono (by decide)) hgd tk rfl (He.glo_ok KX G (C.says.fact 29 rfl)) (a_cons (x_v 0) (a_cons (x_bin op_addD so_add (x_ix ix_seq so_ix (x_v 1) x_int (fun _ _ => rfl)) x_int) a_nil))) (a_cons (x_callBH (g__law_take KX G C) (hr.mono (by decide)) hgd tk rfl (He.glo_ok KX G (C.says.fact 29 rfl)) (a_cons (x_v 0) (a_cons x_int a_nil))) a_nil))))))
def m_are_falling : MS := (retM (andM (callP (mkP 2 2 m_is_sized) (aCons (vM 0) (aCons (cM (.int 2)) aNil))) (andM (callP (mkP 3 3 m_is_between) (aCons (bin2 D.ix (vM 0) (cM (.int 0))) (aCons (cM (.int 1)) (aCons (vM 1) aNil)))) (callP (mkP 3 3 m_is_between) (aCons (bin2 D.ix (vM 0) (cM (.int 1))) (aCons (cM (.int 1)) (aCons (bin2 D.ix (vM 0) (cM (.int 0))) aNil)))))))
theorem g_are_falling {P : Program} {w : World} {K : PySem.W.Frag} {mg : PySem.Str → Option Value} {base h : Heap} (KX : K.In h) (G : h.Ns mainGlobals mg) (C : Says fa fn ex K) : FnH P w K mg base 3 (He.ga K "are_falling") (SpP K (He.ga K) 2 (mkP 2 2 m_are_falling)) := by
  obtain ⟨fd, F⟩ := C.says.def_ 4 (d := d_are_falling) rfl
  refine ⟨fd, ["thing", "most"], fn_pure (N := N_are_falling) (ca := He.ga K) F sc_are_falling (fun cdv A outer s H E hr hgd => ?_), F.kp, F.bindsN fun _ _ _ _ _ _ us hl => match us, hl with | [_, _], _ => rfl⟩
  have tk : Takes (cxOf (L2.CX P w) P w K mg base N_are_falling "are_falling" (defScope s_are_falling) (He.ga K "are_falling") cdv A outer s H E) (fun cls d _ H' => E cls d H') := takes_of rfl rfl rfl rfl
  have po : PassesOwn (model P w) (cxOf (L2.CX P w) P w K mg base N_are_falling "are_falling" (defScope s_are_falling) (He.ga K "are_falling") cdv A outer s H E).A (cxOf (L2.CX P w) P w K mg base N_are_falling "are_falling" (defScope s_are_falling) (He.ga K "are_falling") cdv A outer s H E).env (cxOf (L2.CX P w) P w K mg base N_are_falling "are_falling" (defScope s_are_falling) (He.ga K "are_falling") cdv A outer s H E).xe := passes_of rfl
  exact (k_one (s_ret (x_and (x_callH (g_is_sized KX G C) (hr.mono (by decide)) hgd tk rfl (He.glo_ok KX G (C.says.fact 3 rfl)) (a_cons (x_v 0) (a_cons x_int a_nil))) (x_and (x_callH (g_is_between KX G C) (hr.mono (by decide)) hgd tk rfl (He.glo_ok KX G (C.says.fact 2 rfl)) (a_cons (x_ix ix_seq so_ix (x_v 0) x_int (fun _ _ => rfl)) (a_cons x_int (a_cons (x_v 1) a_nil)))) (x_one (x_callH (g_is_between KX G C) (hr.mono (by decide)) hgd tk rfl (He.glo_ok KX G (C.says.fact 2 rfl)) (a_cons (x_ix ix_seq so_ix (x_v 0) x_int (fun _ _ => rfl)) (a_cons x_int (a_cons (x_ix ix_seq so_ix (x_v 0) x_int (fun _ _ => rfl)) a_nil)))))))))
def m_is_length_word : MS := (skM (ifS (orT (notT (tstM (callN D.isi (aCons (vM 0) (aCons (cM (.ty "tuple")) aNil))))) (tstB (bin2 D.gt (callN D.len (aCons (vM 0) aNil)) (cM (.int 1000))))) (retM (cM (.bl false))) nxM) (retM (callN D.all (aCons (lcM (seqM (vM 0)) (tN 1) yesT (callP (mkP 3 3 m_is_between) (aCons (vM 1) (aCons (cM (.int 1)) (aCons (cM (.int 12)) aNil)))) [1]) aNil))))
theorem g_is_length_word {P : Program} {w : World} {K : PySem.W.Frag} {mg : PySem.Str → Option Value} {base h : Heap} (KX : K.In h) (G : h.Ns mainGlobals mg) (C : Says fa fn ex K) : FnH P w K mg base 3 (He.ga K "is_length_word") (SpP K (He.ga K) 1 (mkP 1 2 m_is_length_word)) := by
  obtain ⟨fd, F⟩ := C.says.def_ 7 (d := d_is_length_word) rfl
  refine ⟨fd, ["thing"], fn_pure (N := N_is_length_word) (ca := He.ga K) F sc_is_length_word (fun cdv A outer s H E hr hgd => ?_), F.kp, F.bindsN fun _ _ _ _ _ _ us hl => match us, hl with | [_], _ => rfl⟩
  have tk : Takes (cxOf (L2.CX P w) P w K mg base N_is_length_word "is_length_word" (defScope s_is_length_word) (He.ga K "is_length_word") cdv A outer s H E) (fun cls d _ H' => E cls d H') := takes_of rfl rfl rfl rfl
  have po : PassesOwn (model P w) (cxOf (L2.CX P w) P w K mg base N_is_length_word "is_length_word" (defScope s_is_length_word) (He.ga K "is_length_word") cdv A outer s H E).A (cxOf (L2.CX P w) P w K mg base N_is_length_word "is_length_word" (defScope s_is_length_word) (He.ga K "is_length_word") cdv A outer s H E).env (cxOf (L2.CX P w) P w K mg base N_is_length_word "is_length_word" (defScope s_is_length_word) (He.ga K "is_length_word") cdv A outer s H E).xe := passes_of rfl
  exact (k_cons (s_if (t_w (w_or (t_not (t_val (x_callB call_isi so_isi rfl (He.free_ok KX G (C.says.fact 59 rfl)) (by first | rfl | kernel_rfl) (a_cons (x_v 0) (a_cons (x_ty rfl (He.free_ok KX G (C.says.fact 68 rfl)) (by first | rfl | kernel_rfl)) a_nil))))) (w_or1 (t_cmp op_gt so_cmpI (x_callB cr_lenD so_len rfl (He.free_ok KX G (C.says.fact 60 rfl)) (by first | rfl | kernel_rfl) (a_cons (x_v 0) a_nil)) (x_gint rfl (He.int_ok KX G (C.says.fact 45 rfl))) (nomark _))))) (k_one (s_ret x_bl)) k_nil) (k_one (s_ret (x_callB (cr_all rfl) so_all rfl (He.free_ok KX G (C.says.fact 54 rfl)) (by first | rfl | kernel_rfl) (a_cons (x_lc (gName 1) [("one", 1)] rfl sc_is_length_word.nd (i_seq (x_v 0)) (by kernel_rfl) (fun _ _ _ _ _ => (pg_name (i := 1) sc_is_length_word.nd rfl (by first | exact .inl rfl | exact .inr rfl))) ct_name (cw_name (by decide)) (fun _ _ _ _ _ => (x_callH (g_is_between KX G C) (hr.mono (by decide)) hgd LamX.takes0 rfl (He.glo_ok KX G (C.says.fact 2 rfl)) (a_cons (x_v 1) (a_cons x_int (a_cons (x_gint rfl (He.int_ok KX G (C.says.fact 44 rfl))) a_nil)))))) a_nil)))))
def m_is_standing : MS := (retM (andM (callN D.isi (aCons (vM 0) (aCons (cM (.ty "tuple")) aNil))) (andM (bin2 D.eq (callN D.len (aCons (vM 0) aNil)) (cM (.int 3))) (callN D.all (aCons (lcM (seqM (vM 0)) (tN 1) yesT (callP (mkP 1 1 m_is_count) (aCons (vM 1) aNil)) [1]) aNil)))))
theorem g_is_standing {P : Program} {w : World} {K : PySem.W.Frag} {mg : PySem.Str → Option Value} {base h : Heap} (KX : K.In h) (G : h.Ns mainGlobals mg) (C : Says fa fn ex K) : FnH P w K mg base 3 (He.ga K "is_standing") (SpP K (He.ga K) 1 (mkP 1 2 m_is_standing)) := by
  obtain ⟨fd, F⟩ := C.says.def_ 14 (d := d_is_standing) rfl
  refine ⟨fd, ["thing"], fn_pure (N := N_is_standing) (ca := He.ga K) F sc_is_standing (fun cdv A outer s H E hr hgd => ?_), F.kp, F.bindsN fun _ _ _ _ _ _ us hl => match us, hl with | [_], _ => rfl⟩
  have tk : Takes (cxOf (L2.CX P w) P w K mg base N_is_standing "is_standing" (defScope s_is_standing) (He.ga K "is_standing") cdv A outer s H E) (fun cls d _ H' => E cls d H') := takes_of rfl rfl rfl rfl
  have po : PassesOwn (model P w) (cxOf (L2.CX P w) P w K mg base N_is_standing "is_standing" (defScope s_is_standing) (He.ga K "is_standing") cdv A outer s H E).A (cxOf (L2.CX P w) P w K mg base N_is_standing "is_standing" (defScope s_is_standing) (He.ga K "is_standing") cdv A outer s H E).env (cxOf (L2.CX P w) P w K mg base N_is_standing "is_standing" (defScope s_is_standing) (He.ga K "is_standing") cdv A outer s H E).xe := passes_of rfl
  exact (k_one (s_ret (x_and (x_callB call_isi so_isi rfl (He.free_ok KX G (C.says.fact 59 rfl)) (by first | rfl | kernel_rfl) (a_cons (x_v 0) (a_cons (x_ty rfl (He.free_ok KX G (C.says.fact 68 rfl)) (by first | rfl | kernel_rfl)) a_nil))) (x_and (x_cmp (op_eqA (un_ok hr)) so_eq (x_callB cr_lenD so_len rfl (He.free_ok KX G (C.says.fact 60 rfl)) (by first | rfl | kernel_rfl) (a_cons (x_v 0) a_nil)) x_int (nomark _)) (x_one (x_callB (cr_all rfl) so_all rfl (He.free_ok KX G (C.says.fact 54 rfl)) (by first | rfl | kernel_rfl) (a_cons (x_lc (gName 1) [("one", 1)] rfl sc_is_standing.nd (i_seq (x_v 0)) (by kernel_rfl) (fun _ _ _ _ _ => (pg_name (i := 1) sc_is_standing.nd rfl (by first | exact .inl rfl | exact .inr rfl))) ct_name (cw_name (by decide)) (fun _ _ _ _ _ => (x_callH (g_is_count KX G C) (hr.mono (by decide)) hgd LamX.takes0 rfl (He.glo_ok KX G (C.says.fact 1 rfl)) (a_cons (x_v 1) a_nil)))) a_nil)))))))
def m_read_by_s1 (K : PySem.W.Frag) : MS := (asgM 3 (cM (.tup (([0, 0, 0] : List Int).map .int))))
def m_read_by_b1 (K : PySem.W.Frag) : MS := (asgM 3 (callL 0 [((He.ga K "filled"), (mkP 3 7 m_filled)), ((He.ga K "closed"), (mkP 3 7 m_closed))] (aCons (vM 1) (aCons (vM 3) (aCons (vM 4) aNil)))))
def m_read_by_s2 (K : PySem.W.Frag) : MS := (forM (seqM (vM 2)) (tN 4) (m_read_by_b1 K) [4])
def m_read_by_s3 (K : PySem.W.Frag) : MS := (retM (vM 3))
def m_read_by (K : PySem.W.Frag) : MS := (skM (m_read_by_s1 K) (skM (m_read_by_s2 K) (m_read_by_s3 K)))
theorem g_read_by {P : Program} {w : World} {K : PySem.W.Frag} {mg : PySem.Str → Option Value} {base h : Heap} (KX : K.In h) (G : h.Ns mainGlobals mg) (C : Says fa fn ex K) : FnH P w K mg base 3 (He.ga K "read_by") (SpP K (He.ga K) 3 (mkP 3 5 (m_read_by K))) := by
  obtain ⟨fd, F⟩ := C.says.def_ 20 (d := d_read_by) rfl
  refine ⟨fd, ["step", "bounds", "word"], fn_pure (N := N_read_by) (ca := He.ga K) F sc_read_by (fun cdv A outer s H E hr hgd => ?_), F.kp, F.bindsN fun _ _ _ _ _ _ us hl => match us, hl with | [_, _, _], _ => rfl⟩
  have tk : Takes (cxOf (L2.CX P w) P w K mg base N_read_by "read_by" (defScope s_read_by) (He.ga K "read_by") cdv A outer s H E) (fun cls d _ H' => E cls d H') := takes_of rfl rfl rfl rfl
  have po : PassesOwn (model P w) (cxOf (L2.CX P w) P w K mg base N_read_by "read_by" (defScope s_read_by) (He.ga K "read_by") cdv A outer s H E).A (cxOf (L2.CX P w) P w K mg base N_read_by "read_by" (defScope s_read_by) (He.ga K "read_by") cdv A outer s H E).env (cxOf (L2.CX P w) P w K mg base N_read_by "read_by" (defScope s_read_by) (He.ga K "read_by") cdv A outer s H E).xe := passes_of rfl
  exact (k_cons (s_st 3 sc_read_by.nd (x_gtupI (is := [0, 0, 0]) rfl (He.glo_ok KX G (C.says.fact 46 rfl)) (C.ex (fun K => He.tupB K "START" (([0, 0, 0] : List Int).map .int)) (List.mem_of_getElem? (i := 0) rfl)))) (k_cons (s_for [4] po rfl (i_seq (x_v 2)) (g_name 4 sc_read_by.nd rfl (by first | exact .inl rfl | exact .inr rfl)) (k_one (s_st 3 sc_read_by.nd (x_callLH (k := 2) (n := 3) 0 (tab := [((He.ga K "filled"), (mkP 3 7 m_filled)), ((He.ga K "closed"), (mkP 3 7 m_closed))]) (tab_cons ((g_filled KX G C).up (by decide)) (tab_cons ((g_closed KX G C).up (by decide)) tab_nil)) (hr.mono (by decide)) hgd tk rfl (by first | exact .inl rfl | exact .inr (.inl rfl) | exact .inr (.inr rfl)) (a_cons (x_v 1) (a_cons (x_v 3) (a_cons (x_v 4) a_nil))))))) (k_one (s_ret (x_v 3)))))
def m__law_word_s1 : MS := (asgM 3 (lstM aNil))
def m__law_word_b1 : MS := (apM (vM 3) (ifM (tstB (bin2 D.eq (vM 5) (cM (.int 0)))) (vM 6) (callB (mkB 1 2 m__law_some) (aCons (vM 0) (aCons (vM 1) aNil)))))
def m__law_word_b2 : MS := (skM (parS [5, 6] [(callB (mkB 1 7 m__law_take) (aCons (vM 0) (aCons (cM (.int 2)) aNil))), (callB (mkB 1 2 m__law_some) (aCons (vM 0) (aCons (vM 1) aNil)))]) (forM (rng1M (aCons (callB (mkB 1 7 m__law_take) (aCons (vM 0) (aCons (vM 2) aNil))) aNil)) (tN 7) m__law_word_b1 [7]))
def m__law_word_s2 : MS := (forM (rng1M (aCons (bin2 D.add (cM (.int 1)) (callB (mkB 1 7 m__law_take) (aCons (vM 0) (aCons (cM (.int 4)) aNil)))) aNil)) (tN 4) m__law_word_b2 [4, 5, 6, 7])
def m__law_word_s3 : MS := (retM (callN D.toTup (aCons (vM 3) aNil)))
def m__law_word : MS := (skM m__law_word_s1 (skM m__law_word_s2 m__law_word_s3))
theorem g__law_word {P : Program} {w : World} {K : PySem.W.Frag} {mg : PySem.Str → Option Value} {base h : Heap} (KX : K.In h) (G : h.Ns mainGlobals mg) (C : Says fa fn ex K) : FnH P w K mg base 3 (He.ga K "_law_word") (SpB K 2 (mkB 2 8 m__law_word)) := by
  obtain ⟨fd, F⟩ := C.says.def_ 34 (d := d__law_word) rfl
  refine ⟨fd, ["bag", "lengths", "most"], fn_bag (N := N__law_word) (ca := He.ga K) F sc__law_word rfl (fun cdv A outer s H E hr hgd => ?_), F.kp, F.bindsN fun _ _ _ _ _ _ us hl => match us, hl with | [_, _, _], _ => rfl⟩
  have tk : Takes (cxOf (L2.CX P w) P w K mg base N__law_word "_law_word" (defScope s__law_word) (He.ga K "_law_word") cdv A outer s H E) (fun cls d _ H' => E cls d H') := takes_of rfl rfl rfl rfl
  have po : PassesOwn (model P w) (cxOf (L2.CX P w) P w K mg base N__law_word "_law_word" (defScope s__law_word) (He.ga K "_law_word") cdv A outer s H E).A (cxOf (L2.CX P w) P w K mg base N__law_word "_law_word" (defScope s__law_word) (He.ga K "_law_word") cdv A outer s H E).env (cxOf (L2.CX P w) P w K mg base N__law_word "_law_word" (defScope s__law_word) (He.ga K "_law_word") cdv A outer s H E).xe := passes_of rfl
  exact (k_cons (s_st 3 sc__law_word.nd (x_lst a_nil)) (k_cons (s_for [4, 5, 6, 7] po rfl (i_rng1 rfl (He.free_ok KX G (C.says.fact 64 rfl)) (a_cons (x_bin op_addD so_add x_int (x_callBH (g__law_take KX G C) (hr.mono (by decide)) hgd tk rfl (He.glo_ok KX G (C.says.fact 29 rfl)) (a_cons (x_v 0) (a_cons x_int a_nil)))) a_nil)) (g_name 4 sc__law_word.nd rfl (by first | exact .inl rfl | exact .inr rfl)) (k_cons (s_par2 rfl sc__law_word.nd rfl rfl rfl rfl (p_cons 5 (x_callBH (g__law_take KX G C) (hr.mono (by decide)) hgd tk rfl (He.glo_ok KX G (C.says.fact 29 rfl)) (a_cons (x_v 0) (a_cons x_int a_nil))) (p_cons 6 (x_callBH (g__law_some KX G C) (hr.mono (by decide)) hgd tk rfl (He.glo_ok KX G (C.says.fact 30 rfl)) (a_cons (x_v 0) (a_cons (x_v 1) a_nil))) p_nil))) (k_one (s_for [7] po rfl (i_rng1 rfl (He.free_ok KX G (C.says.fact 64 rfl)) (a_cons (x_callBH (g__law_take KX G C) (hr.mono (by decide)) hgd tk rfl (He.glo_ok KX G (C.says.fact 29 rfl)) (a_cons (x_v 0) (a_cons (x_v 2) a_nil))) a_nil)) (g_name 7 sc__law_word.nd rfl (by first | exact .inl rfl | exact .inr rfl)) (k_one (s_append (x_v 3) (x_if (t_cmp (op_eqA (un_ok hr)) so_eq (x_v 5) x_int (nomark _)) (x_v 6) (x_callBH (g__law_some KX G C) (hr.mono (by decide)) hgd tk rfl (He.glo_ok KX G (C.says.fact 30 rfl)) (a_cons (x_v 0) (a_cons (x_v 1) a_nil)))))))))) (k_one (s_ret (x_callTy call_tuple_of so_tuple rfl (He.free_ok KX G (C.says.fact 68 rfl)) (by first | rfl | kernel_rfl) (a_cons (x_v 3) a_nil))))))
def m_is_slots : MS := (retM (orM (bin2 D.isN (vM 0) (cM .non)) (callP (mkP 2 2 m_are_falling) (aCons (vM 0) (aCons (cM (.int 30)) aNil)))))
theorem g_is_slots {P : Program} {w : World} {K : PySem.W.Frag} {mg : PySem.Str → Option Value} {base h : Heap} (KX : K.In h) (G : h.Ns mainGlobals mg) (C : Says fa fn ex K) : FnH P w K mg base 4 (He.ga K "is_slots") (SpP K (He.ga K) 1 (mkP 1 1 m_is_slots)) := by
  obtain ⟨fd, F⟩ := C.says.def_ 5 (d := d_is_slots) rfl
  refine ⟨fd, ["thing"], fn_pure (N := N_is_slots) (ca := He.ga K) F sc_is_slots (fun cdv A outer s H E hr hgd => ?_), F.kp, F.bindsN fun _ _ _ _ _ _ us hl => match us, hl with | [_], _ => rfl⟩
  have tk : Takes (cxOf (L2.CX P w) P w K mg base N_is_slots "is_slots" (defScope s_is_slots) (He.ga K "is_slots") cdv A outer s H E) (fun cls d _ H' => E cls d H') := takes_of rfl rfl rfl rfl
  have po : PassesOwn (model P w) (cxOf (L2.CX P w) P w K mg base N_is_slots "is_slots" (defScope s_is_slots) (He.ga K "is_slots") cdv A outer s H E).A (cxOf (L2.CX P w) P w K mg base N_is_slots "is_slots" (defScope s_is_slots) (He.ga K "is_slots") cdv A outer s H E).env (cxOf (L2.CX P w) P w K mg base N_is_slots "is_slots" (defScope s_is_slots) (He.ga K "is_slots") cdv A outer s H E).xe := passes_of rfl
  exact (k_one (s_ret (x_or (x_cmp op_isD so_is (x_v 0) x_non (nomark _)) (x_one (x_callH (g_are_falling KX G C) (hr.mono (by decide)) hgd tk rfl (He.glo_ok KX G (C.says.fact 4 rfl)) (a_cons (x_v 0) (a_cons (x_gint rfl (He.int_ok KX G (C.says.fact 42 rfl))) a_nil)))))))
def m_is_ahead : MS := (skM (ifS (orT (notT (tstM (callP (mkP 1 2 m_is_standing) (aCons (vM 0) aNil)))) (notT (tstM (callP (mkP 1 2 m_is_standing) (aCons (vM 1) aNil))))) (raiM "Nothing") nxM) (retM (callP (mkP 2 2 m_ahead) (aCons (vM 0) (aCons (vM 1) aNil)))))
theorem g_is_ahead {P : Program} {w : World} {K : PySem.W.Frag} {mg : PySem.Str → Option Value} {base h : Heap} (KX : K.In h) (G : h.Ns mainGlobals mg) (C : Says fa fn ex K) : FnH P w K mg base 4 (He.ga K "is_ahead") (SpP K (He.ga K) 2 (mkP 2 2 m_is_ahead)) := by
  obtain ⟨fd, F⟩ := C.says.def_ 27 (d := d_is_ahead) rfl
  refine ⟨fd, ["one", "other"], fn_pure (N := N_is_ahead) (ca := He.ga K) F sc_is_ahead (fun cdv A outer s H E hr hgd => ?_), F.kp, F.bindsN fun _ _ _ _ _ _ us hl => match us, hl with | [_, _], _ => rfl⟩
  have tk : Takes (cxOf (L2.CX P w) P w K mg base N_is_ahead "is_ahead" (defScope s_is_ahead) (He.ga K "is_ahead") cdv A outer s H E) (fun cls d _ H' => E cls d H') := takes_of rfl rfl rfl rfl
  have po : PassesOwn (model P w) (cxOf (L2.CX P w) P w K mg base N_is_ahead "is_ahead" (defScope s_is_ahead) (He.ga K "is_ahead") cdv A outer s H E).A (cxOf (L2.CX P w) P w K mg base N_is_ahead "is_ahead" (defScope s_is_ahead) (He.ga K "is_ahead") cdv A outer s H E).env (cxOf (L2.CX P w) P w K mg base N_is_ahead "is_ahead" (defScope s_is_ahead) (He.ga K "is_ahead") cdv A outer s H E).xe := passes_of rfl
  exact (k_cons (s_if (t_w (w_or (t_not (t_val (x_callH (g_is_standing KX G C) (hr.mono (by decide)) hgd tk rfl (He.glo_ok KX G (C.says.fact 14 rfl)) (a_cons (x_v 0) a_nil)))) (w_or1 (t_not (t_val (x_callH (g_is_standing KX G C) (hr.mono (by decide)) hgd tk rfl (He.glo_ok KX G (C.says.fact 14 rfl)) (a_cons (x_v 1) a_nil))))))) (k_one (s_raise PySem.F.excBase_ValueError (He.exc_ok (C.says.fact 50 rfl)).1 (He.glo_ok KX G (C.says.fact 49 rfl)) (He.exc_ok (C.says.fact 50 rfl)).2.1 (raises_own (He.exc_ok (C.says.fact 50 rfl)).2.2.1 (He.exc_ok (C.says.fact 50 rfl)).2.2.2) rfl rfl rfl tk)) k_nil) (k_one (s_ret (x_callH (g_ahead KX G C) (hr.mono (by decide)) hgd tk rfl (He.glo_ok KX G (C.says.fact 26 rfl)) (a_cons (x_v 0) (a_cons (x_v 1) a_nil))))))
def m_is_bounds : MS := (skM (ifS (orT (notT (tstM (callN D.isi (aCons (vM 0) (aCons (cM (.ty "tuple")) aNil))))) (orT (tstB (bin2 D.ne (callN D.len (aCons (vM 0) aNil)) (cM (.int 3)))) (notT (tstM (callP (mkP 3 3 m_is_between) (aCons (bin2 D.ix (vM 0) (cM (.int 1))) (aCons (cM (.int 1)) (aCons (cM (.int 60)) aNil)))))))) (retM (cM (.bl false))) nxM) (retM (andM (callP (mkP 3 3 m_is_between) (aCons (bin2 D.ix (vM 0) (cM (.int 0))) (aCons (cM (.int 1)) (aCons (bin2 D.ix (vM 0) (cM (.int 1))) aNil)))) (callP (mkP 1 1 m_is_slots) (aCons (bin2 D.ix (vM 0) (cM (.int 2))) aNil)))))
theorem g_is_bounds {P : Program} {w : World} {K : PySem.W.Frag} {mg : PySem.Str → Option Value} {base h : Heap} (KX : K.In h) (G : h.Ns mainGlobals mg) (C : Says fa fn ex K) : FnH P w K mg base 5 (He.ga K "is_bounds") (SpP K (He.ga K) 1 (mkP 1 1 m_is_bounds)) := by
  obtain ⟨fd, F⟩ := C.says.def_ 6 (d := d_is_bounds) rfl
  refine ⟨fd, ["thing"], fn_pure (N := N_is_bounds) (ca := He.ga K) F sc_is_bounds (fun cdv A outer s H E hr hgd => ?_), F.kp, F.bindsN fun _ _ _ _ _ _ us hl => match us, hl with | [_], _ => rfl⟩
  have tk : Takes (cxOf (L2.CX P w) P w K mg base N_is_bounds "is_bounds" (defScope s_is_bounds) (He.ga K "is_bounds") cdv A outer s H E) (fun cls d _ H' => E cls d H') := takes_of rfl rfl rfl rfl
  have po : PassesOwn (model P w) (cxOf (L2.CX P w) P w K mg base N_is_bounds "is_bounds" (defScope s_is_bounds) (He.ga K "is_bounds") cdv A outer s H E).A (cxOf (L2.CX P w) P w K mg base N_is_bounds "is_bounds" (defScope s_is_bounds) (He.ga K "is_bounds") cdv A outer s H E).env (cxOf (L2.CX P w) P w K mg base N_is_bounds "is_bounds" (defScope s_is_bounds) (He.ga K "is_bounds") cdv A outer s H E).xe := passes_of rfl
  exact (k_cons (s_if (t_w (w_or (t_not (t_val (x_callB call_isi so_isi rfl (He.free_ok KX G (C.says.fact 59 rfl)) (by first | rfl | kernel_rfl) (a_cons (x_v 0) (a_cons (x_ty rfl (He.free_ok KX G (C.says.fact 68 rfl)) (by first | rfl | kernel_rfl)) a_nil))))) (w_or (t_cmp (op_neA (un_ok hr)) so_ne (x_callB cr_lenD so_len rfl (He.free_ok KX G (C.says.fact 60 rfl)) (by first | rfl | kernel_rfl) (a_cons (x_v 0) a_nil)) x_int (nomark _)) (w_or1 (t_not (t_val (x_callH (g_is_between KX G C) (hr.mono (by decide)) hgd tk rfl (He.glo_ok KX G (C.says.fact 2 rfl)) (a_cons (x_ix ix_seq so_ix (x_v 0) x_int (fun _ _ => rfl)) (a_cons x_int (a_cons (x_gint rfl (He.int_ok KX G (C.says.fact 43 rfl))) a_nil)))))))))) (k_one (s_ret x_bl)) k_nil) (k_one (s_ret (x_and (x_callH (g_is_between KX G C) (hr.mono (by decide)) hgd tk rfl (He.glo_ok KX G (C.says.fact 2 rfl)) (a_cons (x_ix ix_seq so_ix (x_v 0) x_int (fun _ _ => rfl)) (a_cons x_int (a_cons (x_ix ix_seq so_ix (x_v 0) x_int (fun _ _ => rfl)) a_nil)))) (x_one (x_callH (g_is_slots KX G C) (hr.mono (by decide)) hgd tk rfl (He.glo_ok KX G (C.says.fact 5 rfl)) (a_cons (x_ix ix_seq so_ix (x_v 0) x_int (fun _ _ => rfl)) a_nil)))))))
def m_check_bounds : MS := (ifS (notT (tstM (callP (mkP 1 1 m_is_bounds) (aCons (vM 0) aNil)))) (raiM "Nothing") nxM)
theorem g_check_bounds {P : Program} {w : World} {K : PySem.W.Frag} {mg : PySem.Str → Option Value} {base h : Heap} (KX : K.In h) (G : h.Ns mainGlobals mg) (C : Says fa fn ex K) : FnH P w K mg base 6 (He.ga K "check_bounds") (SpP K (He.ga K) 1 (mkP 1 1 m_check_bounds)) := by
  obtain ⟨fd, F⟩ := C.says.def_ 8 (d := d_check_bounds) rfl
  refine ⟨fd, ["bounds"], fn_pure (N := N_check_bounds) (ca := He.ga K) F sc_check_bounds (fun cdv A outer s H E hr hgd => ?_), F.kp, F.bindsN fun _ _ _ _ _ _ us hl => match us, hl with | [_], _ => rfl⟩
  have tk : Takes (cxOf (L2.CX P w) P w K mg base N_check_bounds "check_bounds" (defScope s_check_bounds) (He.ga K "check_bounds") cdv A outer s H E) (fun cls d _ H' => E cls d H') := takes_of rfl rfl rfl rfl
  have po : PassesOwn (model P w) (cxOf (L2.CX P w) P w K mg base N_check_bounds "check_bounds" (defScope s_check_bounds) (He.ga K "check_bounds") cdv A outer s H E).A (cxOf (L2.CX P w) P w K mg base N_check_bounds "check_bounds" (defScope s_check_bounds) (He.ga K "check_bounds") cdv A outer s H E).env (cxOf (L2.CX P w) P w K mg base N_check_bounds "check_bounds" (defScope s_check_bounds) (He.ga K "check_bounds") cdv A outer s H E).xe := passes_of rfl
  exact (k_one (s_if (t_not (t_val (x_callH (g_is_bounds KX G C) (hr.mono (by decide)) hgd tk rfl (He.glo_ok KX G (C.says.fact 6 rfl)) (a_cons (x_v 0) a_nil)))) (k_one (s_raise PySem.F.excBase_ValueError (He.exc_ok (C.says.fact 50 rfl)).1 (He.glo_ok KX G (C.says.fact 49 rfl)) (He.exc_ok (C.says.fact 50 rfl)).2.1 (raises_own (He.exc_ok (C.says.fact 50 rfl)).2.2.1 (He.exc_ok (C.says.fact 50 rfl)).2.2.2) rfl rfl rfl tk)) k_nil))
def m_check_word : MS := (skM (drpM (callP (mkP 1 1 m_check_bounds) (aCons (vM 0) aNil))) (ifS (orT (notT (tstM (callP (mkP 1 2 m_is_length_word) (aCons (vM 1) aNil)))) (tstM (callN D.any (aCons (lcM (seqM (vM 1)) (tN 2) yesT (bin2 D.gt (vM 2) (bin2 D.ix (vM 0) (cM (.int 1)))) [2]) aNil)))) (raiM "Nothing") nxM))
theorem g_check_word {P : Program} {w : World} {K : PySem.W.Frag} {mg : PySem.Str → Option Value} {base h : Heap} (KX : K.In h) (G : h.Ns mainGlobals mg) (C : Says fa fn ex K) : FnH P w K mg base 7 (He.ga K "check_word") (SpP K (He.ga K) 2 (mkP 2 3 m_check_word)) := by
  obtain ⟨fd, F⟩ := C.says.def_ 9 (d := d_check_word) rfl
  refine ⟨fd, ["bounds", "word"], fn_pure (N := N_check_word) (ca := He.ga K) F sc_check_word (fun cdv A outer s H E hr hgd => ?_), F.kp, F.bindsN fun _ _ _ _ _ _ us hl => match us, hl with | [_, _], _ => rfl⟩
  have tk : Takes (cxOf (L2.CX P w) P w K mg base N_check_word "check_word" (defScope s_check_word) (He.ga K "check_word") cdv A outer s H E) (fun cls d _ H' => E cls d H') := takes_of rfl rfl rfl rfl
  have po : PassesOwn (model P w) (cxOf (L2.CX P w) P w K mg base N_check_word "check_word" (defScope s_check_word) (He.ga K "check_word") cdv A outer s H E).A (cxOf (L2.CX P w) P w K mg base N_check_word "check_word" (defScope s_check_word) (He.ga K "check_word") cdv A outer s H E).env (cxOf (L2.CX P w) P w K mg base N_check_word "check_word" (defScope s_check_word) (He.ga K "check_word") cdv A outer s H E).xe := passes_of rfl
  exact (k_cons (s_expr (x_callH (g_check_bounds KX G C) (hr.mono (by decide)) hgd tk rfl (He.glo_ok KX G (C.says.fact 8 rfl)) (a_cons (x_v 0) a_nil))) (k_one (s_if (t_w (w_or (t_not (t_val (x_callH (g_is_length_word KX G C) (hr.mono (by decide)) hgd tk rfl (He.glo_ok KX G (C.says.fact 7 rfl)) (a_cons (x_v 1) a_nil)))) (w_or1 (t_val (x_callB (cr_any rfl) so_any rfl (He.free_ok KX G (C.says.fact 55 rfl)) (by first | rfl | kernel_rfl) (a_cons (x_lc (gName 2) [("one", 2)] rfl sc_check_word.nd (i_seq (x_v 1)) (by kernel_rfl) (fun _ _ _ _ _ => (pg_name (i := 2) sc_check_word.nd rfl (by first | exact .inl rfl | exact .inr rfl))) ct_name (cw_name (by decide)) (fun _ _ _ _ _ => (x_cmp op_gt so_cmpI (x_v 2) (x_ix ix_seq so_ix (x_v 0) x_int (fun _ _ => rfl)) (nomark _)))) a_nil)))))) (k_one (s_raise PySem.F.excBase_ValueError (He.exc_ok (C.says.fact 50 rfl)).1 (He.glo_ok KX G (C.says.fact 49 rfl)) (He.exc_ok (C.says.fact 50 rfl)).2.1 (raises_own (He.exc_ok (C.says.fact 50 rfl)).2.2.1 (He.exc_ok (C.says.fact 50 rfl)).2.2.2) rfl rfl rfl tk)) k_nil)))
def m_holds : MS := (skM (drpM (callP (mkP 1 1 m_check_bounds) (aCons (vM 0) aNil))) (skM (ifS (notT (tstM (callP (mkP 1 2 m_is_length_word) (aCons (vM 1) aNil)))) (raiM "Nothing") nxM) (retM (callP (mkP 3 3 m_held) (aCons (vM 0) (aCons (callN D.sum (aCons (vM 1) aNil)) (aCons (callN D.len (aCons (vM 1) aNil)) aNil)))))))
theorem g_holds {P : Program} {w : World} {K : PySem.W.Frag} {mg : PySem.Str → Option Value} {base h : Heap} (KX : K.In h) (G : h.Ns mainGlobals mg) (C : Says fa fn ex K) : FnH P w K mg base 7 (He.ga K "holds") (SpP K (He.ga K) 2 (mkP 2 2 m_holds)) := by
  obtain ⟨fd, F⟩ := C.says.def_ 12 (d := d_holds) rfl
  refine ⟨fd, ["bounds", "word"], fn_pure (N := N_holds) (ca := He.ga K) F sc_holds (fun cdv A outer s H E hr hgd => ?_), F.kp, F.bindsN fun _ _ _ _ _ _ us hl => match us, hl with | [_, _], _ => rfl⟩
  have tk : Takes (cxOf (L2.CX P w) P w K mg base N_holds "holds" (defScope s_holds) (He.ga K "holds") cdv A outer s H E) (fun cls d _ H' => E cls d H') := takes_of rfl rfl rfl rfl
  have po : PassesOwn (model P w) (cxOf (L2.CX P w) P w K mg base N_holds "holds" (defScope s_holds) (He.ga K "holds") cdv A outer s H E).A (cxOf (L2.CX P w) P w K mg base N_holds "holds" (defScope s_holds) (He.ga K "holds") cdv A outer s H E).env (cxOf (L2.CX P w) P w K mg base N_holds "holds" (defScope s_holds) (He.ga K "holds") cdv A outer s H E).xe := passes_of rfl
  exact (k_cons (s_expr (x_callH (g_check_bounds KX G C) (hr.mono (by decide)) hgd tk rfl (He.glo_ok KX G (C.says.fact 8 rfl)) (a_cons (x_v 0) a_nil))) (k_cons (s_if (t_not (t_val (x_callH (g_is_length_word KX G C) (hr.mono (by decide)) hgd tk rfl (He.glo_ok KX G (C.says.fact 7 rfl)) (a_cons (x_v 1) a_nil)))) (k_one (s_raise PySem.F.excBase_ValueError (He.exc_ok (C.says.fact 50 rfl)).1 (He.glo_ok KX G (C.says.fact 49 rfl)) (He.exc_ok (C.says.fact 50 rfl)).2.1 (raises_own (He.exc_ok (C.says.fact 50 rfl)).2.2.1 (He.exc_ok (C.says.fact 50 rfl)).2.2.2) rfl rfl rfl tk)) k_nil) (k_one (s_ret (x_callH (g_held KX G C) (hr.mono (by decide)) hgd tk rfl (He.glo_ok KX G (C.says.fact 10 rfl)) (a_cons (x_v 0) (a_cons (x_callB (cr_sumD rfl) so_sum rfl (He.free_ok KX G (C.says.fact 67 rfl)) (by first | rfl | kernel_rfl) (a_cons (x_v 1) a_nil)) (a_cons (x_callB cr_lenD so_len rfl (He.free_ok KX G (C.says.fact 60 rfl)) (by first | rfl | kernel_rfl) (a_cons (x_v 1) a_nil)) a_nil))))))))
def m_is_enough : MS := (skM (drpM (callP (mkP 1 1 m_check_bounds) (aCons (vM 0) aNil))) (skM (ifS (notT (tstM (callP (mkP 1 2 m_is_length_word) (aCons (vM 1) aNil)))) (raiM "Nothing") nxM) (retM (callP (mkP 3 3 m_enough) (aCons (vM 0) (aCons (callN D.sum (aCons (vM 1) aNil)) (aCons (callN D.len (aCons (vM 1) aNil)) aNil)))))))
theorem g_is_enough {P : Program} {w : World} {K : PySem.W.Frag} {mg : PySem.Str → Option Value} {base h : Heap} (KX : K.In h) (G : h.Ns mainGlobals mg) (C : Says fa fn ex K) : FnH P w K mg base 7 (He.ga K "is_enough") (SpP K (He.ga K) 2 (mkP 2 2 m_is_enough)) := by
  obtain ⟨fd, F⟩ := C.says.def_ 13 (d := d_is_enough) rfl
  refine ⟨fd, ["bounds", "word"], fn_pure (N := N_is_enough) (ca := He.ga K) F sc_is_enough (fun cdv A outer s H E hr hgd => ?_), F.kp, F.bindsN fun _ _ _ _ _ _ us hl => match us, hl with | [_, _], _ => rfl⟩
  have tk : Takes (cxOf (L2.CX P w) P w K mg base N_is_enough "is_enough" (defScope s_is_enough) (He.ga K "is_enough") cdv A outer s H E) (fun cls d _ H' => E cls d H') := takes_of rfl rfl rfl rfl
  have po : PassesOwn (model P w) (cxOf (L2.CX P w) P w K mg base N_is_enough "is_enough" (defScope s_is_enough) (He.ga K "is_enough") cdv A outer s H E).A (cxOf (L2.CX P w) P w K mg base N_is_enough "is_enough" (defScope s_is_enough) (He.ga K "is_enough") cdv A outer s H E).env (cxOf (L2.CX P w) P w K mg base N_is_enough "is_enough" (defScope s_is_enough) (He.ga K "is_enough") cdv A outer s H E).xe := passes_of rfl
  exact (k_cons (s_expr (x_callH (g_check_bounds KX G C) (hr.mono (by decide)) hgd tk rfl (He.glo_ok KX G (C.says.fact 8 rfl)) (a_cons (x_v 0) a_nil))) (k_cons (s_if (t_not (t_val (x_callH (g_is_length_word KX G C) (hr.mono (by decide)) hgd tk rfl (He.glo_ok KX G (C.says.fact 7 rfl)) (a_cons (x_v 1) a_nil)))) (k_one (s_raise PySem.F.excBase_ValueError (He.exc_ok (C.says.fact 50 rfl)).1 (He.glo_ok KX G (C.says.fact 49 rfl)) (He.exc_ok (C.says.fact 50 rfl)).2.1 (raises_own (He.exc_ok (C.says.fact 50 rfl)).2.2.1 (He.exc_ok (C.says.fact 50 rfl)).2.2.2) rfl rfl rfl tk)) k_nil) (k_one (s_ret (x_callH (g_enough KX G C) (hr.mono (by decide)) hgd tk rfl (He.glo_ok KX G (C.says.fact 11 rfl)) (a_cons (x_v 0) (a_cons (x_callB (cr_sumD rfl) so_sum rfl (He.free_ok KX G (C.says.fact 67 rfl)) (by first | rfl | kernel_rfl) (a_cons (x_v 1) a_nil)) (a_cons (x_callB cr_lenD so_len rfl (He.free_ok KX G (C.says.fact 60 rfl)) (by first | rfl | kernel_rfl) (a_cons (x_v 1) a_nil)) a_nil))))))))
def m_check_step : MS := (skM (drpM (callP (mkP 2 3 m_check_word) (aCons (vM 0) (aCons (tupM (aCons (vM 2) aNil)) aNil)))) (ifS (notT (tstM (callP (mkP 1 2 m_is_standing) (aCons (vM 1) aNil)))) (raiM "Nothing") nxM))
theorem g_check_step {P : Program} {w : World} {K : PySem.W.Frag} {mg : PySem.Str → Option Value} {base h : Heap} (KX : K.In h) (G : h.Ns mainGlobals mg) (C : Says fa fn ex K) : FnH P w K mg base 8 (He.ga K "check_step") (SpP K (He.ga K) 3 (mkP 3 3 m_check_step)) := by
  obtain ⟨fd, F⟩ := C.says.def_ 17 (d := d_check_step) rfl
  refine ⟨fd, ["bounds", "standing", "length"], fn_pure (N := N_check_step) (ca := He.ga K) F sc_check_step (fun cdv A outer s H E hr hgd => ?_), F.kp, F.bindsN fun _ _ _ _ _ _ us hl => match us, hl with | [_, _, _], _ => rfl⟩
  have tk : Takes (cxOf (L2.CX P w) P w K mg base N_check_step "check_step" (defScope s_check_step) (He.ga K "check_step") cdv A outer s H E) (fun cls d _ H' => E cls d H') := takes_of rfl rfl rfl rfl
  have po : PassesOwn (model P w) (cxOf (L2.CX P w) P w K mg base N_check_step "check_step" (defScope s_check_step) (He.ga K "check_step") cdv A outer s H E).A (cxOf (L2.CX P w) P w K mg base N_check_step "check_step" (defScope s_check_step) (He.ga K "check_step") cdv A outer s H E).env (cxOf (L2.CX P w) P w K mg base N_check_step "check_step" (defScope s_check_step) (He.ga K "check_step") cdv A outer s H E).xe := passes_of rfl
  exact (k_cons (s_expr (x_callH (g_check_word KX G C) (hr.mono (by decide)) hgd tk rfl (He.glo_ok KX G (C.says.fact 9 rfl)) (a_cons (x_v 0) (a_cons (x_tup (a_cons (x_v 2) a_nil)) a_nil)))) (k_one (s_if (t_not (t_val (x_callH (g_is_standing KX G C) (hr.mono (by decide)) hgd tk rfl (He.glo_ok KX G (C.says.fact 14 rfl)) (a_cons (x_v 1) a_nil)))) (k_one (s_raise PySem.F.excBase_ValueError (He.exc_ok (C.says.fact 50 rfl)).1 (He.glo_ok KX G (C.says.fact 49 rfl)) (He.exc_ok (C.says.fact 50 rfl)).2.1 (raises_own (He.exc_ok (C.says.fact 50 rfl)).2.2.1 (He.exc_ok (C.says.fact 50 rfl)).2.2.2) rfl rfl rfl tk)) k_nil)))
def m_full_standing (K : PySem.W.Frag) : MS := (skM (drpM (callP (mkP 2 3 m_check_word) (aCons (vM 0) (aCons (vM 1) aNil)))) (retM (callP (mkP 3 5 (m_read_by K)) (aCons (cM (.ref (He.ga K "filled"))) (aCons (vM 0) (aCons (vM 1) aNil))))))
theorem g_full_standing {P : Program} {w : World} {K : PySem.W.Frag} {mg : PySem.Str → Option Value} {base h : Heap} (KX : K.In h) (G : h.Ns mainGlobals mg) (C : Says fa fn ex K) : FnH P w K mg base 8 (He.ga K "full_standing") (SpP K (He.ga K) 2 (mkP 2 2 (m_full_standing K))) := by
  obtain ⟨fd, F⟩ := C.says.def_ 21 (d := d_full_standing) rfl
  refine ⟨fd, ["bounds", "word"], fn_pure (N := N_full_standing) (ca := He.ga K) F sc_full_standing (fun cdv A outer s H E hr hgd => ?_), F.kp, F.bindsN fun _ _ _ _ _ _ us hl => match us, hl with | [_, _], _ => rfl⟩
  have tk : Takes (cxOf (L2.CX P w) P w K mg base N_full_standing "full_standing" (defScope s_full_standing) (He.ga K "full_standing") cdv A outer s H E) (fun cls d _ H' => E cls d H') := takes_of rfl rfl rfl rfl
  have po : PassesOwn (model P w) (cxOf (L2.CX P w) P w K mg base N_full_standing "full_standing" (defScope s_full_standing) (He.ga K "full_standing") cdv A outer s H E).A (cxOf (L2.CX P w) P w K mg base N_full_standing "full_standing" (defScope s_full_standing) (He.ga K "full_standing") cdv A outer s H E).env (cxOf (L2.CX P w) P w K mg base N_full_standing "full_standing" (defScope s_full_standing) (He.ga K "full_standing") cdv A outer s H E).xe := passes_of rfl
  exact (k_cons (s_expr (x_callH (g_check_word KX G C) (hr.mono (by decide)) hgd tk rfl (He.glo_ok KX G (C.says.fact 9 rfl)) (a_cons (x_v 0) (a_cons (x_v 1) a_nil)))) (k_one (s_ret (x_callH (g_read_by KX G C) (hr.mono (by decide)) hgd tk rfl (He.glo_ok KX G (C.says.fact 20 rfl)) (a_cons (x_gref rfl (He.glo_ok KX G (C.says.fact 15 rfl))) (a_cons (x_v 0) (a_cons (x_v 1) a_nil)))))))
def m_soon_standing (K : PySem.W.Frag) : MS := (skM (drpM (callP (mkP 2 3 m_check_word) (aCons (vM 0) (aCons (vM 1) aNil)))) (retM (callP (mkP 3 5 (m_read_by K)) (aCons (cM (.ref (He.ga K "closed"))) (aCons (vM 0) (aCons (vM 1) aNil))))))
theorem g_soon_standing {P : Program} {w : World} {K : PySem.W.Frag} {mg : PySem.Str → Option Value} {base h : Heap} (KX : K.In h) (G : h.Ns mainGlobals mg) (C : Says fa fn ex K) : FnH P w K mg base 8 (He.ga K "soon_standing") (SpP K (He.ga K) 2 (mkP 2 2 (m_soon_standing K))) := by
  obtain ⟨fd, F⟩ := C.says.def_ 22 (d := d_soon_standing) rfl
  refine ⟨fd, ["bounds", "word"], fn_pure (N := N_soon_standing) (ca := He.ga K) F sc_soon_standing (fun cdv A outer s H E hr hgd => ?_), F.kp, F.bindsN fun _ _ _ _ _ _ us hl => match us, hl with | [_, _], _ => rfl⟩
  have tk : Takes (cxOf (L2.CX P w) P w K mg base N_soon_standing "soon_standing" (defScope s_soon_standing) (He.ga K "soon_standing") cdv A outer s H E) (fun cls d _ H' => E cls d H') := takes_of rfl rfl rfl rfl
  have po : PassesOwn (model P w) (cxOf (L2.CX P w) P w K mg base N_soon_standing "soon_standing" (defScope s_soon_standing) (He.ga K "soon_standing") cdv A outer s H E).A (cxOf (L2.CX P w) P w K mg base N_soon_standing "soon_standing" (defScope s_soon_standing) (He.ga K "soon_standing") cdv A outer s H E).env (cxOf (L2.CX P w) P w K mg base N_soon_standing "soon_standing" (defScope s_soon_standing) (He.ga K "soon_standing") cdv A outer s H E).xe := passes_of rfl
  exact (k_cons (s_expr (x_callH (g_check_word KX G C) (hr.mono (by decide)) hgd tk rfl (He.glo_ok KX G (C.says.fact 9 rfl)) (a_cons (x_v 0) (a_cons (x_v 1) a_nil)))) (k_one (s_ret (x_callH (g_read_by KX G C) (hr.mono (by decide)) hgd tk rfl (He.glo_ok KX G (C.says.fact 20 rfl)) (a_cons (x_gref rfl (He.glo_ok KX G (C.says.fact 16 rfl))) (a_cons (x_v 0) (a_cons (x_v 1) a_nil)))))))
def m_full_step : MS := (skM (drpM (callP (mkP 3 3 m_check_step) (aCons (vM 0) (aCons (vM 1) (aCons (vM 2) aNil))))) (retM (callP (mkP 3 7 m_filled) (aCons (vM 0) (aCons (vM 1) (aCons (vM 2) aNil))))))
theorem g_full_step {P : Program} {w : World} {K : PySem.W.Frag} {mg : PySem.Str → Option Value} {base h : Heap} (KX : K.In h) (G : h.Ns mainGlobals mg) (C : Says fa fn ex K) : FnH P w K mg base 9 (He.ga K "full_step") (SpP K (He.ga K) 3 (mkP 3 3 m_full_step)) := by
  obtain ⟨fd, F⟩ := C.says.def_ 18 (d := d_full_step) rfl
  refine ⟨fd, ["bounds", "standing", "length"], fn_pure (N := N_full_step) (ca := He.ga K) F sc_full_step (fun cdv A outer s H E hr hgd => ?_), F.kp, F.bindsN fun _ _ _ _ _ _ us hl => match us, hl with | [_, _, _], _ => rfl⟩
  have tk : Takes (cxOf (L2.CX P w) P w K mg base N_full_step "full_step" (defScope s_full_step) (He.ga K "full_step") cdv A outer s H E) (fun cls d _ H' => E cls d H') := takes_of rfl rfl rfl rfl
  have po : PassesOwn (model P w) (cxOf (L2.CX P w) P w K mg base N_full_step "full_step" (defScope s_full_step) (He.ga K "full_step") cdv A outer s H E).A (cxOf (L2.CX P w) P w K mg base N_full_step "full_step" (defScope s_full_step) (He.ga K "full_step") cdv A outer s H E).env (cxOf (L2.CX P w) P w K mg base N_full_step "full_step" (defScope s_full_step) (He.ga K "full_step") cdv A outer s H E).xe := passes_of rfl
  exact (k_cons (s_expr (x_callH (g_check_step KX G C) (hr.mono (by decide)) hgd tk rfl (He.glo_ok KX G (C.says.fact 17 rfl)) (a_cons (x_v 0) (a_cons (x_v 1) (a_cons (x_v 2) a_nil))))) (k_one (s_ret (x_callH (g_filled KX G C) (hr.mono (by decide)) hgd tk rfl (He.glo_ok KX G (C.says.fact 15 rfl)) (a_cons (x_v 0) (a_cons (x_v 1) (a_cons (x_v 2) a_nil)))))))
def m_soon_step : MS := (skM (drpM (callP (mkP 3 3 m_check_step) (aCons (vM 0) (aCons (vM 1) (aCons (vM 2) aNil))))) (retM (callP (mkP 3 7 m_closed) (aCons (vM 0) (aCons (vM 1) (aCons (vM 2) aNil))))))
theorem g_soon_step {P : Program} {w : World} {K : PySem.W.Frag} {mg : PySem.Str → Option Value} {base h : Heap} (KX : K.In h) (G : h.Ns mainGlobals mg) (C : Says fa fn ex K) : FnH P w K mg base 9 (He.ga K "soon_step") (SpP K (He.ga K) 3 (mkP 3 3 m_soon_step)) := by
  obtain ⟨fd, F⟩ := C.says.def_ 19 (d := d_soon_step) rfl
  refine ⟨fd, ["bounds", "standing", "length"], fn_pure (N := N_soon_step) (ca := He.ga K) F sc_soon_step (fun cdv A outer s H E hr hgd => ?_), F.kp, F.bindsN fun _ _ _ _ _ _ us hl => match us, hl with | [_, _, _], _ => rfl⟩
  have tk : Takes (cxOf (L2.CX P w) P w K mg base N_soon_step "soon_step" (defScope s_soon_step) (He.ga K "soon_step") cdv A outer s H E) (fun cls d _ H' => E cls d H') := takes_of rfl rfl rfl rfl
  have po : PassesOwn (model P w) (cxOf (L2.CX P w) P w K mg base N_soon_step "soon_step" (defScope s_soon_step) (He.ga K "soon_step") cdv A outer s H E).A (cxOf (L2.CX P w) P w K mg base N_soon_step "soon_step" (defScope s_soon_step) (He.ga K "soon_step") cdv A outer s H E).env (cxOf (L2.CX P w) P w K mg base N_soon_step "soon_step" (defScope s_soon_step) (He.ga K "soon_step") cdv A outer s H E).xe := passes_of rfl
  exact (k_cons (s_expr (x_callH (g_check_step KX G C) (hr.mono (by decide)) hgd tk rfl (He.glo_ok KX G (C.says.fact 17 rfl)) (a_cons (x_v 0) (a_cons (x_v 1) (a_cons (x_v 2) a_nil))))) (k_one (s_ret (x_callH (g_closed KX G C) (hr.mono (by decide)) hgd tk rfl (He.glo_ok KX G (C.says.fact 16 rfl)) (a_cons (x_v 0) (a_cons (x_v 1) (a_cons (x_v 2) a_nil)))))))
def m_full_pages (K : PySem.W.Frag) : MS := (retM (bin2 D.ix (callP (mkP 2 2 (m_full_standing K)) (aCons (vM 0) (aCons (vM 1) aNil))) (cM (.int 0))))
theorem g_full_pages {P : Program} {w : World} {K : PySem.W.Frag} {mg : PySem.Str → Option Value} {base h : Heap} (KX : K.In h) (G : h.Ns mainGlobals mg) (C : Says fa fn ex K) : FnH P w K mg base 9 (He.ga K "full_pages") (SpP K (He.ga K) 2 (mkP 2 2 (m_full_pages K))) := by
  obtain ⟨fd, F⟩ := C.says.def_ 23 (d := d_full_pages) rfl
  refine ⟨fd, ["bounds", "word"], fn_pure (N := N_full_pages) (ca := He.ga K) F sc_full_pages (fun cdv A outer s H E hr hgd => ?_), F.kp, F.bindsN fun _ _ _ _ _ _ us hl => match us, hl with | [_, _], _ => rfl⟩
  have tk : Takes (cxOf (L2.CX P w) P w K mg base N_full_pages "full_pages" (defScope s_full_pages) (He.ga K "full_pages") cdv A outer s H E) (fun cls d _ H' => E cls d H') := takes_of rfl rfl rfl rfl
  have po : PassesOwn (model P w) (cxOf (L2.CX P w) P w K mg base N_full_pages "full_pages" (defScope s_full_pages) (He.ga K "full_pages") cdv A outer s H E).A (cxOf (L2.CX P w) P w K mg base N_full_pages "full_pages" (defScope s_full_pages) (He.ga K "full_pages") cdv A outer s H E).env (cxOf (L2.CX P w) P w K mg base N_full_pages "full_pages" (defScope s_full_pages) (He.ga K "full_pages") cdv A outer s H E).xe := passes_of rfl
  exact (k_one (s_ret (x_ix ix_seq so_ix (x_callH (g_full_standing KX G C) (hr.mono (by decide)) hgd tk rfl (He.glo_ok KX G (C.says.fact 21 rfl)) (a_cons (x_v 0) (a_cons (x_v 1) a_nil))) x_int (fun _ _ => rfl))))
def m_soon_pages (K : PySem.W.Frag) : MS := (retM (bin2 D.ix (callP (mkP 2 2 (m_soon_standing K)) (aCons (vM 0) (aCons (vM 1) aNil))) (cM (.int 0))))
theorem g_soon_pages {P : Program} {w : World} {K : PySem.W.Frag} {mg : PySem.Str → Option Value} {base h : Heap} (KX : K.In h) (G : h.Ns mainGlobals mg) (C : Says fa fn ex K) : FnH P w K mg base 9 (He.ga K "soon_pages") (SpP K (He.ga K) 2 (mkP 2 2 (m_soon_pages K))) := by
  obtain ⟨fd, F⟩ := C.says.def_ 24 (d := d_soon_pages) rfl
  refine ⟨fd, ["bounds", "word"], fn_pure (N := N_soon_pages) (ca := He.ga K) F sc_soon_pages (fun cdv A outer s H E hr hgd => ?_), F.kp, F.bindsN fun _ _ _ _ _ _ us hl => match us, hl with | [_, _], _ => rfl⟩
  have tk : Takes (cxOf (L2.CX P w) P w K mg base N_soon_pages "soon_pages" (defScope s_soon_pages) (He.ga K "soon_pages") cdv A outer s H E) (fun cls d _ H' => E cls d H') := takes_of rfl rfl rfl rfl
  have po : PassesOwn (model P w) (cxOf (L2.CX P w) P w K mg base N_soon_pages "soon_pages" (defScope s_soon_pages) (He.ga K "soon_pages") cdv A outer s H E).A (cxOf (L2.CX P w) P w K mg base N_soon_pages "soon_pages" (defScope s_soon_pages) (He.ga K "soon_pages") cdv A outer s H E).env (cxOf (L2.CX P w) P w K mg base N_soon_pages "soon_pages" (defScope s_soon_pages) (He.ga K "soon_pages") cdv A outer s H E).xe := passes_of rfl
  exact (k_one (s_ret (x_ix ix_seq so_ix (x_callH (g_soon_standing KX G C) (hr.mono (by decide)) hgd tk rfl (He.glo_ok KX G (C.says.fact 22 rfl)) (a_cons (x_v 0) (a_cons (x_v 1) a_nil))) x_int (fun _ _ => rfl))))
def m_is_split (K : PySem.W.Frag) : MS := (skM (ifS (notT (tstM (callP (mkP 1 1 m_is_count) (aCons (vM 2) aNil)))) (raiM "Nothing") nxM) (retM (chn D.le D.lt (callP (mkP 2 2 (m_soon_pages K)) (aCons (vM 0) (aCons (vM 1) aNil))) (vM 2) (callP (mkP 2 2 (m_full_pages K)) (aCons (vM 0) (aCons (vM 1) aNil))))))
theorem g_is_split {P : Program} {w : World} {K : PySem.W.Frag} {mg : PySem.Str → Option Value} {base h : Heap} (KX : K.In h) (G : h.Ns mainGlobals mg) (C : Says fa fn ex K) : FnH P w K mg base 10 (He.ga K "is_split") (SpP K (He.ga K) 3 (mkP 3 3 (m_is_split K))) := by
  obtain ⟨fd, F⟩ := C.says.def_ 25 (d := d_is_split) rfl
  refine ⟨fd, ["bounds", "word", "many"], fn_pure (N := N_is_split) (ca := He.ga K) F sc_is_split (fun cdv A outer s H E hr hgd => ?_), F.kp, F.bindsN fun _ _ _ _ _ _ us hl => match us, hl with | [_, _, _], _ => rfl⟩
  have tk : Takes (cxOf (L2.CX P w) P w K mg base N_is_split "is_split" (defScope s_is_split) (He.ga K "is_split") cdv A outer s H E) (fun cls d _ H' => E cls d H') := takes_of rfl rfl rfl rfl
  have po : PassesOwn (model P w) (cxOf (L2.CX P w) P w K mg base N_is_split "is_split" (defScope s_is_split) (He.ga K "is_split") cdv A outer s H E).A (cxOf (L2.CX P w) P w K mg base N_is_split "is_split" (defScope s_is_split) (He.ga K "is_split") cdv A outer s H E).env (cxOf (L2.CX P w) P w K mg base N_is_split "is_split" (defScope s_is_split) (He.ga K "is_split") cdv A outer s H E).xe := passes_of rfl
  exact (k_cons (s_if (t_not (t_val (x_callH (g_is_count KX G C) (hr.mono (by decide)) hgd tk rfl (He.glo_ok KX G (C.says.fact 1 rfl)) (a_cons (x_v 2) a_nil)))) (k_one (s_raise PySem.F.excBase_ValueError (He.exc_ok (C.says.fact 50 rfl)).1 (He.glo_ok KX G (C.says.fact 49 rfl)) (He.exc_ok (C.says.fact 50 rfl)).2.1 (raises_own (He.exc_ok (C.says.fact 50 rfl)).2.2.1 (He.exc_ok (C.says.fact 50 rfl)).2.2.2) rfl rfl rfl tk)) k_nil) (k_one (s_ret (x_chain op_le so_cmpI op_lt so_cmpI (x_callH (g_soon_pages KX G C) (hr.mono (by decide)) hgd tk rfl (He.glo_ok KX G (C.says.fact 24 rfl)) (a_cons (x_v 0) (a_cons (x_v 1) a_nil))) (x_v 2) (x_callH (g_full_pages KX G C) (hr.mono (by decide)) hgd tk rfl (He.glo_ok KX G (C.says.fact 23 rfl)) (a_cons (x_v 0) (a_cons (x_v 1) a_nil)))))))
end G
set_option Elab.async false
set_option linter.all false
set_option maxRecDepth 100000
set_option maxHeartbeats 4000000
namespace G
open PySem PySem.Spec PyProof.Rows L2 Mw LamX
def la_0 : Arguments × Expr × Scope := (match (defBody s_law)[(14 : Nat)]? with | some (.Assign _ (.List [.Lambda p b sc _] _) _) => (p, b, sc) | _ => (⟨[], [], none, [], [], none, []⟩, .Constant .none 0 ⟨0, 0, 0, 0⟩, ⟨.function, [], false, false, []⟩))
def la_1 : Arguments × Expr × Scope := (match (defBody s_law)[(15 : Nat)]? with | some (.Expr (.Call _ [.Lambda p b sc _] _ _) _) => (p, b, sc) | _ => (⟨[], [], none, [], [], none, []⟩, .Constant .none 0 ⟨0, 0, 0, 0⟩, ⟨.function, [], false, false, []⟩))
def la_2 : Arguments × Expr × Scope := (match (defBody s_law)[(16 : Nat)]? with | some (.Expr (.Call _ [.Lambda p b sc _] _ _) _) => (p, b, sc) | _ => (⟨[], [], none, [], [], none, []⟩, .Constant .none 0 ⟨0, 0, 0, 0⟩, ⟨.function, [], false, false, []⟩))
def la_3 : Arguments × Expr × Scope := (match (defBody s_law)[(17 : Nat)]? with | some (.Expr (.Call _ [.Lambda p b sc _] _ _) _) => (p, b, sc) | _ => (⟨[], [], none, [], [], none, []⟩, .Constant .none 0 ⟨0, 0, 0, 0⟩, ⟨.function, [], false, false, []⟩))
def la_4 : Arguments × Expr × Scope := (match (defBody s_law)[(18 : Nat)]? with | some (.Expr (.Call _ [.Lambda p b sc _] _ _) _) => (p, b, sc) | _ => (⟨[], [], none, [], [], none, []⟩, .Constant .none 0 ⟨0, 0, 0, 0⟩, ⟨.function, [], false, false, []⟩))
def la_5 : Arguments × Expr × Scope := (match (defBody s_law)[(19 : Nat)]? with | some (.Expr (.Call _ [.Lambda p b sc _] _ _) _) => (p, b, sc) | _ => (⟨[], [], none, [], [], none, []⟩, .Constant .none 0 ⟨0, 0, 0, 0⟩, ⟨.function, [], false, false, []⟩))
def la : Nat → Arguments × Expr × Scope := fun n => match n with | 0 => la_0 | 1 => la_1 | 2 => la_2 | 3 => la_3 | 4 => la_4 | _ => la_5
def lawQ : PySem.Str := (envOfC "law" (defScope s_law) 0 0 .none).qual ++ "<lambda>"
def lq (n z : Nat) : LamD := ⟨n, lawQ, (la n).1, (la n).2.1, (la n).2.2, cloFrom (cellsFrom (z + 1) (defScope s_law).names []) (la n).2.2.names []⟩
def ml_0 (K : PySem.W.Frag) : M := (callP (mkP 2 2 m_holds) (aCons (vM 3) (aCons (cM .non) aNil)))
def ml_1 (K : PySem.W.Frag) : M := (callP (mkP 2 2 (m_full_pages K)) (aCons (cM .non) (aCons (vM 4) aNil)))
def ml_2 (K : PySem.W.Frag) : M := (callP (mkP 3 3 (m_is_split K)) (aCons (vM 3) (aCons (vM 4) (aCons (un1 D.neg (cM (.int 1))) aNil))))
def ml_3 (K : PySem.W.Frag) : M := (callP (mkP 3 3 m_full_step) (aCons (vM 3) (aCons (tupM (aCons (cM (.int 0)) (aCons (cM (.int 0)) aNil))) (aCons (cM (.int 1)) aNil))))
def ml_4 (K : PySem.W.Frag) : M := (callP (mkP 3 3 m_soon_step) (aCons (vM 3) (aCons (tupM (aCons (cM (.int 0)) (aCons (cM (.int 0)) (aCons (cM (.int 0)) aNil)))) (aCons (cM (.int 13)) aNil))))
def ml_5 (K : PySem.W.Frag) : M := (callP (mkP 2 2 m_is_ahead) (aCons (cM .non) (aCons (tupM (aCons (cM (.int 0)) (aCons (cM (.int 0)) (aCons (cM (.int 0)) aNil)))) aNil)))
def tabL (K : PySem.W.Frag) (z : Nat) : List (LamD × M) := [(lq 0 z, ml_0 K), (lq 1 z, ml_1 K), (lq 2 z, ml_2 K), (lq 3 z, ml_3 K), (lq 4 z, ml_4 K), (lq 5 z, ml_5 K)]
section
variable {P : Program} {w : World} {K : PySem.W.Frag} {mg : PySem.Str → Option Value} {base h : Heap}
theorem lam_0 (KX : K.In h) (G : h.Ns mainGlobals mg) (C : Says fa fn ex K) {f c : Addr} {A : Around} {outer : List Env} {s : Shared} {H : Hp} {E : XK} {pn : List (Addr × Obj)} {xe : Value → Shared → Prop} : LamOk ((cxOf (L2.CX P w) P w K mg base N_law "law" (defScope s_law) f (.ref c) A outer s H E).tr pn xe) (He.ga K) 10 (lq 0 s.heap.objs.size) (ml_0 K) := by
  refine ⟨rfl, rfl, lamS_by (by kernel_rfl), fun _ _ _ _ _ _ _ => rfl, fun A' outer' s' H' E' f' c' hr' hgd' => ?_⟩
  have tk' : Takes (LamX.lamCx ((cxOf (L2.CX P w) P w K mg base N_law "law" (defScope s_law) f (.ref c) A outer s H E).tr pn xe) A' outer' s' H' E' (lq 0 s.heap.objs.size).scope f' c') (fun cls d _ H' => E' cls d H') := takes_of rfl rfl rfl rfl
  exact (x_callH (g_holds KX G C) (hr'.mono (by decide)) hgd' tk' rfl (He.glo_ok KX G (C.says.fact 12 rfl)) (a_cons (x_v 3) (a_cons x_non a_nil)))
theorem lam_1 (KX : K.In h) (G : h.Ns mainGlobals mg) (C : Says fa fn ex K) {f c : Addr} {A : Around} {outer : List Env} {s : Shared} {H : Hp} {E : XK} {pn : List (Addr × Obj)} {xe : Value → Shared → Prop} : LamOk ((cxOf (L2.CX P w) P w K mg base N_law "law" (defScope s_law) f (.ref c) A outer s H E).tr pn xe) (He.ga K) 10 (lq 1 s.heap.objs.size) (ml_1 K) := by
  refine ⟨rfl, rfl, lamS_by (by kernel_rfl), fun _ _ _ _ _ _ _ => rfl, fun A' outer' s' H' E' f' c' hr' hgd' => ?_⟩
  have tk' : Takes (LamX.lamCx ((cxOf (L2.CX P w) P w K mg base N_law "law" (defScope s_law) f (.ref c) A outer s H E).tr pn xe) A' outer' s' H' E' (lq 1 s.heap.objs.size).scope f' c') (fun cls d _ H' => E' cls d H') := takes_of rfl rfl rfl rfl
  exact (x_callH (g_full_pages KX G C) (hr'.mono (by decide)) hgd' tk' rfl (He.glo_ok KX G (C.says.fact 23 rfl)) (a_cons x_non (a_cons (x_v 4) a_nil)))
theorem lam_2 (KX : K.In h) (G : h.Ns mainGlobals mg) (C : Says fa fn ex K) {f c : Addr} {A : Around} {outer : List Env} {s : Shared} {H : Hp} {E : XK} {pn : List (Addr × Obj)} {xe : Value → Shared → Prop} : LamOk ((cxOf (L2.CX P w) P w K mg base N_law "law" (defScope s_law) f (.ref c) A outer s H E).tr pn xe) (He.ga K) 10 (lq 2 s.heap.objs.size) (ml_2 K) := by
  refine ⟨rfl, rfl, lamS_by (by kernel_rfl), fun _ _ _ _ _ _ _ => rfl, fun A' outer' s' H' E' f' c' hr' hgd' => ?_⟩
  have tk' : Takes (LamX.lamCx ((cxOf (L2.CX P w) P w K mg base N_law "law" (defScope s_law) f (.ref c) A outer s H E).tr pn xe) A' outer' s' H' E' (lq 2 s.heap.objs.size).scope f' c') (fun cls d _ H' => E' cls d H') := takes_of rfl rfl rfl rfl
  exact (x_callH (g_is_split KX G C) (hr'.mono (by decide)) hgd' tk' rfl (He.glo_ok KX G (C.says.fact 25 rfl)) (a_cons (x_v 3) (a_cons (x_v 4) (a_cons (x_un un_neg so_neg x_int) a_nil))))
theorem lam_3 (KX : K.In h) (G : h.Ns mainGlobals mg) (C : Says fa fn ex K) {f c : Addr} {A : Around} {outer : List Env} {s : Shared} {H : Hp} {E : XK} {pn : List (Addr × Obj)} {xe : Value → Shared → Prop} : LamOk ((cxOf (L2.CX P w) P w K mg base N_law "law" (defScope s_law) f (.ref c) A outer s H E).tr pn xe) (He.ga K) 10 (lq 3 s.heap.objs.size) (ml_3 K) := by
  refine ⟨rfl, rfl, lamS_by (by kernel_rfl), fun _ _ _ _ _ _ _ => rfl, fun A' outer' s' H' E' f' c' hr' hgd' => ?_⟩
  have tk' : Takes (LamX.lamCx ((cxOf (L2.CX P w) P w K mg base N_law "law" (defScope s_law) f (.ref c) A outer s H E).tr pn xe) A' outer' s' H' E' (lq 3 s.heap.objs.size).scope f' c') (fun cls d _ H' => E' cls d H') := takes_of rfl rfl rfl rfl
  exact (x_callH (g_full_step KX G C) (hr'.mono (by decide)) hgd' tk' rfl (He.glo_ok KX G (C.says.fact 18 rfl)) (a_cons (x_v 3) (a_cons (x_tup (a_cons x_int (a_cons x_int a_nil))) (a_cons x_int a_nil))))
theorem lam_4 (KX : K.In h) (G : h.Ns mainGlobals mg) (C : Says fa fn ex K) {f c : Addr} {A : Around} {outer : List Env} {s : Shared} {H : Hp} {E : XK} {pn : List (Addr × Obj)} {xe : Value → Shared → Prop} : LamOk ((cxOf (L2.CX P w) P w K mg base N_law "law" (defScope s_law) f (.ref c) A outer s H E).tr pn xe) (He.ga K) 10 (lq 4 s.heap.objs.size) (ml_4 K) := by
  refine ⟨rfl, rfl, lamS_by (by kernel_rfl), fun _ _ _ _ _ _ _ => rfl, fun A' outer' s' H' E' f' c' hr' hgd' => ?_⟩
  have tk' : Takes (LamX.lamCx ((cxOf (L2.CX P w) P w K mg base N_law "law" (defScope s_law) f (.ref c) A outer s H E).tr pn xe) A' outer' s' H' E' (lq 4 s.heap.objs.size).scope f' c') (fun cls d _ H' => E' cls d H') := takes_of rfl rfl rfl rfl
  exact (x_callH (g_soon_step KX G C) (hr'.mono (by decide)) hgd' tk' rfl (He.glo_ok KX G (C.says.fact 19 rfl)) (a_cons (x_v 3) (a_cons (x_tup (a_cons x_int (a_cons x_int (a_cons x_int a_nil)))) (a_cons x_int a_nil))))
theorem lam_5 (KX : K.In h) (G : h.Ns mainGlobals mg) (C : Says fa fn ex K) {f c : Addr} {A : Around} {outer : List Env} {s : Shared} {H : Hp} {E : XK} {pn : List (Addr × Obj)} {xe : Value → Shared → Prop} : LamOk ((cxOf (L2.CX P w) P w K mg base N_law "law" (defScope s_law) f (.ref c) A outer s H E).tr pn xe) (He.ga K) 10 (lq 5 s.heap.objs.size) (ml_5 K) := by
  refine ⟨rfl, rfl, lamS_by (by kernel_rfl), fun _ _ _ _ _ _ _ => rfl, fun A' outer' s' H' E' f' c' hr' hgd' => ?_⟩
  have tk' : Takes (LamX.lamCx ((cxOf (L2.CX P w) P w K mg base N_law "law" (defScope s_law) f (.ref c) A outer s H E).tr pn xe) A' outer' s' H' E' (lq 5 s.heap.objs.size).scope f' c') (fun cls d _ H' => E' cls d H') := takes_of rfl rfl rfl rfl
  exact (x_callH (g_is_ahead KX G C) (hr'.mono (by decide)) hgd' tk' rfl (He.glo_ok KX G (C.says.fact 27 rfl)) (a_cons x_non (a_cons (x_tup (a_cons x_int (a_cons x_int (a_cons x_int a_nil)))) a_nil)))
theorem tabL_ok (KX : K.In h) (G : h.Ns mainGlobals mg) (C : Says fa fn ex K) {f c : Addr} {A : Around} {outer : List Env} {s : Shared} {H : Hp} {E : XK} {pn : List (Addr × Obj)} {xe : Value → Shared → Prop} : ∀ (n : Nat) (q : LamD) (m : M), (tabL K s.heap.objs.size)[n]? = some (q, m) → LamOk ((cxOf (L2.CX P w) P w K mg base N_law "law" (defScope s_law) f (.ref c) A outer s H E).tr pn xe) (He.ga K) 10 q m := by
  intro n q m e
  match n, e with
  | 0, e => cases e; exact lam_0 KX G C
  | 1, e => cases e; exact lam_1 KX G C
  | 2, e => cases e; exact lam_2 KX G C
  | 3, e => cases e; exact lam_3 KX G C
  | 4, e => cases e; exact lam_4 KX G C
  | 5, e => cases e; exact lam_5 KX G C
  | n + 6, e => cases e
end
noncomputable def m_law_s1 (K : PySem.W.Frag) (z : Nat) : MS := (asgM 1 (callP (mkP 1 2 m__law_bag) (aCons (vM 0) aNil)))
noncomputable def m_law_s2 (K : PySem.W.Frag) (z : Nat) : MS := (asgM 2 (callB (mkB 1 5 m__law_lengths) (aCons (vM 1) (aCons (cM (.int 9)) aNil))))
noncomputable def m_law_s3 (K : PySem.W.Frag) (z : Nat) : MS := (asgM 3 (callB (mkB 1 5 m__law_bounds) (aCons (vM 1) (aCons (vM 2) aNil))))
noncomputable def m_law_s4 (K : PySem.W.Frag) (z : Nat) : MS := (asgM 4 (callB (mkB 2 8 m__law_word) (aCons (vM 1) (aCons (vM 2) (aCons (cM (.int 6)) aNil)))))
noncomputable def m_law_s5 (K : PySem.W.Frag) (z : Nat) : MS := (ifS (orT (tstB (bin2 D.notN (callP (mkP 1 1 m_is_bounds) (aCons (vM 3) aNil)) (cM (.bl true)))) (tstB (bin2 D.notN (callP (mkP 1 2 m_is_length_word) (aCons (vM 4) aNil)) (cM (.bl true))))) (retM (cM (.bl false))) nxM)
noncomputable def m_law_s6 (K : PySem.W.Frag) (z : Nat) : MS := (asgM 5 (lstM (aCons (callP (mkP 2 2 m_holds) (aCons (vM 3) (aCons (vM 4) aNil))) (aCons (callP (mkP 2 2 m_is_enough) (aCons (vM 3) (aCons (vM 4) aNil))) (aCons (callP (mkP 2 2 (m_full_pages K)) (aCons (vM 3) (aCons (vM 4) aNil))) (aCons (callP (mkP 2 2 (m_soon_pages K)) (aCons (vM 3) (aCons (vM 4) aNil))) aNil))))))
noncomputable def m_law_s7 (K : PySem.W.Frag) (z : Nat) : MS := (ifS (notT (tstM (callP (mkP 2 2 m__law_alike) (aCons (vM 5) (aCons (lstM (aCons (callP (mkP 2 2 m__law_holds) (aCons (vM 3) (aCons (vM 4) aNil))) (aCons (callP (mkP 2 2 m__law_enough) (aCons (vM 3) (aCons (vM 4) aNil))) (aCons (callP (mkP 2 6 m__law_fewest) (aCons (vM 3) (aCons (vM 4) aNil))) (aCons (callP (mkP 2 6 m__law_most) (aCons (vM 3) (aCons (vM 4) aNil))) aNil))))) aNil))))) (retM (cM (.bl false))) nxM)
noncomputable def m_law_s8 (K : PySem.W.Frag) (z : Nat) : MS := (parS [6, 7, 8, 9] [(tupM (aCons (cM (.int 0)) (aCons (cM (.int 0)) (aCons (cM (.int 0)) aNil)))), (tupM (aCons (cM (.int 0)) (aCons (cM (.int 0)) (aCons (cM (.int 0)) aNil)))), (tupM aNil), (tupM aNil)])
noncomputable def m_law_b1 (K : PySem.W.Frag) (z : Nat) : MS := (skM (asgM 8 (ifM (andT (tstB (bin2 D.ne (vM 8) (tupM aNil))) (tstM (callP (mkP 2 2 m__law_holds) (aCons (vM 3) (aCons (bin2 D.add (vM 8) (tupM (aCons (vM 11) aNil))) aNil))))) (bin2 D.add (vM 8) (tupM (aCons (vM 11) aNil))) (tupM (aCons (vM 11) aNil)))) (skM (asgM 6 (callP (mkP 3 3 m_full_step) (aCons (vM 3) (aCons (vM 6) (aCons (vM 11) aNil))))) (skM (asgM 9 (bin2 D.add (vM 9) (tupM (aCons (vM 11) aNil)))) (skM (asgM 9 (ifM (tstM (callP (mkP 2 2 m__law_enough) (aCons (vM 3) (aCons (vM 9) aNil)))) (tupM aNil) (vM 9))) (skM (asgM 7 (callP (mkP 3 3 m_soon_step) (aCons (vM 3) (aCons (vM 7) (aCons (vM 11) aNil))))) (skM (asgM 12 (sl3 D.sl (vM 4) oNone (oSome (bin2 D.add (vM 10) (cM (.int 1)))))) (skM (asgM 13 (lcM (seqM (tupM (aCons (vM 8) (aCons (vM 9) aNil)))) (tN 23) yesT (ifM (tstB (bin2 D.notN (bin2 D.ix (vM 3) (cM (.int 2))) (cM .non))) (callN D.len (aCons (vM 23) aNil)) (cM (.int 0))) [23])) (skM (ifS (orT (tstB (bin2 D.ne (vM 6) (tupM (aCons (callP (mkP 2 6 m__law_fewest) (aCons (vM 3) (aCons (vM 12) aNil))) (aCons (callN D.sum (aCons (vM 8) aNil)) (aCons (bin2 D.ix (vM 13) (cM (.int 0))) aNil)))))) (tstB (bin2 D.ne (vM 7) (tupM (aCons (callP (mkP 2 6 m__law_most) (aCons (vM 3) (aCons (vM 12) aNil))) (aCons (callN D.sum (aCons (vM 9) aNil)) (aCons (bin2 D.ix (vM 13) (cM (.int 1))) aNil))))))) (retM (cM (.bl false))) nxM) (ifS (orT (tstB (bin2 D.ne (vM 6) (callP (mkP 2 2 (m_full_standing K)) (aCons (vM 3) (aCons (vM 12) aNil))))) (tstB (bin2 D.ne (vM 7) (callP (mkP 2 2 (m_soon_standing K)) (aCons (vM 3) (aCons (vM 12) aNil)))))) (retM (cM (.bl false))) nxM)))))))))
noncomputable def m_law_s9 (K : PySem.W.Frag) (z : Nat) : MS := (forM (enumM (vM 4)) (tT [10, 11]) (m_law_b1 K z) [10, 11, 12, 13])
noncomputable def m_law_b2 (K : PySem.W.Frag) (z : Nat) : MS := (ifS (tstB (bin2 D.ne (callP (mkP 3 3 (m_is_split K)) (aCons (vM 3) (aCons (vM 4) (aCons (vM 14) aNil)))) (chn D.le D.lt (callP (mkP 2 6 m__law_most) (aCons (vM 3) (aCons (vM 4) aNil))) (vM 14) (callP (mkP 2 6 m__law_fewest) (aCons (vM 3) (aCons (vM 4) aNil)))))) (retM (cM (.bl false))) nxM)
noncomputable def m_law_s10 (K : PySem.W.Frag) (z : Nat) : MS := (forM (rng1M (aCons (cM (.int 4)) aNil)) (tN 14) (m_law_b2 K z) [14])
noncomputable def m_law_b3 (K : PySem.W.Frag) (z : Nat) : MS := (skM (parS [16, 17, 11] [(callB (mkB 1 2 m__law_bare) (aCons (vM 1) (aCons (vM 3) aNil))), (callB (mkB 1 2 m__law_bare) (aCons (vM 1) (aCons (vM 3) aNil))), (callB (mkB 1 2 m__law_some) (aCons (vM 1) (aCons (vM 2) aNil)))]) (skM (ifS (tstB (bin2 D.eq (callB (mkB 1 7 m__law_take) (aCons (vM 1) (aCons (cM (.int 2)) aNil))) (cM (.int 0)))) (asgM 17 (tupM (aCons (bin2 D.ix (vM 16) (cM (.int 0))) (aCons (callN D.max (aCons (bin2 D.sub (bin2 D.ix (vM 16) (cM (.int 1))) (callB (mkB 1 7 m__law_take) (aCons (vM 1) (aCons (cM (.int 4)) aNil)))) (aCons (cM (.int 0)) aNil))) (aCons (callN D.max (aCons (bin2 D.sub (bin2 D.ix (vM 16) (cM (.int 2))) (callB (mkB 1 7 m__law_take) (aCons (vM 1) (aCons (cM (.int 3)) aNil)))) (aCons (cM (.int 0)) aNil))) aNil))))) nxM) (skM (asgM 18 (orM (bin2 D.gt (bin2 D.ix (vM 16) (cM (.int 0))) (bin2 D.ix (vM 17) (cM (.int 0)))) (andM (bin2 D.eq (bin2 D.ix (vM 16) (cM (.int 0))) (bin2 D.ix (vM 17) (cM (.int 0)))) (andM (bin2 D.ge (bin2 D.ix (vM 16) (cM (.int 1))) (bin2 D.ix (vM 17) (cM (.int 1)))) (bin2 D.ge (bin2 D.ix (vM 16) (cM (.int 2))) (bin2 D.ix (vM 17) (cM (.int 2)))))))) (skM (ifS (tstB (bin2 D.ne (callP (mkP 2 2 m_is_ahead) (aCons (vM 16) (aCons (vM 17) aNil))) (vM 18))) (retM (cM (.bl false))) nxM) (skM (asgM 19 (lcM (seqM (tupM (aCons (cM (.ref (He.ga K "full_step"))) (aCons (cM (.ref (He.ga K "soon_step"))) aNil)))) (tN 24) yesT (lcM (seqM (tupM (aCons (vM 16) (aCons (vM 17) aNil)))) (tN 23) yesT (callL 24 [((He.ga K "full_step"), (mkP 3 3 m_full_step)), ((He.ga K "soon_step"), (mkP 3 3 m_soon_step))] (aCons (vM 3) (aCons (vM 23) (aCons (vM 11) aNil)))) [23]) [24])) (ifS (andT (tstM (vM 18)) (tstB (bin2 D.ne (lcM (seqM (vM 19)) (tN 25) (tstB (bin2 D.notN (callP (mkP 2 2 m_is_ahead) (aCons (bin2 D.ix (vM 25) (cM (.int 0))) (aCons (bin2 D.ix (vM 25) (cM (.int 1))) aNil))) (cM (.bl true)))) (cM (.int 1)) [25]) (lstM aNil)))) (retM (cM (.bl false))) nxM))))))
noncomputable def m_law_s11 (K : PySem.W.Frag) (z : Nat) : MS := (forM (rng1M (aCons (cM (.int 6)) aNil)) (tN 15) (m_law_b3 K z) [15, 17, 11, 18, 19])
noncomputable def m_law_s12 (K : PySem.W.Frag) (z : Nat) : MS := (asgM 20 (lstM (aCons (cM .non) (aCons (sl3 D.sl (vM 3) oNone (oSome (cM (.int 2)))) (aCons (tupM (aCons (cM (.int 0)) (aCons (bin2 D.ix (vM 3) (cM (.int 1))) (aCons (cM .non) aNil)))) (aCons (tupM (aCons (bin2 D.add (bin2 D.ix (vM 3) (cM (.int 1))) (cM (.int 1))) (aCons (bin2 D.ix (vM 3) (cM (.int 1))) (aCons (cM .non) aNil)))) (aCons (bin2 D.add (sl3 D.sl (vM 3) oNone (oSome (cM (.int 2)))) (tupM (aCons (tupM (aCons (cM (.int 3)) (aCons (cM (.int 4)) aNil))) aNil))) (aCons (callN D.toList (aCons (vM 3) aNil)) (aCons (tupM (aCons (cM (.int 1)) (aCons (cM (.int 61)) (aCons (cM .non) aNil)))) aNil)))))))))
noncomputable def m_law_s13 (K : PySem.W.Frag) (z : Nat) : MS := (ifS (tstB (bin2 D.ne (lcM (seqM (vM 20)) (tN 16) (tstB (bin2 D.notN (callP (mkP 1 1 m_is_bounds) (aCons (vM 16) aNil)) (cM (.bl false)))) (vM 16) [16]) (lstM aNil))) (retM (cM (.bl false))) nxM)
noncomputable def m_law_s14 (K : PySem.W.Frag) (z : Nat) : MS := (ifS (tstB (bin2 D.ne (lcM (seqM (tupM (aCons (cM .non) (aCons (tupM (aCons (cM (.int 0)) aNil)) (aCons (tupM (aCons (cM (.int 13)) aNil)) (aCons (lstM (aCons (cM (.int 1)) aNil)) (aCons (tupM (aCons (cM (.bl true)) aNil)) (aCons (bin2 D.mul (tupM (aCons (cM (.int 1)) aNil)) (cM (.int 1001))) aNil)))))))) (tN 16) (tstB (bin2 D.notN (callP (mkP 1 2 m_is_length_word) (aCons (vM 16) aNil)) (cM (.bl false)))) (vM 16) [16]) (lstM aNil))) (retM (cM (.bl false))) nxM)
noncomputable def m_law_b4 (K : PySem.W.Frag) (z : Nat) : MS := (tryM mat_Nothing (skM (drpM (actM 22 (tabL K z))) (retM (cM (.bl false)))) nxM)
noncomputable def m_law_s15 (K : PySem.W.Frag) (z : Nat) : MS := (forM (seqM (vM 21)) (tN 22) (m_law_b4 K z) [22])
noncomputable def m_law (K : PySem.W.Frag) (z : Nat) : MS := (skM (m_law_s1 K z) (skM (m_law_s2 K z) (skM (m_law_s3 K z) (skM (m_law_s4 K z) (skM (m_law_s5 K z) (skM (m_law_s6 K z) (skM (m_law_s7 K z) (skM (m_law_s8 K z) (skM (m_law_s9 K z) (skM (m_law_s10 K z) (skM (m_law_s11 K z) (skM (m_law_s12 K z) (skM (m_law_s13 K z) (skM (m_law_s14 K z) (lam1M 21 (lq 0 z) (lamAM 21 (lq 1 z) (lamAM 21 (lq 2 z) (lamAM 21 (lq 3 z) (lamAM 21 (lq 4 z) (lamAM 21 (lq 5 z) (skM (m_law_s15 K z) (retM (cM (.bl true))))))))))))))))))))))))
theorem g_law {P : Program} {w : World} {K : PySem.W.Frag} {mg : PySem.Str → Option Value} {base h : Heap} {c Pt : Addr} {fd : FuncData} (KX : K.In h) (G : h.Ns mainGlobals mg) (C : Says fa fn ex K) (F : FunD K d_law.name d_law.qual d_law.params d_law.body d_law.scope [] [] (He.ga K "law") fd) (TB : TabB base mg c Pt) (hc : fd.code = .ref c) : FnG P w K mg base 12 (He.ga K "law") fd ["script"] (SpL K Pt 26 (m_law K)) := by
  refine fn_law (N := N_law) (ca := He.ga K) (q := (envOfC "law" (defScope s_law) 0 0 .none).qual ++ "<lambda>") F sc_law hc (fun A outer s H E hr hgd => ?_)
  have po : PassesOwn (model P w) (cxOf (L2.CX P w) P w K mg base N_law "law" (defScope s_law) (He.ga K "law") (.ref c) A outer s H E).A (cxOf (L2.CX P w) P w K mg base N_law "law" (defScope s_law) (He.ga K "law") (.ref c) A outer s H E).env (cxOf (L2.CX P w) P w K mg base N_law "law" (defScope s_law) (He.ga K "law") (.ref c) A outer s H E).xe := passes_of rfl
  exact (l_cons (s_st 1 sc_law.nd (x_callH (g__law_bag KX G C) (hr.mono (by decide)) hgd LamX.takes0 rfl (He.glo_ok KX G (C.says.fact 28 rfl)) (a_cons (x_v 0) a_nil))) (l_cons (s_st 2 sc_law.nd (x_callBH (g__law_lengths KX G C) (hr.mono (by decide)) hgd LamX.takes0 rfl (He.glo_ok KX G (C.says.fact 32 rfl)) (a_cons (x_v 1) (a_cons x_int a_nil)))) (l_cons (s_st 3 sc_law.nd (x_callBH (g__law_bounds KX G C) (hr.mono (by decide)) hgd LamX.takes0 rfl (He.glo_ok KX G (C.says.fact 33 rfl)) (a_cons (x_v 1) (a_cons (x_v 2) a_nil)))) (l_cons (s_st 4 sc_law.nd (x_callBH (g__law_word KX G C) (hr.mono (by decide)) hgd LamX.takes0 rfl (He.glo_ok KX G (C.says.fact 34 rfl)) (a_cons (x_v 1) (a_cons (x_v 2) (a_cons x_int a_nil))))) (l_cons (s_if (t_w (w_or (t_cmp op_notD so_not (x_callH (g_is_bounds KX G C) (hr.mono (by decide)) hgd LamX.takes0 rfl (He.glo_ok KX G (C.says.fact 6 rfl)) (a_cons (x_v 3) a_nil)) x_bl (nomark _)) (w_or1 (t_cmp op_notD so_not (x_callH (g_is_length_word KX G C) (hr.mono (by decide)) hgd LamX.takes0 rfl (He.glo_ok KX G (C.says.fact 7 rfl)) (a_cons (x_v 4) a_nil)) x_bl (nomark _))))) (k_one (s_ret x_bl)) k_nil) (l_cons (s_st 5 sc_law.nd (x_lst (a_cons (x_callH (g_holds KX G C) (hr.mono (by decide)) hgd LamX.takes0 rfl (He.glo_ok KX G (C.says.fact 12 rfl)) (a_cons (x_v 3) (a_cons (x_v 4) a_nil))) (a_cons (x_callH (g_is_enough KX G C) (hr.mono (by decide)) hgd LamX.takes0 rfl (He.glo_ok KX G (C.says.fact 13 rfl)) (a_cons (x_v 3) (a_cons (x_v 4) a_nil))) (a_cons (x_callH (g_full_pages KX G C) (hr.mono (by decide)) hgd LamX.takes0 rfl (He.glo_ok KX G (C.says.fact 23 rfl)) (a_cons (x_v 3) (a_cons (x_v 4) a_nil))) (a_cons (x_callH (g_soon_pages KX G C) (hr.mono (by decide)) hgd LamX.takes0 rfl (He.glo_ok KX G (C.says.fact 24 rfl)) (a_cons (x_v 3) (a_cons (x_v 4) a_nil))) a_nil)))))) (l_cons (s_if (t_not (t_val (x_callH (g__law_alike KX G C) (hr.mono (by decide)) hgd LamX.takes0 rfl (He.glo_ok KX G (C.says.fact 31 rfl)) (a_cons (x_v 5) (a_cons (x_lst (a_cons (x_callH (g__law_holds KX G C) (hr.mono (by decide)) hgd LamX.takes0 rfl (He.glo_ok KX G (C.says.fact 35 rfl)) (a_cons (x_v 3) (a_cons (x_v 4) a_nil))) (a_cons (x_callH (g__law_enough KX G C) (hr.mono (by decide)) hgd LamX.takes0 rfl (He.glo_ok KX G (C.says.fact 36 rfl)) (a_cons (x_v 3) (a_cons (x_v 4) a_nil))) (a_cons (x_callH (g__law_fewest KX G C) (hr.mono (by decide)) hgd LamX.takes0 rfl (He.glo_ok KX G (C.says.fact 37 rfl)) (a_cons (x_v 3) (a_cons (x_v 4) a_nil))) (a_cons (x_callH (g__law_most KX G C) (hr.mono (by decide)) hgd LamX.takes0 rfl (He.glo_ok KX G (C.says.fact 38 rfl)) (a_cons (x_v 3) (a_cons (x_v 4) a_nil))) a_nil))))) a_nil))))) (k_one (s_ret x_bl)) k_nil) (l_cons (s_parT (is := [6, 7, 8, 9]) (n := 4) rfl (gs_cons 6 sc_law.nd rfl (by first | exact .inl rfl | exact .inr rfl) (gs_cons 7 sc_law.nd rfl (by first | exact .inl rfl | exact .inr rfl) (gs_cons 8 sc_law.nd rfl (by first | exact .inl rfl | exact .inr rfl) (gs_cons 9 sc_law.nd rfl (by first | exact .inl rfl | exact .inr rfl) gs_nil)))) (p_cons 6 (x_tup (a_cons x_int (a_cons x_int (a_cons x_int a_nil)))) (p_cons 7 (x_tup (a_cons x_int (a_cons x_int (a_cons x_int a_nil)))) (p_cons 8 (x_tup a_nil) (p_cons 9 (x_tup a_nil) p_nil))))) (l_cons (s_for [10, 11, 12, 13] po rfl (i_enum rfl (He.free_ok KX G (C.says.fact 57 rfl)) (x_v 4)) (g_tup (is := [10, 11]) rfl (gs_cons 10 sc_law.nd rfl (by first | exact .inl rfl | exact .inr rfl) (gs_cons 11 sc_law.nd rfl (by first | exact .inl rfl | exact .inr rfl) gs_nil)) rfl) (k_cons (s_st 8 sc_law.nd (x_if (t_w (w_and (t_cmp (op_neA (un_ok hr)) so_ne (x_v 8) (x_tup a_nil) (nomark _)) (w_and1 (t_val (x_callH (g__law_holds KX G C) (hr.mono (by decide)) hgd LamX.takes0 rfl (He.glo_ok KX G (C.says.fact 35 rfl)) (a_cons (x_v 3) (a_cons (x_bin op_addD so_add (x_v 8) (x_tup (a_cons (x_v 11) a_nil))) a_nil))))))) (x_bin op_addD so_add (x_v 8) (x_tup (a_cons (x_v 11) a_nil))) (x_tup (a_cons (x_v 11) a_nil)))) (k_cons (s_st 6 sc_law.nd (x_callH (g_full_step KX G C) (hr.mono (by decide)) hgd LamX.takes0 rfl (He.glo_ok KX G (C.says.fact 18 rfl)) (a_cons (x_v 3) (a_cons (x_v 6) (a_cons (x_v 11) a_nil))))) (k_cons (s_st 9 sc_law.nd (x_bin op_addD so_add (x_v 9) (x_tup (a_cons (x_v 11) a_nil)))) (k_cons (s_st 9 sc_law.nd (x_if (t_val (x_callH (g__law_enough KX G C) (hr.mono (by decide)) hgd LamX.takes0 rfl (He.glo_ok KX G (C.says.fact 36 rfl)) (a_cons (x_v 3) (a_cons (x_v 9) a_nil)))) (x_tup a_nil) (x_v 9))) (k_cons (s_st 7 sc_law.nd (x_callH (g_soon_step KX G C) (hr.mono (by decide)) hgd LamX.takes0 rfl (He.glo_ok KX G (C.says.fact 19 rfl)) (a_cons (x_v 3) (a_cons (x_v 7) (a_cons (x_v 11) a_nil))))) (k_cons (s_st 12 sc_law.nd (x_slice sl_D so_sl (x_v 4) o_none (o_some (x_bin op_addD so_add (x_v 10) x_int)))) (k_cons (s_lc 13 (gName 23) [("its", 23)] rfl sc_law.nd rfl rfl (i_seq (x_tup (a_cons (x_v 8) (a_cons (x_v 9) a_nil)))) (by kernel_rfl) (fun _ _ _ _ _ => (pg_name (i := 23) sc_law.nd rfl (by first | exact .inl rfl | exact .inr rfl))) ct_name (cw_name (by decide)) (fun _ _ _ _ _ => (x_if (t_cmp op_notD so_not (x_ix ix_seq so_ix (x_v 3) x_int (fun _ _ => rfl)) x_non (nomark _)) (x_callB cr_lenD so_len rfl (He.free_ok KX G (C.says.fact 60 rfl)) (by first | rfl | kernel_rfl) (a_cons (x_v 23) a_nil)) x_int))) (k_cons (s_if (t_w (w_or (t_cmp (op_neA (un_ok hr)) so_ne (x_v 6) (x_tup (a_cons (x_callH (g__law_fewest KX G C) (hr.mono (by decide)) hgd LamX.takes0 rfl (He.glo_ok KX G (C.says.fact 37 rfl)) (a_cons (x_v 3) (a_cons (x_v 12) a_nil))) (a_cons (x_callB (cr_sumD rfl) so_sum rfl (He.free_ok KX G (C.says.fact 67 rfl)) (by first | rfl | kernel_rfl) (a_cons (x_v 8) a_nil)) (a_cons (x_ix ix_seq so_ix (x_v 13) x_int (fun _ _ => rfl)) a_nil)))) (nomark _)) (w_or1 (t_cmp (op_neA (un_ok hr)) so_ne (x_v 7) (x_tup (a_cons (x_callH (g__law_most KX G C) (hr.mono (by decide)) hgd LamX.takes0 rfl (He.glo_ok KX G (C.says.fact 38 rfl)) (a_cons (x_v 3) (a_cons (x_v 12) a_nil))) (a_cons (x_callB (cr_sumD rfl) so_sum rfl (He.free_ok KX G (C.says.fact 67 rfl)) (by first | rfl | kernel_rfl) (a_cons (x_v 9) a_nil)) (a_cons (x_ix ix_seq so_ix (x_v 13) x_int (fun _ _ => rfl)) a_nil)))) (nomark _))))) (k_one (s_ret x_bl)) k_nil) (k_one (s_if (t_w (w_or (t_cmp (op_neA (un_ok hr)) so_ne (x_v 6) (x_callH (g_full_standing KX G C) (hr.mono (by decide)) hgd LamX.takes0 rfl (He.glo_ok KX G (C.says.fact 21 rfl)) (a_cons (x_v 3) (a_cons (x_v 12) a_nil))) (nomark _)) (w_or1 (t_cmp (op_neA (un_ok hr)) so_ne (x_v 7) (x_callH (g_soon_standing KX G C) (hr.mono (by decide)) hgd LamX.takes0 rfl (He.glo_ok KX G (C.says.fact 22 rfl)) (a_cons (x_v 3) (a_cons (x_v 12) a_nil))) (nomark _))))) (k_one (s_ret x_bl)) k_nil))))))))))) (l_cons (s_for [14] po rfl (i_rng1 rfl (He.free_ok KX G (C.says.fact 64 rfl)) (a_cons x_int a_nil)) (g_name 14 sc_law.nd rfl (by first | exact .inl rfl | exact .inr rfl)) (k_one (s_if (t_cmp (op_neA (un_ok hr)) so_ne (x_callH (g_is_split KX G C) (hr.mono (by decide)) hgd LamX.takes0 rfl (He.glo_ok KX G (C.says.fact 25 rfl)) (a_cons (x_v 3) (a_cons (x_v 4) (a_cons (x_v 14) a_nil)))) (x_chain op_le so_cmpI op_lt so_cmpI (x_callH (g__law_most KX G C) (hr.mono (by decide)) hgd LamX.takes0 rfl (He.glo_ok KX G (C.says.fact 38 rfl)) (a_cons (x_v 3) (a_cons (x_v 4) a_nil))) (x_v 14) (x_callH (g__law_fewest KX G C) (hr.mono (by decide)) hgd LamX.takes0 rfl (He.glo_ok KX G (C.says.fact 37 rfl)) (a_cons (x_v 3) (a_cons (x_v 4) a_nil)))) (nomark _)) (k_one (s_ret x_bl)) k_nil))) (l_cons (s_for [15, 17, 11, 18, 19] po rfl (i_rng1 rfl (He.free_ok KX G (C.says.fact 64 rfl)) (a_cons x_int a_nil)) (g_name 15 sc_law.nd rfl (by first | exact .inl rfl | exact .inr rfl)) (k_cons (s_parT (is := [16, 17, 11]) (n := 3) rfl (gs_cons 16 sc_law.nd rfl (by first | exact .inl rfl | exact .inr rfl) (gs_cons 17 sc_law.nd rfl (by first | exact .inl rfl | exact .inr rfl) (gs_cons 11 sc_law.nd rfl (by first | exact .inl rfl | exact .inr rfl) gs_nil))) (p_cons 16 (x_callBH (g__law_bare KX G C) (hr.mono (by decide)) hgd LamX.takes0 rfl (He.glo_ok KX G (C.says.fact 40 rfl)) (a_cons (x_v 1) (a_cons (x_v 3) a_nil))) (p_cons 17 (x_callBH (g__law_bare KX G C) (hr.mono (by decide)) hgd LamX.takes0 rfl (He.glo_ok KX G (C.says.fact 40 rfl)) (a_cons (x_v 1) (a_cons (x_v 3) a_nil))) (p_cons 11 (x_callBH (g__law_some KX G C) (hr.mono (by decide)) hgd LamX.takes0 rfl (He.glo_ok KX G (C.says.fact 30 rfl)) (a_cons (x_v 1) (a_cons (x_v 2) a_nil))) p_nil)))) (k_cons (s_if (t_cmp (op_eqA (un_ok hr)) so_eq (x_callBH (g__law_take KX G C) (hr.mono (by decide)) hgd LamX.takes0 rfl (He.glo_ok KX G (C.says.fact 29 rfl)) (a_cons (x_v 1) (a_cons x_int a_nil))) x_int (nomark _)) (k_one (s_st 17 sc_law.nd (x_tup (a_cons (x_ix ix_seq so_ix (x_v 16) x_int (fun _ _ => rfl)) (a_cons (x_callB (cr_maxD rfl) so_max rfl (He.free_ok KX G (C.says.fact 62 rfl)) (by first | rfl | kernel_rfl) (a_cons (x_bin op_sub so_sub (x_ix ix_seq so_ix (x_v 16) x_int (fun _ _ => rfl)) (x_callBH (g__law_take KX G C) (hr.mono (by decide)) hgd LamX.takes0 rfl (He.glo_ok KX G (C.says.fact 29 rfl)) (a_cons (x_v 1) (a_cons x_int a_nil)))) (a_cons x_int a_nil))) (a_cons (x_callB (cr_maxD rfl) so_max rfl (He.free_ok KX G (C.says.fact 62 rfl)) (by first | rfl | kernel_rfl) (a_cons (x_bin op_sub so_sub (x_ix ix_seq so_ix (x_v 16) x_int (fun _ _ => rfl)) (x_callBH (g__law_take KX G C) (hr.mono (by decide)) hgd LamX.takes0 rfl (He.glo_ok KX G (C.says.fact 29 rfl)) (a_cons (x_v 1) (a_cons x_int a_nil)))) (a_cons x_int a_nil))) a_nil)))))) k_nil) (k_cons (s_st 18 sc_law.nd (x_or (x_cmp op_gt so_cmpI (x_ix ix_seq so_ix (x_v 16) x_int (fun _ _ => rfl)) (x_ix ix_seq so_ix (x_v 17) x_int (fun _ _ => rfl)) (nomark _)) (x_one (x_and (x_cmp (op_eqA (un_ok hr)) so_eq (x_ix ix_seq so_ix (x_v 16) x_int (fun _ _ => rfl)) (x_ix ix_seq so_ix (x_v 17) x_int (fun _ _ => rfl)) (nomark _)) (x_and (x_cmp op_ge so_cmpI (x_ix ix_seq so_ix (x_v 16) x_int (fun _ _ => rfl)) (x_ix ix_seq so_ix (x_v 17) x_int (fun _ _ => rfl)) (nomark _)) (x_one (x_cmp op_ge so_cmpI (x_ix ix_seq so_ix (x_v 16) x_int (fun _ _ => rfl)) (x_ix ix_seq so_ix (x_v 17) x_int (fun _ _ => rfl)) (nomark _)))))))) (k_cons (s_if (t_cmp (op_neA (un_ok hr)) so_ne (x_callH (g_is_ahead KX G C) (hr.mono (by decide)) hgd LamX.takes0 rfl (He.glo_ok KX G (C.says.fact 27 rfl)) (a_cons (x_v 16) (a_cons (x_v 17) a_nil))) (x_v 18) (nomark _)) (k_one (s_ret x_bl)) k_nil) (k_cons (s_lc 19 (gName 24) [("step", 24)] rfl sc_law.nd rfl rfl (i_seq (x_tup (a_cons (x_gref rfl (He.glo_ok KX G (C.says.fact 18 rfl))) (a_cons (x_gref rfl (He.glo_ok KX G (C.says.fact 19 rfl))) a_nil)))) (by kernel_rfl) (fun _ _ _ _ _ => (pg_name (i := 24) sc_law.nd rfl (by first | exact .inl rfl | exact .inr rfl))) ct_name (cw_name (by decide)) (fun _ _ _ _ _ => (x_lc (gName 23) [("its", 23)] rfl sc_law.nd (i_seq (x_tup (a_cons (x_v 16) (a_cons (x_v 17) a_nil)))) (by kernel_rfl) (fun _ _ _ _ _ => (pg_name (i := 23) sc_law.nd rfl (by first | exact .inl rfl | exact .inr rfl))) ct_name (cw_name (by decide)) (fun _ _ _ _ _ => (x_callLH (k := 9) (n := 3) 24 (tab := [((He.ga K "full_step"), (mkP 3 3 m_full_step)), ((He.ga K "soon_step"), (mkP 3 3 m_soon_step))]) (tab_cons ((g_full_step KX G C).up (by decide)) (tab_cons ((g_soon_step KX G C).up (by decide)) tab_nil)) (hr.mono (by decide)) hgd LamX.takes0 rfl (by first | exact .inl rfl | exact .inr (.inl rfl) | exact .inr (.inr rfl)) (a_cons (x_v 3) (a_cons (x_v 23) (a_cons (x_v 11) a_nil)))))))) (k_one (s_if (t_w (w_and (t_val (x_v 18)) (w_and1 (t_cmp (op_neA (un_ok hr)) so_ne (x_lcIf (gName 25) [("pair", 25)] rfl sc_law.nd (i_seq (x_v 19)) (by kernel_rfl) (fun _ _ _ _ _ => (pg_name (i := 25) sc_law.nd rfl (by first | exact .inl rfl | exact .inr rfl))) ct_name (cw_name (by decide)) (fun _ _ _ _ _ => (t_cmp op_notD so_not (x_callH (g_is_ahead KX G C) (hr.mono (by decide)) hgd LamX.takes0 rfl (He.glo_ok KX G (C.says.fact 27 rfl)) (a_cons (x_ix ix_seq so_ix (x_v 25) x_int (fun _ _ => rfl)) (a_cons (x_ix ix_seq so_ix (x_v 25) x_int (fun _ _ => rfl)) a_nil))) x_bl (nomark _))) (fun _ _ _ _ _ => x_int)) (x_lst a_nil) (nomark _))))) (k_one (s_ret x_bl)) k_nil)))))))) (l_cons (s_st 20 sc_law.nd (x_lst (a_cons x_non (a_cons (x_slice sl_D so_sl (x_v 3) o_none (o_some x_int)) (a_cons (x_tup (a_cons x_int (a_cons (x_ix ix_seq so_ix (x_v 3) x_int (fun _ _ => rfl)) (a_cons x_non a_nil)))) (a_cons (x_tup (a_cons (x_bin op_addD so_add (x_ix ix_seq so_ix (x_v 3) x_int (fun _ _ => rfl)) x_int) (a_cons (x_ix ix_seq so_ix (x_v 3) x_int (fun _ _ => rfl)) (a_cons x_non a_nil)))) (a_cons (x_bin op_addD so_add (x_slice sl_D so_sl (x_v 3) o_none (o_some x_int)) (x_tup (a_cons (x_tup (a_cons x_int (a_cons x_int a_nil))) a_nil))) (a_cons (x_callTy call_list_of so_list rfl (He.free_ok KX G (C.says.fact 61 rfl)) (by first | rfl | kernel_rfl) (a_cons (x_v 3) a_nil)) (a_cons (x_tup (a_cons x_int (a_cons x_int (a_cons x_non a_nil)))) a_nil))))))))) (l_cons (s_if (t_cmp (op_neA (un_ok hr)) so_ne (x_lcIf (gName 16) [("one", 16)] rfl sc_law.nd (i_seq (x_v 20)) (by kernel_rfl) (fun _ _ _ _ _ => (pg_name (i := 16) sc_law.nd rfl (by first | exact .inl rfl | exact .inr rfl))) ct_name (cw_name (by decide)) (fun _ _ _ _ _ => (t_cmp op_notD so_not (x_callH (g_is_bounds KX G C) (hr.mono (by decide)) hgd LamX.takes0 rfl (He.glo_ok KX G (C.says.fact 6 rfl)) (a_cons (x_v 16) a_nil)) x_bl (nomark _))) (fun _ _ _ _ _ => (x_v 16))) (x_lst a_nil) (nomark _)) (k_one (s_ret x_bl)) k_nil) (l_cons (s_if (t_cmp (op_neA (un_ok hr)) so_ne (x_lcIf (gName 16) [("one", 16)] rfl sc_law.nd (i_seq (x_tup (a_cons x_non (a_cons (x_tup (a_cons x_int a_nil)) (a_cons (x_tup (a_cons x_int a_nil)) (a_cons (x_lst (a_cons x_int a_nil)) (a_cons (x_tup (a_cons x_bl a_nil)) (a_cons (x_bin op_mulD so_mul (x_tup (a_cons x_int a_nil)) x_int) a_nil)))))))) (by kernel_rfl) (fun _ _ _ _ _ => (pg_name (i := 16) sc_law.nd rfl (by first | exact .inl rfl | exact .inr rfl))) ct_name (cw_name (by decide)) (fun _ _ _ _ _ => (t_cmp op_notD so_not (x_callH (g_is_length_word KX G C) (hr.mono (by decide)) hgd LamX.takes0 rfl (He.glo_ok KX G (C.says.fact 7 rfl)) (a_cons (x_v 16) a_nil)) x_bl (nomark _))) (fun _ _ _ _ _ => (x_v 16))) (x_lst a_nil) (nomark _)) (k_one (s_ret x_bl)) k_nil) (l_lam1 21 0 TB rfl rfl (by kernel_rfl) (by rfl) sc_law.nd rfl (by first | exact .inl rfl | exact .inr rfl) (l_lamA 21 1 TB rfl rfl (by kernel_rfl) (by rfl) rfl (by first | exact .inl rfl | exact .inr (.inl rfl)) (l_lamA 21 2 TB rfl rfl (by kernel_rfl) (by rfl) rfl (by first | exact .inl rfl | exact .inr (.inl rfl)) (l_lamA 21 3 TB rfl rfl (by kernel_rfl) (by rfl) rfl (by first | exact .inl rfl | exact .inr (.inl rfl)) (l_lamA 21 4 TB rfl rfl (by kernel_rfl) (by rfl) rfl (by first | exact .inl rfl | exact .inr (.inl rfl)) (l_lamA 21 5 TB rfl rfl (by kernel_rfl) (by rfl) rfl (by first | exact .inl rfl | exact .inr (.inl rfl)) (l_cons (s_for [22] po rfl (i_seq (x_v 21)) (g_name 22 sc_law.nd rfl (by first | exact .inl rfl | exact .inr rfl)) (k_one (s_try rfl rfl ⟨rfl, (by decide), .inl (He.glo_ok KX G (C.says.fact 49 rfl))⟩ LamX.takes0 (mat_Nothing_ok C) (fun W pn xe tk' po' => (k_cons (s_expr (x_act (k := 10) 22 (tabL K s.heap.objs.size) (tabL_ok KX G C) (hr.mono (by decide)) hgd tk' rfl (by first | exact .inl rfl | exact .inr (.inl rfl) | exact .inr (.inr rfl)))) (k_one (s_ret x_bl)))) (fun a pn => (k_one s_pass))))) (l_one (s_ret x_bl)))))))))))))))))))))))
end G
set_option Elab.async false
set_option linter.all false
set_option maxRecDepth 100000
set_option maxHeartbeats 2000000
namespace G
open PySem PySem.Spec PyProof.Rows L2 Mw LamX KM
/-! ### data -/
def dSl : Option (Int × Int) → D
  | none => .non
  | some (p, r) => .tup [.int p, .int r]
def dB (b : Bd) : D := .tup [.int b.lo, .int b.hi, dSl b.sl]
def dW (w : List Int) : D := .tup (w.map .int)
def dS (s : St3) : D := .tup [.int s.1, .int s.2.1, .int s.2.2]
abbrev rB (b : Bool) : RF := .ret (.cl (.bl b))
theorem e_is_integer (i : Int) : mkP 1 1 m_is_integer [.int i] = rB true := by
  rw [mkP_eq]
  simp [m_is_integer, startG, finR, andM_eq]
theorem e_is_integer_b (i : Bool) : mkP 1 1 m_is_integer [.bl i] = rB false := by
  rw [mkP_eq]
  simp [m_is_integer, startG, finR, andM_eq]
theorem e_is_count (i : Int) : mkP 1 1 m_is_count [.int i] = rB (decide (0 ≤ i)) := by
  rw [mkP_eq]
  simp [m_is_count, startG, finR, andM_eq, callP_eq, e_is_integer]
theorem e_is_between (i a b : Int) : mkP 3 3 m_is_between [.int i, .int a, .int b] = rB (decide (a ≤ i) && decide (i ≤ b)) := by
  rw [mkP_eq]
  by_cases h : a ≤ i <;> simp [m_is_between, startG, finR, andM_eq, callP_eq, e_is_integer, h]
theorem e_is_between_b (i : Bool) (a b : Int) : mkP 3 3 m_is_between [.bl i, .int a, .int b] = rB false := by
  rw [mkP_eq]
  simp [m_is_between, startG, finR, andM_eq, callP_eq, e_is_integer_b]
theorem e_is_sized (ds : List D) (n : Int) : mkP 2 2 m_is_sized [.tup ds, .int n] = rB (decide ((ds.length : Int) = n)) := by
  rw [mkP_eq]
  simp [m_is_sized, startG, finR, andM_eq]
theorem e_held (b : Bd) (L E : Int) : mkP 3 3 m_held [dB b, .int L, .int E] = rB (b.held L E) := by
  rw [mkP_eq]
  obtain ⟨lo, hi, sl⟩ := b
  rcases sl with _ | ⟨p, r⟩ <;> by_cases h : L ≤ hi <;> simp [m_held, startG, finR, andM_eq, orM_eq, dB, dSl, Bd.held, h]
theorem e_enough (b : Bd) (L E : Int) : mkP 3 3 m_enough [dB b, .int L, .int E] = rB (b.enough L E) := by
  rw [mkP_eq]
  obtain ⟨lo, hi, sl⟩ := b
  rcases sl with _ | ⟨p, r⟩ <;> by_cases h : lo ≤ L <;> simp [m_enough, startG, finR, andM_eq, orM_eq, dB, dSl, Bd.enough, h]
theorem e_ahead (s t : St3) : mkP 2 2 m_ahead [dS s, dS t] = rB (ahead s t) := by
  rw [mkP_eq]
  by_cases h1 : t.1 < s.1 <;> by_cases h2 : s.1 = t.1 <;> by_cases h3 : t.2.1 ≤ s.2.1 <;> simp [m_ahead, startG, finR, andM_eq, orM_eq, dS, ahead, h1, h2, h3]
theorem sz3 : 3 ≤ sizeLine := by rw [sizeLine_eq]; omega
theorem e_filled (b : Bd) (s : St3) (x : Int) : mkP 3 7 m_filled [dB b, dS s, .int x] = .ret (.cl (dS (b.filled s x))) := by
  rw [mkP_eq]
  have hh := e_held b (s.2.1 + x) (s.2.2 + b.one)
  have h3 := sz3
  unfold Bd.filled
  obtain ⟨lo, hi, sl⟩ := b
  obtain ⟨P, L, E⟩ := s
  rcases sl with _ | ⟨p, r⟩ <;> simp only [Bd.one, dB, dSl, dS, Int.add_zero] at hh ⊢
  · rcases Bool.eq_false_or_eq_true (Bd.held ⟨lo, hi, none⟩ (L + x) E) with h | h <;> rw [h] at hh <;> by_cases h1 : 0 < P <;> simp [m_filled, startG, finR, callP_eq, tT, Mw.putAll, h1, h, hh, h3]
  · rcases Bool.eq_false_or_eq_true (Bd.held ⟨lo, hi, some (p, r)⟩ (L + x) (E + 1)) with h | h <;> rw [h] at hh <;> by_cases h1 : 0 < P <;> simp [m_filled, startG, finR, callP_eq, tT, Mw.putAll, h1, h, hh, h3]
theorem e_closed (b : Bd) (s : St3) (x : Int) : mkP 3 7 m_closed [dB b, dS s, .int x] = .ret (.cl (dS (b.closed s x))) := by
  rw [mkP_eq]
  have hh := e_enough b (s.2.1 + x) (s.2.2 + b.one)
  have h3 := sz3
  unfold Bd.closed
  obtain ⟨lo, hi, sl⟩ := b
  obtain ⟨P, L, E⟩ := s
  rcases sl with _ | ⟨p, r⟩ <;> cases h : Bd.enough ⟨lo, hi, _⟩ (L + x) (E + Bd.one ⟨lo, hi, _⟩) <;> simp_all [m_closed, startG, finR, dB, dS, dSl, Bd.one, callP_eq, tT, Mw.putAll]
theorem all_bls (bs : List Bool) : D.all [.lst (bs.map .bl)] = some (.cl (.bl (bs.all id))) := by simp [D.all]
theorem any_bls (bs : List Bool) : D.any [.lst (bs.map .bl)] = some (.cl (.bl (bs.any id))) := by simp [D.any]
theorem e_is_standing_3 (s : St3) : mkP 1 2 m_is_standing [dS s] = rB (decide (0 ≤ s.1) && decide (0 ≤ s.2.1) && decide (0 ≤ s.2.2)) := by
  rw [mkP_eq]
  have hl : lcM (seqM (vM 0)) (tN 1) yesT (callP (mkP 1 1 m_is_count) (aCons (vM 1) aNil)) [1] (startG 2 [dS s]) = .ok (.fr ([decide (0 ≤ s.1), decide (0 ≤ s.2.1), decide (0 ≤ s.2.2)].map .bl), startG 2 [dS s]) := by
    refine lcM_map (ds := [.int s.1, .int s.2.1, .int s.2.2]) (fun d => match d with | .int i => .bl (decide (0 ≤ i)) | _ => .non) (by simp [startG, dS]) (.inl (by simp [startG])) (by have := sz3; simpa using this) fun d hd => ?_
    simp only [List.mem_cons, List.not_mem_nil, or_false] at hd
    rcases hd with rfl | rfl | rfl <;> simp [startG, callP_eq, e_is_count]
  have e0 : startG 2 [dS s] = [.val (dS s), .un] := rfl
  rw [e0] at hl
  rw [e0]
  simp only [dS] at hl ⊢
  simp [m_is_standing, andM_eq, hl, finR, D.all, dBls]
  cases decide (0 ≤ s.1) <;> cases decide (0 ≤ s.2.1) <;> cases decide (0 ≤ s.2.2) <;> rfl
end G
set_option Elab.async false
set_option linter.all false
set_option maxRecDepth 100000
set_option maxHeartbeats 2000000
namespace G
open PySem PySem.Spec PyProof.Rows L2 Mw LamX KM
abbrev rN : RF := .ret (.cl .non)
abbrev rX : RF := .ex ⟨"Nothing", []⟩
def okSl : Option (Int × Int) → Bool
  | none => true
  | some (p, r) => (decide (1 ≤ p) && decide (p ≤ 30)) && (decide (1 ≤ r) && decide (r ≤ p))
theorem e_are_falling (p r m : Int) : mkP 2 2 m_are_falling [.tup [.int p, .int r], .int m] = rB ((decide (1 ≤ p) && decide (p ≤ m)) && (decide (1 ≤ r) && decide (r ≤ p))) := by
  rw [mkP_eq]
  have h1 := e_is_sized [.int p, .int r] 2
  have h2 := e_is_between p 1 m
  have h3 := e_is_between r 1 p
  rcases Bool.eq_false_or_eq_true (decide (1 ≤ p) && decide (p ≤ m)) with h | h <;> rw [h] at h2 ⊢ <;> simp [m_are_falling, startG, finR, andM_eq, callP_eq, h1, h2, h3]
theorem e_is_slots (sl : Option (Int × Int)) : mkP 1 1 m_is_slots [dSl sl] = rB (okSl sl) := by
  rw [mkP_eq]
  rcases sl with _ | ⟨p, r⟩
  · simp [m_is_slots, startG, finR, orM_eq, dSl, okSl]
  · have h1 := e_are_falling p r 30
    simp only [dSl, okSl]
    simp [m_is_slots, startG, finR, orM_eq, callP_eq, h1]
def okB (b : Bd) : Bool := ((decide (1 ≤ b.hi) && decide (b.hi ≤ 60)) && (decide (1 ≤ b.lo) && decide (b.lo ≤ b.hi))) && okSl b.sl
theorem e_is_bounds (b : Bd) : mkP 1 1 m_is_bounds [dB b] = rB (okB b) := by
  rw [mkP_eq]
  obtain ⟨lo, hi, sl⟩ := b
  have h1 := e_is_between hi 1 60
  have h2 := e_is_between lo 1 hi
  have h3 := e_is_slots sl
  simp only [dB, okB]
  rcases Bool.eq_false_or_eq_true (decide (1 ≤ hi) && decide (hi ≤ 60)) with h | h <;> rw [h] at h1 ⊢ <;> rcases Bool.eq_false_or_eq_true (decide (1 ≤ lo) && decide (lo ≤ hi)) with h' | h' <;> rw [h'] at h2 ⊢ <;> simp [m_is_bounds, startG, finR, andM_eq, callP_eq, h1, h2, h3]
theorem e_is_bounds_n : mkP 1 1 m_is_bounds [.non] = rB false := by
  rw [mkP_eq]
  simp [m_is_bounds, startG, finR]
theorem e_is_bounds_l (ds : List D) : mkP 1 1 m_is_bounds [.lst ds] = rB false := by
  rw [mkP_eq]
  simp [m_is_bounds, startG, finR]
theorem e_is_bounds_2 (a b : D) : mkP 1 1 m_is_bounds [.tup [a, b]] = rB false := by
  rw [mkP_eq]
  simp [m_is_bounds, startG, finR]
theorem e_check_bounds (b : Bd) (h : okB b = true) : mkP 1 1 m_check_bounds [dB b] = rN := by
  rw [mkP_eq]
  have h1 := e_is_bounds b
  simp [m_check_bounds, startG, finR, callP_eq, h1, h]
theorem e_check_bounds_n : mkP 1 1 m_check_bounds [.non] = rX := by
  rw [mkP_eq]
  simp [m_check_bounds, startG, finR, callP_eq, e_is_bounds_n]
abbrev bw (x : Int) : Bool := decide (1 ≤ x) && decide (x ≤ 12)
def okW (w : List Int) : Bool := decide (w.length ≤ 1000) && w.all bw
theorem sz1000 : 1001 ≤ sizeLine := by rw [sizeLine_eq]; omega
theorem lc_word (w : List Int) (hz : w.length ≤ 1000) : lcM (seqM (vM 0)) (tN 1) yesT (callP (mkP 3 3 m_is_between) (aCons (vM 1) (aCons (cM (.int 1)) (aCons (cM (.int 12)) aNil)))) [1] [.val (dW w), .un] = .ok (.fr ((w.map bw).map .bl), [.val (dW w), .un]) := by
  have := sz1000
  rw [lcM_map (ds := w.map .int) (Γ1 := [.val (dW w), .un]) (fun d => match d with | .int i => .bl (bw i) | _ => .non) (by simp [dW]) (.inl rfl) (by rw [List.length_map]; omega) fun d hd => ?_]
  · simp [Function.comp_def]
  · obtain ⟨x, _, rfl⟩ := List.mem_map.mp hd
    have h1 := e_is_between x 1 12
    simp [callP_eq, h1]
theorem e_is_length_word (w : List Int) : mkP 1 2 m_is_length_word [dW w] = rB (okW w) := by
  rw [mkP_eq]
  have e0 : startG 2 [dW w] = [.val (dW w), .un] := rfl
  rw [e0]
  by_cases hz : w.length ≤ 1000
  · have hl := lc_word w hz
    have hn : ¬ ((1000 : Int) < (w.length : Int)) := by omega
    unfold okW
    rw [decide_eq_true hz]
    simp only [dW] at hl ⊢
    simp [-List.map_map, m_is_length_word, finR, hl, hn, all_bls]
  · have hp : (1000 : Int) < (w.length : Int) := by omega
    unfold okW
    rw [decide_eq_false hz]
    simp only [dW]
    simp [m_is_length_word, finR, hp]
theorem e_is_length_word_n : mkP 1 2 m_is_length_word [.non] = rB false := by
  rw [mkP_eq]
  simp [m_is_length_word, startG, finR]
theorem e_is_length_word_l (ds : List D) : mkP 1 2 m_is_length_word [.lst ds] = rB false := by
  rw [mkP_eq]
  simp [m_is_length_word, startG, finR]
theorem e_is_length_word_b (k : Bool) : mkP 1 2 m_is_length_word [.tup [.bl k]] = rB false := by
  rw [mkP_eq]
  have h1 := e_is_between_b k 1 12
  have hl : lcM (seqM (vM 0)) (tN 1) yesT (callP (mkP 3 3 m_is_between) (aCons (vM 1) (aCons (cM (.int 1)) (aCons (cM (.int 12)) aNil)))) [1] [.val (.tup [.bl k]), .un] = .ok (.fr [.bl false], [.val (.tup [.bl k]), .un]) := by
    have := sz1000
    exact lcM_map (ds := [.bl k]) (Γ1 := [.val (.tup [.bl k]), .un]) (fun _ => .bl false) (by simp) (.inl rfl) (by simp; omega) fun d hd => by
      obtain rfl : d = .bl k := by simpa using hd
      simp [callP_eq, h1]
  have e0 : startG 2 [.tup [.bl k]] = [.val (.tup [.bl k]), .un] := rfl
  rw [e0]
  simp [m_is_length_word, finR, hl, D.all, dBls]
/-- fits -/
def fitW (b : Bd) (w : List Int) : Bool := okW w && w.all fun x => decide (x ≤ b.hi)
theorem e_check_word (b : Bd) (w : List Int) (h : okB b = true) (hw : fitW b w = true) : mkP 2 3 m_check_word [dB b, dW w] = rN := by
  rw [mkP_eq]
  have h1 := e_check_bounds b h
  have h2 := e_is_length_word w
  unfold fitW at hw
  rw [Bool.and_eq_true] at hw
  rw [hw.1] at h2
  have hz : w.length ≤ 1000 := by
    have q := hw.1
    unfold okW at q
    simp only [Bool.and_eq_true, decide_eq_true_eq] at q
    exact q.1
  have hl : lcM (seqM (vM 1)) (tN 2) yesT (bin2 D.gt (vM 2) (bin2 D.ix (vM 0) (cM (.int 1)))) [2] [.val (dB b), .val (dW w), .un] = .ok (.fr ((w.map fun x => decide (b.hi < x)).map .bl), [.val (dB b), .val (dW w), .un]) := by
    have := sz1000
    rw [lcM_map (ds := w.map .int) (Γ1 := [.val (dB b), .val (dW w), .un]) (fun d => match d with | .int i => .bl (decide (b.hi < i)) | _ => .non) (by simp [dW]) (.inl rfl) (by rw [List.length_map]; omega) fun d hd => ?_]
    · simp [Function.comp_def]
    · obtain ⟨x, _, rfl⟩ := List.mem_map.mp hd
      simp [dB]
  have hany : ((w.map fun x => decide (b.hi < x)).any id) = false := by
    rw [List.any_eq_false]
    intro y hy
    obtain ⟨x, hx, rfl⟩ := List.mem_map.mp hy
    have q := List.all_eq_true.mp hw.2 x hx
    have q' : x ≤ b.hi := of_decide_eq_true q
    simp
    omega
  have e0 : startG 3 [dB b, dW w] = [.val (dB b), .val (dW w), .un] := rfl
  rw [e0]
  simp [-List.map_map, m_check_word, finR, callP_eq, h1, h2, hl, any_bls, hany]
theorem e_check_word_n (d : D) : mkP 2 3 m_check_word [.non, d] = rX := by
  rw [mkP_eq]
  simp [m_check_word, startG, finR, callP_eq, e_check_bounds_n]
theorem e_check_word_x (b : Bd) (w : List Int) (h : okB b = true) (hw : okW w = false) : mkP 2 3 m_check_word [dB b, dW w] = rX := by
  rw [mkP_eq]
  have h1 := e_check_bounds b h
  have h2 := e_is_length_word w
  rw [hw] at h2
  have e0 : startG 3 [dB b, dW w] = [.val (dB b), .val (dW w), .un] := rfl
  rw [e0]
  simp [m_check_word, finR, callP_eq, h1, h2]
theorem e_holds (b : Bd) (w : List Int) (h : okB b = true) (hw : okW w = true) : mkP 2 2 m_holds [dB b, dW w] = rB (heldW b w) := by
  rw [mkP_eq]
  have h1 := e_check_bounds b h
  have h2 := e_is_length_word w
  rw [hw] at h2
  have h3 := e_held b w.sum (w.length : Int)
  have e0 : startG 2 [dB b, dW w] = [.val (dB b), .val (dW w)] := rfl
  rw [e0]
  simp only [dW] at h2 ⊢
  simp [m_holds, finR, callP_eq, h1, h2, h3, heldW]
theorem e_holds_n (b : Bd) (h : okB b = true) : mkP 2 2 m_holds [dB b, .non] = rX := by
  rw [mkP_eq]
  have h1 := e_check_bounds b h
  have e0 : startG 2 [dB b, .non] = [.val (dB b), .val .non] := rfl
  rw [e0]
  simp [m_holds, finR, callP_eq, h1, e_is_length_word_n]
theorem e_is_enough (b : Bd) (w : List Int) (h : okB b = true) (hw : okW w = true) : mkP 2 2 m_is_enough [dB b, dW w] = rB (enoughW b w) := by
  rw [mkP_eq]
  have h1 := e_check_bounds b h
  have h2 := e_is_length_word w
  rw [hw] at h2
  have h3 := e_enough b w.sum (w.length : Int)
  have e0 : startG 2 [dB b, dW w] = [.val (dB b), .val (dW w)] := rfl
  rw [e0]
  simp only [dW] at h2 ⊢
  simp [m_is_enough, finR, callP_eq, h1, h2, h3, enoughW]
end G
set_option Elab.async false
set_option linter.all false
set_option maxRecDepth 100000
set_option maxHeartbeats 2000000
namespace G
open PySem PySem.Spec PyProof.Rows L2 Mw LamX KM
def okS (s : St3) : Bool := decide (0 ≤ s.1) && decide (0 ≤ s.2.1) && decide (0 ≤ s.2.2)
theorem okS_of {s : St3} (h : Nn s) : okS s = true := by
  unfold okS
  rw [decide_eq_true h.p, decide_eq_true h.l, decide_eq_true h.e]
  rfl
theorem e_is_standing (s : St3) : mkP 1 2 m_is_standing [dS s] = rB (okS s) := e_is_standing_3 s
theorem e_is_standing_2 (a b : D) : mkP 1 2 m_is_standing [.tup [a, b]] = rB false := by
  rw [mkP_eq]
  simp [m_is_standing, startG, finR, andM_eq]
theorem e_is_standing_n : mkP 1 2 m_is_standing [.non] = rB false := by
  rw [mkP_eq]
  simp [m_is_standing, startG, finR, andM_eq]
theorem one_word (x : Int) : D.tup [.int x] = dW [x] := rfl
theorem sz1 : 1 ≤ sizeLine := by rw [sizeLine_eq]; omega
theorem e_check_step (b : Bd) (s : St3) (x : Int) (h : okB b = true) (hw : fitW b [x] = true) (hs : okS s = true) : mkP 3 3 m_check_step [dB b, dS s, .int x] = rN := by
  rw [mkP_eq]
  have h1 := e_check_word b [x] h hw
  have h2 := e_is_standing s
  have h3 := sz1
  rw [hs] at h2
  rw [← one_word] at h1
  simp [m_check_step, startG, finR, callP_eq, h1, h2, h3]
theorem e_check_step_2 (b : Bd) (u v : D) (x : Int) (h : okB b = true) (hw : fitW b [x] = true) : mkP 3 3 m_check_step [dB b, .tup [u, v], .int x] = rX := by
  rw [mkP_eq]
  have h1 := e_check_word b [x] h hw
  have h2 := e_is_standing_2 u v
  have h3 := sz1
  rw [← one_word] at h1
  simp [m_check_step, startG, finR, callP_eq, h1, h2, h3]
theorem e_check_step_x (b : Bd) (s : St3) (x : Int) (h : okB b = true) (hw : okW [x] = false) : mkP 3 3 m_check_step [dB b, dS s, .int x] = rX := by
  rw [mkP_eq]
  have h1 := e_check_word_x b [x] h hw
  have h3 := sz1
  rw [← one_word] at h1
  simp [m_check_step, startG, finR, callP_eq, h1, h3]
theorem e_full_step (b : Bd) (s : St3) (x : Int) (h : okB b = true) (hw : fitW b [x] = true) (hs : okS s = true) : mkP 3 3 m_full_step [dB b, dS s, .int x] = .ret (.cl (dS (b.filled s x))) := by
  rw [mkP_eq]
  have h1 := e_check_step b s x h hw hs
  have h2 := e_filled b s x
  simp [m_full_step, startG, finR, callP_eq, h1, h2]
theorem e_soon_step (b : Bd) (s : St3) (x : Int) (h : okB b = true) (hw : fitW b [x] = true) (hs : okS s = true) : mkP 3 3 m_soon_step [dB b, dS s, .int x] = .ret (.cl (dS (b.closed s x))) := by
  rw [mkP_eq]
  have h1 := e_check_step b s x h hw hs
  have h2 := e_closed b s x
  simp [m_soon_step, startG, finR, callP_eq, h1, h2]
theorem e_full_step_2 (b : Bd) (u v : D) (x : Int) (h : okB b = true) (hw : fitW b [x] = true) : mkP 3 3 m_full_step [dB b, .tup [u, v], .int x] = rX := by
  rw [mkP_eq]
  have h1 := e_check_step_2 b u v x h hw
  simp [m_full_step, startG, finR, callP_eq, h1]
theorem e_soon_step_x (b : Bd) (s : St3) (x : Int) (h : okB b = true) (hw : okW [x] = false) : mkP 3 3 m_soon_step [dB b, dS s, .int x] = rX := by
  rw [mkP_eq]
  have h1 := e_check_step_x b s x h hw
  simp [m_soon_step, startG, finR, callP_eq, h1]
theorem e_is_ahead (s t : St3) (hs : okS s = true) (ht : okS t = true) : mkP 2 2 m_is_ahead [dS s, dS t] = rB (ahead s t) := by
  rw [mkP_eq]
  have h1 := e_is_standing s
  have h2 := e_is_standing t
  have h3 := e_ahead s t
  rw [hs] at h1
  rw [ht] at h2
  simp [m_is_ahead, startG, finR, callP_eq, h1, h2, h3]
theorem e_is_ahead_n (t : D) : mkP 2 2 m_is_ahead [.non, t] = rX := by
  rw [mkP_eq]
  simp [m_is_ahead, startG, finR, callP_eq, e_is_standing_n]
/-! read_by -/
variable {K : PySem.W.Frag}
theorem start3 : D.tup (([0, 0, 0] : List Int).map .int) = dS (0, 0, 0) := rfl
theorem read_loop (b : Bd) (w : List Int) (a : Addr) (f : List D → RF) (step : St3 → Int → St3) (tab : List (Addr × (List D → RF))) (ha : tab.lookup a = some f) (hf : ∀ s x, f [dB b, dS s, .int x] = .ret (.cl (dS (step s x)))) (s : St3) :
    forG (tN 4) (asgM 3 (callL 0 tab (aCons (vM 1) (aCons (vM 3) (aCons (vM 4) aNil))))) [4] (w.map .int) [.val (.ref a), .val (dB b), .val (dW w), .val (dS s), .un] = .ok (.nx [.val (.ref a), .val (dB b), .val (dW w), .val (dS (w.foldl step s)), .un]) := by
  suffices h : ∀ (u : List Int) (s : St3), forG (tN 4) (asgM 3 (callL 0 tab (aCons (vM 1) (aCons (vM 3) (aCons (vM 4) aNil))))) [4] (u.map .int) [.val (.ref a), .val (dB b), .val (dW w), .val (dS s), .un] = .ok (.nx [.val (.ref a), .val (dB b), .val (dW w), .val (dS (u.foldl step s)), .un]) from h w s
  intro u
  induction u with
  | nil => intro s; rfl
  | cons x u ih =>
    intro s
    rw [List.map_cons, forG]
    have e1 : tN 4 (D.int x) [.val (.ref a), .val (dB b), .val (dW w), .val (dS s), .un] = some [.val (.ref a), .val (dB b), .val (dW w), .val (dS s), .val (.int x)] := rfl
    rw [e1]
    have e2 : (asgM 3 (callL 0 tab (aCons (vM 1) (aCons (vM 3) (aCons (vM 4) aNil))))) [.val (.ref a), .val (dB b), .val (dW w), .val (dS s), .val (.int x)] = .ok (.nx [.val (.ref a), .val (dB b), .val (dW w), .val (dS (step s x)), .val (.int x)]) := by
      simp [callL, ha, callP_eq, hf]
    simp only []
    rw [e2]
    exact ih (step s x)
/-- the defs stand apart -/
structure Ap (K : PySem.W.Frag) : Prop where
  fc : He.ga K "closed" ≠ He.ga K "filled"
  fs : He.ga K "soon_step" ≠ He.ga K "full_step"
theorem e_read_full (b : Bd) (w : List Int) : mkP 3 5 (m_read_by K) [.ref (He.ga K "filled"), dB b, dW w] = .ret (.cl (dS (full b (0, 0, 0) w))) := by
  rw [mkP_eq]
  have h := read_loop b w (He.ga K "filled") (mkP 3 7 m_filled) b.filled [((He.ga K "filled"), (mkP 3 7 m_filled)), ((He.ga K "closed"), (mkP 3 7 m_closed))] (by simp) (e_filled b) (0, 0, 0)
  have e0 : startG 5 [.ref (He.ga K "filled"), dB b, dW w] = [.val (.ref (He.ga K "filled")), .val (dB b), .val (dW w), .un, .un] := rfl
  rw [e0]
  unfold m_read_by m_read_by_s1 m_read_by_s2 m_read_by_s3 m_read_by_b1
  rw [start3]
  simp only [dW] at h ⊢
  simp [Mw.forM, kill, h, finR, full]
theorem e_read_soon (A : Ap K) (b : Bd) (w : List Int) : mkP 3 5 (m_read_by K) [.ref (He.ga K "closed"), dB b, dW w] = .ret (.cl (dS (soon b (0, 0, 0) w))) := by
  rw [mkP_eq]
  have h := read_loop b w (He.ga K "closed") (mkP 3 7 m_closed) b.closed [((He.ga K "filled"), (mkP 3 7 m_filled)), ((He.ga K "closed"), (mkP 3 7 m_closed))] (by rw [List.lookup_cons, show (He.ga K "closed" == He.ga K "filled") = false from beq_eq_false_iff_ne.mpr A.fc]; simp) (e_closed b) (0, 0, 0)
  have e0 : startG 5 [.ref (He.ga K "closed"), dB b, dW w] = [.val (.ref (He.ga K "closed")), .val (dB b), .val (dW w), .un, .un] := rfl
  rw [e0]
  unfold m_read_by m_read_by_s1 m_read_by_s2 m_read_by_s3 m_read_by_b1
  rw [start3]
  simp only [dW] at h ⊢
  simp [Mw.forM, kill, h, finR, soon]
theorem e_full_standing (b : Bd) (w : List Int) (h : okB b = true) (hw : fitW b w = true) : mkP 2 2 (m_full_standing K) [dB b, dW w] = .ret (.cl (dS (full b (0, 0, 0) w))) := by
  rw [mkP_eq]
  have h1 := e_check_word b w h hw
  have h2 := e_read_full (K := K) b w
  simp [m_full_standing, startG, finR, callP_eq, h1, h2]
theorem e_soon_standing (A : Ap K) (b : Bd) (w : List Int) (h : okB b = true) (hw : fitW b w = true) : mkP 2 2 (m_soon_standing K) [dB b, dW w] = .ret (.cl (dS (soon b (0, 0, 0) w))) := by
  rw [mkP_eq]
  have h1 := e_check_word b w h hw
  have h2 := e_read_soon A b w
  simp [m_soon_standing, startG, finR, callP_eq, h1, h2]
theorem e_full_pages (b : Bd) (w : List Int) (h : okB b = true) (hw : fitW b w = true) : mkP 2 2 (m_full_pages K) [dB b, dW w] = .ret (.cl (.int (KM.G b w))) := by
  rw [mkP_eq]
  have h1 := e_full_standing (K := K) b w h hw
  simp only [dS] at h1
  simp [m_full_pages, startG, finR, callP_eq, h1, KM.G]
theorem e_full_pages_n (d : D) : mkP 2 2 (m_full_pages K) [.non, d] = rX := by
  rw [mkP_eq]
  have h0 : mkP 2 2 (m_full_standing K) [.non, d] = rX := by
    rw [mkP_eq]
    simp [m_full_standing, startG, finR, callP_eq, e_check_word_n]
  simp [m_full_pages, startG, finR, callP_eq, h0]
theorem e_soon_pages (A : Ap K) (b : Bd) (w : List Int) (h : okB b = true) (hw : fitW b w = true) : mkP 2 2 (m_soon_pages K) [dB b, dW w] = .ret (.cl (.int (KM.S b w))) := by
  rw [mkP_eq]
  have h1 := e_soon_standing A b w h hw
  simp only [dS] at h1
  simp [m_soon_pages, startG, finR, callP_eq, h1, KM.S]
theorem e_is_split (A : Ap K) (b : Bd) (w : List Int) (m : Int) (h : okB b = true) (hw : fitW b w = true) (hm : 0 ≤ m) : mkP 3 3 (m_is_split K) [dB b, dW w, .int m] = rB (decide (KM.S b w ≤ m) && decide (m < KM.G b w)) := by
  rw [mkP_eq]
  have h1 := e_is_count m
  rw [decide_eq_true hm] at h1
  have h2 := e_soon_pages A b w h hw
  have h3 := e_full_pages (K := K) b w h hw
  by_cases c : KM.S b w ≤ m <;> simp [m_is_split, startG, finR, callP_eq, h1, h2, h3, c]
theorem e_is_split_x (u v : D) (m : Int) (hm : ¬ 0 ≤ m) : mkP 3 3 (m_is_split K) [u, v, .int m] = rX := by
  rw [mkP_eq]
  have h1 := e_is_count m
  rw [decide_eq_false hm] at h1
  simp [m_is_split, startG, finR, callP_eq, h1]
end G
set_option Elab.async false
set_option linter.all false
set_option maxRecDepth 100000
set_option maxHeartbeats 2000000
namespace G
open PySem PySem.Spec PyProof.Rows L2 Mw LamX KM
theorem e_law_holds (b : Bd) (w : List Int) : mkP 2 2 m__law_holds [dB b, dW w] = rB (heldW b w) := by
  rw [mkP_eq]
  obtain ⟨lo, hi, sl⟩ := b
  rcases sl with _ | ⟨p, r⟩ <;> by_cases h : w.sum ≤ hi <;> simp [m__law_holds, startG, finR, andM_eq, orM_eq, dB, dSl, dW, heldW, Bd.held, h]
theorem e_law_enough (b : Bd) (w : List Int) : mkP 2 2 m__law_enough [dB b, dW w] = rB (enoughW b w) := by
  rw [mkP_eq]
  obtain ⟨lo, hi, sl⟩ := b
  rcases sl with _ | ⟨p, r⟩ <;> by_cases h : lo ≤ w.sum <;> simp [m__law_enough, startG, finR, andM_eq, orM_eq, dB, dSl, dW, enoughW, Bd.enough, h]
/-! the ends -/
/-- the bounds of one page -/
def ev (b : Bd) : Bd := ⟨1, b.hi, b.sl.map fun p => (p.1, 1)⟩
theorem held_ev {b : Bd} {L E : Int} : (ev b).held L E = b.held L E := by
  obtain ⟨lo, hi, sl⟩ := b
  rcases sl with _ | ⟨p, r⟩ <;> rfl
theorem heldW_ev {b : Bd} {u : List Int} : heldW (ev b) u = heldW b u := held_ev
theorem enough_ev {b : Bd} {L E : Int} (h : 1 ≤ L) : (ev b).enough L E = true := by
  unfold Bd.enough
  rw [decide_eq_true (show (ev b).lo ≤ L from h)]
  rfl
abbrev bodyE : MS := (skM (augM 3 D.iadd (bin2 D.ix (vM 1) (bin2 D.sub (vM 5) (cM (.int 1))))) (skM (ifS (orT (tstB (bin2 D.gt (vM 3) (bin2 D.ix (vM 0) (cM (.int 1))))) (andT (tstB (bin2 D.notN (bin2 D.ix (vM 0) (cM (.int 2))) (cM .non))) (tstB (bin2 D.gt (bin2 D.sub (vM 5) (vM 2)) (bin2 D.ix (bin2 D.ix (vM 0) (cM (.int 2))) (cM (.int 0))))))) bkM nxM) (ifS (orT (tstB (bin2 D.ge (vM 3) (bin2 D.ix (vM 0) (cM (.int 0))))) (andT (tstB (bin2 D.notN (bin2 D.ix (vM 0) (cM (.int 2))) (cM .non))) (tstB (bin2 D.ge (bin2 D.sub (vM 5) (vM 2)) (bin2 D.ix (bin2 D.ix (vM 0) (cM (.int 2))) (cM (.int 1))))))) (apM (vM 4) (vM 5)) nxM)))
abbrev gE (b : Bd) (w : List Int) (beg : Int) (S : Int) (acc : List D) (l : Sl) : Gam := [.val (dB b), .val (dW w), .val (.int beg), .val (.int S), .own false acc, l]
theorem body_E {b : Bd} {w : List Int} {beg S e x : Int} {acc : List D} (hx : D.ix (dW w) (.int (e - 1)) = some (.cl (.int x))) (hz : acc.length < sizeLine) (hen : b.enough (S + x) (e - beg) = true) :
    bodyE (gE b w beg S acc (.val (.int e))) = if b.held (S + x) (e - beg) = true then .ok (.nx (gE b w beg (S + x) (acc ++ [.int e]) (.val (.int e)))) else .ok (.bk (gE b w beg (S + x) acc (.val (.int e)))) := by
  obtain ⟨lo, hi, sl⟩ := b
  unfold Bd.held Bd.enough at *
  rcases sl with _ | ⟨p, r⟩
  · simp only [Bool.or_false, decide_eq_true_eq] at hen
    by_cases h : S + x ≤ hi
    · have h' : ¬ hi < S + x := by omega
      simp [skM, augM, D.iadd, hx, dB, dSl, h, h', hen, apM, slM, hz, bkM, nxM]
    · have h' : hi < S + x := by omega
      simp [skM, augM, D.iadd, hx, dB, dSl, h, h', bkM, nxM]
  · simp only [Bool.or_eq_true, decide_eq_true_eq] at hen
    by_cases h : S + x ≤ hi
    · have h' : ¬ hi < S + x := by omega
      by_cases c : e - beg ≤ p
      · have c' : ¬ p < e - beg := by omega
        by_cases d : lo ≤ S + x
        · simp [skM, augM, D.iadd, hx, dB, dSl, h, h', c, c', d, apM, slM, hz, bkM, nxM]
        · have d' : r ≤ e - beg := by omega
          simp [skM, augM, D.iadd, hx, dB, dSl, h, h', c, c', d, d', apM, slM, hz, bkM, nxM]
      · have c' : p < e - beg := by omega
        simp [skM, augM, D.iadd, hx, dB, dSl, h, h', c, c', bkM, nxM]
    · have h' : hi < S + x := by omega
      simp [skM, augM, D.iadd, hx, dB, dSl, h, h', bkM, nxM]
theorem ends_loop {b : Bd} {w : List Int} {beg : Nat} (hlo : b.lo = 1) (hw : ∀ x ∈ w, 1 ≤ x) : ∀ (u : List Int) (j : Nat) (S : Int) (acc : List D), 0 ≤ S → w.drop (beg + j) = u → acc.length + u.length ≤ sizeLine →
    ∃ S', forG (tN 5) bodyE [5] (upL ((beg : Int) + (j : Int) + 1) u.length) (gE b w beg S acc .un) = .ok (.nx (gE b w beg S' (acc ++ (List.range (cnt b S j u)).map fun i => D.int ((beg : Int) + (j : Int) + 1 + (i : Nat))) .un))
  | [], j, S, acc, _, _, _ => ⟨S, by simp [upL, forG, KM.cnt]⟩
  | x :: u, j, S, acc, hS, hd, hz => by
    have hget : w[beg + j]? = some x := by
      have q := congrArg (fun l => l[0]?) hd
      simpa using q
    have hxm : x ∈ w := List.mem_of_getElem? hget
    have hx1 := hw x hxm
    have hix : D.ix (dW w) (.int ((beg : Int) + (j : Int) + 1 - 1)) = some (.cl (.int x)) := by
      rw [show (beg : Int) + (j : Int) + 1 - 1 = ((beg + j : Nat) : Int) by push_cast; omega]
      exact ix_tk (by simp [hget])
    have hl : u.length + 1 = (x :: u).length := rfl
    rw [← hl] at hz ⊢
    rw [upL_succ, forG]
    have e1 : tN 5 (D.int ((beg : Int) + (j : Int) + 1)) (gE b w beg S acc .un) = some (gE b w beg S acc (.val (.int ((beg : Int) + (j : Int) + 1)))) := rfl
    rw [e1]
    simp only []
    have hb := body_E (b := b) (w := w) (beg := beg) (S := S) (acc := acc) hix (by omega) (by
      unfold Bd.enough
      rw [decide_eq_true (show b.lo ≤ S + x by omega)]
      rfl)
    rw [show (beg : Int) + (j : Int) + 1 - (beg : Int) = (j : Int) + 1 by omega] at hb
    rw [hb]
    by_cases h : b.held (S + x) ((j : Int) + 1) = true
    · rw [if_pos h]
      obtain ⟨S', q⟩ := ends_loop hlo hw u (j + 1) (S + x) (acc ++ [.int ((beg : Int) + (j : Int) + 1)]) (by omega) (by
        have q := congrArg (List.drop 1) hd
        rw [List.drop_drop] at q
        simpa [Nat.add_assoc] using q) (by rw [List.length_append]; simp; omega)
      refine ⟨S', ?_⟩
      have ek : kill [5] (gE b w beg (S + x) (acc ++ [.int ((beg : Int) + (j : Int) + 1)]) (.val (.int ((beg : Int) + (j : Int) + 1)))) = gE b w beg (S + x) (acc ++ [.int ((beg : Int) + (j : Int) + 1)]) .un := rfl
      have ei : (beg : Int) + ((j + 1 : Nat) : Int) + 1 = (beg : Int) + (j : Int) + 1 + 1 := by push_cast; omega
      rw [ei] at q
      show (R.ok (Out.nx _) : R Out).bind _ = _
      simp only [R.bind_ok]
      rw [ek, q]
      have ec : cnt b S j (x :: u) = cnt b (S + x) ((j : Int) + 1) u + 1 := by
        conv => lhs; unfold KM.cnt
        rw [if_pos h]
      rw [ec, List.range_succ_eq_map, List.map_cons, List.map_map, List.append_assoc]
      congr 5
      simp only [List.singleton_append, List.cons.injEq]
      refine ⟨by simp, ?_⟩
      rw [show ((j + 1 : Nat) : Int) = (j : Int) + 1 by push_cast; rfl]
      refine List.map_congr_left fun i _ => ?_
      show D.int ((beg : Int) + (j : Int) + 1 + 1 + (i : Int)) = D.int ((beg : Int) + (j : Int) + 1 + ((i + 1 : Nat) : Int))
      congr 1
      push_cast
      omega
    · rw [if_neg h]
      refine ⟨S + x, ?_⟩
      have ec : cnt b S j (x :: u) = 0 := by
        conv => lhs; unfold KM.cnt
        rw [if_neg h]
      rw [ec]
      simp [kill]
theorem cnt_ev {b : Bd} : ∀ {u : List Int} {S E : Int}, KM.cnt (ev b) S E u = KM.cnt b S E u
  | [], _, _ => rfl
  | x :: u, S, E => by
    unfold KM.cnt
    rw [held_ev, cnt_ev]
end G
set_option Elab.async false
set_option linter.all false
set_option maxRecDepth 100000
set_option maxHeartbeats 2000000
namespace G
open PySem PySem.Spec PyProof.Rows L2 Mw LamX KM
abbrev msE : Gam → R (List W × Gam) := (aCons (bin2 D.add (vM 2) (cM (.int 1))) (aCons (bin2 D.add (callN D.len (aCons (vM 1) aNil)) (cM (.int 1))) aNil))
theorem r_ends (b : Bd) (w : List Int) (beg : Nat) (hb : beg ≤ w.length) (hz : w.length ≤ 1000) : rng2M msE (gE (ev b) w beg 0 [] .un) = .ok (upL ((beg : Int) + 1) (w.length - beg), gE (ev b) w beg 0 [] .un) := by
  have h1 : sml ((beg : Int) + 1) := sml_of (by omega) (by omega)
  have h2 : sml ((w.length : Int) + 1) := sml_of (by omega) (by omega)
  have h3 : ((w.length : Int) + 1 - ((beg : Int) + 1)).toNat = w.length - beg := by omega
  have q := rng2_of (ms := msE) (Γ := gE (ev b) w beg 0 [] .un) (Γ1 := gE (ev b) w beg 0 [] .un) (ws := [.cl (.int ((beg : Int) + 1)), .cl (.int ((w.length : Int) + 1))]) (by simp [dW]) rfl h1 h2
  rw [h3] at q
  exact q
theorem f_ends (b : Bd) (w : List Int) (beg : Nat) (hb : beg ≤ w.length) (hw : ∀ x ∈ w, 1 ≤ x) (hz : w.length ≤ 1000) : ∃ S', Mw.forM (rng2M msE) (tN 5) bodyE [5] (gE (ev b) w beg 0 [] .un) = .ok (.nx (gE (ev b) w beg S' ((List.range (KM.cnt b 0 0 (w.drop beg))).map fun i => D.int ((beg : Int) + 1 + (i : Nat))) .un)) := by
  have hsz := sz1000
  obtain ⟨S', q⟩ := ends_loop (b := ev b) (w := w) (beg := beg) rfl hw (w.drop beg) 0 0 [] (Int.le_refl _) rfl (by rw [List.length_drop, List.length_nil]; omega)
  rw [show ((0 : Nat) : Int) = 0 from rfl, cnt_ev, List.length_drop, Int.add_zero, List.nil_append] at q
  refine ⟨S', ?_⟩
  rw [forM_of (r_ends b w beg hb hz)]
  have ek : kill [5] (gE (ev b) w beg 0 [] .un) = gE (ev b) w beg 0 [] .un := rfl
  rw [ek]
  exact q
theorem p_ends {Γ : Gam} (h3 : 3 < Γ.length) (h4 : 4 < Γ.length) : parS [3, 4] [(cM (.int 0)), (lstM aNil)] Γ = .ok (.nx ((Γ.set 4 (.own false [])).set 3 (.val (.int 0)))) := by
  simp [parS, parM, h3, h4]
theorem e_ends (b : Bd) (w : List Int) (beg : Nat) (hb : beg ≤ w.length) (hw : ∀ x ∈ w, 1 ≤ x) (hz : w.length ≤ 1000) :
    mkP 3 6 m__law_ends [dB (ev b), dW w, .int beg] = .ret (.fr ((List.range (KM.cnt b 0 0 (w.drop beg))).map fun i => D.int ((beg : Int) + 1 + (i : Nat)))) := by
  obtain ⟨S', hf⟩ := f_ends b w beg hb hw hz
  show mkP 3 6 (skM (parS [3, 4] [(cM (.int 0)), (lstM aNil)]) (skM (Mw.forM (rng2M msE) (tN 5) bodyE [5]) (retM (vM 4)))) [dB (ev b), dW w, .int beg] = _
  refine (mkP_of (n := 3) (tot := 6) (ds := [dB (ev b), dW w, .int beg]) (Γ := [.val (dB (ev b)), .val (dW w), .val (.int beg), .un, .un, .un]) rfl rfl (sk_nx (p_ends (by simp) (by simp)))).trans ?_
  rw [show ((([.val (dB (ev b)), .val (dW w), .val (.int beg), .un, .un, .un] : Gam).set 4 (.own false [])).set 3 (.val (.int 0))) = gE (ev b) w beg 0 [] .un from rfl]
  rw [sk_nx hf]
  rfl
end G
set_option Elab.async false
set_option linter.all false
set_option maxRecDepth 100000
set_option maxHeartbeats 2000000
namespace G
open PySem PySem.Spec PyProof.Rows L2 Mw LamX KM
abbrev gF (b : Bd) (w : List Int) (found : List D) (l : Sl) : Gam := [.val (dB b), .val (dW w), .val (dB (ev b)), .own false found, l, .un]
abbrev mEv : M := (tupM (aCons (cM (.int 1)) (aCons (bin2 D.ix (vM 0) (cM (.int 1))) (aCons (ifM (tstB (bin2 D.isN (bin2 D.ix (vM 0) (cM (.int 2))) (cM .non))) (cM .non) (tupM (aCons (bin2 D.ix (bin2 D.ix (vM 0) (cM (.int 2))) (cM (.int 0))) (aCons (cM (.int 1)) aNil)))) aNil))))
abbrev eltF : M := (bin2 D.ix (vM 3) (bin2 D.sub (callN D.len (aCons (vM 1) aNil)) (vM 5)))
abbrev lcF : M := (lcM (seqM (callP (mkP 3 6 m__law_ends) (aCons (vM 2) (aCons (vM 1) (aCons (vM 4) aNil))))) (tN 5) yesT eltF [5])
abbrev bodyF : MS := (apM (vM 3) (bin2 D.add (cM (.int 1)) (callN D.min (aCons lcF aNil))))
abbrev msF : Gam → R (List W × Gam) := (aCons (bin2 D.sub (callN D.len (aCons (vM 1) aNil)) (cM (.int 1))) (aCons (un1 D.neg (cM (.int 1))) (aCons (un1 D.neg (cM (.int 1))) aNil)))
theorem p_few (b : Bd) (w : List Int) : parS [2, 3] [mEv, (lstM (aCons (cM (.int 0)) aNil))] [.val (dB b), .val (dW w), .un, .un, .un, .un] = .ok (.nx (gF b w [.int 0] .un)) := by
  have h3 := sz3
  have h1 := sz1
  have h2 : 2 ≤ sizeLine := by omega
  obtain ⟨lo, hi, sl⟩ := b
  rcases sl with _ | ⟨p, r⟩ <;> simp [parS, parM, dB, dSl, ev, h3, h1, h2]
def fnd (b : Bd) (w : List Int) (j : Nat) : List D := (List.range (j + 1)).map fun k => D.int (KM.G b (w.drop (w.length - k)))
def atG (b : Bd) (w : List Int) : D → D
  | .int e => .int (KM.G b (w.drop e.toNat))
  | _ => .non
theorem lc_few (b : Bd) (w : List Int) (beg j : Nat) (hj : beg + 1 + j = w.length) (hw : ∀ x ∈ w, 1 ≤ x) (hz : w.length ≤ 1000) :
    lcF (gF b w (fnd b w j) (.val (.int beg))) = .ok (.fr (((List.range (KM.cnt b 0 0 (w.drop beg))).map fun i => KM.G b ((w.drop beg).drop (i + 1))).map .int), gF b w (fnd b w j) (.val (.int beg))) := by
  have hc : KM.cnt b 0 0 (w.drop beg) ≤ j + 1 := by
    have q := KM.cnt_le (b := b) (u := w.drop beg) (S := 0) (E := 0)
    rw [List.length_drop] at q
    omega
  have hsz := sz1000
  have he := e_ends b w beg (by omega) hw hz
  have q := lcM_map (Γ := gF b w (fnd b w j) (.val (.int beg))) (mi := seqM (callP (mkP 3 6 m__law_ends) (aCons (vM 2) (aCons (vM 1) (aCons (vM 4) aNil))))) (elt := eltF) (i := 5) (ds := (List.range (KM.cnt b 0 0 (w.drop beg))).map fun i => D.int ((beg : Int) + 1 + (i : Nat))) (Γ1 := gF b w (fnd b w j) (.val (.int beg)))
    (atG b w) (by simp [callP_eq, he]) (.inl rfl) (by rw [List.length_map, List.length_range]; omega) (fun d hd => by
      obtain ⟨i, hi, rfl⟩ := List.mem_map.mp hd
      have hi := List.mem_range.mp hi
      have hk : (fnd b w j)[j - i]? = some (D.int (KM.G b (w.drop (w.length - (j - i))))) := by
        unfold fnd
        rw [List.getElem?_map, List.getElem?_range (by omega)]
        rfl
      have e1 : (w.length : Int) - ((beg : Int) + 1 + (i : Int)) = ((j - i : Nat) : Int) := by omega
      have e2 : w.length - (j - i) = ((beg : Int) + 1 + (i : Int)).toNat := by omega
      have hx : D.ix (.lst (fnd b w j)) (.int ((w.length : Int) - ((beg : Int) + 1 + (i : Int)))) = some (.cl (.int (KM.G b (w.drop ((beg : Int) + 1 + (i : Int)).toNat)))) := by
        rw [e1, ← e2]
        exact ix_lk hk
      simp [dW, hx, vw, atG])
  rw [show (((List.range (KM.cnt b 0 0 (w.drop beg))).map fun i => D.int ((beg : Int) + 1 + (i : Nat))).map (atG b w)) = (((List.range (KM.cnt b 0 0 (w.drop beg))).map fun i => KM.G b ((w.drop beg).drop (i + 1))).map .int) by
    rw [List.map_map, List.map_map]
    refine List.map_congr_left fun i _ => ?_
    show D.int (KM.G b (w.drop ((beg : Int) + 1 + (i : Int)).toNat)) = D.int (KM.G b ((w.drop beg).drop (i + 1)))
    rw [List.drop_drop, show ((beg : Int) + 1 + (i : Int)).toNat = beg + (i + 1) by omega]] at q
  exact q
theorem fnd_succ (b : Bd) (w : List Int) (j : Nat) : fnd b w (j + 1) = fnd b w j ++ [.int (KM.G b (w.drop (w.length - (j + 1))))] := by
  unfold fnd
  rw [List.range_succ (n := j + 1), List.map_append]
  rfl
theorem step_few (b : Bd) (w : List Int) (beg j : Nat) (hj : beg + 1 + j = w.length) (hw : ∀ x ∈ w, 1 ≤ x) (hh : ∀ x ∈ w, heldW b [x] = true) (hz : w.length ≤ 1000) :
    bodyF (gF b w (fnd b w j) (.val (.int beg))) = .ok (.nx (gF b w (fnd b w (j + 1)) (.val (.int beg)))) := by
  have hsz := sz1000
  have hl := lc_few b w beg j hj hw hz
  have hlen : (fnd b w j).length = j + 1 := by simp [fnd]
  obtain ⟨x, u, hu⟩ : ∃ x u, w.drop beg = x :: u := by
    cases e : w.drop beg with
    | nil =>
      have q := congrArg List.length e
      rw [List.length_drop] at q
      simp at q
      omega
    | cons x u => exact ⟨x, u, rfl⟩
  have hin : ∀ y ∈ x :: u, y ∈ w := fun y hy => List.mem_of_mem_drop (by rw [hu]; exact hy)
  have hm := KM.few_min (b := b) (x := x) (w := u) (fun y hy => by have := hw y (hin y hy); omega) (hh x (hin x List.mem_cons_self))
  rw [hu] at hl
  have hg : KM.G b (w.drop (w.length - (j + 1))) = KM.G b (x :: u) := by rw [show w.length - (j + 1) = beg by omega, hu]
  have hmn : D.min [.lst (((List.range (KM.cnt b 0 0 (x :: u))).map fun i => KM.G b ((x :: u).drop (i + 1))).map .int)] = some (.cl (.int (KM.G b (x :: u) - 1))) := by
    show (dInts _).bind (fun ns => (minO ns).map fun m => W.cl (.int m)) = _
    rw [dInts_map, Option.bind_some, hm]
    rfl
  rw [fnd_succ, hg]
  have hz2 : (fnd b w j).length < sizeLine := by omega
  have e1 : slM (vM 3) (gF b w (fnd b w j) (.val (.int beg))) = .ok (3, gF b w (fnd b w j) (.val (.int beg))) := rfl
  have e2 : clM (bin2 D.add (cM (.int 1)) (callN D.min (aCons lcF aNil))) (gF b w (fnd b w j) (.val (.int beg))) = .ok (.int (KM.G b (x :: u)), gF b w (fnd b w j) (.val (.int beg))) := by
    have e3 : callN D.min (aCons lcF aNil) (gF b w (fnd b w j) (.val (.int beg))) = .ok (.cl (.int (KM.G b (x :: u) - 1)), gF b w (fnd b w j) (.val (.int beg))) := by
      rw [callN_eq, aCons_eq, hl]
      simp only [R.bind_ok, hold_fr, aNil_eq, vws_cons, vws_nil, vw_cl, Option.bind_some, hmn, fin_some]
    rw [clM_eq, bin2_eq, cM_eq]
    simp only [R.bind_ok, e3, vw_cl, Option.bind_some, Mw.add_int, fin_some]
    rw [show 1 + (KM.G b (x :: u) - 1) = KM.G b (x :: u) by omega]
  exact ap_of e1 e2 rfl hz2
end G
set_option Elab.async false
set_option linter.all false
set_option maxRecDepth 100000
set_option maxHeartbeats 2000000
namespace G
open PySem PySem.Spec PyProof.Rows L2 Mw LamX KM
theorem few_loop (b : Bd) (w : List Int) (hw : ∀ x ∈ w, 1 ≤ x) (hh : ∀ x ∈ w, heldW b [x] = true) (hz : w.length ≤ 1000) : ∀ m j, m + j = w.length →
    forG (tN 4) bodyF [4] (dnL m) (gF b w (fnd b w j) .un) = .ok (.nx (gF b w (fnd b w (j + m)) .un))
  | 0, j, _ => rfl
  | m + 1, j, h => by
    rw [dnL_succ, forG]
    have e1 : tN 4 (D.int (m : Int)) (gF b w (fnd b w j) .un) = some (gF b w (fnd b w j) (.val (.int m))) := rfl
    rw [e1]
    simp only []
    rw [step_few b w m j (by omega) hw hh hz]
    simp only [R.bind_ok]
    have ek : kill [4] (gF b w (fnd b w (j + 1)) (.val (.int m))) = gF b w (fnd b w (j + 1)) .un := rfl
    rw [ek, few_loop b w hw hh hz m (j + 1) (by omega), show j + 1 + m = j + (m + 1) by omega]
theorem e_fewest (b : Bd) (w : List Int) (hw : ∀ x ∈ w, 1 ≤ x) (hh : ∀ x ∈ w, heldW b [x] = true) (hz : w.length ≤ 1000) : mkP 2 6 m__law_fewest [dB b, dW w] = .ret (.cl (.int (KM.G b w))) := by
  have hs := p_few b w
  have h0 : fnd b w 0 = [.int 0] := by
    unfold fnd
    rw [show List.range (0 + 1) = [0] from rfl, List.map_cons, List.map_nil, Nat.sub_zero, List.drop_length]
    rfl
  have hr : rng3M msF (gF b w (fnd b w 0) .un) = .ok (dnL w.length, gF b w (fnd b w 0) .un) := by
    have q := rng3_of (ms := msF) (Γ := gF b w (fnd b w 0) .un) (Γ1 := gF b w (fnd b w 0) .un) (ws := [.cl (.int ((w.length : Int) - 1)), .cl (.int (-1)), .cl (.int (-1))]) (by simp [dW]) rfl (sml_of (by omega) (by omega)) (sml_of (by omega) (by omega))
    rw [show ((w.length : Int) - 1 - -1).toNat = w.length by omega, rng_dn] at q
    exact q
  have hf := few_loop b w hw hh hz w.length 0 (by omega)
  rw [Nat.zero_add] at hf
  have hl : fnd b w w.length = (List.range w.length).map (fun k => D.int (KM.G b (w.drop (w.length - k)))) ++ [.int (KM.G b w)] := by
    unfold fnd
    rw [List.range_succ, List.map_append, List.map_cons, List.map_nil, Nat.sub_self, List.drop_zero]
  refine (mkP_of (n := 2) (Γ := [.val (dB b), .val (dW w), .un, .un, .un, .un]) rfl rfl (sk_nx hs)).trans ?_
  rw [← h0]
  have hfm : m__law_fewest_s2 (gF b w (fnd b w 0) .un) = .ok (.nx (gF b w (fnd b w w.length) .un)) := (forM_of hr).trans hf
  rw [sk_nx hfm]
  have he : m__law_fewest_s3 (gF b w (fnd b w w.length) .un) = .ok (.rt (.cl (.int (KM.G b w))) (gF b w (fnd b w w.length) .un)) := by
    unfold m__law_fewest_s3
    simp [hl, ix_ll]
  rw [he]
  rfl
/-! most -/
def fndM (b : Bd) (w : List Int) (j : Nat) : List D := (List.range (j + 1)).map fun k => D.int (KM.S b (w.take k))
abbrev gM (b : Bd) (w : List Int) (found : List D) (l : Sl) (l2 : Sl) : Gam := [.val (dB b), .val (dW w), .own false found, l, l2, .un]
theorem sl_word {w : List Int} {i j : Nat} (hi : i ≤ j) (hj : j ≤ w.length) : cutD (w.map D.int) (some (i : Int)) (some (j : Int)) = ((w.take j).drop i).map D.int := by
  rw [cutD_map, sIx_k (k := i) (dflt := 0) (by omega), sIx_k (dflt := w.length) hj, List.drop_take]
def enA (b : Bd) (w : List Int) (j : Nat) : D → Bool
  | .int k => enoughW b ((w.take j).drop k.toNat)
  | _ => false
def stA (b : Bd) (w : List Int) : D → D
  | .int k => .int (KM.S b (w.take k.toNat) + 1)
  | _ => .non
theorem fndM_get {b : Bd} {w : List Int} {j k : Nat} (h : k ≤ j) : (fndM b w j)[k]? = some (D.int (KM.S b (w.take k))) := by
  unfold fndM
  rw [List.getElem?_map, List.getElem?_range (by omega)]
  rfl
theorem lc_most (b : Bd) (w : List Int) (j : Nat) (hj : j + 1 ≤ w.length) (hz : w.length ≤ 1000) :
    lcM (rng1M (aCons (vM 3) aNil)) (tN 5) (tstM (callP (mkP 2 2 m__law_enough) (aCons (vM 0) (aCons (sl3 D.sl (vM 1) (oSome (vM 5)) (oSome (vM 3))) aNil)))) (bin2 D.add (bin2 D.ix (vM 2) (vM 5)) (cM (.int 1))) [5] (gM b w (fndM b w j) (.val (.int ((j : Int) + 1))) .un)
      = .ok (.fr ((((List.range (j + 1)).filter fun k => enoughW b ((w.take (j + 1)).drop k)).map fun k => KM.S b (w.take k) + 1).map .int), gM b w (fndM b w j) (.val (.int ((j : Int) + 1))) .un) := by
  have q := lcM_fil (Γ := gM b w (fndM b w j) (.val (.int ((j : Int) + 1))) .un) (mi := rng1M (aCons (vM 3) aNil)) (tst := (tstM (callP (mkP 2 2 m__law_enough) (aCons (vM 0) (aCons (sl3 D.sl (vM 1) (oSome (vM 5)) (oSome (vM 3))) aNil))))) (elt := (bin2 D.add (bin2 D.ix (vM 2) (vM 5)) (cM (.int 1)))) (i := 5) (ds := upL 0 (j + 1)) (Γ1 := gM b w (fndM b w j) (.val (.int ((j : Int) + 1))) .un)
    (enA b w (j + 1)) (stA b w) (by
      have z := rng1_of (ms := aCons (vM 3) aNil) (Γ := gM b w (fndM b w j) (.val (.int ((j : Int) + 1))) .un) (Γ1 := gM b w (fndM b w j) (.val (.int ((j : Int) + 1))) .un) (ws := [.cl (.int ((j : Int) + 1))]) (by simp) rfl (sml_of (by omega) (by omega))
      rw [show ((j : Int) + 1).toNat = j + 1 by omega, rng_up] at z
      exact z) (.inl rfl) (szK (by unfold upL; rw [List.length_map, List.length_range]; omega)) (fun d hd => by
      obtain ⟨i, hi, rfl⟩ := mem_up hd
      rw [Int.zero_add]
      have h1 := sl_word (w := w) (i := i) (j := j + 1) (by omega) hj
      rw [show ((j + 1 : Nat) : Int) = (j : Int) + 1 by push_cast; rfl] at h1
      have h2 := e_law_enough b ((w.take (j + 1)).drop i)
      unfold dW at h2
      simp [-List.map_drop, -List.map_take, callP_eq, dW, h1, h2, enA]) (fun d hd _ => by
      obtain ⟨i, hi, rfl⟩ := mem_up hd
      rw [Int.zero_add]
      have h1 := ix_lk (fndM_get (b := b) (w := w) (j := j) (k := i) (by omega))
      simp [h1, stA])
  have e2 : ((upL 0 (j + 1)).filter (enA b w (j + 1))).map (stA b w) = (((List.range (j + 1)).filter fun k => enoughW b ((w.take (j + 1)).drop k)).map fun k => KM.S b (w.take k) + 1).map .int := by
    unfold upL
    rw [List.filter_map, List.map_map, List.map_map]
    have e : (List.range (j + 1)).filter ((enA b w (j + 1)) ∘ fun i : Nat => D.int (0 + (i : Int) * 1)) = (List.range (j + 1)).filter fun k => enoughW b ((w.take (j + 1)).drop k) := by
      refine List.filter_congr fun i _ => ?_
      show enoughW b ((w.take (j + 1)).drop (0 + (i : Int) * 1).toNat) = _
      rw [show (0 + (i : Int) * 1).toNat = i by omega]
    rw [e]
    refine List.map_congr_left fun i _ => ?_
    show D.int (KM.S b (w.take (0 + (i : Int) * 1).toNat) + 1) = D.int (KM.S b (w.take i) + 1)
    rw [show (0 + (i : Int) * 1).toNat = i by omega]
  rw [q, e2]
theorem fndM_succ (b : Bd) (w : List Int) (j : Nat) : fndM b w (j + 1) = fndM b w j ++ [.int (KM.S b (w.take (j + 1)))] := by
  unfold fndM
  rw [List.range_succ (n := j + 1), List.map_append]
  rfl
theorem fndM_last (b : Bd) (w : List Int) (j : Nat) : ∃ l, fndM b w j = l ++ [.int (KM.S b (w.take j))] := by
  unfold fndM
  rw [List.range_succ, List.map_append]
  exact ⟨_, rfl⟩
theorem step_most (b : Bd) (w : List Int) (j : Nat) (hj : j + 1 ≤ w.length) (hw : ∀ x ∈ w, 1 ≤ x) (hz : w.length ≤ 1000) :
    ∃ l2, m__law_most_b1 (gM b w (fndM b w j) (.val (.int ((j : Int) + 1))) .un) = .ok (.nx (gM b w (fndM b w (j + 1)) (.val (.int ((j : Int) + 1))) l2)) := by
  have hl := lc_most b w j hj hz
  have h1 := sz1
  have hlen : (fndM b w j).length = j + 1 := by simp [fndM]
  obtain ⟨l, hlast⟩ := fndM_last b w j
  have hix : D.ix (.lst (fndM b w j)) (.int (-1)) = some (.cl (.int (KM.S b (w.take j)))) := by rw [hlast, ix_ll]
  have htk : w.take (j + 1) = w.take j ++ [w[j]] := by rw [List.take_succ_eq_append_getElem (by omega)]
  have hm := KM.most_max (b := b) (w := w.take j) (x := w[j]) (fun y hy => by
    rw [← htk] at hy
    have := hw y (List.mem_of_mem_take hy)
    omega)
  rw [← htk, List.length_take, Nat.min_eq_left (by omega)] at hm
  have hfl : ((((List.range (j + 1)).filter fun k => enoughW b ((w.take (j + 1)).drop k)).map fun k => KM.S b ((w.take j).take k) + 1)) = ((((List.range (j + 1)).filter fun k => enoughW b ((w.take (j + 1)).drop k)).map fun k => KM.S b (w.take k) + 1)) := by
    refine List.map_congr_left fun k hk => ?_
    have hk := List.mem_range.mp (List.mem_filter.mp hk).1
    rw [List.take_take, Nat.min_eq_left (by omega)]
  rw [hfl] at hm
  generalize hg : ((((List.range (j + 1)).filter fun k => enoughW b ((w.take (j + 1)).drop k)).map fun k => KM.S b (w.take k) + 1)) = g at hl hm
  have hgl : g.length ≤ j + 1 := by
    rw [← hg, List.length_map]
    exact Nat.le_trans (List.length_filter_le _ _) (by rw [List.length_range]; omega)
  have hmx : D.max [.lst (g.map .int ++ [.int (KM.S b (w.take j))])] = some (.cl (.int (KM.S b (w.take (j + 1))))) := by
    show (dInts _).bind (fun ns => (maxO ns).map fun m => W.cl (.int m)) = _
    rw [show g.map D.int ++ [.int (KM.S b (w.take j))] = (g ++ [KM.S b (w.take j)]).map D.int by rw [List.map_append]; rfl, dInts_map, Option.bind_some, hm]
    rfl
  have hcat : D.add (.lst (g.map .int)) (.lst [.int (KM.S b (w.take j))]) = some (.fr (g.map .int ++ [.int (KM.S b (w.take j))])) := add_ll (szK (by rw [List.length_map, List.length_singleton]; omega))
  refine ⟨.own false (g.map .int), ?_⟩
  unfold m__law_most_b1
  rw [sk_nx (asg_fr hl (by simp)), fndM_succ]
  refine ap_of (Γ1 := gM b w (fndM b w j) (.val (.int ((j : Int) + 1))) (.own false (g.map .int))) (Γ2 := gM b w (fndM b w j) (.val (.int ((j : Int) + 1))) (.own false (g.map .int))) (slM_v (k := false) rfl) ?_ rfl (Nat.lt_of_lt_of_le (m := 1002) (by omega) (szK (by omega)))
  simp [hix, hcat, hmx, h1]
theorem most_loop (b : Bd) (w : List Int) (hw : ∀ x ∈ w, 1 ≤ x) (hz : w.length ≤ 1000) : ∀ m j, m + j = w.length →
    forG (tN 3) m__law_most_b1 [3, 4] (upL ((j : Int) + 1) m) (gM b w (fndM b w j) .un .un) = .ok (.nx (gM b w (fndM b w (j + m)) .un .un))
  | 0, j, _ => rfl
  | m + 1, j, h => by
    rw [upL_succ, forG]
    have e1 : tN 3 (D.int ((j : Int) + 1)) (gM b w (fndM b w j) .un .un) = some (gM b w (fndM b w j) (.val (.int ((j : Int) + 1))) .un) := rfl
    rw [e1]
    simp only []
    obtain ⟨l2, q⟩ := step_most b w j (by omega) hw hz
    rw [q]
    simp only [R.bind_ok]
    have ek : kill [3, 4] (gM b w (fndM b w (j + 1)) (.val (.int ((j : Int) + 1))) l2) = gM b w (fndM b w (j + 1)) .un .un := rfl
    have z := most_loop b w hw hz m (j + 1) (by omega)
    rw [show (((j + 1 : Nat) : Int) + 1) = (j : Int) + 1 + 1 by push_cast; rfl] at z
    rw [ek, z, show j + 1 + m = j + (m + 1) by omega]
theorem e_most (b : Bd) (w : List Int) (hw : ∀ x ∈ w, 1 ≤ x) (hz : w.length ≤ 1000) : mkP 2 6 m__law_most [dB b, dW w] = .ret (.cl (.int (KM.S b w))) := by
  have h1 := sz1
  have hs : m__law_most_s1 [.val (dB b), .val (dW w), .un, .un, .un, .un] = .ok (.nx (gM b w (fndM b w 0) .un .un)) := by
    have h0 : fndM b w 0 = [.int 0] := rfl
    rw [h0]
    unfold m__law_most_s1
    simp [h1]
  have hr : rng2M (aCons (cM (.int 1)) (aCons (bin2 D.add (callN D.len (aCons (vM 1) aNil)) (cM (.int 1))) aNil)) (gM b w (fndM b w 0) .un .un) = .ok (upL (((0 : Nat) : Int) + 1) w.length, gM b w (fndM b w 0) .un .un) := by
    have q := rng2_of (ms := (aCons (cM (.int 1)) (aCons (bin2 D.add (callN D.len (aCons (vM 1) aNil)) (cM (.int 1))) aNil))) (Γ := gM b w (fndM b w 0) .un .un) (Γ1 := gM b w (fndM b w 0) .un .un) (ws := [.cl (.int 1), .cl (.int ((w.length : Int) + 1))]) (by simp [dW]) rfl (sml_of (by omega) (by omega)) (sml_of (by omega) (by omega))
    rw [show ((w.length : Int) + 1 - 1).toNat = w.length by omega, rng_up] at q
    exact q
  have hf := most_loop b w hw hz w.length 0 (by omega)
  rw [Nat.zero_add] at hf
  refine (mkP_of (n := 2) (Γ := [.val (dB b), .val (dW w), .un, .un, .un, .un]) rfl rfl (sk_nx hs)).trans ?_
  have hfm : m__law_most_s2 (gM b w (fndM b w 0) .un .un) = .ok (.nx (gM b w (fndM b w w.length) .un .un)) := (forM_of hr).trans hf
  rw [sk_nx hfm]
  obtain ⟨l, hlast⟩ := fndM_last b w w.length
  rw [List.take_length] at hlast
  have he : m__law_most_s3 (gM b w (fndM b w w.length) .un .un) = .ok (.rt (.cl (.int (KM.S b w))) (gM b w (fndM b w w.length) .un .un)) := by
    unfold m__law_most_s3
    simp [hlast, ix_ll]
  rw [he]
  rfl
end G
set_option Elab.async false
set_option linter.all false
set_option maxRecDepth 100000
set_option maxHeartbeats 2000000
namespace G
open PySem PySem.Spec PyProof.Rows L2 Mw LamX
/-! the bag: draws -/
def Bag (bs : List D) : Prop := ∃ (a s i : Int) (cells : List Int), bs = [.int a, .int s, .int i, .lst (cells.map .int)] ∧ 0 ≤ a ∧ 0 ≤ s ∧ 0 ≤ i ∧ cells.length ≤ 63
theorem first_cell (cells : List Int) (lo : Int) : ∃ c : Int, D.ix (.lst (cutD (cells.map D.int) (some lo) none ++ [D.int 0])) (.int 0) = some (.cl (.int c)) := by
  rw [cutD_map]
  generalize List.take _ _ = u
  cases u with
  | nil => exact ⟨0, ix_l0⟩
  | cons x u => exact ⟨x, ix_l0⟩
theorem take_s1 (n a s i : Int) (cells : List Int) (ha : 0 ≤ a) (hs : 0 ≤ s) (hi : 0 ≤ i) (hc : cells.length ≤ 63) : ∃ (a' s' i' : Int) (u v : Sl), 0 ≤ a' ∧ 0 ≤ s' ∧ 0 ≤ i' ∧
    m__law_take_s1 [.own true [.int a, .int s, .int i, .lst (cells.map .int)], .val (.int n), .un, .un, .un, .un, .un] = .ok (.nx [.own true [.int a', .int s', .int i', .lst (cells.map .int)], .val (.int n), u, v, .un, .un, .un]) := by
  by_cases h : a = 0
  · subst h
    obtain ⟨c, hcell⟩ := first_cell cells i
    have hz : (cutD (cells.map D.int) (some i) none).length + [D.int 0].length ≤ sizeLine := szK (by have := cutD_le (xs := cells.map D.int) (lo := some i) (hi := none); rw [List.length_map] at this; rw [List.length_singleton]; omega)
    have hadd := add_ll hz
    have h1 := szK (n := 1) (by omega)
    have hm1 : ∀ x : Int, D.mod (.int x) (.int 2147483647) = some (.cl (.int (x % 2147483647))) := fun x => mod_i (by decide)
    have hml : ∀ x : Int, D.mul (.int x) (.int 48271) = some (.cl (.int (x * 48271))) := fun x => mul_r (by decide)
    have hml2 : ∀ x : Int, D.mul (.int 7919) (.int x) = some (.cl (.int (7919 * x))) := fun x => mul_l (by decide)
    by_cases hc18 : (1000000000000000000 : Int) ≤ c
    · refine ⟨c, (s * 48271 + c % 2147483647 + 7919 * (i + 1)) % 2147483647, i + 1, .val (.int c), .val (.int (s * 48271 + c % 2147483647 + 7919 * (i + 1))), by omega, Int.emod_nonneg _ (by decide), by omega, ?_⟩
      unfold m__law_take_s1
      simp [hadd, hcell, h1, auS, setM, ixN, pow_18, hc18, hm1, hml, hml2]
    · refine ⟨0, (s * 48271 + c % 2147483647 + 7919 * (i + 1)) % 2147483647, i + 1, .val (.int c), .val (.int (s * 48271 + c % 2147483647 + 7919 * (i + 1))), by omega, Int.emod_nonneg _ (by decide), by omega, ?_⟩
      unfold m__law_take_s1
      simp [hadd, hcell, h1, auS, setM, ixN, pow_18, hc18, hm1, hml, hml2]
  · refine ⟨a, s, i, .un, .un, ha, hs, hi, ?_⟩
    unfold m__law_take_s1
    simp [h]
theorem take_ok {bs : List D} {n : Int} (hb : Bag bs) (h0 : 0 < n) (h1 : n < 1073741824) : ∃ (v : Int) (bs' : List D), mkB 1 7 m__law_take bs [.int n] = .ret (.int v) bs' ∧ 0 ≤ v ∧ v < n ∧ Bag bs' := by
  obtain ⟨a, s, i, cells, rfl, ha, hs, hi, hc⟩ := hb
  obtain ⟨a', s', i', u, v, ha', hs', hi', e⟩ := take_s1 n a s i cells ha hs hi hc
  have q := mkB_of (n := 1) (tot := 7) (m := m__law_take) (bs := [.int a, .int s, .int i, .lst (cells.map .int)]) (ds := [.int n]) rfl rfl (sk_nx e)
  rw [q]
  have hmn : ∀ x : Int, D.mod (.int x) (.int n) = some (.cl (.int (x % n))) := fun x => mod_i h0
  have hdn : ∀ x : Int, D.fdiv (.int x) (.int n) = some (.cl (.int (x / n))) := fun x => fdiv_i h0 h1
  by_cases hp : 0 < a'
  · have e2 : m__law_take_s2 [.own true [.int a', .int s', .int i', .lst (cells.map .int)], .val (.int n), u, v, .un, .un, .un] = .ok (.rt (.cl (.int (a' % n))) [.own true [.int (a' / n), .int s', .int i', .lst (cells.map .int)], .val (.int n), u, v, .val (.int (a' % n)), .un, .un]) := by
      unfold m__law_take_s2
      simp [hp, hmn, hdn, setM, ixN]
    rw [sk_rt e2]
    exact ⟨a' % n, _, rfl, Int.emod_nonneg _ (by omega), Int.emod_lt_of_pos _ h0, a' / n, s', i', cells, rfl, Int.ediv_nonneg ha' (by omega), hs', hi', hc⟩
  · have e2 : m__law_take_s2 [.own true [.int a', .int s', .int i', .lst (cells.map .int)], .val (.int n), u, v, .un, .un, .un] = .ok (.nx [.own true [.int a', .int s', .int i', .lst (cells.map .int)], .val (.int n), u, v, .un, .un, .un]) := by
      unfold m__law_take_s2
      simp [hp]
    rw [sk_nx e2]
    have hm1 : ∀ x : Int, D.mod (.int x) (.int 1000000007) = some (.cl (.int (x % 1000000007))) := fun x => mod_i (by decide)
    have hm2 : ∀ x : Int, D.mod (.int x) (.int 998244353) = some (.cl (.int (x % 998244353))) := fun x => mod_i (by decide)
    have hml : ∀ x : Int, D.mul (.int x) (.int 39373) = some (.cl (.int (x * 39373))) := fun x => mul_r (by decide)
    have hml2 : ∀ x : Int, D.mul (.int x) (.int 30011) = some (.cl (.int (x * 30011))) := fun x => mul_r (by decide)
    have hd7 : ∀ x : Int, D.fdiv (.int x) (.int 7) = some (.cl (.int (x / 7))) := fun x => fdiv_i (by decide) (by decide)
    generalize hf : (s' + 1) * 39373 % 1000000007 = f
    have hf0 : 0 ≤ f := by rw [← hf]; exact Int.emod_nonneg _ (by decide)
    have hf1 : f < 1000000007 := by rw [← hf]; exact Int.emod_lt_of_pos _ (by decide)
    have hff : D.mul (.int f) (.int f) = some (.cl (.int (f * f))) := mul_r (by omega)
    have e3 : m__law_take_s3 [.own true [.int a', .int s', .int i', .lst (cells.map .int)], .val (.int n), u, v, .un, .un, .un] = .ok (.nx [.own true [.int a', .int s', .int i', .lst (cells.map .int)], .val (.int n), u, v, .un, .val (.int f), .un]) := by
      unfold m__law_take_s3
      simp [hml, hm1, hf]
    rw [sk_nx e3]
    generalize hg : f * f % 998244353 * 30011 % 998244353 = g
    have e4 : m__law_take_s4 [.own true [.int a', .int s', .int i', .lst (cells.map .int)], .val (.int n), u, v, .un, .val (.int f), .un] = .ok (.nx [.own true [.int a', .int s', .int i', .lst (cells.map .int)], .val (.int n), u, v, .un, .val (.int f), .val (.int g)]) := by
      unfold m__law_take_s4
      simp [hff, hm2, hml2, hg]
    rw [sk_nx e4]
    have e5 : m__law_take_s5 [.own true [.int a', .int s', .int i', .lst (cells.map .int)], .val (.int n), u, v, .un, .val (.int f), .val (.int g)] = .ok (.rt (.cl (.int (g / 7 % n))) [.own true [.int a', .int s', .int i', .lst (cells.map .int)], .val (.int n), u, v, .un, .val (.int f), .val (.int g)]) := by
      unfold m__law_take_s5
      simp [hd7, hmn]
    rw [e5]
    exact ⟨g / 7 % n, _, rfl, Int.emod_nonneg _ (by omega), Int.emod_lt_of_pos _ h0, a', s', i', cells, rfl, ha', hs', hi', hc⟩
/-- a draw from the bag at i -/
theorem c_take {Γ : Gam} {i : Nat} {k : Bool} {bs : List D} {m : M} {n : Int} (hg : Γ[i]? = some (.own k bs)) (hm : m Γ = .ok (.cl (.int n), Γ)) (hb : Bag bs) (h0 : 0 < n) (h1 : n < 1073741824) :
    ∃ (v : Int) (bs' : List D), callB (mkB 1 7 m__law_take) (aCons (vM i) (aCons m aNil)) Γ = .ok (.cl (.int v), Γ.set i (.own k bs')) ∧ 0 ≤ v ∧ v < n ∧ Bag bs' := by
  obtain ⟨v, bs', e, v0, v1, hb'⟩ := take_ok hb h0 h1
  refine ⟨v, bs', callB_of (ws := [.cl (.int n)]) (ds := [.int n]) ?_ hg rfl e, v0, v1, hb'⟩
  simp [hg, hm]
theorem c_takeK {Γ : Gam} {i : Nat} {k : Bool} {bs : List D} (n : Int) (hg : Γ[i]? = some (.own k bs)) (hb : Bag bs) (h0 : 0 < n := by decide) (h1 : n < 1073741824 := by decide) :
    ∃ (v : Int) (bs' : List D), callB (mkB 1 7 m__law_take) (aCons (vM i) (aCons (cM (.int n)) aNil)) Γ = .ok (.cl (.int v), Γ.set i (.own k bs')) ∧ 0 ≤ v ∧ v < n ∧ Bag bs' := c_take hg rfl hb h0 h1
theorem some_ok {bs ds : List D} (hb : Bag bs) (h0 : ds ≠ []) (h1 : ds.length < 1073741824) : ∃ (d : D) (bs' : List D), mkB 1 2 m__law_some bs [.tup ds] = .ret d bs' ∧ d ∈ ds ∧ Bag bs' := by
  have hl : 0 < ds.length := List.length_pos_iff.mpr h0
  obtain ⟨v, bs', e, v0, v1, hb'⟩ := c_take (Γ := [.own true bs, .val (.tup ds)]) (i := 0) (k := true) (bs := bs) (m := callN D.len (aCons (vM 1) aNil)) (n := ds.length) rfl (by simp) hb (by omega) (by omega)
  have hv : v.toNat < ds.length := by omega
  have hix : D.ix (.tup ds) (.int v) = some (.cl ds[v.toNat]) := by
    have z := ix_tk (ds := ds) (k := v.toNat) (d := ds[v.toNat]) (List.getElem?_eq_getElem hv)
    rw [show ((v.toNat : Nat) : Int) = v by omega] at z
    exact z
  refine ⟨ds[v.toNat], bs', ?_, List.getElem_mem hv, hb'⟩
  have q : m__law_some [.own true bs, .val (.tup ds)] = .ok (.rt (.cl ds[v.toNat]) [.own true bs', .val (.tup ds)]) := by
    unfold m__law_some
    rw [retM_eq, bin2_eq]
    simp [e, hix]
  exact (mkB_of (n := 1) (tot := 2) (m := m__law_some) (bs := bs) (ds := [.tup ds]) rfl rfl q).trans rfl
theorem c_some {Γ : Gam} {i j : Nat} {k : Bool} {bs ds : List D} (hg : Γ[i]? = some (.own k bs)) (hj : Γ[j]? = some (.val (.tup ds))) (hb : Bag bs) (h0 : ds ≠ []) (h1 : ds.length < 1073741824) :
    ∃ (d : D) (bs' : List D), callB (mkB 1 2 m__law_some) (aCons (vM i) (aCons (vM j) aNil)) Γ = .ok (.cl d, Γ.set i (.own k bs')) ∧ d ∈ ds ∧ Bag bs' := by
  obtain ⟨d, bs', e, hd, hb'⟩ := some_ok hb h0 h1
  refine ⟨d, bs', callB_of (ws := [.cl (.tup ds)]) (ds := [.tup ds]) ?_ hg rfl e, hd, hb'⟩
  simp [hg, hj]
/-- the law's bag at first -/
theorem bag_ok (ns : List Int) (hl : ns.length ≤ 63) : ∃ bs, mkP 1 2 m__law_bag [.lst (ns.map .int)] = .ret (.fr bs) ∧ Bag bs := by
  have h4 := szK (n := 4) (by omega)
  have hcut : cutD (ns.map D.int) none (some (63 : Int)) = ns.map D.int := by
    unfold Mw.cutD
    rw [show (63 : Int) = ((63 : Nat) : Int) from rfl, HT.sIx_nat, HT.sIx_none, List.drop_zero, List.length_map, Nat.sub_zero, Nat.min_eq_right hl, ← List.length_map (f := D.int), List.take_length]
  have q : lcM (seqM (sl3 D.sl (vM 0) oNone (oSome (cM (.int 63))))) (tN 1) yesT (callN D.abs (aCons (vM 1) aNil)) [1] [.val (.lst (ns.map .int)), .un] = .ok (.fr ((ns.map fun i => if i < 0 then -i else i).map .int), [.val (.lst (ns.map .int)), .un]) := by
    rw [lcM_map (ds := ns.map .int) (Γ1 := [.val (.lst (ns.map .int)), .un]) (fun d => match d with | .int i => .int (if i < 0 then -i else i) | _ => .non) (by simp [hcut]) (.inl rfl) (szK (by rw [List.length_map]; omega)) (fun d hd => by
      obtain ⟨x, _, rfl⟩ := List.mem_map.mp hd
      simp [D.abs])]
    rw [List.map_map, List.map_map]
    rfl
  refine ⟨[.int 0, .int 1234567891, .int 0, .lst ((ns.map fun i => if i < 0 then -i else i).map .int)], ?_, 0, 1234567891, 0, _, rfl, by decide, by decide, by decide, by rw [List.length_map]; exact hl⟩
  refine (mkP_of (n := 1) (Γ := [.val (.lst (ns.map .int)), .un]) (r := .ok (.rt (.fr [.int 0, .int 1234567891, .int 0, .lst ((ns.map fun i => if i < 0 then -i else i).map .int)]) [.val (.lst (ns.map .int)), .un])) rfl rfl ?_).trans rfl
  unfold m__law_bag
  rw [retM_eq, lstM_eq]
  simp [-List.map_map, q, h4]
end G
set_option Elab.async false
set_option linter.all false
set_option maxRecDepth 100000
set_option maxHeartbeats 2000000
namespace G
open PySem PySem.Spec PyProof.Rows L2 Mw LamX KM
structure Ls (n : Int) (ls : List Int) : Prop where
  ne : ls ≠ []
  len : ls.length ≤ 5
  rng : ∀ x ∈ ls, 1 ≤ x ∧ x ≤ n
  asc : ls.Pairwise (· < ·)
abbrev gL (bs : List D) (n : Int) (fs : List Int) (l o : Sl) : Gam := [.own true bs, .val (.int n), .own false (fs.map .int), l, o]
structure Fo (n : Int) (k : Nat) (fs : List Int) : Prop where
  ne : fs ≠ []
  len : fs.length ≤ k
  rng : ∀ x ∈ fs, 1 ≤ x ∧ x ≤ n
  nd : fs.Nodup
theorem len_step {bs : List D} {n : Int} {fs : List Int} {l : D} {k : Nat} (hb : Bag bs) (h0 : 0 < n) (h1 : n < 1073741824) (hf : Fo n k fs) (hk : k ≤ 1000) :
    ∃ (bs' : List D) (fs' : List Int) (o : Sl), m__law_lengths_b1 (gL bs n fs (.val l) .un) = .ok (.nx (gL bs' n fs' (.val l) o)) ∧ Bag bs' ∧ Fo n (k + 1) fs' := by
  obtain ⟨v, bs', e, v0, v1, hb'⟩ := c_take (Γ := gL bs n fs (.val l) .un) (i := 0) (k := true) (bs := bs) (m := vM 1) (n := n) rfl rfl hb h0 h1
  have e1 : asgM 4 (bin2 D.add (cM (.int 1)) (callB (mkB 1 7 m__law_take) (aCons (vM 0) (aCons (vM 1) aNil)))) (gL bs n fs (.val l) .un) = .ok (.nx (gL bs' n fs (.val l) (.val (.int (1 + v))))) := by
    refine (asg_cl (d := .int (1 + v)) (Γ1 := gL bs' n fs (.val l) .un) ?_ (by simp)).trans rfl
    rw [bin2_eq]
    simp [e]
  have hz1 := szK (n := 1) (by omega)
  have hnin := nin_ints (x := 1 + v) (ns := fs)
  by_cases hm : 1 + v ∈ fs
  · refine ⟨bs', fs, .val (.int (1 + v)), ?_, hb', hf.ne, by have := hf.len; omega, hf.rng, hf.nd⟩
    unfold m__law_lengths_b1
    rw [sk_nx e1]
    refine asg_bo ?_ (by simp)
    rw [ifM_eq]
    simp [hnin, hm]
  · refine ⟨bs', fs ++ [1 + v], .val (.int (1 + v)), ?_, hb', by simp, by have := hf.len; simp; omega, fun x hx => ?_, ?_⟩
    · unfold m__law_lengths_b1
      rw [sk_nx e1]
      have ha : D.add (.lst (fs.map .int)) (.lst [.int (1 + v)]) = some (.fr ((fs ++ [1 + v]).map .int)) := by
        rw [List.map_append]
        exact add_ll (szK (by have := hf.len; rw [List.length_map, List.length_singleton]; omega))
      refine (asg_fr (ds := (fs ++ [1 + v]).map .int) (Γ1 := gL bs' n fs (.val l) (.val (.int (1 + v)))) ?_ (by simp)).trans rfl
      rw [ifM_eq]
      simp [-List.map_append, hnin, hm, hz1, ha]
    · rcases List.mem_append.mp hx with h | h
      · exact hf.rng x h
      · rw [List.mem_singleton.mp h]; omega
    · rw [List.nodup_append]
      exact ⟨hf.nd, by simp, fun a ha b hb => by rw [List.mem_singleton.mp hb]; exact fun z => hm (z ▸ ha)⟩
theorem lengths_ok {bs : List D} {n : Int} (hb : Bag bs) (h0 : 0 < n) (h1 : n < 1073741824) : ∃ (ls : List Int) (bs' : List D), mkB 1 5 m__law_lengths bs [.int n] = .ret (dW ls) bs' ∧ Ls n ls ∧ Bag bs' := by
  obtain ⟨v, bs1, e, v0, v1, hb1⟩ := c_take (Γ := [.own true bs, .val (.int n), .un, .un, .un]) (i := 0) (k := true) (bs := bs) (m := vM 1) (n := n) rfl rfl hb h0 h1
  have hz1 := szK (n := 1) (by omega)
  have e1 : m__law_lengths_s1 [.own true bs, .val (.int n), .un, .un, .un] = .ok (.nx (gL bs1 n [1 + v] .un .un)) := by
    unfold m__law_lengths_s1
    refine (asg_fr (ds := [.int (1 + v)]) (Γ1 := [.own true bs1, .val (.int n), .un, .un, .un]) ?_ (by simp)).trans rfl
    rw [lstM_eq]
    simp [e, hz1]
  obtain ⟨u, bs2, e2, u0, u1, hb2⟩ := c_takeK (Γ := gL bs1 n [1 + v] .un .un) (i := 0) (k := true) (bs := bs1) 4 rfl hb1
  have hr : rng1M (aCons (callB (mkB 1 7 m__law_take) (aCons (vM 0) (aCons (cM (.int 4)) aNil))) aNil) (gL bs1 n [1 + v] .un .un) = .ok (rngL 0 1 u.toNat, gL bs2 n [1 + v] .un .un) := rng1_of (ws := [.cl (.int u)]) (by rw [aCons_eq]; simp [e2]) rfl (sml_of (by omega) (by omega))
  obtain ⟨Γ', hq, bs3, fs, hΓ, hb3, hf⟩ := forG_inv (tgt := tN 3) (body := m__law_lengths_b1) (ks := [3, 4]) (fun k Γ => ∃ (bs : List D) (fs : List Int), Γ = gL bs n fs .un .un ∧ Bag bs ∧ Fo n (k + 1) fs) (ds := rngL 0 1 u.toNat) (n := 0) (Γ := gL bs2 n [1 + v] .un .un)
    ⟨bs2, [1 + v], rfl, hb2, by simp, by simp, fun x hx => by rw [List.mem_singleton.mp hx]; omega, by simp⟩ (fun j d Γ hj hp => by
      obtain ⟨bs, fs, rfl, hb, hf⟩ := hp
      have hj' : j < u.toNat := by
        have := (List.getElem?_eq_some_iff.mp hj).1
        unfold rngL at this
        rw [List.length_map, List.length_range] at this
        exact this
      obtain ⟨bs', fs', o, q, hb', hf'⟩ := len_step (l := d) hb h0 h1 hf (by omega)
      refine ⟨_, _, rfl, q, bs', fs', rfl, hb', ?_⟩
      rw [show 0 + j + 1 + 1 = 0 + j + 1 + 1 from rfl]
      exact hf')
  subst hΓ
  have hn : (rngL 0 1 u.toNat).length = u.toNat := by unfold rngL; rw [List.length_map, List.length_range]
  have e3 : m__law_lengths_s2 (gL bs1 n [1 + v] .un .un) = .ok (.nx (gL bs3 n fs .un .un)) := (forM_of hr).trans hq
  have e4 : m__law_lengths_s3 (gL bs3 n fs .un .un) = .ok (.rt (.cl (dW (srtI fs))) (gL bs3 n fs .un .un)) := by
    unfold m__law_lengths_s3
    simp [dW]
  refine ⟨srtI fs, bs3, ?_, ⟨?_, ?_, ?_, srtI_lt hf.nd⟩, hb3⟩
  · refine (mkB_of (n := 1) (Γ := [.own true bs, .val (.int n), .un, .un, .un]) rfl rfl ((sk_nx e1).trans ((sk_nx e3).trans e4))).trans rfl
  · intro z
    have := congrArg List.length z
    rw [srtI_len, List.length_nil] at this
    exact hf.ne (List.length_eq_zero_iff.mp this)
  · rw [srtI_len]
    have := hf.len
    rw [hn] at this
    omega
  · intro x hx
    exact hf.rng x (srtI_mem.mp hx)
/-! bounds -/
structure BdOk (b : Bd) (x : Int) : Prop where
  lo1 : 1 ≤ b.lo
  lo9 : b.lo ≤ 9
  h1 : b.lo + x - 1 ≤ b.hi
  h2 : b.hi ≤ b.lo + x + 7
  sl : ∀ p r, b.sl = some (p, r) → 1 ≤ r ∧ r ≤ 5 ∧ r ≤ p ∧ p ≤ r + 3
theorem bounds_ok {bs : List D} {ls : List Int} {x : Int} (hb : Bag bs) (hx : D.ix (dW ls) (.int (-1)) = some (.cl (.int x))) : ∃ (b : Bd) (bs' : List D), mkB 1 5 m__law_bounds bs [dW ls] = .ret (dB b) bs' ∧ BdOk b x ∧ Bag bs' := by
  obtain ⟨v, bs1, e1, v0, v1, hb1⟩ := c_takeK (Γ := [.own true bs, .val (dW ls), .un, .un, .un]) (i := 0) (k := true) 9 rfl hb
  have s1 : m__law_bounds_s1 [.own true bs, .val (dW ls), .un, .un, .un] = .ok (.nx [.own true bs1, .val (dW ls), .val (.int (1 + v)), .un, .un]) := by
    unfold m__law_bounds_s1
    refine (asg_cl (d := .int (1 + v)) (Γ1 := [.own true bs1, .val (dW ls), .un, .un, .un]) ?_ (by simp)).trans rfl
    rw [bin2_eq]
    simp [e1]
  obtain ⟨t, bs2, e2, t0, t1, hb2⟩ := c_takeK (Γ := [.own true bs1, .val (dW ls), .val (.int (1 + v)), .un, .un]) (i := 0) (k := true) 9 rfl hb1
  have s2 : m__law_bounds_s2 [.own true bs1, .val (dW ls), .val (.int (1 + v)), .un, .un] = .ok (.nx [.own true bs2, .val (dW ls), .val (.int (1 + v)), .val (.int (1 + v + x - 1 + t)), .un]) := by
    unfold m__law_bounds_s2
    refine (asg_cl (d := .int (1 + v + x - 1 + t)) (Γ1 := [.own true bs2, .val (dW ls), .val (.int (1 + v)), .un, .un]) ?_ (by simp)).trans rfl
    rw [bin2_eq]
    simp [hx, e2]
  obtain ⟨g, bs3, e3, g0, g1, hb3⟩ := c_takeK (Γ := [.own true bs2, .val (dW ls), .val (.int (1 + v)), .val (.int (1 + v + x - 1 + t)), .un]) (i := 0) (k := true) 5 rfl hb2
  have s3 : m__law_bounds_s3 [.own true bs2, .val (dW ls), .val (.int (1 + v)), .val (.int (1 + v + x - 1 + t)), .un] = .ok (.nx [.own true bs3, .val (dW ls), .val (.int (1 + v)), .val (.int (1 + v + x - 1 + t)), .val (.int (1 + g))]) := by
    unfold m__law_bounds_s3
    refine (asg_cl (d := .int (1 + g)) (Γ1 := [.own true bs3, .val (dW ls), .val (.int (1 + v)), .val (.int (1 + v + x - 1 + t)), .un]) ?_ (by simp)).trans rfl
    rw [bin2_eq]
    simp [e3]
  obtain ⟨c, bs4, e4, c0, c1, hb4⟩ := c_takeK (Γ := [.own true bs3, .val (dW ls), .val (.int (1 + v)), .val (.int (1 + v + x - 1 + t)), .val (.int (1 + g))]) (i := 0) (k := true) 2 rfl hb3
  have hz3 := szK (n := 3) (by omega)
  have hz2 := szK (n := 2) (by omega)
  by_cases hc : c = 0
  · subst hc
    obtain ⟨p, bs5, e5, p0, p1, hb5⟩ := c_takeK (Γ := [.own true bs4, .val (dW ls), .val (.int (1 + v)), .val (.int (1 + v + x - 1 + t)), .val (.int (1 + g))]) (i := 0) (k := true) 4 rfl hb4
    refine ⟨⟨1 + v, 1 + v + x - 1 + t, some (1 + g + p, 1 + g)⟩, bs5, ?_, ⟨by show 1 ≤ 1 + v; omega, by show 1 + v ≤ 9; omega, by show 1 + v + x - 1 ≤ 1 + v + x - 1 + t; omega, by show 1 + v + x - 1 + t ≤ 1 + v + x + 7; omega, fun p' r' h => by cases h; omega⟩, hb5⟩
    have s4 : m__law_bounds_s4 [.own true bs3, .val (dW ls), .val (.int (1 + v)), .val (.int (1 + v + x - 1 + t)), .val (.int (1 + g))] = .ok (.rt (.cl (dB ⟨1 + v, 1 + v + x - 1 + t, some (1 + g + p, 1 + g)⟩)) [.own true bs5, .val (dW ls), .val (.int (1 + v)), .val (.int (1 + v + x - 1 + t)), .val (.int (1 + g))]) := by
      unfold m__law_bounds_s4
      rw [retM_eq, tupM_eq]
      simp [e4, e5, hz3, hz2, dB, dSl]
    exact (mkB_of (n := 1) (Γ := [.own true bs, .val (dW ls), .un, .un, .un]) rfl rfl ((sk_nx s1).trans ((sk_nx s2).trans ((sk_nx s3).trans s4)))).trans rfl
  · refine ⟨⟨1 + v, 1 + v + x - 1 + t, none⟩, bs4, ?_, ⟨by show 1 ≤ 1 + v; omega, by show 1 + v ≤ 9; omega, by show 1 + v + x - 1 ≤ 1 + v + x - 1 + t; omega, by show 1 + v + x - 1 + t ≤ 1 + v + x + 7; omega, fun p' r' h => by cases h⟩, hb4⟩
    have s4 : m__law_bounds_s4 [.own true bs3, .val (dW ls), .val (.int (1 + v)), .val (.int (1 + v + x - 1 + t)), .val (.int (1 + g))] = .ok (.rt (.cl (dB ⟨1 + v, 1 + v + x - 1 + t, none⟩)) [.own true bs4, .val (dW ls), .val (.int (1 + v)), .val (.int (1 + v + x - 1 + t)), .val (.int (1 + g))]) := by
      unfold m__law_bounds_s4
      rw [retM_eq, tupM_eq]
      simp [e4, hc, hz3, dB, dSl]
    exact (mkB_of (n := 1) (Γ := [.own true bs, .val (dW ls), .un, .un, .un]) rfl rfl ((sk_nx s1).trans ((sk_nx s2).trans ((sk_nx s3).trans s4)))).trans rfl
/-! words -/
theorem c_someW {Γ : Gam} {i j : Nat} {k : Bool} {bs : List D} {ls : List Int} (hg : Γ[i]? = some (.own k bs)) (hj : Γ[j]? = some (.val (dW ls))) (hb : Bag bs) (h0 : ls ≠ []) (h1 : ls.length ≤ 1000) :
    ∃ (x : Int) (bs' : List D), callB (mkB 1 2 m__law_some) (aCons (vM i) (aCons (vM j) aNil)) Γ = .ok (.cl (.int x), Γ.set i (.own k bs')) ∧ x ∈ ls ∧ Bag bs' := by
  obtain ⟨d, bs', e, hd, hb'⟩ := c_some (ds := ls.map .int) hg hj hb (by simpa using h0) (by rw [List.length_map]; omega)
  obtain ⟨x, hx, rfl⟩ := List.mem_map.mp hd
  exact ⟨x, bs', e, hx, hb'⟩
abbrev gW (bs : List D) (ls : List Int) (n : Int) (fs : List Int) (a b c d : Sl) : Gam := [.own true bs, .val (dW ls), .val (.int n), .own false (fs.map .int), a, b, c, d]
structure Wo (ls : List Int) (k : Int) (fs : List Int) : Prop where
  len : (fs.length : Int) ≤ k
  mem : ∀ x ∈ fs, x ∈ ls
theorem word_b1 {bs : List D} {ls : List Int} {n r o : Int} {fs : List Int} {l u : D} {k : Int} (hb : Bag bs) (hn : ls ≠ []) (hl : ls.length ≤ 1000) (ho : o ∈ ls) (hf : Wo ls k fs) (hk : k ≤ 10000) :
    ∃ (bs' : List D) (fs' : List Int), m__law_word_b1 (gW bs ls n fs (.val l) (.val (.int r)) (.val (.int o)) (.val u)) = .ok (.nx (gW bs' ls n fs' (.val l) (.val (.int r)) (.val (.int o)) (.val u))) ∧ Bag bs' ∧ Wo ls (k + 1) fs' := by
  have hsz : (fs.map D.int).length < sizeLine := by
    rw [List.length_map]
    exact Nat.lt_of_lt_of_le (m := 10001) (by have := hf.len; omega) (szK (by omega))
  by_cases hr : r = 0
  · subst hr
    refine ⟨bs, fs ++ [o], ?_, hb, by have := hf.len; rw [List.length_append, List.length_singleton]; push_cast; omega, fun x hx => ?_⟩
    · unfold m__law_word_b1
      refine (ap_of (i := 3) (Γ1 := gW bs ls n fs (.val l) (.val (.int 0)) (.val (.int o)) (.val u)) (Γ2 := gW bs ls n fs (.val l) (.val (.int 0)) (.val (.int o)) (.val u)) (d := .int o) (k := false) (slM_v (k := false) rfl) (by simp) rfl hsz).trans ?_
      rw [show fs.map D.int ++ [D.int o] = (fs ++ [o]).map D.int by rw [List.map_append]; rfl]
      rfl
    · rcases List.mem_append.mp hx with h | h
      · exact hf.mem x h
      · rw [List.mem_singleton.mp h]; exact ho
  · obtain ⟨x, bs', e, hx, hb'⟩ := c_someW (Γ := gW bs ls n fs (.val l) (.val (.int r)) (.val (.int o)) (.val u)) (i := 0) (j := 1) (k := true) rfl rfl hb hn hl
    refine ⟨bs', fs ++ [x], ?_, hb', by have := hf.len; rw [List.length_append, List.length_singleton]; push_cast; omega, fun y hy => ?_⟩
    · unfold m__law_word_b1
      refine (ap_of (i := 3) (Γ1 := gW bs ls n fs (.val l) (.val (.int r)) (.val (.int o)) (.val u)) (Γ2 := gW bs' ls n fs (.val l) (.val (.int r)) (.val (.int o)) (.val u)) (d := .int x) (k := false) (slM_v (k := false) rfl) (by rw [clM_eq, ifM_eq]; simp [hr, e]) rfl hsz).trans ?_
      rw [show fs.map D.int ++ [D.int x] = (fs ++ [x]).map D.int by rw [List.map_append]; rfl]
      rfl
    · rcases List.mem_append.mp hy with h | h
      · exact hf.mem y h
      · rw [List.mem_singleton.mp h]; exact hx
theorem rngL_len {a b : Int} {n : Nat} : (rngL a b n).length = n := by unfold rngL; rw [List.length_map, List.length_range]
theorem word_b2 {bs : List D} {ls : List Int} {n : Int} {fs : List Int} {l : D} {k : Int} (hb : Bag bs) (hn : ls ≠ []) (hl : ls.length ≤ 1000) (h0 : 0 < n) (h1 : n ≤ 1000) (hf : Wo ls k fs) (hk : k ≤ 9000) :
    ∃ (bs' : List D) (fs' : List Int) (r o : Sl), m__law_word_b2 (gW bs ls n fs (.val l) .un .un .un) = .ok (.nx (gW bs' ls n fs' (.val l) r o .un)) ∧ Bag bs' ∧ Wo ls (k + n - 1) fs' := by
  obtain ⟨r, bs1, e1, r0, r1, hb1⟩ := c_takeK (Γ := gW bs ls n fs (.val l) .un .un .un) (i := 0) (k := true) 2 rfl hb
  obtain ⟨o, bs2, e2, ho, hb2⟩ := c_someW (Γ := gW bs1 ls n fs (.val l) .un .un .un) (i := 0) (j := 1) (k := true) rfl rfl hb1 hn hl
  have s1 : parS [5, 6] [(callB (mkB 1 7 m__law_take) (aCons (vM 0) (aCons (cM (.int 2)) aNil))), (callB (mkB 1 2 m__law_some) (aCons (vM 0) (aCons (vM 1) aNil)))] (gW bs ls n fs (.val l) .un .un .un) = .ok (.nx (gW bs2 ls n fs (.val l) (.val (.int r)) (.val (.int o)) .un)) := by
    unfold parS parM
    rw [e1]
    simp [parM, e2]
  obtain ⟨v, bs3, e3, v0, v1, hb3⟩ := c_take (Γ := gW bs2 ls n fs (.val l) (.val (.int r)) (.val (.int o)) .un) (i := 0) (k := true) (bs := bs2) (m := vM 2) (n := n) rfl rfl hb2 h0 (by omega)
  have hr : rng1M (aCons (callB (mkB 1 7 m__law_take) (aCons (vM 0) (aCons (vM 2) aNil))) aNil) (gW bs2 ls n fs (.val l) (.val (.int r)) (.val (.int o)) .un) = .ok (rngL 0 1 v.toNat, gW bs3 ls n fs (.val l) (.val (.int r)) (.val (.int o)) .un) := rng1_of (ws := [.cl (.int v)]) (by rw [aCons_eq]; simp [e3]) rfl (sml_of (by omega) (by omega))
  obtain ⟨Γ', hq, bs4, fs', hΓ, hb4, hf'⟩ := forG_inv (tgt := tN 7) (body := m__law_word_b1) (ks := [7]) (fun j Γ => ∃ (bs : List D) (fs' : List Int), Γ = gW bs ls n fs' (.val l) (.val (.int r)) (.val (.int o)) .un ∧ Bag bs ∧ Wo ls (k + (j : Int)) fs') (ds := rngL 0 1 v.toNat) (n := 0) (Γ := gW bs3 ls n fs (.val l) (.val (.int r)) (.val (.int o)) .un)
    ⟨bs3, fs, rfl, hb3, by rw [show k + ((0 : Nat) : Int) = k by omega]; exact hf⟩ (fun j d Γ hj hp => by
      obtain ⟨bs, fs, rfl, hb, hf⟩ := hp
      have hj' : j < v.toNat := by
        have := (List.getElem?_eq_some_iff.mp hj).1
        rw [rngL_len] at this
        exact this
      obtain ⟨bs', fs', q, hb', hf'⟩ := word_b1 (n := n) (r := r) (o := o) (l := l) (u := d) hb hn hl ho hf (by omega)
      refine ⟨_, _, rfl, q, bs', fs', rfl, hb', ?_⟩
      rw [show k + ((0 + j + 1 : Nat) : Int) = k + ((0 + j : Nat) : Int) + 1 by push_cast; omega]
      exact hf')
  subst hΓ
  refine ⟨bs4, fs', .val (.int r), .val (.int o), ?_, hb4, ?_, hf'.mem⟩
  · unfold m__law_word_b2
    rw [sk_nx s1]
    exact (forM_of hr).trans hq
  · have := hf'.len
    rw [rngL_len] at this
    omega
theorem word_ok {bs : List D} {ls : List Int} {n : Int} (hb : Bag bs) (hn : ls ≠ []) (hl : ls.length ≤ 1000) (h0 : 0 < n) (h1 : n ≤ 1000) : ∃ (w : List Int) (bs' : List D), mkB 2 8 m__law_word bs [dW ls, .int n] = .ret (dW w) bs' ∧ (w.length : Int) ≤ 4 * (n - 1) ∧ (∀ x ∈ w, x ∈ ls) ∧ Bag bs' := by
  have s1 : m__law_word_s1 [.own true bs, .val (dW ls), .val (.int n), .un, .un, .un, .un, .un] = .ok (.nx (gW bs ls n [] .un .un .un .un)) := by
    unfold m__law_word_s1
    simp
  obtain ⟨u, bs2, e2, u0, u1, hb2⟩ := c_takeK (Γ := gW bs ls n [] .un .un .un .un) (i := 0) (k := true) (bs := bs) 4 rfl hb
  have hr : rng1M (aCons (bin2 D.add (cM (.int 1)) (callB (mkB 1 7 m__law_take) (aCons (vM 0) (aCons (cM (.int 4)) aNil)))) aNil) (gW bs ls n [] .un .un .un .un) = .ok (rngL 0 1 (1 + u).toNat, gW bs2 ls n [] .un .un .un .un) := rng1_of (ws := [.cl (.int (1 + u))]) (by rw [aCons_eq, bin2_eq]; simp [e2]) rfl (sml_of (by omega) (by omega))
  obtain ⟨Γ', hq, bs3, fs, hΓ, hb3, hf⟩ := forG_inv (tgt := tN 4) (body := m__law_word_b2) (ks := [4, 5, 6, 7]) (fun j Γ => ∃ (bs : List D) (fs' : List Int), Γ = gW bs ls n fs' .un .un .un .un ∧ Bag bs ∧ Wo ls ((j : Int) * (n - 1)) fs') (ds := rngL 0 1 (1 + u).toNat) (n := 0) (Γ := gW bs2 ls n [] .un .un .un .un)
    ⟨bs2, [], rfl, hb2, by simp, by simp⟩ (fun j d Γ hj hp => by
      obtain ⟨bs, fs, rfl, hb, hf⟩ := hp
      have hj' : j < (1 + u).toNat := by
        have := (List.getElem?_eq_some_iff.mp hj).1
        rw [rngL_len] at this
        exact this
      have hjn : ((0 + j : Nat) : Int) * (n - 1) ≤ 4 * (n - 1) := Int.mul_le_mul_of_nonneg_right (by omega) (by omega)
      obtain ⟨bs', fs', r, o, q, hb', hf'⟩ := word_b2 (n := n) (l := d) hb hn hl h0 h1 hf (by omega)
      refine ⟨_, _, rfl, q, bs', fs', rfl, hb', ?_⟩
      rw [show ((0 + j + 1 : Nat) : Int) * (n - 1) = ((0 + j : Nat) : Int) * (n - 1) + n - 1 by rw [show ((0 + j + 1 : Nat) : Int) = ((0 + j : Nat) : Int) + 1 by push_cast; rfl, Int.add_mul]; omega]
      exact hf')
  subst hΓ
  have s2 : m__law_word_s2 (gW bs ls n [] .un .un .un .un) = .ok (.nx (gW bs3 ls n fs .un .un .un .un)) := (forM_of hr).trans hq
  have s3 : m__law_word_s3 (gW bs3 ls n fs .un .un .un .un) = .ok (.rt (.cl (dW fs)) (gW bs3 ls n fs .un .un .un .un)) := by
    unfold m__law_word_s3
    simp [dW]
  refine ⟨fs, bs3, (mkB_of (n := 2) (Γ := [.own true bs, .val (dW ls), .val (.int n), .un, .un, .un, .un, .un]) rfl rfl ((sk_nx s1).trans ((sk_nx s2).trans s3))).trans rfl, ?_, hf.mem, hb3⟩
  have := hf.len
  rw [rngL_len] at this
  have h4 : ((0 + (1 + u).toNat : Nat) : Int) * (n - 1) ≤ 4 * (n - 1) := Int.mul_le_mul_of_nonneg_right (by omega) (by omega)
  omega
end G
set_option Elab.async false
set_option linter.all false
set_option maxRecDepth 100000
set_option maxHeartbeats 4000000
namespace G
open PySem PySem.Spec PyProof.Rows L2 Mw LamX KM
theorem e_alike {d : D} {k w : Nat} (h : Sz d k w) (hk : k ≤ 60) (hw : w ≤ 1048576) (hd : D.repr.isDisp d = true) : mkP 2 2 m__law_alike [d, d] = rB true := by
  obtain ⟨z, hz⟩ := repr_sz h hk hw hd
  have h1 := eq_self h (by omega)
  have h2 : D.eq (.str z) (.str z) = some (.cl (.bl true)) := by rw [eq_ss]; simp
  rw [mkP_eq]
  simp [m__law_alike, startG, finR, andM_eq, hz, h1, h2]
theorem ne_dS {s : St3} : D.ne (dS s) (dS s) = some (.cl (.bl false)) := (ne_ti (a := [s.1, s.2.1, s.2.2]) (b := [s.1, s.2.1, s.2.2])).trans (by simp)
theorem bare_ok {bs : List D} {b : Bd} (hb : Bag bs) (h0 : 0 ≤ b.hi) (h1 : b.hi ≤ 1000) : ∃ (s : St3) (bs' : List D), mkB 1 2 m__law_bare bs [dB b] = .ret (dS s) bs' ∧ Nn s ∧ Bag bs' := by
  obtain ⟨p, bs1, e1, p0, p1, hb1⟩ := c_takeK (Γ := [.own true bs, .val (dB b)]) (i := 0) (k := true) 4 rfl hb
  obtain ⟨l, bs2, e2, l0, l1, hb2⟩ := c_take (Γ := [.own true bs1, .val (dB b)]) (i := 0) (k := true) (bs := bs1) (m := (bin2 D.add (bin2 D.ix (vM 1) (cM (.int 1))) (cM (.int 1)))) (n := b.hi + 1) rfl (by simp [dB]) hb1 (by omega) (by omega)
  obtain ⟨c, bs3, e3, c0, c1, hb3⟩ := c_takeK (Γ := [.own true bs2, .val (dB b)]) (i := 0) (k := true) 6 rfl hb2
  have h3 := sz3
  refine ⟨(p, l, c), bs3, ?_, ⟨p0, l0, c0⟩, hb3⟩
  refine (mkB_of (n := 1) (Γ := [.own true bs, .val (dB b)]) (r := .ok (.rt (.cl (dS (p, l, c))) [.own true bs3, .val (dB b)])) rfl rfl ?_).trans rfl
  unfold m__law_bare
  rw [retM_eq, tupM_eq]
  simp [e1, e2, e3, h3, dS]
theorem c_bare {Γ : Gam} {i j : Nat} {k : Bool} {bs : List D} {b : Bd} (hg : Γ[i]? = some (.own k bs)) (hj : Γ[j]? = some (.val (dB b))) (hb : Bag bs) (h0 : 0 ≤ b.hi) (h1 : b.hi ≤ 1000) :
    ∃ (s : St3) (bs' : List D), callB (mkB 1 2 m__law_bare) (aCons (vM i) (aCons (vM j) aNil)) Γ = .ok (.cl (dS s), Γ.set i (.own k bs')) ∧ Nn s ∧ Bag bs' := by
  obtain ⟨d, bs', e, hd, hb'⟩ := bare_ok hb h0 h1
  refine ⟨d, bs', callB_of (ws := [.cl (dB b)]) (ds := [dB b]) ?_ hg rfl e, hd, hb'⟩
  simp [hg, hj]
/-- what is known of the bounds and the word -/
structure Cn (b : Bd) (w : List Int) : Prop where
  ok : okB b = true
  fit : fitW b w = true
  len : w.length ≤ 20
  p1 : ∀ x ∈ w, 1 ≤ x
  hh : ∀ x ∈ w, heldW b [x] = true
theorem Cn.okW {b : Bd} {w : List Int} (C : Cn b w) : okW w = true := by
  have h := C.fit
  unfold fitW at h
  exact (Bool.and_eq_true_iff.mp h).1
theorem Cn.fx {b : Bd} {w : List Int} (C : Cn b w) {x : Int} (hx : x ∈ w) : fitW b [x] = true := by
  have h := C.fit
  unfold fitW G.okW at h ⊢
  simp only [Bool.and_eq_true, decide_eq_true_eq, List.all_eq_true] at h
  have h1 := h.1.2 x hx
  have h2 := h.2 x hx
  simp [h1, h2]
theorem Cn.take {b : Bd} {w : List Int} (C : Cn b w) (j : Nat) : Cn b (w.take j) := by
  have h := C.fit
  have hm : ∀ x, x ∈ w.take j → x ∈ w := fun x hx => List.mem_of_mem_take hx
  have hl : (w.take j).length ≤ 20 := by
    rw [List.length_take]
    have := C.len
    omega
  refine ⟨C.ok, ?_, hl, fun x hx => C.p1 x (hm x hx), fun x hx => C.hh x (hm x hx)⟩
  unfold fitW G.okW at h ⊢
  simp only [Bool.and_eq_true, decide_eq_true_eq, List.all_eq_true] at h ⊢
  exact ⟨⟨by omega, fun x hx => h.1.2 x (hm x hx)⟩, fun x hx => h.2 x (hm x hx)⟩
theorem Cn.pos {b : Bd} {w : List Int} (C : Cn b w) : Pos w := fun x hx => by have := C.p1 x hx; omega
/-! pages in hand -/
structure PgR (b : Bd) (F : St3) (pg : List Int) : Prop where
  n : 0 ≤ F.1
  l : F.2.1 = pg.sum
  e : F.2.2 = n1 b pg
  p : 0 < F.1 ↔ pg ≠ []
theorem n1_snoc {b : Bd} {u : List Int} {x : Int} : n1 b (u ++ [x]) = n1 b u + b.one := by
  unfold n1
  rw [List.length_append, List.length_singleton]
  push_cast
  rw [Int.mul_add, Int.mul_one]
theorem n1_one {b : Bd} {x : Int} : n1 b [x] = b.one := by
  unfold n1
  simp
def nextP (b : Bd) (pg : List Int) (x : Int) : List Int := if pg ≠ [] ∧ heldW b (pg ++ [x]) = true then pg ++ [x] else [x]
theorem pg_step {b : Bd} {F : St3} {pg : List Int} {x : Int} (h : PgR b F pg) : PgR b (b.filled F x) (nextP b pg x) := by
  have e1 : F.2.1 + x = (pg ++ [x]).sum := by rw [List.sum_append, h.l]; simp
  have e2 : F.2.2 + b.one = n1 b (pg ++ [x]) := by rw [n1_snoc, h.e]
  have hn := h.n
  unfold Bd.filled nextP
  rw [e1, e2, held_n1]
  by_cases c : heldW b (pg ++ [x]) = true
  · by_cases c2 : pg ≠ []
    · rw [if_pos ⟨h.p.mpr c2, c⟩, if_pos ⟨c2, c⟩]
      exact ⟨h.n, rfl, rfl, by simp; have := h.p.mpr c2; omega⟩
    · rw [if_neg (fun z => c2 (h.p.mp z.1)), if_neg (fun z => c2 z.1)]
      exact ⟨by show 0 ≤ F.1 + 1; omega, by simp, n1_one.symm, by simp; omega⟩
  · rw [if_neg (fun z => c z.2), if_neg (fun z => c z.2)]
    exact ⟨by show 0 ≤ F.1 + 1; omega, by simp, n1_one.symm, by simp; omega⟩
structure OpR (b : Bd) (F : St3) (op : List Int) : Prop where
  l : F.2.1 = op.sum
  e : F.2.2 = n1 b op
def nextO (b : Bd) (op : List Int) (x : Int) : List Int := if enoughW b (op ++ [x]) = true then [] else op ++ [x]
theorem op_step {b : Bd} {F : St3} {op : List Int} {x : Int} (h : OpR b F op) : OpR b (b.closed F x) (nextO b op x) := by
  have e1 : F.2.1 + x = (op ++ [x]).sum := by rw [List.sum_append, h.l]; simp
  have e2 : F.2.2 + b.one = n1 b (op ++ [x]) := by rw [n1_snoc, h.e]
  unfold Bd.closed nextO
  rw [e1, e2, enough_n1]
  by_cases c : enoughW b (op ++ [x]) = true
  · rw [if_pos c, if_pos c]
    exact ⟨rfl, by simp [n1]⟩
  · rw [if_neg c, if_neg c]
    exact ⟨rfl, rfl⟩
theorem full_snoc {b : Bd} {s : St3} {w : List Int} {x : Int} : full b s (w ++ [x]) = b.filled (full b s w) x := by rw [full_append]; rfl
theorem soon_snoc {b : Bd} {s : St3} {w : List Int} {x : Int} : soon b s (w ++ [x]) = b.closed (soon b s w) x := by rw [soon_append]; rfl
theorem pg_len {b : Bd} {pg : List Int} {x : Int} : (nextP b pg x).length ≤ pg.length + 1 := by
  unfold nextP
  split <;> simp
theorem op_len {b : Bd} {pg : List Int} {x : Int} : (nextO b pg x).length ≤ pg.length + 1 := by
  unfold nextO
  split <;> simp
theorem heldW_len {b : Bd} (h : ∀ (p r : Int), b.sl = some (p, r) → 1 ≤ p) {x : Int} (hx : x ≤ b.hi) : heldW b [x] = true := by
  unfold heldW Bd.held
  obtain ⟨lo, hi, sl⟩ := b
  simp only [List.sum_cons, List.sum_nil, Int.add_zero, List.length_singleton]
  rw [decide_eq_true hx]
  rcases sl with _ | ⟨p, r⟩
  · rfl
  · have := h p r rfl
    simp
    omega
end G
set_option Elab.async false
set_option linter.all false
set_option maxRecDepth 100000
set_option maxHeartbeats 4000000
namespace G
open PySem PySem.Spec PyProof.Rows L2 Mw LamX KM
variable {K : PySem.W.Frag}
abbrev gA (s0 : Sl) (bs : List D) (ls : List Int) (b : Bd) (w : List Int) (lk : Sl) (F So : St3) (pg op : List Int) (at' l h c : Sl) : Gam :=
  [s0, .own false bs, .val (dW ls), .val (dB b), .val (dW w), lk, .val (dS F), .val (dS So), .val (dW pg), .val (dW op), at', l, h, c, .un, .un, .un, .un, .un, .un, .un, .un, .un, .un, .un, .un]
theorem ne_word {u v : List Int} : D.ne (dW u) (dW v) = some (.cl (.bl (!decide (u = v)))) := ne_ti
theorem ne_word0 {u : List Int} : D.ne (.tup (u.map .int)) (.tup []) = some (.cl (.bl (!decide (u = [])))) := ne_ti (b := [])
theorem add_w {u : List Int} {x : Int} (h : u.length ≤ 1000) : D.add (.tup (u.map .int)) (.tup [.int x]) = some (.cl (.tup ((u ++ [x]).map .int))) := by
  rw [List.map_append]
  exact add_tt (szK (by rw [List.length_map, List.length_singleton]; omega))
section
variable {s0 lk : Sl} {bs : List D} {ls w : List Int} {b : Bd} {F So : St3} {pg op : List Int} {j : Nat} {x : Int} {z : Nat}
theorem a1 (hp : pg.length ≤ 20) {a1 h1 c1 : Sl} :
    asgM 8 (ifM (andT (tstB (bin2 D.ne (vM 8) (tupM aNil))) (tstM (callP (mkP 2 2 m__law_holds) (aCons (vM 3) (aCons (bin2 D.add (vM 8) (tupM (aCons (vM 11) aNil))) aNil))))) (bin2 D.add (vM 8) (tupM (aCons (vM 11) aNil))) (tupM (aCons (vM 11) aNil))) (gA s0 bs ls b w lk F So pg op a1 (.val (.int x)) h1 c1)
      = .ok (.nx (gA s0 bs ls b w lk F So (nextP b pg x) op a1 (.val (.int x)) h1 c1)) := by
  have hz0 := szK (n := 0) (by omega)
  have hz1 := szK (n := 1) (by omega)
  have hne := ne_word0 (u := pg)
  have hadd := add_w (u := pg) (x := x) (by omega)
  have hh := e_law_holds b (pg ++ [x])
  refine (asg_cl (d := dW (nextP b pg x)) (Γ1 := gA s0 bs ls b w lk F So pg op a1 (.val (.int x)) h1 c1) ?_ (by simp)).trans rfl
  rw [ifM_eq]
  unfold nextP
  unfold dW at hh
  by_cases c1 : pg = []
  · subst c1
    have hne0 : D.ne (.tup []) (.tup []) = some (.cl (.bl false)) := ne_word0 (u := [])
    simp [-List.map_append, callP_eq, dW, hne0, hz0, hz1]
  · cases c2 : heldW b (pg ++ [x]) with
    | true =>
      rw [c2] at hh
      simp [-List.map_append, callP_eq, dW, hne, hz0, hz1, c1, hadd, hh]
    | false =>
      rw [c2] at hh
      simp [-List.map_append, callP_eq, dW, hne, hz0, hz1, c1, hadd, hh]
theorem a2 (C : Cn b w) (hx : x ∈ w) (hF : okS F = true) {a1 h1 c1 : Sl} :
    asgM 6 (callP (mkP 3 3 m_full_step) (aCons (vM 3) (aCons (vM 6) (aCons (vM 11) aNil)))) (gA s0 bs ls b w lk F So pg op a1 (.val (.int x)) h1 c1) = .ok (.nx (gA s0 bs ls b w lk (b.filled F x) So pg op a1 (.val (.int x)) h1 c1)) := by
  have hs := e_full_step b F x C.ok (C.fx hx) hF
  refine (asg_cl (d := dS (b.filled F x)) (Γ1 := gA s0 bs ls b w lk F So pg op a1 (.val (.int x)) h1 c1) ?_ (by simp)).trans rfl
  exact callP_cl (ws := [.cl (dB b), .cl (dS F), .cl (.int x)]) (ds := [dB b, dS F, .int x]) (by simp) rfl rfl hs
theorem a5 (C : Cn b w) (hx : x ∈ w) (hF : okS So = true) {a1 h1 c1 : Sl} :
    asgM 7 (callP (mkP 3 3 m_soon_step) (aCons (vM 3) (aCons (vM 7) (aCons (vM 11) aNil)))) (gA s0 bs ls b w lk F So pg op a1 (.val (.int x)) h1 c1) = .ok (.nx (gA s0 bs ls b w lk F (b.closed So x) pg op a1 (.val (.int x)) h1 c1)) := by
  have hs := e_soon_step b So x C.ok (C.fx hx) hF
  refine (asg_cl (d := dS (b.closed So x)) (Γ1 := gA s0 bs ls b w lk F So pg op a1 (.val (.int x)) h1 c1) ?_ (by simp)).trans rfl
  exact callP_cl (ws := [.cl (dB b), .cl (dS So), .cl (.int x)]) (ds := [dB b, dS So, .int x]) (by simp) rfl rfl hs
theorem a3 (hp : op.length ≤ 20) {a1 h1 c1 : Sl} :
    asgM 9 (bin2 D.add (vM 9) (tupM (aCons (vM 11) aNil))) (gA s0 bs ls b w lk F So pg op a1 (.val (.int x)) h1 c1) = .ok (.nx (gA s0 bs ls b w lk F So pg (op ++ [x]) a1 (.val (.int x)) h1 c1)) := by
  have hz1 := szK (n := 1) (by omega)
  have hadd := add_w (u := op) (x := x) (by omega)
  refine (asg_cl (d := dW (op ++ [x])) (Γ1 := gA s0 bs ls b w lk F So pg op a1 (.val (.int x)) h1 c1) ?_ (by simp)).trans rfl
  simp [-List.map_append, dW, hz1, hadd]
theorem a4 {a1 h1 c1 l : Sl} : asgM 9 (ifM (tstM (callP (mkP 2 2 m__law_enough) (aCons (vM 3) (aCons (vM 9) aNil)))) (tupM aNil) (vM 9)) (gA s0 bs ls b w lk F So pg op a1 l h1 c1) = .ok (.nx (gA s0 bs ls b w lk F So pg (if enoughW b op = true then [] else op) a1 l h1 c1)) := by
  have hz0 := szK (n := 0) (by omega)
  have hh := e_law_enough b op
  refine (asg_cl (d := dW (if enoughW b op = true then [] else op)) (Γ1 := gA s0 bs ls b w lk F So pg op a1 l h1 c1) ?_ (by simp)).trans rfl
  rw [ifM_eq]
  unfold dW at hh
  cases c2 : enoughW b op with
  | true => rw [c2] at hh; simp [callP_eq, dW, hh, hz0]
  | false => rw [c2] at hh; simp [callP_eq, dW, hh, hz0]
theorem a6 (hj : j + 1 ≤ w.length) {l c1 h1 : Sl} : asgM 12 (sl3 D.sl (vM 4) oNone (oSome (bin2 D.add (vM 10) (cM (.int 1))))) (gA s0 bs ls b w lk F So pg op (.val (.int (j : Int))) l h1 c1) = .ok (.nx (gA s0 bs ls b w lk F So pg op (.val (.int (j : Int))) l (.val (dW (w.take (j + 1)))) c1)) := by
  have hc : Mw.cutD (w.map D.int) none (some ((j : Int) + 1)) = (w.take (j + 1)).map D.int := by
    rw [cutD_map, show (j : Int) + 1 = ((j + 1 : Nat) : Int) by push_cast; rfl, sIx_k (k := j + 1) (dflt := w.length) hj, HT.sIx_none, List.drop_zero, Nat.sub_zero]
  refine (asg_cl (d := dW (w.take (j + 1))) (Γ1 := gA s0 bs ls b w lk F So pg op (.val (.int (j : Int))) l h1 c1) ?_ (by simp)).trans rfl
  simp [-List.map_take, dW, hc]
def cntA (b : Bd) : D → D
  | .tup ds => .int (b.one * (ds.length : Int))
  | _ => .non
theorem a7 {a1 l h1 : Sl} : asgM 13 (lcM (seqM (tupM (aCons (vM 8) (aCons (vM 9) aNil)))) (tN 23) yesT (ifM (tstB (bin2 D.notN (bin2 D.ix (vM 3) (cM (.int 2))) (cM .non))) (callN D.len (aCons (vM 23) aNil)) (cM (.int 0))) [23]) (gA s0 bs ls b w lk F So pg op a1 l h1 .un)
    = .ok (.nx (gA s0 bs ls b w lk F So pg op a1 l h1 (.own false [.int (n1 b pg), .int (n1 b op)]))) := by
  have hz2 := szK (n := 2) (by omega)
  refine (asg_fr (ds := [.int (n1 b pg), .int (n1 b op)]) (Γ1 := gA s0 bs ls b w lk F So pg op a1 l h1 .un) ?_ (by simp)).trans rfl
  have e : [D.int (n1 b pg), .int (n1 b op)] = [dW pg, dW op].map (cntA b) := by
    simp [cntA, dW, n1]
  rw [e]
  refine lcM_map (ds := [dW pg, dW op]) (cntA b) (by simp [hz2]) (.inl rfl) hz2 fun d hd => ?_
  have hu : ∃ u, d = dW u := by
    rcases List.mem_cons.mp hd with h | h
    · exact ⟨pg, h⟩
    · exact ⟨op, by simpa using h⟩
  obtain ⟨u, rfl⟩ := hu
  obtain ⟨lo, hi, sl⟩ := b
  rw [clM_eq, ifM_eq]
  rcases sl with _ | ⟨p, r⟩ <;> simp [dB, dSl, dW, cntA, Bd.one]
theorem a8 (C : Cn b w) (hj : j + 1 ≤ w.length) (hF : F = full b (0, 0, 0) (w.take (j + 1))) (hS : So = soon b (0, 0, 0) (w.take (j + 1))) (hp : PgR b F pg) (ho : OpR b So op) {a1 l : Sl} :
    ifS (orT (tstB (bin2 D.ne (vM 6) (tupM (aCons (callP (mkP 2 6 m__law_fewest) (aCons (vM 3) (aCons (vM 12) aNil))) (aCons (callN D.sum (aCons (vM 8) aNil)) (aCons (bin2 D.ix (vM 13) (cM (.int 0))) aNil)))))) (tstB (bin2 D.ne (vM 7) (tupM (aCons (callP (mkP 2 6 m__law_most) (aCons (vM 3) (aCons (vM 12) aNil))) (aCons (callN D.sum (aCons (vM 9) aNil)) (aCons (bin2 D.ix (vM 13) (cM (.int 1))) aNil))))))) (retM (cM (.bl false))) nxM
      (gA s0 bs ls b w lk F So pg op a1 l (.val (dW (w.take (j + 1)))) (.own false [.int (n1 b pg), .int (n1 b op)]))
    = .ok (.nx (gA s0 bs ls b w lk F So pg op a1 l (.val (dW (w.take (j + 1)))) (.own false [.int (n1 b pg), .int (n1 b op)]))) := by
  have hz3 := szK (n := 3) (by omega)
  have Ct := C.take (j + 1)
  have hf := e_fewest b (w.take (j + 1)) Ct.p1 Ct.hh (by have := Ct.len; omega)
  have hm := e_most b (w.take (j + 1)) Ct.p1 (by have := Ct.len; omega)
  have e1 : D.ne (dS F) (.tup [.int (KM.G b (w.take (j + 1))), .int pg.sum, .int (n1 b pg)]) = some (.cl (.bl false)) := by
    rw [← hp.l, ← hp.e, show KM.G b (w.take (j + 1)) = F.1 by rw [hF]; rfl]
    exact ne_dS
  have e2 : D.ne (dS So) (.tup [.int (KM.S b (w.take (j + 1))), .int op.sum, .int (n1 b op)]) = some (.cl (.bl false)) := by
    rw [← ho.l, ← ho.e, show KM.S b (w.take (j + 1)) = So.1 by rw [hS]; rfl]
    exact ne_dS
  have hsp : D.sum [dW pg] = some (.cl (.int pg.sum)) := sum_t
  have hso : D.sum [dW op] = some (.cl (.int op.sum)) := sum_t
  refine (if_f (Γ1 := gA s0 bs ls b w lk F So pg op a1 l (.val (dW (w.take (j + 1)))) (.own false [.int (n1 b pg), .int (n1 b op)])) ?_).trans rfl
  rw [orT_eq, tstB_eq, bin2_eq]
  simp [callP_eq, hf, hm, hz3, hsp, hso, e1, e2]
theorem a9 (A : Ap K) (C : Cn b w) (hj : j + 1 ≤ w.length) (hF : F = full b (0, 0, 0) (w.take (j + 1))) (hS : So = soon b (0, 0, 0) (w.take (j + 1))) {a1 l c1 : Sl} :
    ifS (orT (tstB (bin2 D.ne (vM 6) (callP (mkP 2 2 (m_full_standing K)) (aCons (vM 3) (aCons (vM 12) aNil))))) (tstB (bin2 D.ne (vM 7) (callP (mkP 2 2 (m_soon_standing K)) (aCons (vM 3) (aCons (vM 12) aNil)))))) (retM (cM (.bl false))) nxM (gA s0 bs ls b w lk F So pg op a1 l (.val (dW (w.take (j + 1)))) c1)
    = .ok (.nx (gA s0 bs ls b w lk F So pg op a1 l (.val (dW (w.take (j + 1)))) c1)) := by
  have Ct := C.take (j + 1)
  have hf := e_full_standing (K := K) b (w.take (j + 1)) Ct.ok Ct.fit
  have hm := e_soon_standing A b (w.take (j + 1)) Ct.ok Ct.fit
  rw [← hF] at hf
  rw [← hS] at hm
  refine (if_f (Γ1 := gA s0 bs ls b w lk F So pg op a1 l (.val (dW (w.take (j + 1)))) c1) ?_).trans rfl
  rw [orT_eq, tstB_eq, bin2_eq]
  simp [callP_eq, hf, hm, ne_dS]
theorem a_body (A : Ap K) (C : Cn b w) (hj : w[j]? = some x) (hF : F = full b (0, 0, 0) (w.take j)) (hS : So = soon b (0, 0, 0) (w.take j)) (hp : PgR b F pg) (ho : OpR b So op) (hpl : pg.length ≤ j) (hol : op.length ≤ j) :
    ∃ h c, m_law_b1 K z (gA s0 bs ls b w lk F So pg op (.val (.int (j : Int))) (.val (.int x)) .un .un) = .ok (.nx (gA s0 bs ls b w lk (b.filled F x) (b.closed So x) (nextP b pg x) (nextO b op x) (.val (.int (j : Int))) (.val (.int x)) h c)) := by
  have hjl : j < w.length := (List.getElem?_eq_some_iff.mp hj).1
  have hxm : x ∈ w := List.mem_of_getElem? hj
  have hl := C.len
  have htk : w.take (j + 1) = w.take j ++ [x] := by
    rw [List.take_succ_eq_append_getElem hjl]
    rw [List.getElem?_eq_getElem hjl] at hj
    cases hj
    rfl
  have hF' : b.filled F x = full b (0, 0, 0) (w.take (j + 1)) := by rw [htk, full_snoc, hF]
  have hS' : b.closed So x = soon b (0, 0, 0) (w.take (j + 1)) := by rw [htk, soon_snoc, hS]
  have pt : Pos (w.take j) := (C.take j).pos
  have oF : okS F = true := okS_of (by rw [hF]; exact nn_full ⟨Int.le_refl _, Int.le_refl _, Int.le_refl _⟩ pt)
  have oS : okS So = true := okS_of (by rw [hS]; exact nn_soon ⟨Int.le_refl _, Int.le_refl _, Int.le_refl _⟩ pt)
  refine ⟨.val (dW (w.take (j + 1))), .own false [.int (n1 b (nextP b pg x)), .int (n1 b (nextO b op x))], ?_⟩
  unfold m_law_b1
  have ho' : (if enoughW b (op ++ [x]) = true then [] else op ++ [x]) = nextO b op x := rfl
  rw [sk_nx (a1 (by omega)), sk_nx (a2 C hxm oF), sk_nx (a3 (by omega)), sk_nx a4, ho', sk_nx (a5 C hxm oS), sk_nx (a6 (by omega)), sk_nx a7, sk_nx (a8 C (by omega) hF' hS' (pg_step hp) (op_step ho))]
  exact a9 A C (by omega) hF' hS'
theorem enum_get {ds : List D} {j : Nat} {d : D} (h : (enumL ds)[j]? = some d) : ∃ x, ds[j]? = some x ∧ d = .tup [.int (j : Int), x] := by
  unfold enumL at h
  rw [List.getElem?_zipWith] at h
  by_cases hj : j < ds.length
  · rw [List.getElem?_range hj] at h
    cases q : ds[j]? with
    | none => rw [q] at h; cases h
    | some x => rw [q] at h; cases h; exact ⟨x, rfl, rfl⟩
  · rw [List.getElem?_eq_none (by omega : ds.length ≤ j)] at h
    cases z : (List.range ds.length)[j]? <;> rw [z] at h <;> cases h
theorem enum_len {ds : List D} : (enumL ds).length = ds.length := by
  unfold enumL
  rw [List.length_zipWith, List.length_range, Nat.min_self]
theorem s9_ok (A : Ap K) (C : Cn b w) : ∃ F So pg op, m_law_s9 K z (gA s0 bs ls b w lk (0, 0, 0) (0, 0, 0) [] [] .un .un .un .un) = .ok (.nx (gA s0 bs ls b w lk F So pg op .un .un .un .un)) := by
  have hm : enumM (vM 4) (gA s0 bs ls b w lk (0, 0, 0) (0, 0, 0) [] [] .un .un .un .un) = .ok (enumL (w.map .int), gA s0 bs ls b w lk (0, 0, 0) (0, 0, 0) [] [] .un .un .un .un) := by
    unfold enumM
    simp [dW]
  obtain ⟨Γ', hq, F, So, pg, op, hΓ, -⟩ := forG_inv (tgt := tT [10, 11]) (body := m_law_b1 K z) (ks := [10, 11, 12, 13]) (fun j Γ => ∃ F So pg op, Γ = gA s0 bs ls b w lk F So pg op .un .un .un .un ∧ F = full b (0, 0, 0) (w.take j) ∧ So = soon b (0, 0, 0) (w.take j) ∧ PgR b F pg ∧ OpR b So op ∧ pg.length ≤ j ∧ op.length ≤ j)
    (ds := enumL (w.map .int)) (n := 0) (Γ := gA s0 bs ls b w lk (0, 0, 0) (0, 0, 0) [] [] .un .un .un .un)
    ⟨(0, 0, 0), (0, 0, 0), [], [], rfl, rfl, rfl, ⟨Int.le_refl _, rfl, by simp [n1], by simp⟩, ⟨rfl, by simp [n1]⟩, Nat.le_refl _, Nat.le_refl _⟩ (fun j d Γ hj hp => by
      rw [Nat.zero_add] at hp ⊢
      obtain ⟨F, So, pg, op, rfl, hF, hS, hp, ho, hpl, hol⟩ := hp
      obtain ⟨y, hy, rfl⟩ := enum_get hj
      rw [List.getElem?_map] at hy
      cases q : w[j]? with
      | none => rw [q] at hy; cases hy
      | some x =>
        rw [q] at hy
        cases hy
        have hjl : j < w.length := (List.getElem?_eq_some_iff.mp q).1
        have htk : w.take (j + 1) = w.take j ++ [x] := by
          rw [List.take_succ_eq_append_getElem hjl]
          rw [List.getElem?_eq_getElem hjl] at q
          cases q
          rfl
        obtain ⟨h, c, e⟩ := a_body (s0 := s0) (lk := lk) (bs := bs) (ls := ls) (z := z) A C q hF hS hp ho hpl hol
        refine ⟨_, _, rfl, e, b.filled F x, b.closed So x, nextP b pg x, nextO b op x, rfl, by rw [htk, full_snoc, hF], by rw [htk, soon_snoc, hS], pg_step hp, op_step ho, ?_, ?_⟩
        · have := pg_len (b := b) (pg := pg) (x := x); omega
        · have := op_len (b := b) (pg := op) (x := x); omega)
  subst hΓ
  refine ⟨F, So, pg, op, ?_⟩
  unfold m_law_s9
  exact (forM_of hm).trans hq
end
end G
set_option Elab.async false
set_option linter.all false
set_option maxRecDepth 100000
set_option maxHeartbeats 4000000
namespace G
open PySem PySem.Spec PyProof.Rows L2 Mw LamX KM
variable {K : PySem.W.Frag}
/-- the law's slots behind the first loop -/
abbrev gB (s0 : Sl) (bs : List D) (ls : List Int) (b : Bd) (w : List Int) (lk s6 s7 s8 s9 s10 s11 s12 s13 s14 s15 s16 s17 s18 s19 : Sl) : Gam :=
  [s0, .own false bs, .val (dW ls), .val (dB b), .val (dW w), lk, s6, s7, s8, s9, s10, s11, s12, s13, s14, s15, s16, s17, s18, s19, .un, .un, .un, .un, .un, .un]
section
variable {s0 lk s6 s7 s8 s9 s10 s11 s12 s13 s14 s15 s16 s17 s18 s19 : Sl} {bs : List D} {ls w : List Int} {b : Bd} {z : Nat}
theorem b2_ok (A : Ap K) (C : Cn b w) {m : Int} (hm : 0 ≤ m) : m_law_b2 K z (gB s0 bs ls b w lk s6 s7 s8 s9 s10 s11 s12 s13 (.val (.int m)) s15 s16 s17 s18 s19) = .ok (.nx (gB s0 bs ls b w lk s6 s7 s8 s9 s10 s11 s12 s13 (.val (.int m)) s15 s16 s17 s18 s19)) := by
  have h1 := e_is_split A b w m C.ok C.fit hm
  have h2 := e_most b w C.p1 (by have := C.len; omega)
  have h3 := e_fewest b w C.p1 C.hh (by have := C.len; omega)
  unfold m_law_b2
  refine (if_f (Γ1 := gB s0 bs ls b w lk s6 s7 s8 s9 s10 s11 s12 s13 (.val (.int m)) s15 s16 s17 s18 s19) ?_).trans rfl
  rw [tstB_eq, bin2_eq]
  by_cases c : KM.S b w ≤ m
  · by_cases c2 : m < KM.G b w
    · simp [callP_eq, h1, h2, h3, c, c2]
    · simp [callP_eq, h1, h2, h3, c, c2]
  · simp [callP_eq, h1, h2, h3, c]
theorem s10_ok (A : Ap K) (C : Cn b w) : m_law_s10 K z (gB s0 bs ls b w lk s6 s7 s8 s9 s10 s11 s12 s13 .un s15 s16 s17 s18 s19) = .ok (.nx (gB s0 bs ls b w lk s6 s7 s8 s9 s10 s11 s12 s13 .un s15 s16 s17 s18 s19)) := by
  have hr : rng1M (aCons (cM (.int 4)) aNil) (gB s0 bs ls b w lk s6 s7 s8 s9 s10 s11 s12 s13 .un s15 s16 s17 s18 s19) = .ok (rngL 0 1 (4 : Int).toNat, gB s0 bs ls b w lk s6 s7 s8 s9 s10 s11 s12 s13 .un s15 s16 s17 s18 s19) := rng1_of (ws := [.cl (.int 4)]) (by simp) rfl (sml_of (by omega) (by omega))
  obtain ⟨Γ', hq, hΓ⟩ := forG_inv (tgt := tN 14) (body := m_law_b2 K z) (ks := [14]) (fun j Γ => Γ = gB s0 bs ls b w lk s6 s7 s8 s9 s10 s11 s12 s13 .un s15 s16 s17 s18 s19) (ds := rngL 0 1 (4 : Int).toNat) (n := 0) (Γ := gB s0 bs ls b w lk s6 s7 s8 s9 s10 s11 s12 s13 .un s15 s16 s17 s18 s19) rfl (fun j d Γ hj hp => by
    subst hp
    obtain ⟨i, hi, rfl⟩ := mem_up (List.mem_of_getElem? hj)
    exact ⟨_, _, rfl, b2_ok A C (by omega), rfl⟩)
  subst hΓ
  unfold m_law_s10
  exact (forM_of hr).trans hq
/-! the draws of standings -/
theorem max0 {a : Int} : D.max [.int a, .int 0] = some (.cl (.int (if 0 > a then 0 else a))) := rfl
theorem bare_st {o : St3} {t u : Int} (ho : Nn o) : Nn (o.1, (if 0 > o.2.1 - t then 0 else o.2.1 - t), (if 0 > o.2.2 - u then 0 else o.2.2 - u)) := by
  refine ⟨ho.p, ?_, ?_⟩
  · show 0 ≤ if 0 > o.2.1 - t then 0 else o.2.1 - t
    split <;> omega
  · show 0 ≤ if 0 > o.2.2 - u then 0 else o.2.2 - u
    split <;> omega
def stepA (b : Bd) (x : Int) (f : Bool) : D → D
  | .tup [.int p, .int l, .int e] => dS (if f then b.filled (p, l, e) x else b.closed (p, l, e) x)
  | _ => .non
abbrev gC (s0 : Sl) (bs : List D) (ls : List Int) (b : Bd) (w : List Int) (lk s6 s7 s8 s9 s10 s11 s12 s13 s14 s15 s16 s17 s18 s19 s23 s24 s25 : Sl) : Gam :=
  [s0, .own false bs, .val (dW ls), .val (dB b), .val (dW w), lk, s6, s7, s8, s9, s10, s11, s12, s13, s14, s15, s16, s17, s18, s19, .un, .un, .un, s23, s24, s25]
theorem step_row (A : Ap K) (C : Cn b w) {x : Int} (hx : fitW b [x] = true) {o t : St3} (ho : Nn o) (ht : Nn t) (f : Bool) (s : D) (hs : s = .ref (He.ga K (if f then "full_step" else "soon_step"))) :
    lcM (seqM (tupM (aCons (vM 16) (aCons (vM 17) aNil)))) (tN 23) yesT (callL 24 [((He.ga K "full_step"), (mkP 3 3 m_full_step)), ((He.ga K "soon_step"), (mkP 3 3 m_soon_step))] (aCons (vM 3) (aCons (vM 23) (aCons (vM 11) aNil)))) [23]
      (gC s0 bs ls b w lk s6 s7 s8 s9 s10 (.val (.int x)) s12 s13 s14 s15 (.val (dS o)) (.val (dS t)) s18 s19 .un (.val s) .un)
    = .ok (.fr [stepA b x f (dS o), stepA b x f (dS t)], gC s0 bs ls b w lk s6 s7 s8 s9 s10 (.val (.int x)) s12 s13 s14 s15 (.val (dS o)) (.val (dS t)) s18 s19 .un (.val s) .un) := by
  have hz2 := szK (n := 2) (by omega)
  refine lcM_map (ds := [dS o, dS t]) (stepA b x f) (by simp [hz2]) (.inl rfl) hz2 fun d hd => ?_
  have hu : ∃ u, d = dS u ∧ Nn u := by
    rcases List.mem_cons.mp hd with h | h
    · exact ⟨o, h, ho⟩
    · exact ⟨t, by simpa using h, ht⟩
  obtain ⟨u, rfl, hu⟩ := hu
  have h1 := e_full_step b u x C.ok hx (okS_of hu)
  have h2 := e_soon_step b u x C.ok hx (okS_of hu)
  subst hs
  have hne : (He.ga K "soon_step" == He.ga K "full_step") = false := beq_eq_false_iff_ne.mpr A.fs
  cases f with
  | true =>
    have e : stepA b x true (dS u) = dS (b.filled u x) := rfl
    rw [e, clM_eq]
    unfold callL
    simp [callP_eq, h1]
  | false =>
    have e : stepA b x false (dS u) = dS (b.closed u x) := rfl
    rw [e, clM_eq]
    unfold callL
    simp [callP_eq, h2, List.lookup_cons, hne]
def rowA (b : Bd) (x : Int) (o t : St3) (K : PySem.W.Frag) : D → D
  | .ref a => if a = He.ga K "full_step" then .lst [stepA b x true (dS o), stepA b x true (dS t)] else .lst [stepA b x false (dS o), stepA b x false (dS t)]
  | _ => .non
theorem steps_ok (A : Ap K) (C : Cn b w) {x : Int} (hx : fitW b [x] = true) {o t : St3} (ho : Nn o) (ht : Nn t) :
    lcM (seqM (tupM (aCons (cM (.ref (He.ga K "full_step"))) (aCons (cM (.ref (He.ga K "soon_step"))) aNil)))) (tN 24) yesT (lcM (seqM (tupM (aCons (vM 16) (aCons (vM 17) aNil)))) (tN 23) yesT (callL 24 [((He.ga K "full_step"), (mkP 3 3 m_full_step)), ((He.ga K "soon_step"), (mkP 3 3 m_soon_step))] (aCons (vM 3) (aCons (vM 23) (aCons (vM 11) aNil)))) [23]) [24]
      (gB s0 bs ls b w lk s6 s7 s8 s9 s10 (.val (.int x)) s12 s13 s14 s15 (.val (dS o)) (.val (dS t)) s18 s19)
    = .ok (.fr [.lst [dS (b.filled o x), dS (b.filled t x)], .lst [dS (b.closed o x), dS (b.closed t x)]], gB s0 bs ls b w lk s6 s7 s8 s9 s10 (.val (.int x)) s12 s13 s14 s15 (.val (dS o)) (.val (dS t)) s18 s19) := by
  have hz2 := szK (n := 2) (by omega)
  have e : [D.lst [dS (b.filled o x), dS (b.filled t x)], .lst [dS (b.closed o x), dS (b.closed t x)]] = [D.ref (He.ga K "full_step"), .ref (He.ga K "soon_step")].map (rowA b x o t K) := by
    have hne := A.fs
    simp [rowA, hne]
    exact ⟨⟨rfl, rfl⟩, rfl, rfl⟩
  rw [e]
  refine lcM_map (ds := [D.ref (He.ga K "full_step"), .ref (He.ga K "soon_step")]) (rowA b x o t K) (by simp [hz2]) (.inl rfl) hz2 fun d hd => ?_
  rcases List.mem_cons.mp hd with h | h
  · subst h
    have q := step_row (s0 := s0) (lk := lk) (bs := bs) (ls := ls) (s6 := s6) (s7 := s7) (s8 := s8) (s9 := s9) (s10 := s10) (s12 := s12) (s13 := s13) (s14 := s14) (s15 := s15) (s18 := s18) (s19 := s19) A C hx ho ht true _ rfl
    rw [clM_eq]
    refine (congrArg (fun r => R.bind r _) q).trans ?_
    simp [rowA]
  · have h : d = .ref (He.ga K "soon_step") := by simpa using h
    subst h
    have hne := A.fs
    have q := step_row (s0 := s0) (lk := lk) (bs := bs) (ls := ls) (s6 := s6) (s7 := s7) (s8 := s8) (s9 := s9) (s10 := s10) (s12 := s12) (s13 := s13) (s14 := s14) (s15 := s15) (s18 := s18) (s19 := s19) A C hx ho ht false _ rfl
    rw [clM_eq]
    refine (congrArg (fun r => R.bind r _) q).trans ?_
    simp [rowA, hne]
end
end G
set_option Elab.async false
set_option linter.all false
set_option maxRecDepth 100000
set_option maxHeartbeats 4000000
namespace G
open PySem PySem.Spec PyProof.Rows L2 Mw LamX KM
variable {K : PySem.W.Frag}
section
variable {s0 lk s6 s7 s8 s9 s10 s11 s12 s13 s14 s15 s16 s17 s18 s19 : Sl} {bs : List D} {ls w : List Int} {b : Bd} {z : Nat}
theorem d1 (hb : Bag bs) (hb0 : 0 ≤ b.hi) (hb1 : b.hi ≤ 1000) (hn : ls ≠ []) (hl : ls.length ≤ 1000) : ∃ (o t : St3) (x : Int) (bs' : List D), Nn o ∧ Nn t ∧ x ∈ ls ∧ Bag bs' ∧
    parS [16, 17, 11] [(callB (mkB 1 2 m__law_bare) (aCons (vM 1) (aCons (vM 3) aNil))), (callB (mkB 1 2 m__law_bare) (aCons (vM 1) (aCons (vM 3) aNil))), (callB (mkB 1 2 m__law_some) (aCons (vM 1) (aCons (vM 2) aNil)))] (gB s0 bs ls b w lk s6 s7 s8 s9 s10 s11 s12 s13 s14 s15 s16 s17 s18 s19)
      = .ok (.nx (gB s0 bs' ls b w lk s6 s7 s8 s9 s10 (.val (.int x)) s12 s13 s14 s15 (.val (dS o)) (.val (dS t)) s18 s19)) := by
  obtain ⟨o, bs1, e1, ho, hb1'⟩ := c_bare (Γ := gB s0 bs ls b w lk s6 s7 s8 s9 s10 s11 s12 s13 s14 s15 s16 s17 s18 s19) (i := 1) (j := 3) (k := false) rfl rfl hb hb0 hb1
  obtain ⟨t, bs2, e2, ht, hb2'⟩ := c_bare (Γ := gB s0 bs1 ls b w lk s6 s7 s8 s9 s10 s11 s12 s13 s14 s15 s16 s17 s18 s19) (i := 1) (j := 3) (k := false) rfl rfl hb1' hb0 hb1
  obtain ⟨x, bs3, e3, hx, hb3'⟩ := c_someW (Γ := gB s0 bs2 ls b w lk s6 s7 s8 s9 s10 s11 s12 s13 s14 s15 s16 s17 s18 s19) (i := 1) (j := 2) (k := false) rfl rfl hb2' hn hl
  refine ⟨o, t, x, bs3, ho, ht, hx, hb3', ?_⟩
  unfold parS parM
  rw [e1]
  simp [parM, e2, e3]
theorem d2 (hb : Bag bs) {o t : St3} (ho : Nn o) (ht : Nn t) : ∃ (t' : St3) (bs' : List D), Nn t' ∧ Bag bs' ∧
    ifS (tstB (bin2 D.eq (callB (mkB 1 7 m__law_take) (aCons (vM 1) (aCons (cM (.int 2)) aNil))) (cM (.int 0)))) (asgM 17 (tupM (aCons (bin2 D.ix (vM 16) (cM (.int 0))) (aCons (callN D.max (aCons (bin2 D.sub (bin2 D.ix (vM 16) (cM (.int 1))) (callB (mkB 1 7 m__law_take) (aCons (vM 1) (aCons (cM (.int 4)) aNil)))) (aCons (cM (.int 0)) aNil))) (aCons (callN D.max (aCons (bin2 D.sub (bin2 D.ix (vM 16) (cM (.int 2))) (callB (mkB 1 7 m__law_take) (aCons (vM 1) (aCons (cM (.int 3)) aNil)))) (aCons (cM (.int 0)) aNil))) aNil))))) nxM
      (gB s0 bs ls b w lk s6 s7 s8 s9 s10 s11 s12 s13 s14 s15 (.val (dS o)) (.val (dS t)) s18 s19) = .ok (.nx (gB s0 bs' ls b w lk s6 s7 s8 s9 s10 s11 s12 s13 s14 s15 (.val (dS o)) (.val (dS t')) s18 s19)) := by
  have hz3 := szK (n := 3) (by omega)
  obtain ⟨c, bs1, e1, c0, c1, hb1⟩ := c_takeK (Γ := gB s0 bs ls b w lk s6 s7 s8 s9 s10 s11 s12 s13 s14 s15 (.val (dS o)) (.val (dS t)) s18 s19) (i := 1) (k := false) 2 rfl hb
  by_cases hc : c = 0
  · subst hc
    obtain ⟨u, bs2, e2, u0, u1, hb2⟩ := c_takeK (Γ := gB s0 bs1 ls b w lk s6 s7 s8 s9 s10 s11 s12 s13 s14 s15 (.val (dS o)) (.val (dS t)) s18 s19) (i := 1) (k := false) 4 rfl hb1
    obtain ⟨v, bs3, e3, v0, v1, hb3⟩ := c_takeK (Γ := gB s0 bs2 ls b w lk s6 s7 s8 s9 s10 s11 s12 s13 s14 s15 (.val (dS o)) (.val (dS t)) s18 s19) (i := 1) (k := false) 3 rfl hb2
    refine ⟨(o.1, (if 0 > o.2.1 - u then 0 else o.2.1 - u), (if 0 > o.2.2 - v then 0 else o.2.2 - v)), bs3, bare_st ho, hb3, ?_⟩
    refine (if_t (Γ1 := gB s0 bs1 ls b w lk s6 s7 s8 s9 s10 s11 s12 s13 s14 s15 (.val (dS o)) (.val (dS t)) s18 s19) ?_).trans ?_
    · rw [tstB_eq, bin2_eq]
      simp [e1]
    · refine (asg_cl (d := dS (o.1, (if 0 > o.2.1 - u then 0 else o.2.1 - u), (if 0 > o.2.2 - v then 0 else o.2.2 - v))) (Γ1 := gB s0 bs3 ls b w lk s6 s7 s8 s9 s10 s11 s12 s13 s14 s15 (.val (dS o)) (.val (dS t)) s18 s19) ?_ (by simp)).trans rfl
      rw [tupM_eq]
      have i0 : D.ix (dS o) (.int 0) = some (.cl (.int o.1)) := ix_t0
      have i1 : D.ix (dS o) (.int 1) = some (.cl (.int o.2.1)) := ix_t1
      have i2 : D.ix (dS o) (.int 2) = some (.cl (.int o.2.2)) := ix_t2
      simp [e2, e3, hz3, max0, i0, i1, i2]
      rfl
  · refine ⟨t, bs1, ht, hb1, ?_⟩
    refine (if_f (Γ1 := gB s0 bs1 ls b w lk s6 s7 s8 s9 s10 s11 s12 s13 s14 s15 (.val (dS o)) (.val (dS t)) s18 s19) ?_).trans rfl
    rw [tstB_eq, bin2_eq]
    simp [e1, hc]
theorem d3 {o t : St3} : asgM 18 (orM (bin2 D.gt (bin2 D.ix (vM 16) (cM (.int 0))) (bin2 D.ix (vM 17) (cM (.int 0)))) (andM (bin2 D.eq (bin2 D.ix (vM 16) (cM (.int 0))) (bin2 D.ix (vM 17) (cM (.int 0)))) (andM (bin2 D.ge (bin2 D.ix (vM 16) (cM (.int 1))) (bin2 D.ix (vM 17) (cM (.int 1)))) (bin2 D.ge (bin2 D.ix (vM 16) (cM (.int 2))) (bin2 D.ix (vM 17) (cM (.int 2)))))))
    (gB s0 bs ls b w lk s6 s7 s8 s9 s10 s11 s12 s13 s14 s15 (.val (dS o)) (.val (dS t)) s18 s19) = .ok (.nx (gB s0 bs ls b w lk s6 s7 s8 s9 s10 s11 s12 s13 s14 s15 (.val (dS o)) (.val (dS t)) (.val (.bl (ahead o t))) s19)) := by
  refine (asg_cl (d := .bl (ahead o t)) (Γ1 := gB s0 bs ls b w lk s6 s7 s8 s9 s10 s11 s12 s13 s14 s15 (.val (dS o)) (.val (dS t)) s18 s19) ?_ (by simp)).trans rfl
  rw [orM_eq]
  by_cases h1 : t.1 < o.1 <;> by_cases h2 : o.1 = t.1 <;> by_cases h3 : t.2.1 ≤ o.2.1 <;> simp [andM_eq, orM_eq, dS, ahead, h1, h2, h3]
theorem d4 {o t : St3} (ho : Nn o) (ht : Nn t) : ifS (tstB (bin2 D.ne (callP (mkP 2 2 m_is_ahead) (aCons (vM 16) (aCons (vM 17) aNil))) (vM 18))) (retM (cM (.bl false))) nxM
    (gB s0 bs ls b w lk s6 s7 s8 s9 s10 s11 s12 s13 s14 s15 (.val (dS o)) (.val (dS t)) (.val (.bl (ahead o t))) s19) = .ok (.nx (gB s0 bs ls b w lk s6 s7 s8 s9 s10 s11 s12 s13 s14 s15 (.val (dS o)) (.val (dS t)) (.val (.bl (ahead o t))) s19)) := by
  have h := e_is_ahead o t (okS_of ho) (okS_of ht)
  refine (if_f (Γ1 := gB s0 bs ls b w lk s6 s7 s8 s9 s10 s11 s12 s13 s14 s15 (.val (dS o)) (.val (dS t)) (.val (.bl (ahead o t))) s19) ?_).trans rfl
  rw [tstB_eq, bin2_eq]
  simp [callP_eq, h]
theorem d5 {o t : St3} (ho : Nn o) (ht : Nn t) {x : Int} (hx : 0 ≤ x) : ∃ s19', ifS (andT (tstM (vM 18)) (tstB (bin2 D.ne (lcM (seqM (vM 19)) (tN 25) (tstB (bin2 D.notN (callP (mkP 2 2 m_is_ahead) (aCons (bin2 D.ix (vM 25) (cM (.int 0))) (aCons (bin2 D.ix (vM 25) (cM (.int 1))) aNil))) (cM (.bl true)))) (cM (.int 1)) [25]) (lstM aNil)))) (retM (cM (.bl false))) nxM
    (gB s0 bs ls b w lk s6 s7 s8 s9 s10 s11 s12 s13 s14 s15 s16 s17 (.val (.bl (ahead o t))) (.own false [.lst [dS (b.filled o x), dS (b.filled t x)], .lst [dS (b.closed o x), dS (b.closed t x)]])) = .ok (.nx (gB s0 bs ls b w lk s6 s7 s8 s9 s10 s11 s12 s13 s14 s15 s16 s17 (.val (.bl (ahead o t))) s19')) := by
  have hz0 := szK (n := 0) (by omega)
  have hz2 := szK (n := 2) (by omega)
  cases c : ahead o t with
  | false =>
    refine ⟨_, (if_f (Γ1 := gB s0 bs ls b w lk s6 s7 s8 s9 s10 s11 s12 s13 s14 s15 s16 s17 (.val (.bl false)) (.own false [.lst [dS (b.filled o x), dS (b.filled t x)], .lst [dS (b.closed o x), dS (b.closed t x)]])) ?_).trans rfl⟩
    rw [andT_eq]
    simp
  | true =>
    have hA := ahead_iff.mp c
    have m1 : ahead (b.filled o x) (b.filled t x) = true := ahead_iff.mpr (mono_filled ho ht hx hA)
    have m2 : ahead (b.closed o x) (b.closed t x) = true := ahead_iff.mpr (mono_closed ho ht hx hA)
    have i1 := e_is_ahead _ _ (okS_of (nn_filled (b := b) ho hx)) (okS_of (nn_filled (b := b) ht hx))
    have i2 := e_is_ahead _ _ (okS_of (nn_closed (b := b) ho hx)) (okS_of (nn_closed (b := b) ht hx))
    rw [m1] at i1
    rw [m2] at i2
    have q := lcM_fil (Γ := gB s0 bs ls b w lk s6 s7 s8 s9 s10 s11 s12 s13 s14 s15 s16 s17 (.val (.bl true)) (.own false [.lst [dS (b.filled o x), dS (b.filled t x)], .lst [dS (b.closed o x), dS (b.closed t x)]])) (mi := seqM (vM 19)) (tst := (tstB (bin2 D.notN (callP (mkP 2 2 m_is_ahead) (aCons (bin2 D.ix (vM 25) (cM (.int 0))) (aCons (bin2 D.ix (vM 25) (cM (.int 1))) aNil))) (cM (.bl true))))) (elt := cM (.int 1)) (i := 25)
      (ds := [.lst [dS (b.filled o x), dS (b.filled t x)], .lst [dS (b.closed o x), dS (b.closed t x)]]) (Γ1 := gB s0 bs ls b w lk s6 s7 s8 s9 s10 s11 s12 s13 s14 s15 s16 s17 (.val (.bl true)) (.val (.lst [.lst [dS (b.filled o x), dS (b.filled t x)], .lst [dS (b.closed o x), dS (b.closed t x)]]))) (fun _ => false) (fun _ => .int 1) (by simp) (.inl rfl) hz2 (fun d hd => by
        rcases List.mem_cons.mp hd with h | h
        · subst h
          rw [tstB_eq, bin2_eq]
          simp [callP_eq, i1]
        · have h : d = .lst [dS (b.closed o x), dS (b.closed t x)] := by simpa using h
          subst h
          rw [tstB_eq, bin2_eq]
          simp [callP_eq, i2]) (fun d hd h => by cases h)
    have hf : (([.lst [dS (b.filled o x), dS (b.filled t x)], .lst [dS (b.closed o x), dS (b.closed t x)]] : List D).filter (fun _ => false)).map (fun _ => D.int 1) = [] := rfl
    rw [hf] at q
    have hne : D.ne (.lst []) (.lst []) = some (.cl (.bl false)) := ne_li (a := []) (b := [])
    refine ⟨_, (if_f (Γ1 := gB s0 bs ls b w lk s6 s7 s8 s9 s10 s11 s12 s13 s14 s15 s16 s17 (.val (.bl true)) (.val (.lst [.lst [dS (b.filled o x), dS (b.filled t x)], .lst [dS (b.closed o x), dS (b.closed t x)]]))) ?_).trans rfl⟩
    have e1 : tstM (vM 18) (gB s0 bs ls b w lk s6 s7 s8 s9 s10 s11 s12 s13 s14 s15 s16 s17 (.val (.bl true)) (.own false [.lst [dS (b.filled o x), dS (b.filled t x)], .lst [dS (b.closed o x), dS (b.closed t x)]])) = .ok (true, gB s0 bs ls b w lk s6 s7 s8 s9 s10 s11 s12 s13 s14 s15 s16 s17 (.val (.bl true)) (.own false [.lst [dS (b.filled o x), dS (b.filled t x)], .lst [dS (b.closed o x), dS (b.closed t x)]])) := by
      rw [tstM_eq]
      simp
    rw [andT_eq, e1]
    simp only [R.bind_ok]
    rw [tstB_eq, bin2_eq, q]
    simp [hz0, hne]
theorem b3_ok (A : Ap K) (C : Cn b w) (hb : Bag bs) (hb0 : 0 ≤ b.hi) (hb1 : b.hi ≤ 1000) (hn : ls ≠ []) (hl : ls.length ≤ 1000) (hfx : ∀ x ∈ ls, fitW b [x] = true) (hpx : ∀ x ∈ ls, 0 ≤ x) {l : Sl} :
    ∃ bs' s11' s16' s17' s18' s19', Bag bs' ∧ m_law_b3 K z (gB s0 bs ls b w lk s6 s7 s8 s9 s10 s11 s12 s13 s14 l s16 .un .un .un) = .ok (.nx (gB s0 bs' ls b w lk s6 s7 s8 s9 s10 s11' s12 s13 s14 l (.val s16') s17' s18' s19')) := by
  obtain ⟨o, t, x, bs1, ho, ht, hx, hb1', e1⟩ := d1 (s0 := s0) (lk := lk) (s6 := s6) (s7 := s7) (s8 := s8) (s9 := s9) (s10 := s10) (s11 := s11) (s12 := s12) (s13 := s13) (s14 := s14) (s15 := l) (s16 := s16) (s17 := .un) (s18 := .un) (s19 := .un) (w := w) hb hb0 hb1 hn hl
  obtain ⟨t', bs2, ht', hb2', e2⟩ := d2 (s0 := s0) (lk := lk) (s6 := s6) (s7 := s7) (s8 := s8) (s9 := s9) (s10 := s10) (s11 := .val (.int x)) (s12 := s12) (s13 := s13) (s14 := s14) (s15 := l) (s18 := .un) (s19 := .un) (w := w) (ls := ls) (b := b) hb1' ho ht
  obtain ⟨s19', e5⟩ := d5 (s0 := s0) (lk := lk) (s6 := s6) (s7 := s7) (s8 := s8) (s9 := s9) (s10 := s10) (s11 := .val (.int x)) (s12 := s12) (s13 := s13) (s14 := s14) (s15 := l) (s16 := .val (dS o)) (s17 := .val (dS t')) (bs := bs2) (w := w) (ls := ls) (b := b) ho ht' (hpx x hx)
  refine ⟨bs2, .val (.int x), dS o, .val (dS t'), .val (.bl (ahead o t')), s19', hb2', ?_⟩
  unfold m_law_b3
  rw [sk_nx e1, sk_nx e2, sk_nx d3, sk_nx (d4 ho ht'), sk_nx ((asg_fr (steps_ok A C (hfx x hx) ho ht') (by simp)).trans rfl)]
  exact e5
theorem s11_ok (A : Ap K) (C : Cn b w) (hb : Bag bs) (hb0 : 0 ≤ b.hi) (hb1 : b.hi ≤ 1000) (hn : ls ≠ []) (hl : ls.length ≤ 1000) (hfx : ∀ x ∈ ls, fitW b [x] = true) (hpx : ∀ x ∈ ls, 0 ≤ x) :
    ∃ bs' s16', Bag bs' ∧ (s16' = .un ∨ ∃ d, s16' = .val d) ∧ m_law_s11 K z (gB s0 bs ls b w lk s6 s7 s8 s9 s10 .un s12 s13 s14 .un .un .un .un .un) = .ok (.nx (gB s0 bs' ls b w lk s6 s7 s8 s9 s10 .un s12 s13 s14 .un s16' .un .un .un)) := by
  have hr : rng1M (aCons (cM (.int 6)) aNil) (gB s0 bs ls b w lk s6 s7 s8 s9 s10 .un s12 s13 s14 .un .un .un .un .un) = .ok (rngL 0 1 (6 : Int).toNat, gB s0 bs ls b w lk s6 s7 s8 s9 s10 .un s12 s13 s14 .un .un .un .un .un) := rng1_of (ws := [.cl (.int 6)]) (by simp) rfl (sml_of (by omega) (by omega))
  obtain ⟨Γ', hq, bs', s16', hΓ, hb', hs⟩ := forG_inv (tgt := tN 15) (body := m_law_b3 K z) (ks := [15, 17, 11, 18, 19]) (fun j Γ => ∃ bs' s16', Γ = gB s0 bs' ls b w lk s6 s7 s8 s9 s10 .un s12 s13 s14 .un s16' .un .un .un ∧ Bag bs' ∧ (s16' = .un ∨ ∃ d, s16' = .val d)) (ds := rngL 0 1 (6 : Int).toNat) (n := 0) (Γ := gB s0 bs ls b w lk s6 s7 s8 s9 s10 .un s12 s13 s14 .un .un .un .un .un)
    ⟨bs, .un, rfl, hb, .inl rfl⟩ (fun j d Γ hj hp => by
    obtain ⟨bs1, s16, rfl, hb, -⟩ := hp
    obtain ⟨bs', s11', s16', s17', s18', s19', hb', e⟩ := b3_ok (z := z) (s0 := s0) (lk := lk) (s6 := s6) (s7 := s7) (s8 := s8) (s9 := s9) (s10 := s10) (s11 := .un) (s12 := s12) (s13 := s13) (s14 := s14) (l := .val d) (s16 := s16) A C hb hb0 hb1 hn hl hfx hpx
    exact ⟨_, _, rfl, e, bs', .val s16', rfl, hb', .inr ⟨_, rfl⟩⟩)
  subst hΓ
  refine ⟨bs', s16', hb', hs, ?_⟩
  unfold m_law_s11
  exact (forM_of hr).trans hq
end
end G
set_option Elab.async false
set_option linter.all false
set_option maxRecDepth 100000
set_option maxHeartbeats 4000000
namespace G
open PySem PySem.Spec PyProof.Rows L2 Mw LamX KM
variable {K : PySem.W.Frag}
abbrev gD (s0 : Sl) (bs : List D) (ls : List Int) (b : Bd) (w : List Int) (lk s6 s7 s8 s9 s10 s11 s12 s13 s14 s15 s16 s17 s18 s19 s20 s21 s22 : Sl) : Gam :=
  [s0, .own false bs, .val (dW ls), .val (dB b), .val (dW w), lk, s6, s7, s8, s9, s10, s11, s12, s13, s14, s15, s16, s17, s18, s19, s20, s21, s22, .un, .un, .un]
def bads (b : Bd) : List D := [.non, .tup [.int b.lo, .int b.hi], .tup [.int 0, .int b.hi, .non], .tup [.int (b.hi + 1), .int b.hi, .non], .tup [.int b.lo, .int b.hi, .tup [.int 3, .int 4]], .lst [.int b.lo, .int b.hi, dSl b.sl], .tup [.int 1, .int 61, .non]]
theorem bads_no {b : Bd} : ∀ d ∈ bads b, mkP 1 1 m_is_bounds [d] = rB false := by
  intro d hd
  unfold bads at hd
  simp only [List.mem_cons, List.not_mem_nil, or_false] at hd
  rcases hd with rfl | rfl | rfl | rfl | rfl | rfl | rfl
  · exact e_is_bounds_n
  · exact e_is_bounds_2 _ _
  · have h := e_is_bounds ⟨0, b.hi, none⟩
    have z : okB ⟨0, b.hi, none⟩ = false := by simp [okB]
    rw [z] at h
    exact h
  · have h := e_is_bounds ⟨b.hi + 1, b.hi, none⟩
    have z : okB ⟨b.hi + 1, b.hi, none⟩ = false := by
      simp [okB]
      omega
    rw [z] at h
    exact h
  · have h := e_is_bounds ⟨b.lo, b.hi, some (3, 4)⟩
    have z : okB ⟨b.lo, b.hi, some (3, 4)⟩ = false := by simp [okB, okSl]
    rw [z] at h
    exact h
  · exact e_is_bounds_l _
  · have h := e_is_bounds ⟨1, 61, none⟩
    have z : okB ⟨1, 61, none⟩ = false := by decide
    rw [z] at h
    exact h
def words : List D := [.non, .tup [.int 0], .tup [.int 13], .lst [.int 1], .tup [.bl true], .tup (List.replicate 1001 (.int 1))]
theorem words_no : ∀ d ∈ words, mkP 1 2 m_is_length_word [d] = rB false := by
  intro d hd
  unfold words at hd
  simp only [List.mem_cons, List.not_mem_nil, or_false] at hd
  rcases hd with rfl | rfl | rfl | rfl | rfl | rfl
  · exact e_is_length_word_n
  · have h := e_is_length_word [0]
    have z : okW [0] = false := by decide
    rw [z] at h
    exact h
  · have h := e_is_length_word [13]
    have z : okW [13] = false := by decide
    rw [z] at h
    exact h
  · exact e_is_length_word_l _
  · exact e_is_length_word_b _
  · have h := e_is_length_word (List.replicate 1001 1)
    have z : okW (List.replicate 1001 1) = false := by
      unfold okW
      rw [List.length_replicate, decide_eq_false (by omega)]
      rfl
    rw [z] at h
    unfold dW at h
    rw [List.map_replicate] at h
    exact h
theorem mul_1001 : D.mul (.tup [.int 1]) (.int 1001) = some (.cl (.tup (List.replicate 1001 (.int 1)))) := by
  show (if (2 : Int) ≤ 1001 ∧ (1001 : Int) ≤ 1000000 then some (W.cl (.tup (List.replicate (1001 : Int).toNat (.int 1)))) else none) = _
  rw [if_pos (by decide)]
  rfl
section
variable {s0 lk s6 s7 s8 s9 s10 s11 s12 s13 s14 s15 s16 s17 s18 s19 s20 s21 s22 : Sl} {bs : List D} {ls w : List Int} {b : Bd} {z : Nat}
theorem s12_ok : m_law_s12 K z (gD s0 bs ls b w lk s6 s7 s8 s9 s10 s11 s12 s13 s14 s15 s16 s17 s18 s19 .un s21 s22) = .ok (.nx (gD s0 bs ls b w lk s6 s7 s8 s9 s10 s11 s12 s13 s14 s15 s16 s17 s18 s19 (.own false (bads b)) s21 s22)) := by
  have h1 := szK (n := 1) (by omega)
  have h2 := szK (n := 2) (by omega)
  have h3 := szK (n := 3) (by omega)
  have h7 := szK (n := 7) (by omega)
  have hc : Mw.cutD [D.int b.lo, D.int b.hi, dSl b.sl] none (some (2 : Int)) = [.int b.lo, .int b.hi] := by
    unfold Mw.cutD
    rw [show (2 : Int) = ((2 : Nat) : Int) from rfl, HT.sIx_nat, HT.sIx_none]
    rfl
  have ha : D.add (.tup [.int b.lo, .int b.hi]) (.tup [.tup [.int 3, .int 4]]) = some (.cl (.tup [.int b.lo, .int b.hi, .tup [.int 3, .int 4]])) := add_tt (szK (by show 2 + 1 ≤ 100000; omega))
  unfold m_law_s12
  refine (asg_fr (ds := bads b) (Γ1 := gD s0 bs ls b w lk s6 s7 s8 s9 s10 s11 s12 s13 s14 s15 s16 s17 s18 s19 .un s21 s22) ?_ (by simp)).trans rfl
  rw [lstM_eq]
  simp [dB, hc, ha, h1, h2, h3, h7, bads]
theorem s13_ok (hs : s16 = .un ∨ ∃ d, s16 = .val d) : ∃ s20', m_law_s13 K z (gD s0 bs ls b w lk s6 s7 s8 s9 s10 s11 s12 s13 s14 s15 s16 s17 s18 s19 (.own false (bads b)) s21 s22) = .ok (.nx (gD s0 bs ls b w lk s6 s7 s8 s9 s10 s11 s12 s13 s14 s15 s16 s17 s18 s19 s20' s21 s22)) := by
  have h0 := szK (n := 0) (by omega)
  have q := lcM_fil (Γ := gD s0 bs ls b w lk s6 s7 s8 s9 s10 s11 s12 s13 s14 s15 s16 s17 s18 s19 (.own false (bads b)) s21 s22) (mi := seqM (vM 20)) (tst := (tstB (bin2 D.notN (callP (mkP 1 1 m_is_bounds) (aCons (vM 16) aNil)) (cM (.bl false))))) (elt := vM 16) (i := 16)
    (ds := bads b) (Γ1 := gD s0 bs ls b w lk s6 s7 s8 s9 s10 s11 s12 s13 s14 s15 s16 s17 s18 s19 (.val (.lst (bads b))) s21 s22) (fun _ => false) (fun _ => .int 1) (by simp) (by
      rcases hs with rfl | ⟨d, rfl⟩
      · exact .inl rfl
      · exact .inr ⟨d, rfl⟩) (szK (by unfold bads; simp)) (fun d hd => by
      have h := bads_no d hd
      rw [tstB_eq, bin2_eq]
      simp [callP_eq, h]) (fun d hd h => by cases h)
  have hf : ((bads b).filter (fun _ => false)).map (fun _ => D.int 1) = [] := by rw [List.filter_eq_nil_iff.mpr (by simp)]; rfl
  rw [hf] at q
  have hne : D.ne (.lst []) (.lst []) = some (.cl (.bl false)) := ne_li (a := []) (b := [])
  refine ⟨.val (.lst (bads b)), ?_⟩
  unfold m_law_s13
  refine (if_f (Γ1 := gD s0 bs ls b w lk s6 s7 s8 s9 s10 s11 s12 s13 s14 s15 s16 s17 s18 s19 (.val (.lst (bads b))) s21 s22) ?_).trans rfl
  rw [tstB_eq, bin2_eq, q]
  simp [h0, hne]
theorem s14_ok (hs : s16 = .un ∨ ∃ d, s16 = .val d) : m_law_s14 K z (gD s0 bs ls b w lk s6 s7 s8 s9 s10 s11 s12 s13 s14 s15 s16 s17 s18 s19 s20 s21 s22) = .ok (.nx (gD s0 bs ls b w lk s6 s7 s8 s9 s10 s11 s12 s13 s14 s15 s16 s17 s18 s19 s20 s21 s22)) := by
  have h0 := szK (n := 0) (by omega)
  have h1 := szK (n := 1) (by omega)
  have h6 := szK (n := 6) (by omega)
  have hm : seqM (tupM (aCons (cM .non) (aCons (tupM (aCons (cM (.int 0)) aNil)) (aCons (tupM (aCons (cM (.int 13)) aNil)) (aCons (lstM (aCons (cM (.int 1)) aNil)) (aCons (tupM (aCons (cM (.bl true)) aNil)) (aCons (bin2 D.mul (tupM (aCons (cM (.int 1)) aNil)) (cM (.int 1001))) aNil)))))))
      (gD s0 bs ls b w lk s6 s7 s8 s9 s10 s11 s12 s13 s14 s15 s16 s17 s18 s19 s20 s21 s22) = .ok (words, gD s0 bs ls b w lk s6 s7 s8 s9 s10 s11 s12 s13 s14 s15 s16 s17 s18 s19 s20 s21 s22) := by
    rw [seqM_eq, clM_eq, tupM_eq]
    simp only [aCons_eq, cM_eq, tupM_eq, lstM_eq, aNil_eq, bin2_eq, R.bind_ok, hold_cl, hold_fr, cln_nil, cln_cl, Option.bind_some, vw_cl, List.length_cons, List.length_nil, Nat.zero_add, Nat.reduceAdd, h1, if_true, mul_1001, fin_some, h6]
    rfl
  have q := lcM_fil (Γ := gD s0 bs ls b w lk s6 s7 s8 s9 s10 s11 s12 s13 s14 s15 s16 s17 s18 s19 s20 s21 s22) (tst := (tstB (bin2 D.notN (callP (mkP 1 2 m_is_length_word) (aCons (vM 16) aNil)) (cM (.bl false))))) (elt := vM 16) (i := 16)
    (ds := words) (Γ1 := gD s0 bs ls b w lk s6 s7 s8 s9 s10 s11 s12 s13 s14 s15 s16 s17 s18 s19 s20 s21 s22) (fun _ => false) (fun _ => .int 1) hm (by
      rcases hs with rfl | ⟨d, rfl⟩
      · exact .inl rfl
      · exact .inr ⟨d, rfl⟩) (szK (by unfold words; simp)) (fun d hd => by
      have h := words_no d hd
      rw [tstB_eq, bin2_eq]
      simp [callP_eq, h]) (fun d hd h => by cases h)
  have hf : (words.filter (fun _ => false)).map (fun _ => D.int 1) = [] := by rw [List.filter_eq_nil_iff.mpr (by simp)]; rfl
  rw [hf] at q
  have hne : D.ne (.lst []) (.lst []) = some (.cl (.bl false)) := ne_li (a := []) (b := [])
  unfold m_law_s14
  refine (if_f (Γ1 := gD s0 bs ls b w lk s6 s7 s8 s9 s10 s11 s12 s13 s14 s15 s16 s17 s18 s19 s20 s21 s22) ?_).trans rfl
  rw [tstB_eq, bin2_eq, q]
  simp [h0, hne]
/-! what is refused -/
theorem act_no {Γ Γ' : Gam} {q : LamD} {m : M} (hg : Γ[(22 : Nat)]? = some (.val (.fn q))) (hq : (tabL K z)[q.ix]? = some (q, m)) (hm : m (valG Γ) = .ex ⟨"Nothing", []⟩ Γ') : m_law_b4 K z Γ = .ok (.nx Γ) := by
  have h1 : actM 22 (tabL K z) Γ = .ex ⟨"Nothing", []⟩ Γ := by
    unfold actM
    rw [hg]
    simp only []
    rw [hq]
    simp only []
    rw [if_pos trivial, hm]
    rfl
  unfold m_law_b4 tryM
  rw [sk_ex (e := ⟨"Nothing", []⟩) (Γ1 := Γ) (by rw [drpM_eq, h1]; rfl)]
  rfl
theorem e_soon_pages_x {u v : D} : True := trivial
def acts (z : Nat) : List D := [.fn (lq 0 z), .fn (lq 1 z), .fn (lq 2 z), .fn (lq 3 z), .fn (lq 4 z), .fn (lq 5 z)]
theorem act_ok (C : Cn b w) (h1 : fitW b [1] = true) {d : D} (hd : d ∈ acts z) : m_law_b4 K z (gD s0 bs ls b w lk s6 s7 s8 s9 s10 s11 s12 s13 s14 s15 s16 s17 s18 s19 s20 s21 (.val d)) = .ok (.nx (gD s0 bs ls b w lk s6 s7 s8 s9 s10 s11 s12 s13 s14 s15 s16 s17 s18 s19 s20 s21 (.val d))) := by
  have hz2 := szK (n := 2) (by omega)
  have hz3 := szK (n := 3) (by omega)
  unfold acts at hd
  simp only [List.mem_cons, List.not_mem_nil, or_false] at hd
  rcases hd with rfl | rfl | rfl | rfl | rfl | rfl
  · have h := e_holds_n b C.ok
    exact act_no (q := lq 0 z) (m := ml_0 K) (Γ' := valG (gD s0 bs ls b w lk s6 s7 s8 s9 s10 s11 s12 s13 s14 s15 s16 s17 s18 s19 s20 s21 (.val (.fn (lq 0 z))))) rfl rfl (by unfold ml_0 valG; simp [callP_eq, h])
  · have h := e_full_pages_n (K := K) (dW w)
    exact act_no (q := lq 1 z) (m := ml_1 K) (Γ' := valG (gD s0 bs ls b w lk s6 s7 s8 s9 s10 s11 s12 s13 s14 s15 s16 s17 s18 s19 s20 s21 (.val (.fn (lq 1 z))))) rfl rfl (by unfold ml_1 valG; simp [callP_eq, h])
  · have h := e_is_split_x (K := K) (dB b) (dW w) (-1) (by omega)
    exact act_no (q := lq 2 z) (m := ml_2 K) (Γ' := valG (gD s0 bs ls b w lk s6 s7 s8 s9 s10 s11 s12 s13 s14 s15 s16 s17 s18 s19 s20 s21 (.val (.fn (lq 2 z))))) rfl rfl (by unfold ml_2 valG; simp [callP_eq, h])
  · have h := e_full_step_2 b (.int 0) (.int 0) 1 C.ok h1
    exact act_no (q := lq 3 z) (m := ml_3 K) (Γ' := valG (gD s0 bs ls b w lk s6 s7 s8 s9 s10 s11 s12 s13 s14 s15 s16 s17 s18 s19 s20 s21 (.val (.fn (lq 3 z))))) rfl rfl (by unfold ml_3 valG; simp [callP_eq, h, hz2])
  · have h := e_soon_step_x b (0, 0, 0) 13 C.ok (by decide)
    unfold dS at h
    exact act_no (q := lq 4 z) (m := ml_4 K) (Γ' := valG (gD s0 bs ls b w lk s6 s7 s8 s9 s10 s11 s12 s13 s14 s15 s16 s17 s18 s19 s20 s21 (.val (.fn (lq 4 z))))) rfl rfl (by unfold ml_4 valG; simp [callP_eq, h, hz3])
  · have h := e_is_ahead_n (.tup [.int 0, .int 0, .int 0])
    exact act_no (q := lq 5 z) (m := ml_5 K) (Γ' := valG (gD s0 bs ls b w lk s6 s7 s8 s9 s10 s11 s12 s13 s14 s15 s16 s17 s18 s19 s20 s21 (.val (.fn (lq 5 z))))) rfl rfl (by unfold ml_5 valG; simp [callP_eq, h, hz3])
theorem s15_ok (C : Cn b w) (h1 : fitW b [1] = true) : ∃ Γ', m_law_s15 K z (gD s0 bs ls b w lk s6 s7 s8 s9 s10 s11 s12 s13 s14 s15 s16 s17 s18 s19 s20 (.own false (acts z)) .un) = .ok (.nx Γ') := by
  have hm : seqM (vM 21) (gD s0 bs ls b w lk s6 s7 s8 s9 s10 s11 s12 s13 s14 s15 s16 s17 s18 s19 s20 (.own false (acts z)) .un) = .ok (acts z, gD s0 bs ls b w lk s6 s7 s8 s9 s10 s11 s12 s13 s14 s15 s16 s17 s18 s19 s20 (.val (.lst (acts z))) .un) := by simp
  obtain ⟨Γ', hq, hΓ⟩ := forG_inv (tgt := tN 22) (body := m_law_b4 K z) (ks := [22]) (fun j Γ => Γ = gD s0 bs ls b w lk s6 s7 s8 s9 s10 s11 s12 s13 s14 s15 s16 s17 s18 s19 s20 (.val (.lst (acts z))) .un) (ds := acts z) (n := 0) (Γ := gD s0 bs ls b w lk s6 s7 s8 s9 s10 s11 s12 s13 s14 s15 s16 s17 s18 s19 s20 (.val (.lst (acts z))) .un) rfl (fun j d Γ hj hp => by
    subst hp
    exact ⟨_, _, rfl, act_ok C h1 (List.mem_of_getElem? hj), rfl⟩)
  refine ⟨Γ', ?_⟩
  unfold m_law_s15
  exact (forM_of hm).trans hq
end
abbrev gZ (s0 s1 s2 s3 s4 : Sl) : Gam := [s0, s1, s2, s3, s4, .un, .un, .un, .un, .un, .un, .un, .un, .un, .un, .un, .un, .un, .un, .un, .un, .un, .un, .un, .un, .un]
theorem law_ok' (A : Ap K) (ns : List Int) (hl : ns.length ≤ 63) (z : Nat) : ∃ Γ', m_law K z (startG 26 [scr ns]) = .ok (.rt (.cl (.bl true)) Γ') := by
  obtain ⟨bs0, e0, hb0⟩ := bag_ok ns hl
  have s1 : m_law_s1 K z (startG 26 [scr ns]) = .ok (.nx (gZ (.val (scr ns)) (.own false bs0) .un .un .un)) := by
    unfold m_law_s1
    have e : startG 26 [scr ns] = gZ (.val (scr ns)) .un .un .un .un := rfl
    rw [e]
    refine (asg_fr (ds := bs0) (Γ1 := gZ (.val (scr ns)) .un .un .un .un) ?_ (by simp)).trans rfl
    unfold scr
    simp [callP_eq, e0]
  obtain ⟨ls, bs1, e1, hL, hb1⟩ := lengths_ok (n := 9) hb0 (by omega) (by omega)
  have s2 : m_law_s2 K z (gZ (.val (scr ns)) (.own false bs0) .un .un .un) = .ok (.nx (gZ (.val (scr ns)) (.own false bs1) (.val (dW ls)) .un .un)) := by
    unfold m_law_s2
    exact (asg_cl (callB_of (Γ1 := gZ (.val (scr ns)) (.own false bs0) .un .un .un) (i := 1) (k := false) (ws := [.cl (.int 9)]) (ds := [.int 9]) (by simp) rfl rfl e1) (by simp)).trans rfl
  obtain ⟨u, x, hux⟩ := snoc_of hL.ne
  have hasc := hL.asc
  rw [hux] at hasc
  have hxmax : ∀ y ∈ ls, y ≤ x := by rw [hux]; exact lt_last hasc
  have hxm : x ∈ ls := by rw [hux]; simp
  have hx1 := hL.rng x hxm
  obtain ⟨b, bs2, e2, hB, hb2⟩ := bounds_ok (ls := ls) (x := x) hb1 (by unfold dW; rw [hux, List.map_append]; exact ix_tl)
  have s3 : m_law_s3 K z (gZ (.val (scr ns)) (.own false bs1) (.val (dW ls)) .un .un) = .ok (.nx (gZ (.val (scr ns)) (.own false bs2) (.val (dW ls)) (.val (dB b)) .un)) := by
    unfold m_law_s3
    exact (asg_cl (callB_of (Γ1 := gZ (.val (scr ns)) (.own false bs1) (.val (dW ls)) .un .un) (i := 1) (k := false) (ws := [.cl (dW ls)]) (ds := [dW ls]) (by simp) rfl rfl e2) (by simp)).trans rfl
  obtain ⟨w, bs3, e3, hwl, hwm, hb3⟩ := word_ok (ls := ls) (n := 6) hb2 hL.ne (by have := hL.len; omega) (by omega) (by omega)
  have s4 : m_law_s4 K z (gZ (.val (scr ns)) (.own false bs2) (.val (dW ls)) (.val (dB b)) .un) = .ok (.nx (gB (.val (scr ns)) bs3 ls b w .un .un .un .un .un .un .un .un .un .un .un .un .un .un .un)) := by
    unfold m_law_s4
    exact (asg_cl (callB_of (Γ1 := gZ (.val (scr ns)) (.own false bs2) (.val (dW ls)) (.val (dB b)) .un) (i := 1) (k := false) (ws := [.cl (dW ls), .cl (.int 6)]) (ds := [dW ls, .int 6]) (by simp) rfl rfl e3) (by simp)).trans rfl
  have lo1 := hB.lo1
  have lo9 := hB.lo9
  have h1 := hB.h1
  have h2 := hB.h2
  have hokB : okB b = true := by
    unfold okB
    rw [decide_eq_true (show 1 ≤ b.hi by omega), decide_eq_true (show b.hi ≤ 60 by omega), decide_eq_true lo1, decide_eq_true (show b.lo ≤ b.hi by omega)]
    obtain ⟨lo, hi, sl⟩ := b
    rcases sl with _ | ⟨p, r⟩
    · rfl
    · have q := hB.sl p r rfl
      simp [okSl]
      omega
  have hrx : ∀ y ∈ ls, 1 ≤ y ∧ y ≤ 9 ∧ y ≤ b.hi := fun y hy => by
    have a := hL.rng y hy
    have c := hxmax y hy
    omega
  have hfx : ∀ y ∈ ls, fitW b [y] = true := fun y hy => by
    have a := hrx y hy
    simp [fitW, okW]
    omega
  have C : Cn b w := by
    refine ⟨hokB, ?_, by omega, fun y hy => (hrx y (hwm y hy)).1, fun y hy => heldW_len (fun p r h => by have := hB.sl p r h; omega) (hrx y (hwm y hy)).2.2⟩
    unfold fitW okW
    simp only [Bool.and_eq_true, decide_eq_true_eq, List.all_eq_true]
    exact ⟨⟨by omega, fun y hy => by have := hrx y (hwm y hy); omega⟩, fun y hy => by have := hrx y (hwm y hy); omega⟩
  have i1 := e_is_bounds b
  rw [hokB] at i1
  have i2 := e_is_length_word w
  rw [C.okW] at i2
  have s5 : m_law_s5 K z (gB (.val (scr ns)) bs3 ls b w .un .un .un .un .un .un .un .un .un .un .un .un .un .un .un) = .ok (.nx (gB (.val (scr ns)) bs3 ls b w .un .un .un .un .un .un .un .un .un .un .un .un .un .un .un)) := by
    unfold m_law_s5
    refine (if_f (Γ1 := gB (.val (scr ns)) bs3 ls b w .un .un .un .un .un .un .un .un .un .un .un .un .un .un .un) ?_).trans rfl
    rw [orT_eq, tstB_eq, bin2_eq]
    simp [callP_eq, i1, i2]
  have lk1 := e_holds b w C.ok C.okW
  have lk2 := e_is_enough b w C.ok C.okW
  have lk3 := e_full_pages (K := K) b w C.ok C.fit
  have lk4 := e_soon_pages A b w C.ok C.fit
  have lk5 := e_law_holds b w
  have lk6 := e_law_enough b w
  have lk7 := e_fewest b w C.p1 C.hh (by have := C.len; omega)
  have lk8 := e_most b w C.p1 (by have := C.len; omega)
  have h4 := szK (n := 4) (by omega)
  have s6 : m_law_s6 K z (gB (.val (scr ns)) bs3 ls b w .un .un .un .un .un .un .un .un .un .un .un .un .un .un .un) = .ok (.nx (gB (.val (scr ns)) bs3 ls b w (.own false [.bl (heldW b w), .bl (enoughW b w), .int (KM.G b w), .int (KM.S b w)]) .un .un .un .un .un .un .un .un .un .un .un .un .un .un)) := by
    unfold m_law_s6
    refine (asg_fr (ds := [.bl (heldW b w), .bl (enoughW b w), .int (KM.G b w), .int (KM.S b w)]) (Γ1 := gB (.val (scr ns)) bs3 ls b w .un .un .un .un .un .un .un .un .un .un .un .un .un .un .un) ?_ (by simp)).trans rfl
    rw [lstM_eq]
    simp [callP_eq, lk1, lk2, lk3, lk4, h4]
  have gb := G_bd (b := b) (w := w)
  have sb := S_bd (b := b) (w := w)
  have hsz : Sz (.lst [.bl (heldW b w), .bl (enoughW b w), .int (KM.G b w), .int (KM.S b w)]) 1 400 := (Sz.lst (SzA.cons (Sz.bl _) (SzA.cons (Sz.bl _) (SzA.cons (Sz.int (by omega) (by omega)) (SzA.cons (Sz.int (by omega) (by omega)) SzA.nil))))).mono (by omega) (by omega)
  have al := e_alike hsz (by omega) (by omega) rfl
  have s7 : m_law_s7 K z (gB (.val (scr ns)) bs3 ls b w (.own false [.bl (heldW b w), .bl (enoughW b w), .int (KM.G b w), .int (KM.S b w)]) .un .un .un .un .un .un .un .un .un .un .un .un .un .un) = .ok (.nx (gB (.val (scr ns)) bs3 ls b w (.own false [.bl (heldW b w), .bl (enoughW b w), .int (KM.G b w), .int (KM.S b w)]) .un .un .un .un .un .un .un .un .un .un .un .un .un .un)) := by
    unfold m_law_s7
    refine (if_f (Γ1 := gB (.val (scr ns)) bs3 ls b w (.own false [.bl (heldW b w), .bl (enoughW b w), .int (KM.G b w), .int (KM.S b w)]) .un .un .un .un .un .un .un .un .un .un .un .un .un .un) ?_).trans rfl
    rw [notT_eq, tstM_eq]
    simp [callP_eq, lk5, lk6, lk7, lk8, h4, al, callFin_b]
  have s8 : m_law_s8 K z (gB (.val (scr ns)) bs3 ls b w (.own false [.bl (heldW b w), .bl (enoughW b w), .int (KM.G b w), .int (KM.S b w)]) .un .un .un .un .un .un .un .un .un .un .un .un .un .un) = .ok (.nx (gA (.val (scr ns)) bs3 ls b w (.own false [.bl (heldW b w), .bl (enoughW b w), .int (KM.G b w), .int (KM.S b w)]) (0, 0, 0) (0, 0, 0) [] [] .un .un .un .un)) := by
    have h0 := szK (n := 0) (by omega)
    have h3 := szK (n := 3) (by omega)
    unfold m_law_s8
    simp [parS, parM, h0, h3, dS, dW]
  obtain ⟨F, So, pg, op, s9⟩ := s9_ok (z := z) (s0 := .val (scr ns)) (bs := bs3) (ls := ls) (lk := .own false [.bl (heldW b w), .bl (enoughW b w), .int (KM.G b w), .int (KM.S b w)]) A C
  obtain ⟨bs4, s16', hb4, hs16, s11⟩ := s11_ok (z := z) (s0 := .val (scr ns)) (bs := bs3) (ls := ls) (lk := .own false [.bl (heldW b w), .bl (enoughW b w), .int (KM.G b w), .int (KM.S b w)]) (s6 := .val (dS F)) (s7 := .val (dS So)) (s8 := .val (dW pg)) (s9 := .val (dW op)) (s10 := .un) (s12 := .un) (s13 := .un) (s14 := .un) A C hb3 (by omega) (by omega) hL.ne (by have := hL.len; omega) hfx (fun y hy => by have := hrx y hy; omega)
  obtain ⟨s20', s13⟩ := s13_ok (K := K) (z := z) (s0 := .val (scr ns)) (bs := bs4) (ls := ls) (b := b) (w := w) (lk := .own false [.bl (heldW b w), .bl (enoughW b w), .int (KM.G b w), .int (KM.S b w)]) (s6 := .val (dS F)) (s7 := .val (dS So)) (s8 := .val (dW pg)) (s9 := .val (dW op)) (s10 := .un) (s11 := .un) (s12 := .un) (s13 := .un) (s14 := .un) (s15 := .un) (s17 := .un) (s18 := .un) (s19 := .un) (s21 := .un) (s22 := .un) hs16
  have f1 : fitW b [1] = true := by
    simp [fitW, okW]
    omega
  obtain ⟨Γ', s15⟩ := s15_ok (K := K) (z := z) (s0 := .val (scr ns)) (bs := bs4) (ls := ls) (b := b) (w := w) (lk := .own false [.bl (heldW b w), .bl (enoughW b w), .int (KM.G b w), .int (KM.S b w)]) (s6 := .val (dS F)) (s7 := .val (dS So)) (s8 := .val (dW pg)) (s9 := .val (dW op)) (s10 := .un) (s11 := .un) (s12 := .un) (s13 := .un) (s14 := .un) (s15 := .un) (s16 := s16') (s17 := .un) (s18 := .un) (s19 := .un) (s20 := s20') C f1
  refine ⟨Γ', ?_⟩
  unfold m_law
  rw [sk_nx s1, sk_nx s2, sk_nx s3, sk_nx s4, sk_nx s5, sk_nx s6, sk_nx s7, sk_nx s8, sk_nx s9, sk_nx (s10_ok A C), sk_nx s11, sk_nx s12_ok, sk_nx s13, sk_nx (s14_ok hs16)]
  have hlt : ∀ n : Nat, n ≤ 10 → n < sizeLine := fun n hn => Nat.lt_of_lt_of_le (m := 11) (by omega) (szK (by omega))
  have hacts : lam1M 21 (lq 0 z) (lamAM 21 (lq 1 z) (lamAM 21 (lq 2 z) (lamAM 21 (lq 3 z) (lamAM 21 (lq 4 z) (lamAM 21 (lq 5 z) (skM (m_law_s15 K z) (retM (cM (.bl true)))))))))
      (gD (.val (scr ns)) bs4 ls b w (.own false [.bl (heldW b w), .bl (enoughW b w), .int (KM.G b w), .int (KM.S b w)]) (.val (dS F)) (.val (dS So)) (.val (dW pg)) (.val (dW op)) .un .un .un .un .un .un s16' .un .un .un s20' .un .un)
      = skM (m_law_s15 K z) (retM (cM (.bl true))) (gD (.val (scr ns)) bs4 ls b w (.own false [.bl (heldW b w), .bl (enoughW b w), .int (KM.G b w), .int (KM.S b w)]) (.val (dS F)) (.val (dS So)) (.val (dW pg)) (.val (dW op)) .un .un .un .un .un .un s16' .un .un .un s20' (.own false (acts z)) .un) := by
    have l1 := hlt 1 (by omega)
    have l2 := hlt 2 (by omega)
    have l3 := hlt 3 (by omega)
    have l4 := hlt 4 (by omega)
    have l5 := hlt 5 (by omega)
    unfold lam1M
    rw [if_pos (by simp)]
    simp [lamAM, l1, l2, l3, l4, l5, acts, -skM_eq]
  refine hacts.trans ?_
  rw [sk_nx s15]
  rfl
end G
set_option Elab.async false
set_option linter.all false
set_option maxRecDepth 100000
set_option maxHeartbeats 0
namespace G
open PySem PySem.Spec PyProof.Rows L2 Mw LamX
theorem ap_K {K : PySem.W.Frag} (C : Says fa fn ex K) : Ap K := by
  obtain ⟨_, F1⟩ := C.says.def_ 16 (d := d_closed) rfl
  obtain ⟨_, F2⟩ := C.says.def_ 15 (d := d_filled) rfl
  obtain ⟨_, F3⟩ := C.says.def_ 19 (d := d_soon_step) rfl
  obtain ⟨_, F4⟩ := C.says.def_ 18 (d := d_full_step) rfl
  exact ⟨fun_ne F1 F2 (by decide), fun_ne F3 F4 (by decide)⟩
theorem math {K : PySem.W.Frag} (C : Says fa fn ex K) (ns : List Int) (hl : ns.length ≤ 63) (_ : ∀ z ∈ ns, Builtin.Int.intBits z ≤ 1048576) (z : Nat) : ∃ Γ', m_law K z (startG 26 [scr ns]) = .ok (.rt (.cl (.bl true)) Γ') := law_ok' (ap_K C) ns hl z
end G
namespace G
open PySem PySem.Spec PyProof.Rows L2 Mw LamX
abbrev R : PySem.W.OpenRow := PySem.W.OpenLaw.row PySem.Challenge.rw_pagebooks_k30_readers_fill_and_close
abbrev hk : PySem.W.Hook := hookX 4 fa fn ex
def ob (s : PySem.W.SharedT) : He.AlD × Bool := obX 4 fa fn ex (HandSHeadRun.getT s)
theorem ob_eq (s : PySem.W.SharedT) : ob s = hk.obs s.abs := obX_eq (HandSHeadRun.getT_eq s)
theorem run (w : World) : HandSHeadRun.RunEq R (PySem.W.view R.prog [54]) hk ob 3000 loose w := by
  intro os
  kernel_rfl
theorem law_ok {P : Program} {w : World} {K : PySem.W.Frag} {mg : PySem.Str → Option Value} {h : Heap} {a : Addr} (KX : K.In h) (C : Says fa fn ex K) (Gm : h.Ns mainGlobals mg) (hmg : mg "law" = some (.ref a)) : LawOk P w K mg 12 63 "script" a := by
  obtain ⟨fd, F⟩ := C.says.def_ (fn.length - 1) (d := d_law) rfl
  have e := hmg.symm.trans (He.glo_ok KX Gm (C.says.fact (fn.length - 1) (f := .glo "law") rfl))
  cases e
  have F' := F
  obtain ⟨oc, od, dV, kV, doc, pm, an, cdv, ct, osl, hfd, lk, hcd, hd1, hd2⟩ := F'.ex
  exact ⟨fd, oc, od, osl, 26, m_law K, lk, fun s u => FunD.bindsA (ps := ["script"]) F (fun _ _ _ _ _ _ us hl => match us, hl with | [_], _ => rfl) s [u] rfl, fun base c Pt k1 k2 TB hc => g_law KX Gm C F TB hc, fun ns hl hb z => math C ns hl hb z⟩
end G
open PySem PySem.W PySem.Calls PyProof.Rows
theorem PySem.Challenge.cw_pagebooks_k30_readers_fill_and_close_holds : PySem.Challenge.rw_pagebooks_k30_readers_fill_and_close.Holds := by
  w_on; o_law
  refine HandSHeadRun.head_any (r := OpenLaw.row PySem.Challenge.rw_pagebooks_k30_readers_fill_and_close) (q := view (OpenLaw.row PySem.Challenge.rw_pagebooks_k30_readers_fill_and_close).prog [54]) (H := G.hk) (ob := G.ob) (M := 3000) (loose := G.loose) (d := HandSHeadRun.topDef (OpenLaw.row PySem.Challenge.rw_pagebooks_k30_readers_fill_and_close).prog 54) (kwd := []) G.ob_eq
    (by kernel_rfl) (fun s => by kernel_rfl) G.run (by kernel_rfl) (by kernel_rfl) (by kernel_rfl) (by rfl) (by first | assumption | decide +kernel) (by decide +kernel) ⟨rfl, rfl, rfl, rfl, rfl, by decide +kernel⟩ ?hw ?hc
  case hw => w_witness2
  case hc =>
    refine Mw.walk_law (l := PySem.Challenge.rw_pagebooks_k30_readers_fill_and_close) (n := 63) (k := 12) (x := "script") rfl (by decide) (by kernel_rfl) ⟨rfl, by decide, by decide⟩ (by kernel_rfl) ?F
    intro w mg a h K KX S G0 hmg0
    have hmg : mg ("law" : PySem.Str) = some (.ref a) := by
      have e : (HandSHeadRun.topDef (OpenLaw.row PySem.Challenge.rw_pagebooks_k30_readers_fill_and_close).prog 54).name = ("law" : PySem.Str) := by kernel_rfl
      rw [← e]
      exact hmg0
    exact G.law_ok KX S G0 hmg
