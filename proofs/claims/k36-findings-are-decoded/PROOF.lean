import PyProof.Rows.All
import Wide.All
import OpenK.AllK
import Wide.FinOn
import KE.KStateDown
import HandS.Base
import HandS.Call
import HandS.List
import HandS.Comp
import HandS.Ends
import HandS.Exc
import HandS.ExcOwn
import HandS.Words
import HandS.WordsExc
import HandS.Defaults
import HandS.Deep
import HandS.TupAny
import HandS.IsInst
import HandS.Conv
import HandS.Iter
import HandS.Wide
import HandS.TupMul
import HandS.Text
import HandS.Flow
import HandS.Head0
import HandS.Head1
import HandS.Head2
import HandS.HeadEnd
import HandS.HeadHook1
import HandS.HeadHook2
import HandS.More
import PySem.Challenge.RW_totalc_k36_findings_are_decoded
set_option Elab.async false
set_option linter.all false
set_option maxRecDepth 100000
set_option maxHeartbeats 2000000
/-! The data layer: what a def does, told by a plain function over data (a mirror), over the hand layer's readings. -/
namespace L2.Zd
open PySem PySem.Spec PyProof.Rows

/-! ### data, states, results -/
abbrev D := PyData
/-- an error of the program's: its class's name, its fields -/
structure Ex where
  cls : Str
  fs : List (Str × D)
/-- a slot: empty; a frozen datum; an own list (its content) -/
inductive Sl where
  | no | fr (d : D) | ow (d : D)
abbrev DS := List Sl
/-- a value: frozen; a fresh own list; what the slot i holds -/
inductive Vt where
  | fr (d : D) | ow (d : D) | sl (i : Nat)
inductive R (α : Type) where
  | ok (a : α) (s : DS) | er (e : Ex) (s : DS) | no
abbrev M (α : Type) := DS → R α
def R.bind {α β : Type} (r : R α) (k : α → DS → R β) : R β := match r with
  | .ok a s => k a s
  | .er e s => .er e s
  | .no => .no
def mPure {α : Type} (a : α) : M α := fun s => .ok a s
def mBind {α β : Type} (m : M α) (k : α → M β) : M β := fun s => (m s).bind k
@[simp] theorem bind_ok {α β : Type} (a : α) (s : DS) (k : α → DS → R β) : (R.ok a s).bind k = k a s := rfl
@[simp] theorem bind_er {α β : Type} (e : Ex) (s : DS) (k : α → DS → R β) : (R.er e s : R α).bind k = .er e s := rfl
@[simp] theorem bind_no {α β : Type} (k : α → DS → R β) : (R.no : R α).bind k = .no := rfl
/-- the datum of a slot -/
def Sl.d : Sl → Option D
  | .no => none
  | .fr d => some d
  | .ow d => some d
/-- the datum of a value, as the slots now stand -/
def der : Vt → DS → Option D
  | .fr d, _ => some d
  | .ow d, _ => some d
  | .sl i, s => (s[i]?).bind Sl.d
/-- frozen: an own slot's list is frozen with it -/
def frzS (i : Nat) (s : DS) : Option Sl → Option (D × DS)
  | some (.fr d) => some (d, s)
  | some (.ow d) => some (d, s.set i (.fr d))
  | _ => none
def frz (x : Vt) (s : DS) : Option (D × DS) := match x with
  | .fr d => some (d, s)
  | .ow d => some (d, s)
  | .sl i => frzS i s s[i]?

/-! ### the heap: the frozen part F, the own cells -/
def FL (F F' : Hp) : Prop := ∀ a o, F a = some o → F' a = some o
theorem FL.refl {F : Hp} : FL F F := fun _ _ h => h
theorem FL.trans {F G H : Hp} (a : FL F G) (b : FL G H) : FL F H := fun c o h => b c o (a c o h)
theorem FL.rd {F F' : Hp} (f : FL F F') {a : Addr} {u : HO} (h : Rd F a u) : Rd F' a u := by
  rcases h with h | ⟨o, h⟩
  · exact .inl (f _ _ h)
  · exact .inr ⟨o, f _ _ h⟩
theorem FL.sqL {K : PySem.W.Frag} {F F' : Hp} (f : FL F F') {a : Addr} {xs : List V} (h : SqL K F a xs) : SqL K F' a xs := by
  rcases h with h | h
  · exact .inl (f.rd h)
  · exact .inr h
theorem FL.sqT {K : PySem.W.Frag} {F F' : Hp} (f : FL F F') {a : Addr} {xs : List V} (h : SqT K F a xs) : SqT K F' a xs := by
  rcases h with h | h
  · exact .inl (f.rd h)
  · exact .inr h
mutual
theorem dp_mono {K : PySem.W.Frag} {F F' : Hp} (f : FL F F') : ∀ {d : D} {v : V}, Dp K F v d → Dp K F' v d
  | .none, _, h => by cases h; exact .non
  | .bool _, _, h => by cases h; exact .bl _
  | .int _, _, h => by cases h; exact .int _
  | .str _, _, h => by cases h; exact .str _
  | .list ds, _, h => by
    cases h with
    | lst h1 h2 => exact .lst (f.sqL h1) (dpAll_mono f h2)
  | .tuple ds, _, h => by
    cases h with
    | tup h1 h2 => exact .tup (f.sqT h1) (dpAll_mono f h2)
  | .dict _, _, h => by cases h
theorem dpAll_mono {K : PySem.W.Frag} {F F' : Hp} (f : FL F F') : ∀ {ds : List D} {vs : List V}, DpAll K F vs ds → DpAll K F' vs ds
  | [], _, h => by cases h; exact .nil
  | d :: ds, _, h => by
    cases h with
    | cons h1 h2 => exact .cons (dp_mono f h1) (dpAll_mono f h2)
end
theorem _root_.L2.DpAll.length {K : PySem.W.Frag} {F : Hp} : ∀ {vs : List V} {ds : List D}, DpAll K F vs ds → vs.length = ds.length
  | _, _, .nil => rfl
  | _, _, .cons _ h => congrArg Nat.succ (DpAll.length h)
theorem _root_.L2.DpAll.get {K : PySem.W.Frag} {F : Hp} : ∀ {vs : List V} {ds : List D} {i : Nat} {d : D}, DpAll K F vs ds → ds[i]? = some d → ∃ v, vs[i]? = some v ∧ Dp K F v d
  | _, _, 0, _, .cons h _, e => by simp at e; subst e; exact ⟨_, rfl, h⟩
  | _, _, i + 1, d, .cons _ t, e => by
    obtain ⟨v, h1, h2⟩ := DpAll.get (i := i) (d := d) t (by simpa using e)
    exact ⟨v, by simpa using h1, h2⟩
  | _, _, _, _, .nil, e => by simp at e
theorem _root_.L2.DpAll.getV {K : PySem.W.Frag} {F : Hp} : ∀ {vs : List V} {ds : List D} {i : Nat} {v : V}, DpAll K F vs ds → vs[i]? = some v → ∃ d, ds[i]? = some d ∧ Dp K F v d
  | _, _, 0, _, .cons h _, e => by simp at e; subst e; exact ⟨_, rfl, h⟩
  | _, _, i + 1, d, .cons _ t, e => by
    obtain ⟨v, h1, h2⟩ := DpAll.getV (i := i) (v := d) t (by simpa using e)
    exact ⟨v, by simpa using h1, h2⟩
  | _, _, _, _, .nil, e => by simp at e
theorem _root_.L2.DpAll.append {K : PySem.W.Frag} {F : Hp} : ∀ {vs ws : List V} {ds es : List D}, DpAll K F vs ds → DpAll K F ws es → DpAll K F (vs ++ ws) (ds ++ es)
  | _, _, _, _, .nil, h => h
  | _, _, _, _, .cons h t, u => .cons h (DpAll.append t u)
theorem _root_.L2.DpAll.take {K : PySem.W.Frag} {F : Hp} : ∀ {vs : List V} {ds : List D} (n : Nat), DpAll K F vs ds → DpAll K F (vs.take n) (ds.take n)
  | _, _, 0, _ => .nil
  | _, _, _ + 1, .nil => .nil
  | _, _, n + 1, .cons h t => .cons h (DpAll.take n t)
theorem _root_.L2.DpAll.drop {K : PySem.W.Frag} {F : Hp} : ∀ {vs : List V} {ds : List D} (n : Nat), DpAll K F vs ds → DpAll K F (vs.drop n) (ds.drop n)
  | _, _, 0, h => h
  | _, _, _ + 1, .nil => .nil
  | _, _, n + 1, .cons _ t => DpAll.drop n t
theorem _root_.L2.DpAll.set {K : PySem.W.Frag} {F : Hp} {v : V} {d : D} (h : Dp K F v d) : ∀ {vs : List V} {ds : List D} (i : Nat), DpAll K F vs ds → DpAll K F (vs.set i v) (ds.set i d)
  | _, _, _, .nil => .nil
  | _, _, 0, .cons _ t => .cons h t
  | _, _, i + 1, .cons q t => .cons q (DpAll.set h i t)
theorem _root_.L2.DpAll.erase {K : PySem.W.Frag} {F : Hp} : ∀ {vs : List V} {ds : List D} (i : Nat), DpAll K F vs ds → DpAll K F (vs.eraseIdx i) (ds.eraseIdx i)
  | _, _, _, .nil => .nil
  | _, _, 0, .cons _ t => t
  | _, _, i + 1, .cons q t => .cons q (DpAll.erase i t)

/-- what an own cell holds -/
def Cont (K : PySem.W.Frag) (F : Hp) : HO → D → Prop
  | .lst vs, .list ds => DpAll K F vs ds
  | _, _ => False
theorem Cont.mono {K : PySem.W.Frag} {F F' : Hp} (f : FL F F') {o : HO} {d : D} (h : Cont K F o d) : Cont K F' o d := by
  cases o <;> cases d <;> first
    | exact dpAll_mono f h
    | exact h.elim
theorem Cont.list {K : PySem.W.Frag} {F : Hp} {o : HO} {ds : List D} (h : Cont K F o (.list ds)) : ∃ vs, o = .lst vs ∧ DpAll K F vs ds := by
  cases o <;> first
    | exact ⟨_, rfl, h⟩
    | exact h.elim
/-- the frame's base: the addresses of the lists that it may change, slots that may not be stored, the heap and its frozen part at the entry -/
structure By where
  ex : List Addr
  lk : List (Nat × Addr)
  H0 : Hp
  F0 : Hp
structure Own (K : PySem.W.Frag) (B : By) (H F : Hp) (a : Addr) (d : D) : Prop where
  ob : ∃ o, H a = some o ∧ Cont K F o d
  nf : F a = none
  new : B.H0 a = none ∨ a ∈ B.ex
/-- the slot i is own, at the address a -/
def OwAt (sd : DS) (σ : St) (a : Addr) : Prop := ∃ (i : Nat) (d : D), sd[i]? = some (Sl.ow d) ∧ σ[i]? = some (some (V.ref a))
structure Rep (K : PySem.W.Frag) (B : By) (sd : DS) (σ : St) (H F : Hp) : Prop where
  le : FL F H
  len : sd.length = σ.length
  fr : ∀ (i : Nat) (d : D), sd[i]? = some (Sl.fr d) → ∃ v : V, σ[i]? = some (some v) ∧ Dp K F v d
  ow : ∀ (i : Nat) (d : D), sd[i]? = some (Sl.ow d) → ∃ a : Addr, σ[i]? = some (some (V.ref a)) ∧ Own K B H F a d
  dis : ∀ (i j : Nat) (d e : D) (a : Addr), i ≠ j → sd[i]? = some (Sl.ow d) → sd[j]? = some (Sl.ow e) → σ[i]? = some (some (V.ref a)) → σ[j]? ≠ some (some (V.ref a))
  lk : ∀ p ∈ B.lk, σ[p.1]? = some (some (V.ref p.2))
  f0 : FL B.F0 F
  h0 : ∀ a o, B.H0 a = some o → a ∉ B.ex → H a = some o
  nw : ∀ a o, F a = some o → B.F0 a = some o ∨ B.H0 a = none ∨ a ∈ B.ex
  al : ∀ a ∈ B.ex, ∃ o, H a = some o
/-- a step within an expression: own cells may change, all else stands; what is newly frozen is new, or was own -/
structure Stp (sd sd' : DS) (σ : St) (H F H' F' : Hp) : Prop where
  f : FL F F'
  a : ∀ a o, H a = some o → ∃ o', H' a = some o'
  h : ∀ a o, H a = some o → ¬ OwAt sd σ a → H' a = some o
  n : ∀ a o, F' a = some o → F a = some o ∨ H a = none ∨ OwAt sd σ a
  s : ∀ (i : Nat) (d : D), sd'[i]? = some (Sl.ow d) → ∃ e, sd[i]? = some (Sl.ow e)
  k : ∀ (i : Nat) (x : Sl), sd[i]? = some x → x.d.isSome = true → ∃ y : Sl, sd'[i]? = some y ∧ y.d.isSome = true
theorem Stp.own {sd sd' : DS} {σ : St} {H F H' F' : Hp} (p : Stp sd sd' σ H F H' F') {a : Addr} (h : OwAt sd' σ a) : OwAt sd σ a := by
  obtain ⟨i, d, h1, h2⟩ := h
  obtain ⟨e, h3⟩ := p.s i d h1
  exact ⟨i, e, h3, h2⟩
theorem Stp.fresh {sd sd' : DS} {σ : St} {H F H' F' : Hp} (p : Stp sd sd' σ H F H' F') {a : Addr} (h : H' a = none) : H a = none := by
  cases e : H a with
  | none => rfl
  | some o =>
    obtain ⟨o', e'⟩ := p.a a o e
    rw [h] at e'; cases e'
theorem Stp.refl {sd : DS} {σ : St} {H F : Hp} : Stp sd sd σ H F H F := ⟨.refl, fun _ o h => ⟨o, h⟩, fun _ _ h _ => h, fun _ _ h => .inl h, fun _ d h => ⟨d, h⟩, fun _ x h e => ⟨x, h, e⟩⟩
theorem Stp.trans {sd sd1 sd2 : DS} {σ : St} {H F H1 F1 H2 F2 : Hp} (p : Stp sd sd1 σ H F H1 F1) (q : Stp sd1 sd2 σ H1 F1 H2 F2) : Stp sd sd2 σ H F H2 F2 where
  f := p.f.trans q.f
  a := fun a o e => by
    obtain ⟨o1, e1⟩ := p.a a o e
    exact q.a a o1 e1
  h := fun a o e n => q.h a o (p.h a o e n) fun z => n (p.own z)
  n := fun a o e => by
    by_cases hw : OwAt sd σ a
    · exact .inr (.inr hw)
    · rcases q.n a o e with z | z | z
      · exact p.n a o z
      · refine .inr (.inl ?_)
        cases e1 : H a with
        | none => rfl
        | some u => rw [p.h a u e1 hw] at z; cases z
      · exact absurd (p.own z) hw
  s := fun i d h => by
    obtain ⟨e, h1⟩ := q.s i d h
    exact p.s i e h1
  k := fun i x h e => by
    obtain ⟨y, h1, h2⟩ := p.k i x h e
    exact q.k i y h1 h2
/-- a value and its tag; Hs: the heap at the evaluation's start -/
def VtOk (K : PySem.W.Frag) (B : By) (Hs : Hp) (sd : DS) (σ : St) (H F : Hp) (v : V) : Vt → Prop
  | .fr d => Dp K F v d
  | .ow d => ∃ p, v = .ref p ∧ Own K B H F p d ∧ B.H0 p = none ∧ ¬ OwAt sd σ p ∧ Hs p = none
  | .sl i => σ[i]? = some (some v) ∧ ∃ x : Sl, sd[i]? = some x ∧ x.d.isSome = true
theorem VtOk.sld {K : PySem.W.Frag} {B : By} {Hs : Hp} {sd : DS} {σ : St} {H F : Hp} {v : V} {i : Nat} (h : VtOk K B Hs sd σ H F v (.sl i)) : ∃ d : D, (sd[i]? = some (Sl.fr d) ∨ sd[i]? = some (Sl.ow d)) ∧ der (.sl i) sd = some d := by
  obtain ⟨_, x, hx, hd⟩ := h
  cases x with
  | no => cases hd
  | fr d => exact ⟨d, .inl hx, by simp [der, hx, Sl.d]⟩
  | ow d => exact ⟨d, .inr hx, by simp [der, hx, Sl.d]⟩
/-- from an earlier start -/
theorem VtOk.back {K : PySem.W.Frag} {B : By} {Hs H1 : Hp} {sd : DS} {σ : St} {H F : Hp} {v : V} {x : Vt} (b : ∀ a, H1 a = none → Hs a = none) (h : VtOk K B H1 sd σ H F v x) : VtOk K B Hs sd σ H F v x := by
  cases x with
  | fr d => exact h
  | ow d =>
    obtain ⟨p, h1, h2, h3, h4, h5⟩ := h
    exact ⟨p, h1, h2, h3, h4, b p h5⟩
  | sl i => exact h

/-! ### a value as it is looked at: frozen or own alike -/
/-- v stands for d, to be looked at: the items of a list or a tuple are frozen -/
def Vw (K : PySem.W.Frag) (H F : Hp) (v : V) : D → Prop
  | .none => v = .non
  | .bool b => v = .bl b
  | .int i => v = .int i
  | .str s => v = .str s
  | .list ds => ∃ a vs, v = .ref a ∧ SqL K H a vs ∧ DpAll K F vs ds
  | .tuple ds => ∃ a vs, v = .ref a ∧ SqT K F a vs ∧ DpAll K F vs ds
  | .dict _ => False
theorem Vw.of_dp {K : PySem.W.Frag} {H F : Hp} (le : FL F H) {v : V} {d : D} (h : Dp K F v d) : Vw K H F v d := by
  cases h with
  | non => rfl
  | bl b => rfl
  | int i => rfl
  | str x => rfl
  | lst h1 h2 => exact ⟨_, _, rfl, le.sqL h1, h2⟩
  | tup h1 h2 => exact ⟨_, _, rfl, h1, h2⟩
theorem Vw.dp {K : PySem.W.Frag} {H F : Hp} (le : FL F H) {v : V} {d : D} (h : Vw K H F v d) : Dp K H v d := by
  cases d with
  | none => cases (show v = .non from h); exact .non
  | bool b => cases (show v = .bl b from h); exact .bl b
  | int i => cases (show v = .int i from h); exact .int i
  | str s => cases (show v = .str s from h); exact .str s
  | list ds => obtain ⟨a, vs, rfl, h1, h2⟩ := h; exact .lst h1 (dpAll_mono le h2)
  | tuple ds => obtain ⟨a, vs, rfl, h1, h2⟩ := h; exact .tup (le.sqT h1) (dpAll_mono le h2)
  | dict _ => exact h.elim
theorem Vw.of_own {K : PySem.W.Frag} {B : By} {H F : Hp} {a : Addr} {d : D} (h : Own K B H F a d) : Vw K H F (.ref a) d := by
  obtain ⟨o, h1, h2⟩ := h.ob
  cases o <;> cases d <;> first
    | exact ⟨_, _, rfl, SqL.of h1, h2⟩
    | exact h2.elim
theorem VtOk.vw {K : PySem.W.Frag} {B : By} {Hs : Hp} {sd : DS} {σ : St} {H F : Hp} {v : V} {x : Vt} {d : D} (rp : Rep K B sd σ H F) (h : VtOk K B Hs sd σ H F v x) (e : der x sd = some d) : Vw K H F v d := by
  cases x with
  | fr d' => cases e; exact Vw.of_dp rp.le h
  | ow d' =>
    cases e
    obtain ⟨p, rfl, h1, _⟩ := h
    exact Vw.of_own h1
  | sl i =>
    obtain ⟨d', h1, h2⟩ := VtOk.sld h
    rw [e] at h2; cases h2
    rcases h1 with h1 | h1
    · obtain ⟨v', e1, e2⟩ := rp.fr i d h1
      have := h.1
      rw [e1] at this; cases this
      exact Vw.of_dp rp.le e2
    · obtain ⟨a, e1, e2⟩ := rp.ow i d h1
      have := h.1
      rw [e1] at this; cases this
      exact Vw.of_own e2
/-- a value's tag stands behind a step -/
theorem VtOk.stp {K : PySem.W.Frag} {B : By} {Hs : Hp} {sd sd' : DS} {σ : St} {H F H' F' : Hp} {v : V} {x : Vt} (p : Stp sd sd' σ H F H' F')
    (h : VtOk K B Hs sd σ H F v x) : VtOk K B Hs sd' σ H' F' v x := by
  cases x with
  | fr d => exact dp_mono p.f h
  | ow d =>
    obtain ⟨q, rfl, ⟨⟨o, h1, h2⟩, h3, h4⟩, h5, h6, h7⟩ := h
    refine ⟨q, rfl, ⟨⟨o, p.h q o h1 h6, h2.mono p.f⟩, ?_, h4⟩, h5, fun z => h6 (p.own z), h7⟩
    cases e : F' q with
    | none => rfl
    | some u =>
      rcases p.n q u e with z | z | z
      · rw [h3] at z; cases z
      · rw [h1] at z; cases z
      · exact absurd z h6
  | sl i =>
    obtain ⟨h0, x, h1, h2⟩ := h
    exact ⟨h0, p.k i x h1 h2⟩

/-! ### readings -/
/-- what is wanted of an error -/
abbrev WX' := Ex → DS → St → Hp → Hp → Prop
def Pst {α : Type} (K : PySem.W.Frag) (B : By) (W : WX') (sd : DS) (σ : St) (H F : Hp) (r : R α) (P : α → DS → Hp → Hp → Prop) : Prop := match r with
  | .ok a s' => ∀ H' F', Stp sd s' σ H F H' F' → Rep K B s' σ H' F' → P a s' H' F'
  | .er e s' => ∀ H' F', Stp sd s' σ H F H' F' → Rep K B s' σ H' F' → W e s' σ H' F'
  | .no => False
section
variable {α β : Type} {K : PySem.W.Frag} {B : By} {W : WX'} {sd : DS} {σ : St} {H F : Hp} {r : R α} {P P' : α → DS → Hp → Hp → Prop}
theorem Pst.mono (h : Pst K B W sd σ H F r P) (f : ∀ a s' H' F', r = .ok a s' → Stp sd s' σ H F H' F' → Rep K B s' σ H' F' → P a s' H' F' → P' a s' H' F') : Pst K B W sd σ H F r P' := by
  cases r with
  | ok a s' => exact fun H' F' p q => f a s' H' F' rfl p q (h H' F' p q)
  | er e s' => exact h
  | no => exact h
theorem Pst.bind {k : α → DS → R β} {P : β → DS → Hp → Hp → Prop} (h : Pst K B W sd σ H F (r.bind k) P) :
    Pst K B W sd σ H F r fun a s1 H1 F1 => Pst K B W s1 σ H1 F1 (k a s1) P := by
  cases r with
  | ok a s1 =>
    intro H1 F1 p1 q1
    have h' : Pst K B W sd σ H F (k a s1) P := h
    cases e : k a s1 with
    | ok b s2 => rw [e] at h'; exact fun H2 F2 p2 q2 => h' H2 F2 (p1.trans p2) q2
    | er x s2 => rw [e] at h'; exact fun H2 F2 p2 q2 => h' H2 F2 (p1.trans p2) q2
    | no => rw [e] at h'; exact h'
  | er e s' => exact h
  | no => exact h
/-- an answer at once -/
theorem Pst.now {a : α} (h : Pst K B W sd σ H F (.ok a sd) P) (rp : Rep K B sd σ H F) : P a sd H F := h H F .refl rp
end
/-- an expression's reading by its mirror -/
def rd (K : PySem.W.Frag) (B : By) (W : WX') (m : M Vt) : TE := fun σ H Q => ∃ sd F, Rep K B sd σ H F ∧ Pst K B W sd σ H F (m sd) fun x s' H' F' => ∀ v, VtOk K B H s' σ H' F' v x → Q v H'
/-- a test's -/
def rdT (K : PySem.W.Frag) (B : By) (W : WX') (m : M Bool) : TT := fun σ H Q => ∃ sd F, Rep K B sd σ H F ∧ Pst K B W sd σ H F (m sd) fun b _ H' _ => Q b H'
/-- an argument list's: frozen data and slots -/
def VtsOk (K : PySem.W.Frag) (B : By) (Hs : Hp) (sd : DS) (σ : St) (H F : Hp) : List V → List Vt → Prop := Paired fun v x => VtOk K B Hs sd σ H F v x
def rdA (K : PySem.W.Frag) (B : By) (W : WX') (m : M (List Vt)) : TA := fun σ H Q => ∃ sd F, Rep K B sd σ H F ∧ Pst K B W sd σ H F (m sd) fun xs s' H' F' => ∀ vs, VtsOk K B H s' σ H' F' vs xs → Q vs H'
theorem Paired.map' {α β : Type} {F G : α → β → Prop} : ∀ {l₁ : List α} {l₂ : List β}, Paired F l₁ l₂ → (∀ a b, F a b → G a b) → Paired G l₁ l₂
  | _, _, .nil, _ => .nil
  | _, _, .cons r t, f => .cons (f _ _ r) (Paired.map' t f)
theorem VtsOk.stp {K : PySem.W.Frag} {B : By} {Hs : Hp} {sd sd' : DS} {σ : St} {H F H' F' : Hp} {vs : List V} {xs : List Vt} (p : Stp sd sd' σ H F H' F') (h : VtsOk K B Hs sd σ H F vs xs) : VtsOk K B Hs sd' σ H' F' vs xs :=
  Paired.map' h fun _ _ q => q.stp p
theorem VtsOk.back {K : PySem.W.Frag} {B : By} {Hs H1 : Hp} {sd : DS} {σ : St} {H F : Hp} {vs : List V} {xs : List Vt} (b : ∀ a, H1 a = none → Hs a = none) (h : VtsOk K B H1 sd σ H F vs xs) : VtsOk K B Hs sd σ H F vs xs :=
  Paired.map' h fun _ _ q => q.back b
theorem _root_.L2.PE.imp {X : Cx} {e : Expr} {t t' : TE} (h : PE X e t) (f : ∀ σ H Q, t' σ H Q → t σ H Q) : PE X e t' := ⟨fun pins s σ H Q I q => h.run pins s σ H Q I (f σ H Q q)⟩
theorem _root_.L2.PT.imp {X : Cx} {e : Expr} {t t' : TT} (h : PT X e t) (f : ∀ σ H Q, t' σ H Q → t σ H Q) : PT X e t' := ⟨fun pins s σ H Q I q => h.run pins s σ H Q I (f σ H Q q)⟩
theorem _root_.L2.PA.imp {X : Cx} {e : List Expr} {t t' : TA} (h : PA X e t) (f : ∀ σ H Q, t' σ H Q → t σ H Q) : PA X e t' := ⟨fun pos pins s σ H Q I q => h.run pos pins s σ H Q I (f σ H Q q)⟩
theorem _root_.L2.PS.imp {X : Cx} {e : Stmt} {t t' : TS} (h : PS X e t) (f : ∀ Dn σ H, t' Dn σ H → t Dn σ H) : PS X e t' := ⟨fun pins s σ H Q I q => h.run pins s σ H Q I (f Q σ H q)⟩
theorem _root_.L2.PSs.imp {X : Cx} {e : List Stmt} {t t' : TS} (h : PSs X e t) (f : ∀ Dn σ H, t' Dn σ H → t Dn σ H) : PSs X e t' := ⟨fun pins s σ H Q I q => h.run pins s σ H Q I (f Q σ H q)⟩

/-! ### what a primitive hands back -/
/-- z is handed back from here, what stands is kept -/
def Res (K : PySem.W.Frag) (B : By) (s : DS) (σ : St) (H F : Hp) (z : Vt) (Q : VK) : Prop := ∀ v H' F', Stp s s σ H F H' F' → Rep K B s σ H' F' → VtOk K B H s σ H' F' v z → Q v H'
section
variable {K : PySem.W.Frag} {B : By} {s : DS} {σ : St} {H F : Hp} {Q : VK}
theorem Res.val {v : V} {d : D} (rp : Rep K B s σ H F) (h : Res K B s σ H F (.fr d) Q) (q : Dp K F v d) : Q v H := h v H F .refl rp q
theorem Rep.h0none (rp : Rep K B s σ H F) {p : Addr} (hp : H p = none) : B.H0 p = none := by
  cases e : B.H0 p with
  | none => rfl
  | some o =>
    by_cases hx : p ∈ B.ex
    · obtain ⟨u, z⟩ := rp.al p hx
      rw [hp] at z; cases z
    · have z := rp.h0 p o e hx
      rw [hp] at z; cases z
theorem Rep.owH (rp : Rep K B s σ H F) {p : Addr} (hw : OwAt s σ p) : ∃ o, H p = some o := by
  obtain ⟨i, d, h1, h2⟩ := hw
  obtain ⟨a, h3, h4⟩ := rp.ow i d h1
  rw [h2] at h3; cases h3
  obtain ⟨o, h5, _⟩ := h4.ob
  exact ⟨o, h5⟩
theorem Rep.fnone (rp : Rep K B s σ H F) {p : Addr} (hp : H p = none) : F p = none := by
  cases e : F p with
  | none => rfl
  | some o => have z := rp.le p o e; rw [hp] at z; cases z
theorem Rep.nown (rp : Rep K B s σ H F) {p : Addr} (hp : H p = none) : ¬ OwAt s σ p := fun z => by
  obtain ⟨o, e⟩ := rp.owH z
  rw [hp] at e; cases e
/-- a new cell is laid, not frozen -/
theorem Rep.laid (rp : Rep K B s σ H F) {p : Addr} (hp : H p = none) (o : HO) : Rep K B s σ (upd H p o) F where
  le := fun a u e => by rw [upd_ne (ne_of_none (rp.le a u e) hp)]; exact rp.le a u e
  len := rp.len
  fr := rp.fr
  ow := fun i d h => by
    obtain ⟨a, h1, ⟨u, h2, h3⟩, h4, h5⟩ := rp.ow i d h
    exact ⟨a, h1, ⟨u, by rw [upd_ne (ne_of_none h2 hp)]; exact h2, h3⟩, h4, h5⟩
  dis := rp.dis
  lk := rp.lk
  f0 := rp.f0
  h0 := fun a u e n => by rw [upd_ne (ne_of_none (rp.h0 a u e n) hp)]; exact rp.h0 a u e n
  nw := rp.nw
  al := fun a ha => by
    obtain ⟨u, e⟩ := rp.al a ha
    exact ⟨u, by rw [upd_ne (ne_of_none e hp)]; exact e⟩
theorem Stp.laid {p : Addr} (hp : H p = none) (o : HO) : Stp s s σ H F (upd H p o) F where
  f := .refl
  a := fun a u e => ⟨u, by rw [upd_ne (ne_of_none e hp)]; exact e⟩
  h := fun a u e _ => by rw [upd_ne (ne_of_none e hp)]; exact e
  n := fun a u e => .inl e
  s := fun _ d h => ⟨d, h⟩
  k := fun _ x h e => ⟨x, h, e⟩
/-- a cell that is neither frozen nor a slot's own is frozen -/
theorem Rep.ice (rp : Rep K B s σ H F) {p : Addr} {o : HO} (hp : H p = some o) (hn : B.H0 p = none ∨ p ∈ B.ex) (hw : ¬ OwAt s σ p) (hf : F p = none) : Rep K B s σ H (upd F p o) := by
  have fl : FL F (upd F p o) := fun a u e => by rw [upd_ne (ne_of_none e hf)]; exact e
  refine ⟨fun a u e => ?_, rp.len, fun i d h => ?_, fun i d h => ?_, rp.dis, rp.lk, rp.f0.trans fl, rp.h0, fun a u e => ?_, rp.al⟩
  · by_cases ha : a = p
    · subst ha; rw [upd_same] at e; cases e; exact hp
    · rw [upd_ne ha] at e; exact rp.le a u e
  · obtain ⟨v, h1, h2⟩ := rp.fr i d h
    exact ⟨v, h1, dp_mono fl h2⟩
  · obtain ⟨a, h1, ⟨u, h2, h3⟩, h4, h5⟩ := rp.ow i d h
    refine ⟨a, h1, ⟨u, h2, h3.mono fl⟩, ?_, h5⟩
    rw [upd_ne (fun z => hw ⟨i, d, h, by rw [← z]; exact h1⟩)]
    exact h4
  · by_cases ha : a = p
    · exact .inr (by rw [ha]; exact hn)
    · rw [upd_ne ha] at e; exact rp.nw a u e
theorem Res.tup {ds : List D} {vs : List V} (rp : Rep K B s σ H F) (h : Res K B s σ H F (.fr (.tuple ds)) Q) (q : DpAll K F vs ds) (p : Addr) (hp : H p = none) : Q (.ref p) (upd H p (.tup vs)) := by
  have fl : FL F (upd F p (.tup vs)) := fun a u e => by rw [upd_ne (ne_of_none (rp.le a u e) hp)]; exact e
  refine h _ _ (upd F p (.tup vs)) ?_ ((rp.laid hp (.tup vs)).ice upd_same (.inl (rp.h0none hp)) (fun z => rp.nown hp z) (rp.fnone hp)) (.tup (SqT.of upd_same) (dpAll_mono fl q))
  refine ⟨fl, (Stp.laid (s := s) (σ := σ) (F := F) hp _).a, (Stp.laid (s := s) (σ := σ) (F := F) hp _).h, fun a u e => ?_, fun _ d h => ⟨d, h⟩, fun _ x h e => ⟨x, h, e⟩⟩
  by_cases ha : a = p
  · exact .inr (.inl (by rw [ha]; exact hp))
  · rw [upd_ne ha] at e; exact .inl e
theorem Res.lst {ds : List D} {vs : List V} (rp : Rep K B s σ H F) (h : Res K B s σ H F (.ow (.list ds)) Q) (q : DpAll K F vs ds) (p : Addr) (hp : H p = none) : Q (.ref p) (upd H p (.lst vs)) :=
  h _ _ F (.laid hp _) (rp.laid hp _) ⟨p, rfl, ⟨⟨_, upd_same, q⟩, rp.fnone hp, .inl (rp.h0none hp)⟩, rp.h0none hp, rp.nown hp, hp⟩
end

/-! ### freezing -/
theorem frz_ok {K : PySem.W.Frag} {B : By} {Hs : Hp} {s s' : DS} {σ : St} {H F Fs : Hp} {s0 : DS} {v : V} {x : Vt} {d : D} (p0 : Stp s0 s σ Hs Fs H F) (rp : Rep K B s σ H F) (h : VtOk K B Hs s σ H F v x) (e : frz x s = some (d, s')) :
    ∃ F', Stp s0 s' σ Hs Fs H F' ∧ Rep K B s' σ H F' ∧ Dp K F' v d ∧ FL F F' := by
  cases x with
  | fr d' => cases e; exact ⟨F, p0, rp, h, .refl⟩
  | ow d' =>
    cases e
    obtain ⟨p, rfl, ⟨⟨o, h1, h2⟩, h3, h4⟩, h5, h6, h7⟩ := h
    have fl : FL F (upd F p o) := fun a u e => by rw [upd_ne (ne_of_none e h3)]; exact e
    refine ⟨upd F p o, ⟨p0.f.trans fl, p0.a, p0.h, fun a u e => ?_, p0.s, p0.k⟩, rp.ice h1 (.inl h5) h6 h3, ?_, fl⟩
    · by_cases ha : a = p
      · exact .inr (.inl (by rw [ha]; exact h7))
      · rw [upd_ne ha] at e; exact p0.n a u e
    · have h2' := h2.mono fl
      cases o <;> cases d <;> first
        | exact .lst (SqL.of upd_same) h2'
        | exact h2'.elim
  | sl i =>
    obtain ⟨d', h1, h2⟩ := VtOk.sld h
    rcases h1 with h1 | h1
    · have e' : some (d', s) = some (d, s') := by rw [← e]; show _ = frzS i s s[i]?; rw [h1]; rfl
      cases e'
      obtain ⟨v', e1, e2⟩ := rp.fr i d h1
      have := h.1
      rw [e1] at this; cases this
      exact ⟨F, p0, rp, e2, .refl⟩
    · have e' : some (d', s.set i (.fr d')) = some (d, s') := by rw [← e]; show _ = frzS i s s[i]?; rw [h1]; rfl
      cases e'
      obtain ⟨a, e1, ⟨o, e2, e3⟩, e4, e5⟩ := rp.ow i d h1
      have := h.1
      rw [e1] at this; cases this
      have fl : FL F (upd F a o) := fun b u e => by rw [upd_ne (ne_of_none e e4)]; exact e
      have hi : i < s.length := (List.getElem?_eq_some_iff.mp h1).1
      have dd : Dp K (upd F a o) (.ref a) d := by
        have h2' := e3.mono fl
        cases o <;> cases d <;> first
          | exact .lst (SqL.of upd_same) h2'
          | exact h2'.elim
      have back : ∀ (j : Nat) (x : D), (s.set i (.fr d))[j]? = some (Sl.ow x) → i ≠ j ∧ s[j]? = some (Sl.ow x) := fun j x q => by
        by_cases hj : i = j
        · subst hj; rw [List.getElem?_set_self hi] at q; cases q
        · rw [List.getElem?_set_ne hj] at q; exact ⟨hj, q⟩
      refine ⟨upd F a o, ⟨p0.f.trans fl, p0.a, p0.h, fun b u e => ?_, fun j x q => p0.s j x (back j x q).2, fun j x q z => ?_⟩, ⟨fun b u e => ?_, by rw [List.length_set]; exact rp.len, fun j x q => ?_, fun j x q => ?_, fun j k x y b n q1 q2 => ?_, rp.lk, rp.f0.trans fl, rp.h0, fun b u e => ?_, rp.al⟩, dd, fl⟩
      · by_cases ha : b = a
        · obtain ⟨e', q'⟩ := p0.s i d h1
          exact .inr (.inr ⟨i, e', q', by rw [ha]; exact e1⟩)
        · rw [upd_ne ha] at e; exact p0.n b u e
      · obtain ⟨y, q1, q2⟩ := p0.k j x q z
        by_cases hj : i = j
        · subst hj; exact ⟨.fr d, List.getElem?_set_self hi, rfl⟩
        · exact ⟨y, by rw [List.getElem?_set_ne hj]; exact q1, q2⟩
      · by_cases ha : b = a
        · subst ha; rw [upd_same] at e; cases e; exact e2
        · rw [upd_ne ha] at e; exact rp.le b u e
      · by_cases hj : i = j
        · subst hj; rw [List.getElem?_set_self hi] at q; cases q; exact ⟨_, e1, dd⟩
        · rw [List.getElem?_set_ne hj] at q
          obtain ⟨v, q1, q2⟩ := rp.fr j x q
          exact ⟨v, q1, dp_mono fl q2⟩
      · obtain ⟨hj, q'⟩ := back j x q
        obtain ⟨b, q1, ⟨u, q2, q3⟩, q4, q5⟩ := rp.ow j x q'
        refine ⟨b, q1, ⟨u, q2, q3.mono fl⟩, ?_, q5⟩
        rw [upd_ne (fun z => rp.dis i j d x a hj h1 q' e1 (by rw [← z]; exact q1))]
        exact q4
      · exact rp.dis j k x y b n (back j x q1).2 (back k y q2).2
      · by_cases ha : b = a
        · exact .inr (by rw [ha]; exact e5)
        · rw [upd_ne ha] at e; exact rp.nw b u e
end L2.Zd

set_option Elab.async false
set_option linter.all false
set_option maxRecDepth 100000
set_option maxHeartbeats 2000000
namespace L2.Zd
open PySem PySem.Spec PyProof.Rows

/-! ### names, constants -/
def varS (i : Nat) (s : DS) : Option Sl → R Vt
  | some (.fr d) => .ok (.fr d) s
  | some (.ow _) => .ok (.sl i) s
  | _ => .no
def dVar (i : Nat) : M Vt := fun s => varS i s s[i]?
def dC (d : D) : M Vt := fun s => .ok (.fr d) s
section
variable {X : Cx} {B : By} {W : WX'}
theorem zv (i : Nat) {x : Str} {pos : Pos} (hN : X.N[i]? = some x := by rfl) (hv : Vis X.env.scope x := by first | exact Or.inl rfl | exact Or.inr (Or.inl rfl) | exact Or.inr (Or.inr rfl)) (hd : (x == ("__debug__" : Str)) = false := by decide)
    (hcd : (x == ("__classdict__" : Str)) = false := by decide) : PE X (.Name x pos) (rd X.K B W (dVar i)) := by
  refine (pe_var hN hv hd hcd).imp fun σ H Q ⟨sd, F, rp, h⟩ => ?_
  have h' : Pst X.K B W sd σ H F (varS i sd sd[i]?) _ := h
  cases e : sd[i]? with
  | none => rw [e] at h'; exact h'.elim
  | some y =>
    rw [e] at h'
    cases y with
    | no => exact h'.elim
    | fr d =>
      obtain ⟨v, e1, e2⟩ := rp.fr i d e
      exact ⟨v, e1, Pst.now h' rp v e2⟩
    | ow d =>
      obtain ⟨a, e1, e2⟩ := rp.ow i d e
      exact ⟨_, e1, Pst.now h' rp _ ⟨e1, _, e, rfl⟩⟩
theorem PE.cst {e : Expr} {v : V} {d : D} (h : PE X e (tC v)) (q : ∀ F, Dp X.K F v d) : PE X e (rd X.K B W (dC d)) :=
  h.imp fun σ H Q ⟨sd, F, rp, h⟩ => Pst.now h rp v (q F)
theorem zint {i j pos} : PE X (.Constant (.int i) j pos) (rd X.K B W (dC (.int i))) := PE.cst pe_int fun _ => .int i
theorem zbl {b j pos} : PE X (.Constant (.bool b) j pos) (rd X.K B W (dC (.bool b))) := PE.cst pe_bl fun _ => .bl b
theorem znon {j pos} : PE X (.Constant .none j pos) (rd X.K B W (dC .none)) := PE.cst pe_non fun _ => .non
theorem zstr {x j pos} : PE X (.Constant (.str x) j pos) (rd X.K B W (dC (.str x))) := PE.cst pe_str fun _ => .str x
/-- a constant of the module -/
theorem zglob {x : Str} {v : V} {d : D} {pos : Pos} (hg : Gl X x) (hm : ∃ u, X.mg x = some u ∧ RelV v u) (q : ∀ F, Dp X.K F v d) (hd : (x == ("__debug__" : Str)) = false := by decide) : PE X (.Name x pos) (rd X.K B W (dC d)) :=
  let ⟨_, h1, h2⟩ := hm
  PE.cst (pe_glob hg h1 h2 hd) q

/-! ### two-place operations -/
def p2 (f : D → D → Option Vt) (x y : Vt) (s : DS) : R Vt := match der x s, der y s with
  | some d, some e => (match f d e with
    | some z => .ok z s
    | none => .no)
  | _, _ => .no
def dOp2 (f : D → D → Option Vt) (a b : M Vt) : M Vt := fun s => (a s).bind fun x s1 => (b s1).bind fun y s2 => p2 f x y s2
def P2 (K : PySem.W.Frag) (r : R2) (f : D → D → Option Vt) : Prop := ∀ (B : By) (s : DS) (σ : St) (H F : Hp) (v u : V) (d e : D) (z : Vt) (Q : VK), Rep K B s σ H F → Vw K H F v d → Vw K H F u e → f d e = some z → Res K B s σ H F z Q → r v u H Q
theorem p2_out {f : D → D → Option Vt} {x y : Vt} {s : DS} {σ : St} {H F Hs : Hp} {v u : V} {P : Vt → DS → Hp → Hp → Prop} {K : PySem.W.Frag} (h : Pst K B W s σ H F (p2 f x y s) P) (rp : Rep K B s σ H F) (hv : VtOk K B Hs s σ H F v x) (hu : VtOk K B Hs s σ H F u y) :
    ∃ d e z, Vw K H F v d ∧ Vw K H F u e ∧ f d e = some z ∧ ∀ H' F', Stp s s σ H F H' F' → Rep K B s σ H' F' → P z s H' F' := by
  unfold p2 at h
  cases e1 : der x s with
  | none => rw [e1] at h; exact h.elim
  | some d =>
    cases e2 : der y s with
    | none => rw [e1, e2] at h; exact h.elim
    | some e =>
      rw [e1, e2] at h
      have h' : Pst K B W s σ H F (match f d e with | some z => .ok z s | none => .no) P := h
      cases e3 : f d e with
      | none => rw [e3] at h'; exact h'.elim
      | some z => rw [e3] at h'; exact ⟨d, e, z, hv.vw rp e1, hu.vw rp e2, e3, h'⟩
/-- two operands, then r -/
theorem rd_op2 {r : R2} {f : D → D → Option Vt} {ma mb : M Vt} (hp : P2 X.K r f) : ∀ σ H Q, rd X.K B W (dOp2 f ma mb) σ H Q → tOp r (rd X.K B W ma) (rd X.K B W mb) σ H Q := fun σ H Q ⟨sd, F, rp, h⟩ => by
  refine ⟨sd, F, rp, (Pst.bind h).mono fun x s1 H1 F1 _ p1 rp1 h1 v hv => ?_⟩
  refine ⟨s1, F1, rp1, (Pst.bind h1).mono fun y s2 H2 F2 _ p2 rp2 h2 u hu => ?_⟩
  obtain ⟨d, e, z, w1, w2, e3, q⟩ := p2_out (Hs := H) h2 rp2 (hv.stp p2) (hu.back fun a => p1.fresh)
  exact hp B s2 σ H2 F2 v u d e z Q rp2 w1 w2 e3 fun v' H' F' p3 rp3 hv' => q H' F' p3 rp3 v' (hv'.back fun a hn => p1.fresh (p2.fresh hn))
theorem zop2 {a b : Expr} {op : Operator} {r : R2} {f : D → D → Option Vt} {ma mb : M Vt} {pos : Pos} (ho : OpR X (binaryOp op) r) (hp : P2 X.K r f) (ha : PE X a (rd X.K B W ma)) (hb : PE X b (rd X.K B W mb)) :
    PE X (.BinOp a op b pos) (rd X.K B W (dOp2 f ma mb)) := (pe_op ho ha hb).imp (rd_op2 hp)
theorem zcmp {a b : Expr} {op : CmpOp} {r : R2} {f : D → D → Option Vt} {ma mb : M Vt} {pos : Pos} (ho : OpR X (compareOp op) r) (hp : P2 X.K r f) (ha : PE X a (rd X.K B W ma)) (hb : PE X b (rd X.K B W mb)) (hm : behindInMarks op b = false := by rfl) :
    PE X (.Compare a [op] [b] pos) (rd X.K B W (dOp2 f ma mb)) := (pe_cmpR ho ha hb hm).imp (rd_op2 hp)
theorem zix {a b : Expr} {r : R2} {f : D → D → Option Vt} {ma mb : M Vt} {pos : Pos} (ho : IxR X r) (hp : P2 X.K r f) (ha : PE X a (rd X.K B W ma)) (hb : PE X b (rd X.K B W mb)) (hs : PlainIx b := by exact fun _ _ => rfl) :
    PE X (.Subscript a b pos) (rd X.K B W (dOp2 f ma mb)) := (pe_ix ho ha hb hs).imp (rd_op2 hp)
end

/-! ### + -/
/-- list + list, whatever lists are read -/
def rCatS (K : PySem.W.Frag) : R2 := fun x y H Q => ∃ l b xs zs, x = .ref l ∧ y = .ref b ∧ SqL K H l xs ∧ SqL K H b zs ∧ xs.length + zs.length ≤ sizeLine ∧ ∀ p, H p = none → Q (.ref p) (upd H p (.lst (xs ++ zs)))
theorem op_catS {X : Cx} : OpR X (binaryOp .Add) (rCatS X.K) := by
  intro pins s σ H x y v u Q I rx ry h
  obtain ⟨l, b, xs, zs, rfl, rfl, hH, hB, hz, q⟩ := h
  cases rx
  cases ry
  obtain ⟨its, r, ⟨⟨c1, dd1, dt1, sl1⟩, n1, e1, f1, g1, k1⟩, z1⟩ := I.list hH
  obtain ⟨its2, r2, ⟨⟨c2, dd2, dt2, sl2⟩, n2, e2, f2, g2, k2⟩, z2⟩ := I.list hB
  simp only at f1 k1 f2 k2
  subst f1 k1 f2 k2
  have hl := r.length
  have hl2 := r2.length
  refine concat_meets ⟨_, e1, rfl⟩ ⟨_, e2, rfl⟩ noFill_list_add seq_list_add F.slot_list_add F.entry_list_add (F.args_list_add_2 _ _)
    (list_addW l b its.toArray its2.toArray n1 n2 dd1 dd2 sl1 sl2 (by rw [List.size_toArray, List.size_toArray]; omega)) ⟨e1, e2, ?_⟩
  have ea : its.toArray ++ its2.toArray = (its ++ its2).toArray := by simp
  rw [ea]
  exact ⟨.ref _, _, I.lnew (t' := s.toks) (r.append r2) (by rw [List.length_append]; omega), rfl, q _ I.fresh⟩
def pAdd : D → D → Option Vt
  | .int i, .int j => some (.fr (.int (i + j)))
  | .str x, .str y => if x.length + y.length ≤ sizeLine then some (.fr (.str (x ++ y))) else none
  | .list xs, .list ys => if xs.length + ys.length ≤ sizeLine then some (.ow (.list (xs ++ ys))) else none
  | .tuple xs, .tuple ys => if xs.length + ys.length ≤ sizeLine then some (.fr (.tuple (xs ++ ys))) else none
  | _, _ => none
def rAddD (K : PySem.W.Frag) : R2 := fun x y H Q => (rI0 fun i j => .int (i + j)) x y H Q ∨ (∃ i j, x = .str i ∧ y = .str j ∧ i.length + j.length ≤ sizeLine ∧ Q (.str (i ++ j)) H) ∨ rCatS K x y H Q ∨ rCatA K x y H Q
theorem op_addD {X : Cx} : OpR X (binaryOp .Add) (rAddD X.K) := op_add.or (op_add_str.or (op_catS.or op_catA))
theorem ite_some {c : Prop} [Decidable c] {α : Type} {a b : α} (h : (if c then some a else none) = some b) : c ∧ a = b := by
  by_cases hc : c
  · rw [if_pos hc] at h; exact ⟨hc, Option.some.inj h⟩
  · rw [if_neg hc] at h; cases h
theorem p_add {K : PySem.W.Frag} : P2 K (rAddD K) pAdd := by
  intro B s σ H F v u d e z Q rp hv hu he q
  unfold pAdd at he
  split at he
  · cases he
    cases hv; cases hu
    exact .inl ⟨_, _, rfl, rfl, q.val rp (.int _)⟩
  · obtain ⟨hc, rfl⟩ := ite_some he
    cases hv; cases hu
    exact .inr (.inl ⟨_, _, rfl, rfl, hc, q.val rp (.str _)⟩)
  · obtain ⟨hc, rfl⟩ := ite_some he
    obtain ⟨a, vs, rfl, h1, h2⟩ := hv
    obtain ⟨b, ws, rfl, h3, h4⟩ := hu
    exact .inr (.inr (.inl ⟨a, b, vs, ws, rfl, rfl, h1, h3, by rw [h2.length, h4.length]; exact hc, fun p hp => q.lst rp (h2.append h4) p hp⟩))
  · obtain ⟨hc, rfl⟩ := ite_some he
    obtain ⟨a, vs, rfl, h1, h2⟩ := hv
    obtain ⟨b, ws, rfl, h3, h4⟩ := hu
    refine .inr (.inr (.inr ⟨a, b, vs, ws, rfl, rfl, rp.le.sqT h1, rp.le.sqT h3, by rw [h2.length, h4.length]; exact hc, fun hn => ?_, fun hn hm => ?_, fun _ _ p hp => q.tup rp (h2.append h4) p hp⟩))
    · subst hn
      cases h2
      exact q.val rp (.tup h3 h4)
    · subst hm
      cases h4
      rw [List.append_nil] at q
      exact q.val rp (.tup h1 h2)
  · cases he
end L2.Zd

set_option Elab.async false
set_option linter.all false
set_option maxRecDepth 100000
set_option maxHeartbeats 2000000
namespace L2.Zd
open PySem PySem.Spec PyProof.Rows

/-! ### arithmetic -/
def pSub : D → D → Option Vt
  | .int i, .int j => some (.fr (.int (i - j)))
  | _, _ => none
theorem p_sub {K : PySem.W.Frag} : P2 K (rI0 fun i j => .int (i - j)) pSub := by
  intro B s σ H F v u d e z Q rp hv hu he q
  unfold pSub at he
  split at he
  · cases he; cases hv; cases hu
    exact ⟨_, _, rfl, rfl, q.val rp (.int _)⟩
  · cases he
/-- a product is within bounds -/
def mulOk (i j : Int) : Bool := decide (-(2 ^ 64) < i ∧ i < 2 ^ 64) || decide (-(2 ^ 64) < j ∧ j < 2 ^ 64) || decide (i.natAbs.log2 + j.natAbs.log2 < 1000000)
def pMul : D → D → Option Vt
  | .int i, .int j => if mulOk i j = true then some (.fr (.int (i * j))) else none
  | .tuple xs, .int k => if xs ≠ [] ∧ 2 ≤ k ∧ k ≤ 1000 ∧ xs.length ≤ 1000 then some (.fr (.tuple (List.replicate k.toNat xs).flatten)) else none
  | _, _ => none
def rMulD (K : PySem.W.Frag) : R2 := fun x y H Q => rI CMul (fun i j => .int (i * j)) x y H Q ∨ rI CMulW (fun i j => .int (i * j)) x y H Q ∨ rRepT K x y H Q
theorem op_mulD {X : Cx} : OpR X (binaryOp .Mult) (rMulD X.K) := op_mul.or (op_mulW.or op_repT)
theorem DpAll.rep {K : PySem.W.Frag} {F : Hp} {vs : List V} {ds : List D} (h : DpAll K F vs ds) : ∀ k : Nat, DpAll K F (List.replicate k vs).flatten (List.replicate k ds).flatten
  | 0 => .nil
  | k + 1 => by
    rw [List.replicate_succ, List.replicate_succ, List.flatten_cons, List.flatten_cons]
    exact _root_.L2.DpAll.append h (DpAll.rep h k)
theorem p_mul {K : PySem.W.Frag} : P2 K (rMulD K) pMul := by
  intro B s σ H F v u d e z Q rp hv hu he q
  unfold pMul at he
  split at he
  · rename_i i j
    obtain ⟨hc, rfl⟩ := ite_some he
    cases hv; cases hu
    unfold mulOk at hc
    rw [Bool.or_eq_true, Bool.or_eq_true] at hc
    rcases hc with (hc | hc) | hc
    · exact .inl ⟨_, _, rfl, rfl, .inl (of_decide_eq_true hc), q.val rp (.int _)⟩
    · exact .inl ⟨_, _, rfl, rfl, .inr (of_decide_eq_true hc), q.val rp (.int _)⟩
    · exact .inr (.inl ⟨_, _, rfl, rfl, (show i.natAbs.log2 + j.natAbs.log2 < 1000000 from of_decide_eq_true hc), q.val rp (.int _)⟩)
  · rename_i xs k
    obtain ⟨⟨c1, c2, c3, c4⟩, rfl⟩ := ite_some he
    cases hu
    obtain ⟨a, vs, rfl, h1, h2⟩ := hv
    refine .inr (.inr ⟨a, k, vs, rfl, rfl, rp.le.sqT h1, fun n => c1 ?_, c2, c3, by rw [h2.length]; exact c4, fun p hp => q.tup rp (DpAll.rep h2 _) p hp⟩)
    subst n; cases h2; rfl
  · cases he
def pMod : D → D → Option Vt
  | .int i, .int j => if 0 < j then some (.fr (.int (i % j))) else none
  | _, _ => none
theorem p_mod {K : PySem.W.Frag} : P2 K (rI (fun _ j => 0 < j) fun i j => .int (i % j)) pMod := by
  intro B s σ H F v u d e z Q rp hv hu he q
  unfold pMod at he
  split at he
  · obtain ⟨hc, rfl⟩ := ite_some he
    cases hv; cases hu
    exact ⟨_, _, rfl, rfl, hc, q.val rp (.int _)⟩
  · cases he
def pDiv : D → D → Option Vt
  | .int i, .int j => if 0 < j ∧ j.natAbs.log2 < 9000 then some (.fr (.int (i / j))) else none
  | _, _ => none
theorem p_div {K : PySem.W.Frag} : P2 K (rI CDivW fun i j => .int (i / j)) pDiv := by
  intro B s σ H F v u d e z Q rp hv hu he q
  unfold pDiv at he
  split at he
  · obtain ⟨hc, rfl⟩ := ite_some he
    cases hv; cases hu
    exact ⟨_, _, rfl, rfl, hc, q.val rp (.int _)⟩
  · cases he
def pPow : D → D → Option Vt
  | .int i, .int j => if 0 ≤ j ∧ j ≤ 1000000 ∧ i.natAbs < 2 ^ 64 then some (.fr (.int (i ^ j.toNat))) else none
  | _, _ => none
theorem p_pow {K : PySem.W.Frag} : P2 K (rI CPow fun i j => .int (i ^ j.toNat)) pPow := by
  intro B s σ H F v u d e z Q rp hv hu he q
  unfold pPow at he
  split at he
  · obtain ⟨hc, rfl⟩ := ite_some he
    cases hv; cases hu
    exact ⟨_, _, rfl, rfl, hc, q.val rp (.int _)⟩
  · cases he

/-! ### comparisons -/
def pCmp (p : Int → Int → Bool) : D → D → Option Vt
  | .int i, .int j => some (.fr (.bool (p i j)))
  | _, _ => none
theorem p_cmp {K : PySem.W.Frag} {p : Int → Int → Bool} : P2 K (rI0 fun i j => .bl (p i j)) (pCmp p) := by
  intro B s σ H F v u d e z Q rp hv hu he q
  unfold pCmp at he
  split at he
  · cases he; cases hv; cases hu
    exact ⟨_, _, rfl, rfl, q.val rp (.bl _)⟩
  · cases he
abbrev pLt := pCmp fun i j => decide (i < j)
abbrev pLe := pCmp fun i j => decide (i ≤ j)
abbrev pGt := pCmp fun i j => decide (j < i)
abbrev pGe := pCmp fun i j => decide (j ≤ i)
/-- ==, told -/
def eqD : D → D → Option Bool
  | .str a, .str b => some (decide (a = b))
  | d, e => if SeqAt.shaped d = true ∧ SeqAt.shaped e = true then some (PyData.eqv d e) else none
def pEq (d e : D) : Option Vt := (eqD d e).map fun b => .fr (.bool b)
def pNe (d e : D) : Option Vt := (eqD d e).map fun b => .fr (.bool (!b))
def rEqG (K : PySem.W.Frag) : R2 := fun x y H Q => rEq x y H Q ∨ rEqD K x y H Q
def rNeG (K : PySem.W.Frag) : R2 := fun x y H Q => rNe x y H Q ∨ rNeD K x y H Q
theorem op_eqG {X : Cx} (hu : X.A.units + 64 < cLine) : OpR X (compareOp .Eq) (rEqG X.K) := op_eq.or (op_eqD hu)
theorem op_neG {X : Cx} (hu : X.A.units + 64 < cLine) : OpR X (compareOp .NotEq) (rNeG X.K) := op_ne.or (op_neD hu)
theorem eqD_cases {d e : D} {b : Bool} (h : eqD d e = some b) : (∃ x y, d = .str x ∧ e = .str y ∧ b = decide (x = y)) ∨ (SeqAt.shaped d = true ∧ SeqAt.shaped e = true ∧ b = PyData.eqv d e) := by
  unfold eqD at h
  split at h
  · exact .inl ⟨_, _, rfl, rfl, (Option.some.inj h).symm⟩
  · obtain ⟨⟨h1, h2⟩, rfl⟩ := ite_some h
    exact .inr ⟨h1, h2, rfl⟩
theorem dec_strV {x y : Str} : decide (V.str x = V.str y) = decide (x = y) := by
  by_cases h : x = y
  · subst h; simp
  · rw [decide_eq_false h, decide_eq_false (fun z => h (V.str.inj z))]
theorem p_eq {K : PySem.W.Frag} : P2 K (rEqG K) pEq := by
  intro B s σ H F v u d e z Q rp hv hu he q
  obtain ⟨b, hb, rfl⟩ := Option.map_eq_some_iff.mp he
  rcases eqD_cases hb with ⟨x, y, rfl, rfl, rfl⟩ | ⟨h1, h2, rfl⟩
  · cases hv; cases hu
    exact .inl ⟨rfl, by rw [dec_strV]; exact q.val rp (.bl _)⟩
  · exact .inr ⟨d, e, hv.dp rp.le, hu.dp rp.le, h1, h2, q.val rp (.bl _)⟩
theorem p_ne {K : PySem.W.Frag} : P2 K (rNeG K) pNe := by
  intro B s σ H F v u d e z Q rp hv hu he q
  obtain ⟨b, hb, rfl⟩ := Option.map_eq_some_iff.mp he
  rcases eqD_cases hb with ⟨x, y, rfl, rfl, rfl⟩ | ⟨h1, h2, rfl⟩
  · cases hv; cases hu
    exact .inl ⟨rfl, by rw [dec_strV]; exact q.val rp (.bl _)⟩
  · exact .inr ⟨d, e, hv.dp rp.le, hu.dp rp.le, h1, h2, q.val rp (.bl _)⟩
/-- x is None -/
def isNoneD : D → Bool
  | .none => true
  | _ => false
def pIsN (d e : D) : Option Vt := if isNoneD e = true then some (.fr (.bool (isNoneD d))) else none
def pNotN (d e : D) : Option Vt := if isNoneD e = true then some (.fr (.bool (!isNoneD d))) else none
theorem Vw.isNone {K : PySem.W.Frag} {H F : Hp} {v : V} {d : D} (h : Vw K H F v d) : decide (v = .non) = isNoneD d := by
  cases d with
  | none => cases (show v = .non from h); rfl
  | bool b => cases (show v = .bl b from h); rfl
  | int i => cases (show v = .int i from h); rfl
  | str s => cases (show v = .str s from h); rfl
  | list ds => obtain ⟨a, vs, rfl, _⟩ := h; rfl
  | tuple ds => obtain ⟨a, vs, rfl, _⟩ := h; rfl
  | dict _ => exact h.elim
theorem p_isN {K : PySem.W.Frag} : P2 K (fun x y H Q => y = .non ∧ Q (.bl (decide (x = .non))) H) pIsN := by
  intro B s σ H F v u d e z Q rp hv hu he q
  obtain ⟨hc, rfl⟩ := ite_some he
  cases e with
  | none => exact ⟨hu, by rw [hv.isNone]; exact q.val rp (.bl _)⟩
  | _ => cases hc
theorem p_notN {K : PySem.W.Frag} : P2 K (fun x y H Q => y = .non ∧ Q (.bl (!decide (x = .non))) H) pNotN := by
  intro B s σ H F v u d e z Q rp hv hu he q
  obtain ⟨hc, rfl⟩ := ite_some he
  cases e with
  | none => exact ⟨hu, by rw [hv.isNone]; exact q.val rp (.bl _)⟩
  | _ => cases hc

/-! ### in -/
def flatD : D → Bool
  | .none => true
  | .bool _ => true
  | .int _ => true
  | .str _ => true
  | _ => false
/-- x in text -/
def inText (x z : Str) : Bool := !(Builtin.Str.occurrences z x 0 z.length 1).isEmpty
theorem inText_one (c : Nat) (z : Str) : inText ⟨#[c]⟩ z = decide (c ∈ z.cps.toList) := PySem.StrLaws.found_one z c
def anyD (d : D) (ds : List D) : Option Bool :=
  if flatD d = true ∧ ds.all flatD = true then some (ds.any fun y => PyData.eqv y d)
  else if SeqAt.shaped d = true ∧ SeqAt.shaped (.list ds) = true then some (ds.any fun y => PyData.eqv y d) else none
def inD : D → D → Option Bool
  | .str x, .str z => some (inText x z)
  | d, .list ds => anyD d ds
  | d, .tuple ds => anyD d ds
  | _, _ => none
def pIn (d e : D) : Option Vt := (inD d e).map fun b => .fr (.bool b)
def pNotIn (d e : D) : Option Vt := (inD d e).map fun b => .fr (.bool (!b))
def rInTD (K : PySem.W.Frag) (neg : Bool) : R2 := fun x y H Q => ∃ d ds, Dp K H x d ∧ Dp K H y (.tuple ds) ∧ SeqAt.shaped d = true ∧ SeqAt.shaped (.list ds) = true ∧ Q (.bl (if neg then !(ds.any fun z => PyData.eqv z d) else ds.any fun z => PyData.eqv z d)) H
theorem op_inTD {X : Cx} (hu : X.A.units + 65 < cLine) : OpR X (compareOp .In) (rInTD X.K false) := by
  intro pins s σ H x y v u Q I rx ry h
  obtain ⟨d, ds, hd, he, sd, se, q⟩ := h
  obtain ⟨as, r1⟩ := Dp.reads I d x v hd rx
  obtain ⟨bs, r2⟩ := Dp.reads I (.tuple ds) y u he ry
  exact SeqAt.in_tuple_reads r2 r1 (SeqAt.canLay_of_shaped se) (SeqAt.canLay_of_shaped sd) (room_in_shaped sd hu) ⟨.bl _, H, I, rfl, q⟩
theorem op_notInTD {X : Cx} (hu : X.A.units + 65 < cLine) : OpR X (compareOp .NotIn) (rInTD X.K true) := by
  intro pins s σ H x y v u Q I rx ry h
  obtain ⟨d, ds, hd, he, sd, se, q⟩ := h
  obtain ⟨as, r1⟩ := Dp.reads I d x v hd rx
  obtain ⟨bs, r2⟩ := Dp.reads I (.tuple ds) y u he ry
  exact SeqAt.notIn_tuple_reads r2 r1 (SeqAt.canLay_of_shaped se) (SeqAt.canLay_of_shaped sd) (room_in_shaped sd hu) ⟨.bl _, H, I, rfl, q⟩
def rInG (K : PySem.W.Frag) : R2 := fun x y H Q => (∃ i j, x = .str i ∧ y = .str j ∧ Q (.bl (!(Builtin.Str.occurrences j i 0 j.length 1).isEmpty)) H) ∨ rIn K false x y H Q ∨ rInD K x y H Q ∨ rInTD K false x y H Q
def rNotInG (K : PySem.W.Frag) : R2 := fun x y H Q => (∃ i j, x = .str i ∧ y = .str j ∧ Q (.bl (!(!(Builtin.Str.occurrences j i 0 j.length 1).isEmpty))) H) ∨ rIn K true x y H Q ∨ rNotInD K x y H Q ∨ rInTD K true x y H Q
theorem op_inG {X : Cx} (hu : X.A.units + 65 < cLine) : OpR X (compareOp .In) (rInG X.K) := op_in_str.or (op_in_seq.or ((op_inD hu).or (op_inTD hu)))
theorem op_notInG {X : Cx} (hu : X.A.units + 65 < cLine) : OpR X (compareOp .NotIn) (rNotInG X.K) := op_notin_str.or (op_notIn_seq.or ((op_notInD hu).or (op_notInTD hu)))
theorem dp_flat {K : PySem.W.Frag} {F : Hp} {v : V} {d : D} (h : Dp K F v d) (f : flatD d = true) : flatV v = true := by
  cases h <;> first
    | rfl
    | cases f
theorem dp_eqV {K : PySem.W.Frag} {F : Hp} {v u : V} {d e : D} (h : Dp K F v d) (k : Dp K F u e) (f : flatD d = true) (g : flatD e = true) : eqV v u = PyData.eqv d e := by
  cases h <;> cases k <;> first
    | rfl
    | cases f
    | cases g
theorem dpAll_flat {K : PySem.W.Frag} {F : Hp} : ∀ {vs : List V} {ds : List D}, DpAll K F vs ds → ds.all flatD = true → vs.all flatV = true
  | _, _, .nil, _ => rfl
  | _, _, .cons h t, f => by
    rw [List.all_cons, Bool.and_eq_true] at f
    rw [List.all_cons, dp_flat h f.1, dpAll_flat t f.2]; rfl
theorem dpAll_inV {K : PySem.W.Frag} {F : Hp} {v : V} {d : D} (h : Dp K F v d) (f : flatD d = true) : ∀ {vs : List V} {ds : List D}, DpAll K F vs ds → ds.all flatD = true → inV v vs = ds.any fun y => PyData.eqv y d
  | _, _, .nil, _ => rfl
  | _, _, .cons k t, g => by
    rw [List.all_cons, Bool.and_eq_true] at g
    have ih := dpAll_inV h f t g.2
    unfold inV at ih ⊢
    rw [List.any_cons, List.any_cons, ih, dp_eqV k h g.1 f]
theorem anyD_cases {d : D} {ds : List D} {b : Bool} (h : anyD d ds = some b) : b = (ds.any fun y => PyData.eqv y d) ∧ ((flatD d = true ∧ ds.all flatD = true) ∨ (SeqAt.shaped d = true ∧ SeqAt.shaped (.list ds) = true)) := by
  unfold anyD at h
  split at h
  · rename_i c; exact ⟨(Option.some.inj h).symm, .inl c⟩
  · obtain ⟨c, rfl⟩ := ite_some h
    exact ⟨rfl, .inr c⟩
theorem Vw.dpF {K : PySem.W.Frag} {H F : Hp} {v : V} {d : D} (h : Vw K H F v d) (f : flatD d = true) : Dp K F v d := by
  cases d with
  | none => cases (show v = .non from h); exact .non
  | bool b => cases (show v = .bl b from h); exact .bl b
  | int i => cases (show v = .int i from h); exact .int i
  | str s => cases (show v = .str s from h); exact .str s
  | _ => cases f
theorem in_out {K : PySem.W.Frag} {H F : Hp} {v u : V} {d e : D} {b neg : Bool} (le : FL F H) (hv : Vw K H F v d) (hu : Vw K H F u e) (h : inD d e = some b) :
    (∃ x z, v = .str x ∧ u = .str z ∧ b = inText x z) ∨ (∃ p xs, u = .ref p ∧ (SqL K H p xs ∨ SqT K H p xs) ∧ flatV v = true ∧ xs.all flatV = true ∧ b = inV v xs) ∨
      ∃ ds, Dp K H v d ∧ (Dp K H u (.list ds) ∨ Dp K H u (.tuple ds)) ∧ SeqAt.shaped d = true ∧ SeqAt.shaped (.list ds) = true ∧ b = ds.any fun y => PyData.eqv y d := by
  unfold inD at h
  split at h
  · cases h; cases hv; cases hu
    exact .inl ⟨_, _, rfl, rfl, rfl⟩
  · obtain ⟨a, vs, rfl, h1, h2⟩ := id hu
    obtain ⟨rfl, c | c⟩ := anyD_cases h
    · exact .inr (.inl ⟨a, vs, rfl, .inl h1, dp_flat (hv.dpF c.1) c.1, dpAll_flat h2 c.2, (dpAll_inV (hv.dpF c.1) c.1 h2 c.2).symm⟩)
    · exact .inr (.inr ⟨_, hv.dp le, .inl (hu.dp le), c.1, c.2, rfl⟩)
  · obtain ⟨a, vs, rfl, h1, h2⟩ := id hu
    obtain ⟨rfl, c | c⟩ := anyD_cases h
    · exact .inr (.inl ⟨a, vs, rfl, .inr (le.sqT h1), dp_flat (hv.dpF c.1) c.1, dpAll_flat h2 c.2, (dpAll_inV (hv.dpF c.1) c.1 h2 c.2).symm⟩)
    · exact .inr (.inr ⟨_, hv.dp le, .inr (hu.dp le), c.1, c.2, rfl⟩)
  · cases h
theorem p_in {K : PySem.W.Frag} : P2 K (rInG K) pIn := by
  intro B s σ H F v u d e z Q rp hv hu he q
  obtain ⟨b, hb, rfl⟩ := Option.map_eq_some_iff.mp he
  rcases in_out (neg := false) rp.le hv hu hb with ⟨x, z, rfl, rfl, rfl⟩ | ⟨p, xs, rfl, h1, h2, h3, rfl⟩ | ⟨ds, h1, h2 | h2, h3, h4, rfl⟩
  · exact .inl ⟨x, z, rfl, rfl, q.val rp (.bl _)⟩
  · exact .inr (.inl ⟨p, xs, rfl, h1, h2, h3, q.val rp (.bl _)⟩)
  · exact .inr (.inr (.inl ⟨d, ds, h1, h2, h3, h4, q.val rp (.bl _)⟩))
  · exact .inr (.inr (.inr ⟨d, ds, h1, h2, h3, h4, q.val rp (.bl _)⟩))
theorem p_notIn {K : PySem.W.Frag} : P2 K (rNotInG K) pNotIn := by
  intro B s σ H F v u d e z Q rp hv hu he q
  obtain ⟨b, hb, rfl⟩ := Option.map_eq_some_iff.mp he
  rcases in_out (neg := true) rp.le hv hu hb with ⟨x, z, rfl, rfl, rfl⟩ | ⟨p, xs, rfl, h1, h2, h3, rfl⟩ | ⟨ds, h1, h2 | h2, h3, h4, rfl⟩
  · exact .inl ⟨x, z, rfl, rfl, q.val rp (.bl _)⟩
  · exact .inr (.inl ⟨p, xs, rfl, h1, h2, h3, q.val rp (.bl _)⟩)
  · exact .inr (.inr (.inl ⟨d, ds, h1, h2, h3, h4, q.val rp (.bl _)⟩))
  · exact .inr (.inr (.inr ⟨d, ds, h1, h2, h3, h4, q.val rp (.bl _)⟩))

/-! ### items, slices -/
def pIx : D → D → Option Vt
  | .list ds, .int i => (atI ds i).map .fr
  | .tuple ds, .int i => (atI ds i).map .fr
  | .str z, .int i => if z.length ≤ sizeLine then (atI z.cps.toList i).map fun c => .fr (.str ⟨#[c]⟩) else none
  | _, _ => none
theorem dpAll_at {K : PySem.W.Frag} {F : Hp} {vs : List V} {ds : List D} {i : Int} {d : D} (h : DpAll K F vs ds) (e : atI ds i = some d) : ∃ v, atI vs i = some v ∧ Dp K F v d := by
  unfold atI at e ⊢
  rw [h.length]
  cases e1 : ixN ds.length i with
  | none => rw [e1] at e; cases e
  | some j =>
    rw [e1] at e
    exact h.get (show ds[j]? = some d from e)
theorem p_ix {K : PySem.W.Frag} : P2 K (rIx K) pIx := by
  intro B s σ H F v u d e z Q rp hv hu he q
  unfold pIx at he
  split at he
  · obtain ⟨d, hd, rfl⟩ := Option.map_eq_some_iff.mp he
    obtain ⟨a, vs, rfl, h1, h2⟩ := hv
    cases hu
    obtain ⟨w, e1, e2⟩ := dpAll_at h2 hd
    exact .inl ⟨a, vs, _, w, rfl, rfl, h1, e1, q.val rp e2⟩
  · obtain ⟨d, hd, rfl⟩ := Option.map_eq_some_iff.mp he
    obtain ⟨a, vs, rfl, h1, h2⟩ := hv
    cases hu
    obtain ⟨w, e1, e2⟩ := dpAll_at h2 hd
    exact .inr (.inl ⟨a, vs, _, w, rfl, rfl, rp.le.sqT h1, e1, q.val rp e2⟩)
  · split at he
    · rename_i hz
      obtain ⟨c, hc, rfl⟩ := Option.map_eq_some_iff.mp he
      cases hv; cases hu
      exact .inr (.inr ⟨_, _, c, rfl, rfl, hz, hc, q.val rp (.str _)⟩)
    · cases he
  · cases he
/-- a part of a slice -/
def rdO (K : PySem.W.Frag) (B : By) (W : WX') (m : M (Option Int)) : TO := fun σ H Q => ∃ sd F, Rep K B sd σ H F ∧ Pst K B W sd σ H F (m sd) fun o _ H' _ => Q o H'
def dNoP : M (Option Int) := fun s => .ok none s
def partS (s : DS) : Option D → R (Option Int)
  | some (.int i) => .ok (some i) s
  | _ => .no
def dPart (m : M Vt) : M (Option Int) := fun s => (m s).bind fun x s1 => partS s1 (der x s1)
def cutG {α : Type} (xs : List α) (lo hi : Option Int) : List α := (xs.drop (HT.sIx xs.length 0 lo)).take (HT.sIx xs.length xs.length hi - HT.sIx xs.length 0 lo)
def pSl (lo hi : Option Int) : D → Option Vt
  | .list ds => some (.ow (.list (cutG ds lo hi)))
  | .tuple ds => some (.fr (.tuple (cutG ds lo hi)))
  | .str z => if z.length ≤ sizeLine then some (.fr (.str (cutS z lo hi))) else none
  | _ => none
def p1s (f : D → Option Vt) (x : Vt) (s : DS) : R Vt := match der x s with
  | some d => (match f d with
    | some z => .ok z s
    | none => .no)
  | none => .no
def dSl (m : M Vt) (lo hi : M (Option Int)) : M Vt := fun s => (m s).bind fun x s1 => (lo s1).bind fun l s2 => (hi s2).bind fun h s3 => p1s (pSl l h) x s3
theorem p1s_out {K : PySem.W.Frag} {B : By} {W : WX'} {f : D → Option Vt} {x : Vt} {s : DS} {σ : St} {H F Hs : Hp} {v : V} {P : Vt → DS → Hp → Hp → Prop} (h : Pst K B W s σ H F (p1s f x s) P) (rp : Rep K B s σ H F) (hv : VtOk K B Hs s σ H F v x) :
    ∃ d z, Vw K H F v d ∧ f d = some z ∧ ∀ H' F', Stp s s σ H F H' F' → Rep K B s σ H' F' → P z s H' F' := by
  unfold p1s at h
  cases e1 : der x s with
  | none => rw [e1] at h; exact h.elim
  | some d =>
    rw [e1] at h
    have h' : Pst K B W s σ H F (match f d with | some z => .ok z s | none => .no) P := h
    cases e3 : f d with
    | none => rw [e3] at h'; exact h'.elim
    | some z => rw [e3] at h'; exact ⟨d, z, hv.vw rp e1, e3, h'⟩
def rSlD (K : PySem.W.Frag) : V → Option Int → Option Int → Hp → VK → Prop := fun x lo hi H Q => rSlL K x lo hi H Q ∨ rSlA K x lo hi H Q ∨ rSlS x lo hi H Q
theorem sl_D {X : Cx} : SlR X (rSlD X.K) := sl_list.or (sl_tupA.or sl_str)
section
variable {X : Cx} {B : By} {W : WX'}
theorem znop : PO X none (rdO X.K B W dNoP) := by
  have h := po_none (X := X)
  exact ⟨fun pins s σ H Q I ⟨sd, F, rp, q⟩ => h.run pins s σ H Q I (Pst.now q rp)⟩
theorem zpart {e : Expr} {m : M Vt} (he : PE X e (rd X.K B W m)) : PO X (some e) (rdO X.K B W (dPart m)) := by
  have h := po_some he
  refine ⟨fun pins s σ H Q I ⟨sd, F, rp, q⟩ => h.run pins s σ H Q I ?_⟩
  refine ⟨sd, F, rp, (Pst.bind q).mono fun x s1 H1 F1 _ p1 rp1 h1 v hv => ?_⟩
  cases e : der x s1 with
  | none => rw [e] at h1; exact h1.elim
  | some d =>
    rw [e] at h1
    cases d with
    | int i =>
      have w := hv.vw rp1 e
      cases w
      exact ⟨i, rfl, Pst.now h1 rp1⟩
    | _ => exact h1.elim
theorem zsl {a : Expr} {lo hi : Option Expr} {p2 pos : Pos} {m : M Vt} {l h : M (Option Int)} (ha : PE X a (rd X.K B W m)) (hl : PO X lo (rdO X.K B W l)) (hh : PO X hi (rdO X.K B W h)) : PE X (.Subscript a (.Slice lo hi none p2) pos) (rd X.K B W (dSl m l h)) := by
  refine (pe_slice sl_D ha hl hh).imp fun σ H Q ⟨sd, F, rp, q⟩ => ?_
  refine ⟨sd, F, rp, (Pst.bind q).mono fun x s1 H1 F1 _ p1 rp1 h1 v hv => ?_⟩
  refine ⟨s1, F1, rp1, (Pst.bind h1).mono fun i s2 H2 F2 _ p2 rp2 h2 => ?_⟩
  refine ⟨s2, F2, rp2, (Pst.bind h2).mono fun j s3 H3 F3 _ p3 rp3 h3 => ?_⟩
  obtain ⟨d, z, w, e, g⟩ := p1s_out h3 rp3 ((hv.stp p2).stp p3)
  have g' : Res X.K B s3 σ H3 F3 z Q := fun v' H' F' p4 rp4 hv' => g H' F' p4 rp4 v' (hv'.back fun a hn => p1.fresh (p2.fresh (p3.fresh hn)))
  unfold pSl at e
  have cutEq : ∀ {vs : List V} {ds : List D}, DpAll X.K F3 vs ds → DpAll X.K F3 (cutV vs i j) (cutG ds i j) := fun {vs ds} k => by
    unfold cutV cutG
    rw [k.length]
    exact (k.drop _).take _
  split at e
  · cases e
    obtain ⟨a, vs, rfl, h1, h2⟩ := w
    exact .inl ⟨a, vs, rfl, h1, fun p hp => g'.lst rp3 (cutEq h2) p hp⟩
  · cases e
    obtain ⟨a, vs, rfl, h1, h2⟩ := w
    refine .inr (.inl ⟨a, vs, rfl, rp3.le.sqT h1, fun hw => ?_, fun _ p hp => g'.tup rp3 (cutEq h2) p hp⟩)
    rename_i ds
    have e1 : cutG ds i j = ds := by
      unfold cutG
      rw [← h2.length, hw.1, hw.2, List.drop_zero, Nat.sub_zero, h2.length, List.take_length]
    rw [e1] at g'
    exact g'.val rp3 (.tup h1 h2)
  · obtain ⟨hz, rfl⟩ := ite_some e
    cases w
    exact .inr (.inr ⟨_, rfl, hz, g'.val rp3 (.str _)⟩)
  · cases e
/-! ### one-place operations -/
def dOp1 (f : D → Option Vt) (m : M Vt) : M Vt := fun s => (m s).bind fun x s1 => p1s f x s1
def pNeg : D → Option Vt
  | .int i => some (.fr (.int (-i)))
  | _ => none
theorem zneg {a : Expr} {pos : Pos} {m : M Vt} (ha : PE X a (rd X.K B W m)) : PE X (.UnaryOp .USub a pos) (rd X.K B W (dOp1 pNeg m)) := by
  refine (pe_un un_neg ha).imp fun σ H Q ⟨sd, F, rp, q⟩ => ?_
  refine ⟨sd, F, rp, (Pst.bind q).mono fun x s1 H1 F1 _ p1 rp1 h1 v hv => ?_⟩
  obtain ⟨d, z, w, e, g⟩ := p1s_out h1 rp1 hv
  unfold pNeg at e
  split at e
  · cases e; cases w
    exact ⟨_, rfl, g H1 F1 .refl rp1 _ (show VtOk X.K B H s1 σ H1 F1 _ (.fr (.int _)) from .int _)⟩
  · cases e
end
end L2.Zd

set_option Elab.async false
set_option linter.all false
set_option maxRecDepth 100000
set_option maxHeartbeats 2000000
namespace L2.Zd
open PySem PySem.Spec PyProof.Rows

/-! ### truth, tests -/
def truD : D → Option Bool
  | .none => some false
  | .bool b => some b
  | .int i => some (i != 0)
  | .str z => if z.length ≤ sizeLine then some ((z.length : Int) != 0) else none
  | .list ds => some (!ds.isEmpty)
  | .tuple ds => some (!ds.isEmpty)
  | .dict _ => none
theorem dpAll_empty {K : PySem.W.Frag} {F : Hp} {vs : List V} {ds : List D} (h : DpAll K F vs ds) : vs.isEmpty = ds.isEmpty := by cases h <;> rfl
theorem truD_ok {K : PySem.W.Frag} {H F : Hp} {v : V} {d : D} {k : Bool} (le : FL F H) (h : Vw K H F v d) (e : truD d = some k) : TruV K v H k := by
  cases d with
  | none => cases (show v = .non from h); exact (Option.some.inj e).symm
  | bool b => cases (show v = .bl b from h); exact (Option.some.inj e).symm
  | int i => cases (show v = .int i from h); exact (Option.some.inj e).symm
  | str s =>
    cases (show v = .str s from h)
    obtain ⟨h1, h2⟩ := ite_some e
    exact ⟨h1, h2.symm⟩
  | list ds =>
    obtain ⟨a, vs, rfl, h1, h2⟩ := h
    exact .inl ⟨vs, h1, by rw [dpAll_empty h2]; exact (Option.some.inj e).symm⟩
  | tuple ds =>
    obtain ⟨a, vs, rfl, h1, h2⟩ := h
    exact .inr (.inl ⟨vs, le.sqT h1, by rw [dpAll_empty h2]; exact (Option.some.inj e).symm⟩)
  | dict _ => exact h.elim
def truB (s : DS) : Option Bool → R Bool
  | some b => .ok b s
  | none => .no
def truS (s : DS) (o : Option D) : R Bool := truB s (o.bind truD)
def dTru (m : M Vt) : M Bool := fun s => (m s).bind fun x s1 => truS s1 (der x s1)
def dNotB (m : M Bool) : M Bool := fun s => (m s).bind fun b s1 => .ok (!b) s1
def dAndB (a b : M Bool) : M Bool := fun s => (a s).bind fun c s1 => if c = true then b s1 else .ok false s1
def dOrB (a b : M Bool) : M Bool := fun s => (a s).bind fun c s1 => if c = true then .ok true s1 else b s1
def dAndV (a b : M Vt) : M Vt := fun s => (a s).bind fun x s1 => (truS s1 (der x s1)).bind fun c s2 => if c = true then b s2 else .ok x s2
def dOrV (a b : M Vt) : M Vt := fun s => (a s).bind fun x s1 => (truS s1 (der x s1)).bind fun c s2 => if c = true then .ok x s2 else b s2
def dNotV (m : M Vt) : M Vt := fun s => (dTru m s).bind fun b s1 => .ok (.fr (.bool (!b))) s1
def dIf {α : Type} (c : M Bool) (a b : M α) : M α := fun s => (c s).bind fun k s1 => if k = true then a s1 else b s1
theorem truS_out {α : Type} {K : PySem.W.Frag} {B : By} {W : WX'} {x : Vt} {s : DS} {σ : St} {H F Hs : Hp} {v : V} {k : Bool → DS → R α} {P : α → DS → Hp → Hp → Prop} (h : Pst K B W s σ H F ((truS s (der x s)).bind k) P) (rp : Rep K B s σ H F) (hv : VtOk K B Hs s σ H F v x) :
    ∃ b, TruV K v H b ∧ Pst K B W s σ H F (k b s) P := by
  cases e1 : der x s with
  | none => rw [e1] at h; exact h.elim
  | some d =>
    rw [e1] at h
    have h' : Pst K B W s σ H F ((truB s (truD d)).bind k) P := h
    cases e2 : truD d with
    | none => rw [e2] at h'; exact h'.elim
    | some b =>
      rw [e2] at h'
      exact ⟨b, truD_ok rp.le (hv.vw rp e1) e2, h'⟩
theorem R.bind_id {α : Type} (r : R α) : (r.bind fun a s => .ok a s) = r := by cases r <;> rfl
section
variable {X : Cx} {B : By} {W : WX'}
theorem zt {e : Expr} {m : M Vt} (he : PE X e (rd X.K B W m)) (hw : ∀ whole, isTrue e X.env whole = (do let v ← whole; standAt e.pos; holding [v] (truthy v)) := by intro _; rfl) : PT X e (rdT X.K B W (dTru m)) := by
  refine (pt_truth he hw).imp fun σ H Q ⟨sd, F, rp, h⟩ => ?_
  refine ⟨sd, F, rp, (Pst.bind h).mono fun x s1 H1 F1 _ p1 rp1 h1 v hv => ?_⟩
  rw [← R.bind_id (truS s1 (der x s1))] at h1
  obtain ⟨b, t, q⟩ := truS_out h1 rp1 hv
  exact ⟨b, t, Pst.now q rp1⟩
theorem znot {e : Expr} {pos : Pos} {m : M Bool} (he : PT X e (rdT X.K B W m)) : PT X (.UnaryOp .Not e pos) (rdT X.K B W (dNotB m)) := by
  refine (pt_not he).imp fun σ H Q ⟨sd, F, rp, h⟩ => ?_
  exact ⟨sd, F, rp, (Pst.bind h).mono fun b s1 H1 F1 _ p1 rp1 h1 => Pst.now h1 rp1⟩
theorem PW.imp {e : Expr} {t t' : TT} (h : PW X e t) (f : ∀ σ H Q, t' σ H Q → t σ H Q) : PW X e t' := ⟨fun whole pins s σ H Q I q => h.run whole pins s σ H Q I (f σ H Q q)⟩
theorem zand1 {a : Expr} {pos : Pos} {m : M Bool} (h : PT X a (rdT X.K B W m)) : PW X (.BoolOp .And [a] pos) (rdT X.K B W m) := pw_and1 h
theorem zor1 {a : Expr} {pos : Pos} {m : M Bool} (h : PT X a (rdT X.K B W m)) : PW X (.BoolOp .Or [a] pos) (rdT X.K B W m) := pw_or1 h
theorem zand {a b : Expr} {rest : List Expr} {pos : Pos} {m n : M Bool} (h : PT X a (rdT X.K B W m)) (k : PW X (.BoolOp .And (b :: rest) pos) (rdT X.K B W n)) : PW X (.BoolOp .And (a :: b :: rest) pos) (rdT X.K B W (dAndB m n)) := by
  refine PW.imp (pw_and h k) fun σ H Q ⟨sd, F, rp, h⟩ => ?_
  refine ⟨sd, F, rp, (Pst.bind h).mono fun c s1 H1 F1 _ p1 rp1 h1 => ?_⟩
  cases c with
  | true => exact ⟨s1, F1, rp1, h1⟩
  | false => exact Pst.now h1 rp1
theorem zor {a b : Expr} {rest : List Expr} {pos : Pos} {m n : M Bool} (h : PT X a (rdT X.K B W m)) (k : PW X (.BoolOp .Or (b :: rest) pos) (rdT X.K B W n)) : PW X (.BoolOp .Or (a :: b :: rest) pos) (rdT X.K B W (dOrB m n)) := by
  refine PW.imp (pw_or h k) fun σ H Q ⟨sd, F, rp, h⟩ => ?_
  refine ⟨sd, F, rp, (Pst.bind h).mono fun c s1 H1 F1 _ p1 rp1 h1 => ?_⟩
  cases c with
  | true => exact Pst.now h1 rp1
  | false => exact ⟨s1, F1, rp1, h1⟩
/-! ### and, or, not, if else, as values -/
theorem zone {a : Expr} {op} {pos : Pos} {m : M Vt} (h : PE X a (rd X.K B W m)) : PE X (.BoolOp op [a] pos) (rd X.K B W m) := pe_one h
theorem zandV {a b : Expr} {rest : List Expr} {pos : Pos} {m n : M Vt} (h : PE X a (rd X.K B W m)) (k : PE X (.BoolOp .And (b :: rest) pos) (rd X.K B W n)) : PE X (.BoolOp .And (a :: b :: rest) pos) (rd X.K B W (dAndV m n)) := by
  refine (pe_andT h k).imp fun σ H Q ⟨sd, F, rp, h⟩ => ?_
  refine ⟨sd, F, rp, (Pst.bind h).mono fun x s1 H1 F1 _ p1 rp1 h1 v hv => ?_⟩
  obtain ⟨c, t, q⟩ := truS_out h1 rp1 hv
  refine ⟨c, t, ?_⟩
  cases c with
  | true => exact ⟨s1, F1, rp1, Pst.mono (show Pst X.K B W s1 σ H1 F1 (n s1) _ from q) fun y s2 H2 F2 _ p2 rp2 h2 u hu => h2 u (hu.back fun a => p1.fresh)⟩
  | false => exact Pst.now (show Pst X.K B W s1 σ H1 F1 (.ok x s1) _ from q) rp1 v hv
theorem zorV {a b : Expr} {rest : List Expr} {pos : Pos} {m n : M Vt} (h : PE X a (rd X.K B W m)) (k : PE X (.BoolOp .Or (b :: rest) pos) (rd X.K B W n)) : PE X (.BoolOp .Or (a :: b :: rest) pos) (rd X.K B W (dOrV m n)) := by
  refine (pe_orT h k).imp fun σ H Q ⟨sd, F, rp, h⟩ => ?_
  refine ⟨sd, F, rp, (Pst.bind h).mono fun x s1 H1 F1 _ p1 rp1 h1 v hv => ?_⟩
  obtain ⟨c, t, q⟩ := truS_out h1 rp1 hv
  refine ⟨c, t, ?_⟩
  cases c with
  | true => exact Pst.now (show Pst X.K B W s1 σ H1 F1 (.ok x s1) _ from q) rp1 v hv
  | false => exact ⟨s1, F1, rp1, Pst.mono (show Pst X.K B W s1 σ H1 F1 (n s1) _ from q) fun y s2 H2 F2 _ p2 rp2 h2 u hu => h2 u (hu.back fun a => p1.fresh)⟩
theorem znotV {a : Expr} {pos : Pos} {m : M Vt} (h : PE X a (rd X.K B W m)) : PE X (.UnaryOp .Not a pos) (rd X.K B W (dNotV m)) := by
  refine (pe_notT h).imp fun σ H Q ⟨sd, F, rp, h⟩ => ?_
  have h' : Pst X.K B W sd σ H F (((m sd).bind fun x s1 => truS s1 (der x s1)).bind fun b s1 => R.ok (Vt.fr (PyData.bool (!b))) s1) _ := h
  have e : (((m sd).bind fun x s1 => truS s1 (der x s1)).bind fun b s1 => R.ok (Vt.fr (PyData.bool (!b))) s1) = (m sd).bind fun x s1 => (truS s1 (der x s1)).bind fun b s1 => R.ok (Vt.fr (PyData.bool (!b))) s1 := by
    cases m sd <;> rfl
  rw [e] at h'
  refine ⟨sd, F, rp, (Pst.bind h').mono fun x s1 H1 F1 _ p1 rp1 h1 v hv => ?_⟩
  obtain ⟨c, t, q⟩ := truS_out h1 rp1 hv
  exact ⟨c, t, Pst.now q rp1 _ (.bl _)⟩
theorem zife {c a b : Expr} {pos : Pos} {k : M Bool} {m n : M Vt} (hc : PT X c (rdT X.K B W k)) (ha : PE X a (rd X.K B W m)) (hb : PE X b (rd X.K B W n)) : PE X (.IfExp c a b pos) (rd X.K B W (dIf k m n)) := by
  refine (pe_ifExp hc ha hb).imp fun σ H Q ⟨sd, F, rp, h⟩ => ?_
  refine ⟨sd, F, rp, (Pst.bind h).mono fun b s1 H1 F1 _ p1 rp1 h1 => ?_⟩
  cases b with
  | true => exact ⟨s1, F1, rp1, Pst.mono (show Pst X.K B W s1 σ H1 F1 (m s1) _ from h1) fun y s2 H2 F2 _ p2 rp2 h2 u hu => h2 u (hu.back fun a => p1.fresh)⟩
  | false => exact ⟨s1, F1, rp1, Pst.mono (show Pst X.K B W s1 σ H1 F1 (n s1) _ from h1) fun y s2 H2 F2 _ p2 rp2 h2 u hu => h2 u (hu.back fun a => p1.fresh)⟩

/-! ### freezing, argument lists, displays -/
def fzS (o : Option (D × DS)) : R Vt := match o with
  | some (d, s) => .ok (.fr d) s
  | none => .no
def fz (m : M Vt) : M Vt := fun s => (m s).bind fun x s1 => fzS (frz x s1)
theorem zfz {e : Expr} {m : M Vt} (h : PE X e (rd X.K B W m)) : PE X e (rd X.K B W (fz m)) := by
  refine h.imp fun σ H Q ⟨sd, F, rp, q⟩ => ?_
  have q' : Pst X.K B W sd σ H F ((m sd).bind fun x s1 => fzS (frz x s1)) _ := q
  refine ⟨sd, F, rp, ?_⟩
  cases e1 : m sd with
  | no => rw [e1] at q'; exact q'.elim
  | er x s1 => rw [e1] at q'; exact q'
  | ok x s1 =>
    rw [e1] at q'
    intro H1 F1 p1 rp1 v hv
    have q2 : Pst X.K B W sd σ H F (fzS (frz x s1)) _ := q'
    cases e2 : frz x s1 with
    | none => rw [e2] at q2; exact q2.elim
    | some o =>
      obtain ⟨d, s2⟩ := o
      rw [e2] at q2
      obtain ⟨F2, p2, rp2, dd, _⟩ := frz_ok p1 rp1 hv e2
      exact q2 H1 F2 p2 rp2 v dd
def dNil : M (List Vt) := fun s => .ok [] s
def dCons (m : M Vt) (n : M (List Vt)) : M (List Vt) := fun s => (m s).bind fun x s1 => (n s1).bind fun xs s2 => .ok (x :: xs) s2
theorem zanil : PA X [] (rdA X.K B W dNil) := pa_nil.imp fun σ H Q ⟨sd, F, rp, h⟩ => Pst.now h rp [] .nil
theorem zac {e : Expr} {es : List Expr} {m : M Vt} {n : M (List Vt)} (h : PE X e (rd X.K B W m)) (k : PA X es (rdA X.K B W n)) (hs : starEach (e :: es) X.env = (false, eval e X.env) :: starEach es X.env := by rfl) : PA X (e :: es) (rdA X.K B W (dCons m n)) := by
  refine (pa_cons h k hs).imp fun σ H Q ⟨sd, F, rp, q⟩ => ?_
  refine ⟨sd, F, rp, (Pst.bind q).mono fun x s1 H1 F1 _ p1 rp1 h1 v hv => ?_⟩
  refine ⟨s1, F1, rp1, (Pst.bind h1).mono fun xs s2 H2 F2 _ p2 rp2 h2 vs hvs => ?_⟩
  exact Pst.now h2 rp2 (v :: vs) (.cons (hv.stp p2) (hvs.back fun a => p1.fresh))
/-- all frozen -/
def frs' : List Vt → Option (List D)
  | [] => some []
  | .fr d :: xs => (frs' xs).map (d :: ·)
  | _ :: _ => none
theorem frs_ok {K : PySem.W.Frag} {Hs : Hp} {s : DS} {σ : St} {H F : Hp} : ∀ {xs : List Vt} {vs : List V} {ds : List D}, VtsOk K B Hs s σ H F vs xs → frs' xs = some ds → DpAll K F vs ds
  | [], _, _, .nil, e => by cases e; exact .nil
  | .fr d :: xs, _, ds, .cons h t, e => by
    obtain ⟨es, h1, rfl⟩ := Option.map_eq_some_iff.mp (show (frs' xs).map (d :: ·) = some ds from e)
    exact .cons h (frs_ok t h1)
  | .ow _ :: _, _, _, _, e => by cases e
  | .sl _ :: _, _, _, _, e => by cases e
def tupS (s : DS) (o : Option (List D)) : R Vt := match o with
  | some ds => if ds.length ≤ sizeLine then .ok (.fr (.tuple ds)) s else .no
  | none => .no
def lstS (s : DS) (o : Option (List D)) : R Vt := match o with
  | some ds => if ds.length ≤ sizeLine then .ok (.ow (.list ds)) s else .no
  | none => .no
def dTup (m : M (List Vt)) : M Vt := fun s => (m s).bind fun xs s1 => tupS s1 (frs' xs)
def dLst (m : M (List Vt)) : M Vt := fun s => (m s).bind fun xs s1 => lstS s1 (frs' xs)
theorem ztup {es : List Expr} {x1} {pos : Pos} {m : M (List Vt)} (h : PA X es (rdA X.K B W m)) : PE X (.Tuple es x1 pos) (rd X.K B W (dTup m)) := by
  refine (pe_tup h).imp fun σ H Q ⟨sd, F, rp, q⟩ => ?_
  refine ⟨sd, F, rp, (Pst.bind q).mono fun xs s1 H1 F1 _ p1 rp1 h1 vs hvs => ?_⟩
  unfold tupS at h1
  cases e : frs' xs with
  | none => rw [e] at h1; exact h1.elim
  | some ds =>
    rw [e] at h1
    have dd := frs_ok hvs e
    by_cases hz : ds.length ≤ sizeLine
    · simp only [if_pos hz] at h1
      exact ⟨by rw [dd.length]; exact hz, fun p hp => Res.tup (Q := Q) rp1 (fun v' H' F' p4 rp4 hv' => h1 H' F' p4 rp4 v' hv') dd p hp⟩
    · simp only [if_neg hz] at h1; exact h1.elim
theorem zlst {es : List Expr} {pos : Pos} {m : M (List Vt)} (h : PA X es (rdA X.K B W m)) : PE X (.List es pos) (rd X.K B W (dLst m)) := by
  refine (pe_lst h).imp fun σ H Q ⟨sd, F, rp, q⟩ => ?_
  refine ⟨sd, F, rp, (Pst.bind q).mono fun xs s1 H1 F1 _ p1 rp1 h1 vs hvs => ?_⟩
  unfold lstS at h1
  cases e : frs' xs with
  | none => rw [e] at h1; exact h1.elim
  | some ds =>
    rw [e] at h1
    have dd := frs_ok hvs e
    by_cases hz : ds.length ≤ sizeLine
    · simp only [if_pos hz] at h1
      exact ⟨by rw [dd.length]; exact hz, fun p hp => Res.lst (Q := Q) rp1 (fun v' H' F' p4 rp4 hv' => h1 H' F' p4 rp4 v' (hv'.back fun a => p1.fresh)) dd p hp⟩
    · simp only [if_neg hz] at h1; exact h1.elim

/-! ### built-in functions -/
def ders : List Vt → DS → Option (List D)
  | [], _ => some []
  | x :: xs, s => match der x s, ders xs s with
    | some d, some ds => some (d :: ds)
    | _, _ => none
def VwAll (K : PySem.W.Frag) (H F : Hp) : List V → List D → Prop := Paired fun v d => Vw K H F v d
theorem ders_ok {K : PySem.W.Frag} {Hs : Hp} {s : DS} {σ : St} {H F : Hp} (rp : Rep K B s σ H F) : ∀ {xs : List Vt} {vs : List V} {ds : List D}, VtsOk K B Hs s σ H F vs xs → ders xs s = some ds → VwAll K H F vs ds
  | [], _, _, .nil, e => by cases e; exact .nil
  | x :: xs, v :: vs, ds, .cons h t, e => by
    have e' : (match der x s, ders xs s with | some d, some ds => some (d :: ds) | _, _ => none) = some ds := e
    cases e1 : der x s with
    | none => rw [e1] at e'; cases e'
    | some d =>
      cases e2 : ders xs s with
      | none => rw [e1, e2] at e'; cases e'
      | some es =>
        rw [e1, e2] at e'
        cases e'
        exact .cons (h.vw rp e1) (ders_ok rp t e2)
def cbS (f : List D → Option Vt) (s : DS) (o : Option (List D)) : R Vt := match o with
  | some ds => (match f ds with
    | some z => .ok z s
    | none => .no)
  | none => .no
def dCB (f : List D → Option Vt) (m : M (List Vt)) : M Vt := fun s => (m s).bind fun xs s1 => cbS f s1 (ders xs s1)
/-- a primitive over a list of data -/
def PL (K : PySem.W.Frag) (r : List V → Hp → VK → Prop) (f : List D → Option Vt) : Prop := ∀ (B : By) (s : DS) (σ : St) (H F : Hp) (vs : List V) (ds : List D) (z : Vt) (Q : VK), Rep K B s σ H F → VwAll K H F vs ds → f ds = some z → Res K B s σ H F z Q → r vs H Q
theorem cb_out {K : PySem.W.Frag} {r : List V → Hp → VK → Prop} {f : List D → Option Vt} {xs : List Vt} {s1 : DS} {σ : St} {H H1 F1 : Hp} {vs : List V} {Q : VK} (hp : PL K r f) (fr : ∀ a, H1 a = none → H a = none) (rp : Rep K B s1 σ H1 F1) (hv : VtsOk K B H s1 σ H1 F1 vs xs)
    (h : Pst K B W s1 σ H1 F1 (cbS f s1 (ders xs s1)) fun x s' H' F' => ∀ v, VtOk K B H s' σ H' F' v x → Q v H') : r vs H1 Q := by
  unfold cbS at h
  cases e : ders xs s1 with
  | none => rw [e] at h; exact h.elim
  | some ds =>
    rw [e] at h
    have h' : Pst K B W s1 σ H1 F1 (match f ds with | some z => .ok z s1 | none => .no) _ := h
    cases e2 : f ds with
    | none => rw [e2] at h'; exact h'.elim
    | some z =>
      rw [e2] at h'
      exact hp B s1 σ H1 F1 vs ds z Q rp (ders_ok rp hv e) e2 fun v' H' F' p4 rp4 hv' => h' H' F' p4 rp4 v' (hv'.back fr)
theorem zcb {x : Str} {p pos : Pos} {e : Expr} {es : List Expr} {id : String} {r : List V → Hp → VK → Prop} {f : List D → Option Vt} {m : M (List Vt)} (hc : CallR X (.builtin id) r) (hp : PL X.K r f) (hg : Gl X x) (hm : X.mg x = none) (hv : bootBuiltins x = some (.builtin id)) (ha : PA X (e :: es) (rdA X.K B W m))
    (hn : x ≠ "__name__" := by decide) (hdb : (x == ("__debug__" : Str)) = false := by decide) (he : starEach (e :: es) X.env = (false, eval e X.env) :: starEach es X.env := by rfl) (hpl : (backTo pos (starEach es X.env)).any (·.1) = false := by rfl) :
    PE X (.Call (.Name x p) (e :: es) [] pos) (rd X.K B W (dCB f m)) := by
  refine (pe_callB hc hg hm hv ha hn hdb he hpl).imp fun σ H Q ⟨sd, F, rp, q⟩ => ?_
  exact ⟨sd, F, rp, (Pst.bind q).mono fun xs s1 H1 F1 _ p1 rp1 h1 vs hvs => cb_out hp (fun a => p1.fresh) rp1 hvs h1⟩
theorem zct {x : Str} {p pos : Pos} {e : Expr} {es : List Expr} {T : String} {r : List V → Hp → VK → Prop} {f : List D → Option Vt} {m : M (List Vt)} (hc : CallR X (.type T) r) (hp : PL X.K r f) (hg : Gl X x) (hm : X.mg x = none) (hv : bootBuiltins x = some (.type T)) (ha : PA X (e :: es) (rdA X.K B W m))
    (hn : x ≠ "__name__" := by decide) (hdb : (x == ("__debug__" : Str)) = false := by decide) (he : starEach (e :: es) X.env = (false, eval e X.env) :: starEach es X.env := by rfl) (hpl : (backTo pos (starEach es X.env)).any (·.1) = false := by rfl) :
    PE X (.Call (.Name x p) (e :: es) [] pos) (rd X.K B W (dCB f m)) := by
  refine (pe_callTy hc hg hm hv ha hn hdb he hpl).imp fun σ H Q ⟨sd, F, rp, q⟩ => ?_
  exact ⟨sd, F, rp, (Pst.bind q).mono fun xs s1 H1 F1 _ p1 rp1 h1 vs hvs => cb_out hp (fun a => p1.fresh) rp1 hvs h1⟩
end
section
variable {K : PySem.W.Frag}
theorem VwAll.one {H F : Hp} {vs : List V} {d : D} (h : VwAll K H F vs [d]) : ∃ v, vs = [v] ∧ Vw K H F v d := by
  cases h with
  | cons h t => cases t; exact ⟨_, rfl, h⟩
theorem VwAll.two {H F : Hp} {vs : List V} {d e : D} (h : VwAll K H F vs [d, e]) : ∃ v u, vs = [v, u] ∧ Vw K H F v d ∧ Vw K H F u e := by
  cases h with
  | cons h t =>
    obtain ⟨u, rfl, h2⟩ := VwAll.one t
    exact ⟨_, u, rfl, h, h2⟩
def pLen : List D → Option Vt
  | [.str z] => if z.length ≤ sizeLine then some (.fr (.int z.length)) else none
  | [.list ds] => some (.fr (.int ds.length))
  | [.tuple ds] => some (.fr (.int ds.length))
  | _ => none
theorem p_len : PL K (fun xs H Q => ∃ x n, xs = [x] ∧ LenV K x H n ∧ Q (.int n) H) pLen := by
  intro B s σ H F vs ds z Q rp hv he q
  unfold pLen at he
  split at he
  · obtain ⟨hz, rfl⟩ := ite_some he
    obtain ⟨v, rfl, w⟩ := hv.one
    cases w
    exact ⟨_, _, rfl, ⟨hz, rfl⟩, q.val rp (.int _)⟩
  · cases he
    obtain ⟨v, rfl, w⟩ := hv.one
    obtain ⟨a, vs, rfl, h1, h2⟩ := w
    exact ⟨_, _, rfl, .inl ⟨vs, h1, h2.length.symm⟩, q.val rp (.int _)⟩
  · cases he
    obtain ⟨v, rfl, w⟩ := hv.one
    obtain ⟨a, vs, rfl, h1, h2⟩ := w
    exact ⟨_, _, rfl, .inr ⟨vs, rp.le.sqT h1, h2.length.symm⟩, q.val rp (.int _)⟩
  · cases he
def pAbs : List D → Option Vt
  | [.int i] => some (.fr (.int (if i < 0 then -i else i)))
  | _ => none
theorem p_abs : PL K (fun xs H Q => ∃ i, xs = [.int i] ∧ Q (.int (if i < 0 then -i else i)) H) pAbs := by
  intro B s σ H F vs ds z Q rp hv he q
  unfold pAbs at he
  split at he
  · cases he
    obtain ⟨v, rfl, w⟩ := hv.one
    cases w
    exact ⟨_, rfl, q.val rp (.int _)⟩
  · cases he
def pMax2 : List D → Option Vt
  | [.int i, .int j] => some (.fr (.int (if j > i then j else i)))
  | _ => none
def pMin2 : List D → Option Vt
  | [.int i, .int j] => some (.fr (.int (if j < i then j else i)))
  | _ => none
theorem p_max2 : PL K (fun xs H Q => ∃ i j, xs = [.int i, .int j] ∧ Q (.int (if j > i then j else i)) H) pMax2 := by
  intro B s σ H F vs ds z Q rp hv he q
  unfold pMax2 at he
  split at he
  · cases he
    obtain ⟨v, u, rfl, w, w'⟩ := hv.two
    cases w; cases w'
    exact ⟨_, _, rfl, q.val rp (.int _)⟩
  · cases he
theorem p_min2 : PL K (fun xs H Q => ∃ i j, xs = [.int i, .int j] ∧ Q (.int (if j < i then j else i)) H) pMin2 := by
  intro B s σ H F vs ds z Q rp hv he q
  unfold pMin2 at he
  split at he
  · cases he
    obtain ⟨v, u, rfl, w, w'⟩ := hv.two
    cases w; cases w'
    exact ⟨_, _, rfl, q.val rp (.int _)⟩
  · cases he
def pInt : List D → Option Vt
  | [.int i] => some (.fr (.int i))
  | [.bool b] => some (.fr (.int (if b then 1 else 0)))
  | _ => none
theorem p_int : PL K (fun xs H Q => (∃ i, xs = [.int i] ∧ Q (.int i) H) ∨ ∃ k, xs = [.bl k] ∧ Q (.int (if k then 1 else 0)) H) pInt := by
  intro B s σ H F vs ds z Q rp hv he q
  unfold pInt at he
  split at he
  · cases he
    obtain ⟨v, rfl, w⟩ := hv.one
    cases w
    exact .inl ⟨_, rfl, q.val rp (.int _)⟩
  · cases he
    obtain ⟨v, rfl, w⟩ := hv.one
    cases w
    exact .inr ⟨_, rfl, q.val rp (.int _)⟩
  · cases he
def pStrI : List D → Option Vt
  | [.int i] => if i.natAbs.log2 < 1920 then some (.fr (.str (toString i))) else none
  | _ => none
theorem p_strI : PL K (fun xs H Q => ∃ i, xs = [.int i] ∧ i.natAbs.log2 < 1920 ∧ Q (.str (toString i)) H) pStrI := by
  intro B s σ H F vs ds z Q rp hv he q
  unfold pStrI at he
  split at he
  · obtain ⟨hz, rfl⟩ := ite_some he
    obtain ⟨v, rfl, w⟩ := hv.one
    cases w
    exact ⟨_, rfl, hz, q.val rp (.str _)⟩
  · cases he
def pList : List D → Option Vt
  | [.list ds] => some (.ow (.list ds))
  | [.tuple ds] => some (.ow (.list ds))
  | _ => none
theorem p_list : PL K (fun xs H Q => ∃ p ys, xs = [.ref p] ∧ (SqL K H p ys ∨ SqT K H p ys) ∧ ∀ l, H l = none → Q (.ref l) (upd H l (.lst ys))) pList := by
  intro B s σ H F vs ds z Q rp hv he q
  unfold pList at he
  split at he
  · cases he
    obtain ⟨v, rfl, w⟩ := hv.one
    obtain ⟨a, vs, rfl, h1, h2⟩ := w
    exact ⟨a, vs, rfl, .inl h1, fun p hp => q.lst rp h2 p hp⟩
  · cases he
    obtain ⟨v, rfl, w⟩ := hv.one
    obtain ⟨a, vs, rfl, h1, h2⟩ := w
    exact ⟨a, vs, rfl, .inr (rp.le.sqT h1), fun p hp => q.lst rp h2 p hp⟩
  · cases he
def pTuple : List D → Option Vt
  | [.list ds] => some (.fr (.tuple ds))
  | [.tuple ds] => some (.fr (.tuple ds))
  | _ => none
theorem p_tuple : PL K (fun xs H Q => ∃ p ys, xs = [.ref p] ∧ ((SqL K H p ys ∧ ∀ l, H l = none → Q (.ref l) (upd H l (.tup ys))) ∨ (SqT K H p ys ∧ Q (.ref p) H))) pTuple := by
  intro B s σ H F vs ds z Q rp hv he q
  unfold pTuple at he
  split at he
  · cases he
    obtain ⟨v, rfl, w⟩ := hv.one
    obtain ⟨a, vs, rfl, h1, h2⟩ := w
    exact ⟨a, vs, rfl, .inl ⟨h1, fun p hp => q.tup rp h2 p hp⟩⟩
  · cases he
    obtain ⟨v, rfl, w⟩ := hv.one
    obtain ⟨a, vs, rfl, h1, h2⟩ := w
    exact ⟨a, vs, rfl, .inr ⟨rp.le.sqT h1, q.val rp (.tup h1 h2)⟩⟩
  · cases he
end
end L2.Zd

set_option Elab.async false
set_option linter.all false
set_option maxRecDepth 100000
set_option maxHeartbeats 2000000
namespace L2.Zd
open PySem PySem.Spec PyProof.Rows

/-! ### statements -/
inductive RS where
  | nx (s : DS) | rt (x : Vt) (s : DS) | bk (s : DS) | ct (s : DS) | er (e : Ex) (s : DS) | no
abbrev MS := DS → RS
def Pss (K : PySem.W.Frag) (B : By) (W : WX') (F : Hp) (Dn : Ends) (r : RS) : Prop := match r with
  | .nx s' => ∀ σ' H' F', Rep K B s' σ' H' F' → FL F F' → Dn.nx σ' H'
  | .rt x s' => ∀ v σ' H' F', Rep K B s' σ' H' F' → FL F F' → VtOk K B B.H0 s' σ' H' F' v x → Dn.rt v H'
  | .bk s' => ∀ σ' H' F', Rep K B s' σ' H' F' → FL F F' → Dn.bk σ' H'
  | .ct s' => ∀ σ' H' F', Rep K B s' σ' H' F' → FL F F' → Dn.ct σ' H'
  | .er e s' => ∀ σ' H' F', Rep K B s' σ' H' F' → FL F F' → W e s' σ' H' F'
  | .no => False
theorem Pss.grow {K : PySem.W.Frag} {B : By} {W : WX'} {F F1 : Hp} {Dn : Ends} {r : RS} (f : FL F F1) (h : Pss K B W F Dn r) : Pss K B W F1 Dn r := by
  cases r with
  | nx s' => exact fun σ' H' F' rp g => h σ' H' F' rp (f.trans g)
  | rt x s' => exact fun v σ' H' F' rp g q => h v σ' H' F' rp (f.trans g) q
  | bk s' => exact fun σ' H' F' rp g => h σ' H' F' rp (f.trans g)
  | ct s' => exact fun σ' H' F' rp g => h σ' H' F' rp (f.trans g)
  | er e s' => exact fun σ' H' F' rp g => h σ' H' F' rp (f.trans g)
  | no => exact h
def rs (K : PySem.W.Frag) (B : By) (W : WX') (m : MS) : TS := fun Dn σ H => ∃ sd F, Rep K B sd σ H F ∧ Pss K B W F Dn (m sd)
/-- an expression's result, then a statement's -/
def R.st {α : Type} (r : R α) (k : α → DS → RS) : RS := match r with
  | .ok a s => k a s
  | .er e s => .er e s
  | .no => .no
@[simp] theorem st_ok {α : Type} (a : α) (s : DS) (k : α → DS → RS) : (R.ok a s).st k = k a s := rfl
@[simp] theorem st_er {α : Type} (e : Ex) (s : DS) (k : α → DS → RS) : (R.er e s : R α).st k = .er e s := rfl
@[simp] theorem st_no {α : Type} (k : α → DS → RS) : (R.no : R α).st k = .no := rfl
theorem Pss.st {α : Type} {K : PySem.W.Frag} {B : By} {W : WX'} {sd : DS} {σ : St} {H F : Hp} {Dn : Ends} {r : R α} {k : α → DS → RS} (h : Pss K B W F Dn (r.st k)) : Pst K B W sd σ H F r fun a s1 _ F1 => Pss K B W F1 Dn (k a s1) := by
  cases r with
  | ok a s1 => exact fun H1 F1 p1 rp1 => Pss.grow p1.f h
  | er e s1 => exact fun H1 F1 p1 rp1 => h σ H1 F1 rp1 p1.f
  | no => exact h
/-- then -/
def RS.sq (r : RS) (n : MS) : RS := match r with
  | .nx s => n s
  | r => r
@[simp] theorem sq_nx (s : DS) (n : MS) : (RS.nx s).sq n = n s := rfl
@[simp] theorem sq_rt (x : Vt) (s : DS) (n : MS) : (RS.rt x s).sq n = .rt x s := rfl
@[simp] theorem sq_bk (s : DS) (n : MS) : (RS.bk s).sq n = .bk s := rfl
@[simp] theorem sq_ct (s : DS) (n : MS) : (RS.ct s).sq n = .ct s := rfl
@[simp] theorem sq_er (e : Ex) (s : DS) (n : MS) : (RS.er e s).sq n = .er e s := rfl
@[simp] theorem sq_no (n : MS) : RS.no.sq n = .no := rfl
def sNil : MS := fun s => .nx s
def sCons (m n : MS) : MS := fun s => (m s).sq n
def sExpr (m : M Vt) : MS := fun s => (m s).st fun _ s1 => .nx s1
def sRet (m : M Vt) : MS := fun s => (m s).st fun x s1 => .rt x s1
def sRetN : MS := fun s => .rt (.fr .none) s
def sIf (c : M Bool) (a b : MS) : MS := fun s => (c s).st fun k s1 => if k = true then a s1 else b s1
def sBrk : MS := fun s => .bk s
def sCnt : MS := fun s => .ct s
def sNever : MS := fun _ => .no
section
variable {X : Cx} {B : By} {W : WX'}
theorem zsnil : PSs X [] (rs X.K B W sNil) := pss_nil.imp fun Dn σ H ⟨sd, F, rp, h⟩ => h σ H F rp .refl
theorem zscons {st : Stmt} {rest : List Stmt} {m n : MS} (h : PS X st (rs X.K B W m)) (k : PSs X rest (rs X.K B W n)) : PSs X (st :: rest) (rs X.K B W (sCons m n)) := by
  refine (pss_cons h k).imp fun Dn σ H ⟨sd, F, rp, q⟩ => ⟨sd, F, rp, ?_⟩
  have q' : Pss X.K B W F Dn ((m sd).sq n) := q
  cases e : m sd with
  | nx s1 => rw [e] at q'; exact fun σ' H' F' rp' f => ⟨s1, F', rp', Pss.grow f q'⟩
  | rt x s1 => rw [e] at q'; exact q'
  | bk s1 => rw [e] at q'; exact q'
  | ct s1 => rw [e] at q'; exact q'
  | er x s1 => rw [e] at q'; exact q'
  | no => rw [e] at q'; exact q'
theorem zsone {st : Stmt} {m : MS} (h : PS X st (rs X.K B W m)) : PSs X [st] (rs X.K B W m) := pss_one h
theorem zexpr {e : Expr} {pos : Pos} {m : M Vt} (h : PE X e (rd X.K B W m)) (hs : swapsWith e none pos.line X.env = pure false := by rfl) : PS X (.Expr e pos) (rs X.K B W (sExpr m)) := by
  refine (ps_expr h hs).imp fun Dn σ H ⟨sd, F, rp, q⟩ => ⟨sd, F, rp, ?_⟩
  exact (Pss.st (sd := sd) (σ := σ) (H := H) q).mono fun x s1 H1 F1 _ p1 rp1 h1 v hv => h1 σ H1 F1 rp1 .refl
theorem zdoc {x j pos pos'} : PS X (.Expr (.Constant (.str x) j pos) pos') (rs X.K B W sNil) := ps_doc.imp fun Dn σ H ⟨sd, F, rp, h⟩ => h σ H F rp .refl
theorem zret {e : Expr} {pos : Pos} {m : M Vt} (h : PE X e (rd X.K B W m)) : PS X (.Return (some e) pos) (rs X.K B W (sRet m)) := by
  refine (ps_ret h).imp fun Dn σ H ⟨sd, F, rp, q⟩ => ⟨sd, F, rp, ?_⟩
  exact (Pss.st (sd := sd) (σ := σ) (H := H) q).mono fun x s1 H1 F1 _ p1 rp1 h1 v hv => h1 v σ H1 F1 rp1 .refl (hv.back fun a => rp.h0none)
theorem zretN {pos : Pos} : PS X (.Return none pos) (rs X.K B W sRetN) := ps_retN.imp fun Dn σ H ⟨sd, F, rp, h⟩ => h _ σ H F rp .refl .non
theorem zpass {pos : Pos} : PS X (.Pass pos) (rs X.K B W sNil) := ps_pass.imp fun Dn σ H ⟨sd, F, rp, h⟩ => h σ H F rp .refl
theorem zbrk {pos : Pos} : PS X (.Break pos) (rs X.K B W sBrk) := ps_break.imp fun Dn σ H ⟨sd, F, rp, h⟩ => h σ H F rp .refl
theorem zcnt {pos : Pos} : PS X (.Continue pos) (rs X.K B W sCnt) := ps_continue.imp fun Dn σ H ⟨sd, F, rp, h⟩ => h σ H F rp .refl
theorem znever {st : Stmt} : PS X st (rs X.K B W sNever) := ps_never.imp fun Dn σ H ⟨sd, F, rp, h⟩ => h
theorem zif {c : Expr} {a b : List Stmt} {pos : Pos} {k : M Bool} {m n : MS} (hc : PT X c (rdT X.K B W k)) (ha : PSs X a (rs X.K B W m)) (hb : PSs X b (rs X.K B W n)) : PS X (.If c a b pos) (rs X.K B W (sIf k m n)) := by
  refine (ps_if hc ha hb).imp fun Dn σ H ⟨sd, F, rp, q⟩ => ⟨sd, F, rp, ?_⟩
  refine (Pss.st (sd := sd) (σ := σ) (H := H) q).mono fun c s1 H1 F1 _ p1 rp1 h1 => ?_
  cases c with
  | true => exact ⟨s1, F1, rp1, h1⟩
  | false => exact ⟨s1, F1, rp1, h1⟩
end

/-! ### stores -/
/-- what the slot i is then -/
def putS (i : Nat) (s : DS) : Vt → Option DS
  | .fr d => some (s.set i (.fr d))
  | .ow d => some (s.set i (.ow d))
  | .sl j => match frzS j s s[j]? with
    | some (d, s') => some (s'.set i (.fr d))
    | none => none
def putR (o : Option DS) : RS := match o with
  | some s => .nx s
  | none => .no
def sSet (i : Nat) (m : M Vt) : MS := fun s => (m s).st fun x s1 => putR (putS i s1 x)
theorem set_fr {K : PySem.W.Frag} {B : By} {s : DS} {σ : St} {H F : Hp} {i : Nat} {d : D} {v : V} (rp : Rep K B s σ H F) (hl : ∀ p ∈ B.lk, p.1 ≠ i) (h : Dp K F v d) : Rep K B (s.set i (.fr d)) (σ.set i (some v)) H F := by
  refine ⟨rp.le, by rw [List.length_set, List.length_set]; exact rp.len, fun j e q => ?_, fun j e q => ?_, fun j k e e' a n q1 q2 => ?_, fun p hp => ?_, rp.f0, rp.h0, rp.nw, rp.al⟩
  · by_cases hj : i = j
    · subst hj
      have hi : i < s.length := by
        have := (List.getElem?_eq_some_iff.mp q).1
        rwa [List.length_set] at this
      rw [List.getElem?_set_self hi] at q; cases q
      exact ⟨v, List.getElem?_set_self (by rw [← rp.len]; exact hi), h⟩
    · rw [List.getElem?_set_ne hj] at q ⊢
      exact rp.fr j e q
  · by_cases hj : i = j
    · subst hj
      have hi : i < s.length := by
        have := (List.getElem?_eq_some_iff.mp q).1
        rwa [List.length_set] at this
      rw [List.getElem?_set_self hi] at q; cases q
    · rw [List.getElem?_set_ne hj] at q ⊢
      exact rp.ow j e q
  · have ne : ∀ {j : Nat} {e : D}, (s.set i (.fr d))[j]? = some (Sl.ow e) → i ≠ j ∧ s[j]? = some (Sl.ow e) := fun {j e} q => by
      by_cases hj : i = j
      · subst hj
        have hi : i < s.length := by
          have := (List.getElem?_eq_some_iff.mp q).1
          rwa [List.length_set] at this
        rw [List.getElem?_set_self hi] at q; cases q
      · rw [List.getElem?_set_ne hj] at q; exact ⟨hj, q⟩
    obtain ⟨n1, q1⟩ := ne q1
    obtain ⟨n2, q2⟩ := ne q2
    rw [List.getElem?_set_ne n1, List.getElem?_set_ne n2]
    exact rp.dis j k e e' a n q1 q2
  · rw [List.getElem?_set_ne (Ne.symm (hl p hp))]
    exact rp.lk p hp
theorem set_ow {K : PySem.W.Frag} {B : By} {s : DS} {σ : St} {H F : Hp} {i : Nat} {d : D} {p : Addr} (rp : Rep K B s σ H F) (hl : ∀ q ∈ B.lk, q.1 ≠ i) (h : Own K B H F p d) (hn : ¬ OwAt s σ p) : Rep K B (s.set i (.ow d)) (σ.set i (some (.ref p))) H F := by
  have at_ : ∀ {j : Nat} {x : Sl}, i = j → (s.set i (.ow d))[j]? = some x → x = .ow d ∧ (σ.set i (some (V.ref p)))[j]? = some (some (.ref p)) := fun {j x} e q => by
    subst e
    have hi : i < s.length := by
      have := (List.getElem?_eq_some_iff.mp q).1
      rwa [List.length_set] at this
    rw [List.getElem?_set_self hi] at q; cases q
    exact ⟨rfl, List.getElem?_set_self (by rw [← rp.len]; exact hi)⟩
  refine ⟨rp.le, by rw [List.length_set, List.length_set]; exact rp.len, fun j e q => ?_, fun j e q => ?_, fun j k e e' a n q1 q2 => ?_, fun q hq => ?_, rp.f0, rp.h0, rp.nw, rp.al⟩
  · by_cases hj : i = j
    · obtain ⟨z, _⟩ := at_ hj q
      cases z
    · rw [List.getElem?_set_ne hj] at q ⊢
      exact rp.fr j e q
  · by_cases hj : i = j
    · obtain ⟨z, w⟩ := at_ hj q
      cases z
      exact ⟨p, w, h⟩
    · rw [List.getElem?_set_ne hj] at q ⊢
      exact rp.ow j e q
  · by_cases hj : i = j
    · obtain ⟨_, w⟩ := at_ hj q1
      have hk : i ≠ k := fun z => n (hj.symm.trans z)
      rw [List.getElem?_set_ne hk] at q2 ⊢
      intro e1 e2
      rw [w] at e1; cases e1
      exact hn ⟨k, e', q2, e2⟩
    · rw [List.getElem?_set_ne hj] at q1 ⊢
      by_cases hk : i = k
      · obtain ⟨_, w⟩ := at_ hk q2
        intro e1 e2
        rw [w] at e2; cases e2
        exact hn ⟨j, e, q1, e1⟩
      · rw [List.getElem?_set_ne hk] at q2 ⊢
        exact rp.dis j k e e' a n q1 q2
  · rw [List.getElem?_set_ne (Ne.symm (hl q hq))]
    exact rp.lk q hq
theorem put_ok {K : PySem.W.Frag} {B : By} {Hs : Hp} {s s' : DS} {σ : St} {H F : Hp} {i : Nat} {x : Vt} {v : V} (rp : Rep K B s σ H F) (hl : ∀ p ∈ B.lk, p.1 ≠ i) (h : VtOk K B Hs s σ H F v x) (e : putS i s x = some s') :
    ∃ F', Rep K B s' (σ.set i (some v)) H F' ∧ FL F F' := by
  cases x with
  | fr d => cases e; exact ⟨F, set_fr rp hl h, .refl⟩
  | ow d =>
    cases e
    obtain ⟨p, rfl, h1, h2, h3, _⟩ := h
    exact ⟨F, set_ow rp hl h1 h3, .refl⟩
  | sl j =>
    have e' : (match frzS j s s[j]? with | some (d, s') => some (s'.set i (.fr d)) | none => none) = some s' := e
    cases e1 : frzS j s s[j]? with
    | none => rw [e1] at e'; cases e'
    | some o =>
      obtain ⟨d, s1⟩ := o
      rw [e1] at e'; cases e'
      obtain ⟨F', _, rp', dd, fl⟩ := frz_ok (Hs := H) (Fs := F) (s0 := s) (x := .sl j) .refl rp (h : VtOk K B H s σ H F v (.sl j)) e1
      exact ⟨F', set_fr rp' hl dd, fl⟩
/-- the locked slots -/
def Lk (B : By) (L : List Nat) : Prop := B.lk.map (·.1) = L
theorem Lk.ne {B : By} {L : List Nat} (h : Lk B L) {i : Nat} (hi : L.contains i = false) : ∀ p ∈ B.lk, p.1 ≠ i := fun p hp z => by
  have : L.contains i = true := by
    rw [List.contains_iff_mem, ← z, ← h]
    exact List.mem_map_of_mem hp
  rw [hi] at this; cases this
section
variable {X : Cx} {B : By} {W : WX'} {L : List Nat}
theorem zset (i : Nat) {x : Str} {e : Expr} {pos pos' : Pos} {m : M Vt} (hB : Lk B L) (hN : X.N.Nodup) (he : PE X e (rd X.K B W m)) (hi : X.N[i]? = some x := by rfl) (hx : Loc X.env.scope x := by first | exact Or.inl rfl | exact Or.inr rfl) (hl : L.contains i = false := by rfl)
    (hs : swapsWith e (some (.Name x pos')) pos.line X.env = pure false := by rfl) (hf : X.fn x = true ∨ X.env.scope.names.lookup x = some .local := by first | exact .inl rfl | exact .inr rfl | assumption) : PS X (.Assign [.Name x pos'] e pos) (rs X.K B W (sSet i m)) := by
  refine (ps_set hN hi hx he hs hf).imp fun Dn σ H ⟨sd, F, rp, q⟩ => ⟨sd, F, rp, ?_⟩
  refine (Pss.st (sd := sd) (σ := σ) (H := H) q).mono fun x s1 H1 F1 _ p1 rp1 h1 v hv => ?_
  cases e : putS i s1 x with
  | none => rw [e] at h1; exact h1.elim
  | some s2 =>
    rw [e] at h1
    obtain ⟨F2, rp2, fl⟩ := put_ok rp1 (hB.ne hl) hv e
    exact h1 _ _ F2 rp2 fl
end

/-! ### targets -/
inductive Tg where
  | nm (i : Nat)
  | tp (ts : List Tg)
mutual
def asg : Tg → D → DS → Option DS
  | .nm i, d, s => some (s.set i (.fr d))
  | .tp ts, .tuple ds, s => asgs ts ds s
  | .tp _, _, _ => none
def asgs : List Tg → List D → DS → Option DS
  | [], [], s => some s
  | t :: ts, d :: ds, s => match asg t d s with
    | some s1 => asgs ts ds s1
    | none => none
  | _, _, _ => none
end
theorem asgs_len : ∀ {ts : List Tg} {ds : List D} {s s' : DS}, asgs ts ds s = some s' → ds.length = ts.length
  | [], [], _, _, _ => rfl
  | t :: ts, d :: ds, s, s', h => by
    have h' : (match asg t d s with | some s1 => asgs ts ds s1 | none => none) = some s' := by rw [← h]; rfl
    cases e : asg t d s with
    | none => rw [e] at h'; cases h'
    | some s1 =>
      rw [e] at h'
      exact congrArg Nat.succ (asgs_len (show asgs ts ds s1 = some s' from h'))
  | [], _ :: _, _, _, h => by simp [asgs] at h
  | _ :: _, [], _, _, h => by simp [asgs] at h
mutual
def Tg.sl : Tg → List Nat
  | .nm i => [i]
  | .tp ts => Tg.sls ts
def Tg.sls : List Tg → List Nat
  | [] => []
  | t :: ts => Tg.sl t ++ Tg.sls ts
end
/-- the same but at these slots -/
def Ag (vs : List Nat) (σ σ' : St) : Prop := σ'.length = σ.length ∧ ∀ i : Nat, i ∉ vs → σ'[i]? = σ[i]?
theorem Ag.refl {vs : List Nat} {σ : St} : Ag vs σ σ := ⟨rfl, fun _ _ => rfl⟩
theorem Ag.trans {vs ws : List Nat} {σ σ1 σ2 : St} (h : Ag vs σ σ1) (k : Ag ws σ1 σ2) : Ag (vs ++ ws) σ σ2 :=
  ⟨k.1.trans h.1, fun i hi => (k.2 i fun z => hi (List.mem_append_right _ z)).trans (h.2 i fun z => hi (List.mem_append_left _ z))⟩
theorem Ag.set {σ : St} {i : Nat} {o : Option V} : Ag [i] σ (σ.set i o) :=
  ⟨List.length_set, fun j hj => List.getElem?_set_ne (fun z => hj (by rw [z]; exact List.mem_singleton_self _))⟩
/-- a target's reading: the value is frozen -/
def rg (K : PySem.W.Frag) (B : By) (t : Tg) : TG := fun v σ H Q => ∃ sd F d, Rep K B sd σ H F ∧ Dp K F v d ∧ ∃ s', asg t d sd = some s' ∧ ∀ σ', Rep K B s' σ' H F → Ag t.sl σ σ' → Q σ' H
def rgs (K : PySem.W.Frag) (B : By) (ts : List Tg) : TGs := fun vs σ H Q => ∃ sd F ds, Rep K B sd σ H F ∧ DpAll K F vs ds ∧ ∃ s', asgs ts ds sd = some s' ∧ ∀ σ', Rep K B s' σ' H F → Ag (Tg.sls ts) σ σ' → Q σ' H
theorem _root_.L2.PG.imp {X : Cx} {e : Expr} {t t' : TG} (h : PG X e t) (f : ∀ v σ H Q, t' v σ H Q → t v σ H Q) : PG X e t' := ⟨fun pins s σ H v u Q I r q => h.run pins s σ H v u Q I r (f v σ H Q q)⟩
theorem _root_.L2.PGs.imp {X : Cx} {e : List Expr} {t t' : TGs} (h : PGs X e t) (f : ∀ v σ H Q, t' v σ H Q → t v σ H Q) : PGs X e t' := ⟨fun pins s σ H v u Q I r q => h.run pins s σ H v u Q I r (f v σ H Q q)⟩
section
variable {X : Cx} {B : By} {W : WX'} {L : List Nat}
theorem zgn (i : Nat) {x : Str} {pos : Pos} (hB : Lk B L) (hN : X.N.Nodup) (hi : X.N[i]? = some x := by rfl) (hx : Loc X.env.scope x := by first | exact Or.inl rfl | exact Or.inr rfl) (hl : L.contains i = false := by rfl)
    (hf : X.fn x = true ∨ X.env.scope.names.lookup x = some .local := by first | exact .inl rfl | exact .inr rfl | assumption) : PG X (.Name x pos) (rg X.K B (.nm i)) := by
  refine (pg_name hN hi hx hf).imp fun v σ H Q ⟨sd, F, d, rp, dd, s', e, q⟩ => ?_
  have e' : some (sd.set i (Sl.fr d)) = some s' := by rw [← e]; rfl
  cases e'
  exact q _ (set_fr rp (hB.ne hl) dd) .set
theorem zgsn : PGs X [] (rgs X.K B []) := by
  refine pgs_nil.imp fun vs σ H Q ⟨sd, F, ds, rp, dd, s', e, q⟩ => ?_
  cases ds with
  | nil =>
    cases dd
    have e' : some sd = some s' := by rw [← e]; rfl
    cases e'
    exact ⟨rfl, q σ rp .refl⟩
  | cons d ds => exact absurd e (by simp [asgs])
theorem zgsc {e : Expr} {es : List Expr} {t : Tg} {ts : List Tg} (h : PG X e (rg X.K B t)) (k : PGs X es (rgs X.K B ts)) (hs : (assignEach (e :: es) X.env).map (·.2) = assign e X.env :: (assignEach es X.env).map (·.2) := by rfl) : PGs X (e :: es) (rgs X.K B (t :: ts)) := by
  refine (pgs_cons h k hs).imp fun vs σ H Q ⟨sd, F, ds, rp, dd, s', e, q⟩ => ?_
  cases ds with
  | nil => exact absurd e (by simp [asgs])
  | cons d ds =>
    have e' : (match asg t d sd with | some s1 => asgs ts ds s1 | none => none) = some s' := by rw [← e]; rfl
    cases e1 : asg t d sd with
    | none => rw [e1] at e'; cases e'
    | some s1 =>
      rw [e1] at e'
      cases dd with
      | cons h1 h2 => exact ⟨_, _, rfl, sd, F, d, rp, h1, s1, e1, fun σ1 rp1 a1 => ⟨s1, F, ds, rp1, h2, s', e', fun σ2 rp2 a2 => q σ2 rp2 (a1.trans a2)⟩⟩
theorem zgt {es : List Expr} {k : Nat} {pos : Pos} {ts : List Tg} (hc : X.calm = true) (h : PGs X es (rgs X.K B ts)) (hn : (assignEach es X.env).length = ts.length := by rfl) (hst : (assignEach es X.env).findIdx? (·.1) = none := by rfl) : PG X (.Tuple es k pos) (rg X.K B (.tp ts)) := by
  refine (pg_tup hc h hn hst).imp fun v σ H Q ⟨sd, F, d, rp, dd, s', e, q⟩ => ?_
  cases dd with
  | @tup a xs ds h1 h2 =>
    have e' : asgs ts ds sd = some s' := by rw [← e]; rfl
    exact ⟨a, xs, rfl, rp.le.sqT h1, by rw [h2.length]; exact asgs_len e', sd, F, ds, rp, h2, s', e', q⟩
  | _ => exact absurd e (by simp [asg])
/-- targets = e, e a frozen value -/
def asgF (t : Tg) (s : DS) : Vt → RS
  | .fr d => putR (asg t d s)
  | _ => .no
def sAsg (t : Tg) (m : M Vt) : MS := fun s => (m s).st fun x s1 => asgF t s1 x
theorem zasg {tg e : Expr} {pos : Pos} {t : Tg} {m : M Vt} (he : PE X e (rd X.K B W m)) (hg : PG X tg (rg X.K B t)) (hs : swapsWithSole [tg] e pos.line X.env = pure false := by rfl) (hw : swappedStores [tg] e X.env = pure none := by rfl)
    (h1 : (assignEach [tg] X.env).map (·.2) = [assign tg X.env] := by rfl) : PS X (.Assign [tg] e pos) (rs X.K B W (sAsg t m)) := by
  refine (ps_asg he hg hs hw h1).imp fun Dn σ H ⟨sd, F, rp, q⟩ => ⟨sd, F, rp, ?_⟩
  refine (Pss.st (sd := sd) (σ := σ) (H := H) q).mono fun x s1 H1 F1 _ p1 rp1 h1 v hv => ?_
  cases x with
  | fr d =>
    have h1' : Pss X.K B W F1 Dn (putR (asg t d s1)) := h1
    cases e : asg t d s1 with
    | none => rw [e] at h1'; exact h1'.elim
    | some s2 => rw [e] at h1'; exact ⟨s1, F1, d, rp1, hv, s2, e, fun σ' rp' _ => h1' σ' H1 F1 rp' .refl⟩
  | ow d => exact h1.elim
  | sl i => exact h1.elim
end
end L2.Zd

set_option Elab.async false
set_option linter.all false
set_option maxRecDepth 100000
set_option maxHeartbeats 2000000
namespace L2.Zd
open PySem PySem.Spec PyProof.Rows

/-! ### new objects, all else as it stands -/
structure New (H F H' F' : Hp) : Prop where
  f : FL F F'
  h : FL H H'
  le : FL F' H'
  n : ∀ a o, F' a = some o → F a = some o ∨ H a = none
theorem New.refl {H F : Hp} (le : FL F H) : New H F H F := ⟨.refl, .refl, le, fun _ _ h => .inl h⟩
theorem Rep.new {K : PySem.W.Frag} {B : By} {s : DS} {σ : St} {H F H' F' : Hp} (rp : Rep K B s σ H F) (n : New H F H' F') : Rep K B s σ H' F' := by
  refine ⟨n.le, rp.len, fun i d h => ?_, fun i d h => ?_, rp.dis, rp.lk, rp.f0.trans n.f, fun a o e x => n.h a o (rp.h0 a o e x), fun a o e => ?_, fun a ha => ?_⟩
  · obtain ⟨v, h1, h2⟩ := rp.fr i d h
    exact ⟨v, h1, dp_mono n.f h2⟩
  · obtain ⟨a, h1, ⟨o, h2, h3⟩, h4, h5⟩ := rp.ow i d h
    refine ⟨a, h1, ⟨o, n.h a o h2, h3.mono n.f⟩, ?_, h5⟩
    cases e : F' a with
    | none => rfl
    | some u =>
      rcases n.n a u e with z | z
      · rw [h4] at z; cases z
      · rw [h2] at z; cases z
  · rcases n.n a o e with z | z
    · exact rp.nw a o z
    · exact .inr (.inl (rp.h0none z))
  · obtain ⟨o, e⟩ := rp.al a ha
    exact ⟨o, n.h a o e⟩
theorem New.tup {H F : Hp} (le : FL F H) {p : Addr} (hp : H p = none) (o : HO) : New H F (upd H p o) (upd F p o) := by
  have hf : F p = none := by
    cases e : F p with
    | none => rfl
    | some u => have z := le p u e; rw [hp] at z; cases z
  refine ⟨fun a u e => by rw [upd_ne (ne_of_none e hf)]; exact e, fun a u e => by rw [upd_ne (ne_of_none e hp)]; exact e, fun a u e => ?_, fun a u e => ?_⟩
  · by_cases ha : a = p
    · subst ha; rw [upd_same] at e ⊢; exact e
    · rw [upd_ne ha] at e ⊢; exact le a u e
  · by_cases ha : a = p
    · exact .inr (by rw [ha]; exact hp)
    · rw [upd_ne ha] at e; exact .inl e

/-! ### what a loop walks -/
structure IterOk (K : PySem.W.Frag) (J : It) (ds : List D) (inv : Hp → Hp → Prop) : Prop where
  grow : ∀ H F H' F', inv H F → FL F F' → FL F' H' → inv H' F'
  go : ∀ (i : Nat) (H F : Hp) (d : D), inv H F → FL F H → ds[i]? = some d → J.go i H ∧ ∀ x H', J.yld i H x H' → ∃ F', New H F H' F' ∧ Dp K F' x d
  stop : ∀ H F, inv H F → FL F H → J.stop ds.length H
theorem it_list {K : PySem.W.Frag} {a : Addr} {ds : List D} : IterOk K (Itl K a) ds (fun _ F => ∃ vs, SqL K F a vs ∧ DpAll K F vs ds) where
  grow := fun H F H' F' ⟨vs, h1, h2⟩ f _ => ⟨vs, f.sqL h1, dpAll_mono f h2⟩
  go := fun i H F d ⟨vs, h1, h2⟩ le e => by
    obtain ⟨v, e1, e2⟩ := h2.get e
    refine ⟨⟨vs, v, le.sqL h1, e1⟩, fun x H' y => ?_⟩
    obtain ⟨rfl, y⟩ := y
    have e3 := y vs (le.sqL h1)
    rw [e1] at e3; cases e3
    exact ⟨F, .refl le, e2⟩
  stop := fun H F ⟨vs, h1, h2⟩ le => ⟨vs, le.sqL h1, Nat.le_of_eq h2.length⟩
theorem it_tup {K : PySem.W.Frag} {a : Addr} {ds : List D} : IterOk K (Itt K a) ds (fun _ F => ∃ vs, SqT K F a vs ∧ DpAll K F vs ds) where
  grow := fun H F H' F' ⟨vs, h1, h2⟩ f _ => ⟨vs, f.sqT h1, dpAll_mono f h2⟩
  go := fun i H F d ⟨vs, h1, h2⟩ le e => by
    obtain ⟨v, e1, e2⟩ := h2.get e
    refine ⟨⟨vs, v, le.sqT h1, e1⟩, fun x H' y => ?_⟩
    obtain ⟨rfl, y⟩ := y
    have e3 := y vs (le.sqT h1)
    rw [e1] at e3; cases e3
    exact ⟨F, .refl le, e2⟩
  stop := fun H F ⟨vs, h1, h2⟩ le => ⟨vs, le.sqT h1, Nat.le_of_eq h2.length⟩
def signs (z : Str) : List D := z.cps.toList.map fun c => .str ⟨#[c]⟩
theorem it_str {K : PySem.W.Frag} {z : Str} : IterOk K (Its z) (signs z) (fun _ _ => True) where
  grow := fun _ _ _ _ _ _ _ => trivial
  go := fun i H F d _ le e => by
    unfold signs at e
    rw [List.getElem?_map] at e
    obtain ⟨c, hc, rfl⟩ := Option.map_eq_some_iff.mp e
    have hc' : z.cps[i]? = some c := by rw [← Array.getElem?_toList]; exact hc
    refine ⟨(Array.getElem?_eq_some_iff.mp hc').1, fun x H' y => ?_⟩
    obtain ⟨rfl, c', h1, rfl⟩ := y
    rw [hc'] at h1; cases h1
    exact ⟨F, .refl le, .str _⟩
  stop := fun H F _ le => by
    show z.cps.size ≤ (signs z).length
    simp [signs]
def rng (lo : Int) (n : Nat) : List D := (List.range n).map fun i => .int (lo + (i : Nat))
theorem it_rng {K : PySem.W.Frag} {lo : Int} {n : Nat} : IterOk K (Itr lo n) (rng lo n) (fun _ _ => True) where
  grow := fun _ _ _ _ _ _ _ => trivial
  go := fun i H F d _ le e => by
    unfold rng at e
    rw [List.getElem?_map] at e
    obtain ⟨c, hc, rfl⟩ := Option.map_eq_some_iff.mp e
    obtain ⟨h1, h2⟩ := List.getElem?_eq_some_iff.mp hc
    rw [List.length_range] at h1
    have h3 : c = i := by rw [← h2]; simp
    subst h3
    refine ⟨h1, fun x H' y => ?_⟩
    obtain ⟨rfl, rfl⟩ := y
    exact ⟨F, .refl le, .int _⟩
  stop := fun H F _ le => by
    show n ≤ (rng lo n).length
    simp [rng]
/-- items by a step -/
def rngC (lo c : Int) (n : Nat) : List D := (List.range n).map fun i => .int (lo + ((i : Nat) : Int) * c)
theorem it_rngC {K : PySem.W.Frag} {lo c : Int} {n : Nat} : IterOk K (Itc lo c n) (rngC lo c n) (fun _ _ => True) where
  grow := fun _ _ _ _ _ _ _ => trivial
  go := fun i H F d _ le e => by
    unfold rngC at e
    rw [List.getElem?_map] at e
    obtain ⟨k, hc, rfl⟩ := Option.map_eq_some_iff.mp e
    obtain ⟨h1, h2⟩ := List.getElem?_eq_some_iff.mp hc
    rw [List.length_range] at h1
    have h3 : k = i := by rw [← h2]; simp
    subst h3
    refine ⟨h1, fun x H' y => ?_⟩
    obtain ⟨rfl, rfl⟩ := y
    exact ⟨F, .refl le, .int _⟩
  stop := fun H F _ le => by
    show n ≤ (rngC lo c n).length
    simp [rngC]
/-- a walked thing's reading -/
def rdI (K : PySem.W.Frag) (B : By) (W : WX') (m : M (List D)) : TI := fun σ H R => ∃ sd F, Rep K B sd σ H F ∧ Pst K B W sd σ H F (m sd) fun ds _ H' F' => ∀ J inv, IterOk K J ds inv → inv H' F' → R J H'
/-- list, tuple or text, whatever comes -/
def iAny (K : PySem.W.Frag) (tl : TE) : TI := fun σ H R => tl σ H fun x H1 => (∃ a, x = .ref a ∧ (∃ xs, SqL K H1 a xs) ∧ R (Itl K a) H1) ∨ (∃ a, x = .ref a ∧ (∃ xs, SqT K H1 a xs) ∧ R (Itt K a) H1) ∨ ∃ z, x = .str z ∧ R (Its z) H1
theorem pi_any {X : Cx} {tg l : Expr} {tl : TE} (hl : PE X l tl) : PI X tg l (iAny X.K tl) := by
  refine ⟨fun pins s σ H R I h => ?_⟩
  refine thn (hl.run pins s σ H _ I h) fun v s1 ⟨x, H1, I1, r1, q1⟩ => ?_
  rcases q1 with ⟨a, rfl, ⟨xs, hq⟩, q⟩ | ⟨a, rfl, ⟨xs, hq⟩, q⟩ | ⟨z, rfl, q⟩
  · cases r1
    obtain ⟨its, rv, p, hz⟩ := I1.list hq
    refine wpAny_pyIter_list p.isList ?_
    refine ⟨s1.heap.objs.size, [s1.heap.objs.size], _, _, H1, rfl, I1.kept (t' := s1.toks) fun b o e => Heap.get?_push_of_some _ e, turn_list a _, ⟨_, Heap.get?_push_size _ rfl, rfl, rfl⟩, fun b hb => ?_, q⟩
    have e : b = s1.heap.objs.size := by simpa using hb
    subst e
    exact I1.fpOk (Nat.le_refl _) (I1.hok.fresh (Nat.le_refl _))
  · cases r1
    obtain ⟨its, rv, p, hz⟩ := I1.tuple hq
    refine wpAny_pyIter_tuple (show s1.heap.IsTuple a its.toArray from p) ?_
    refine ⟨s1.heap.objs.size, [s1.heap.objs.size], _, _, H1, rfl, I1.kept (t' := s1.toks) fun b o e => Heap.get?_push_of_some _ e, turn_tuple a _, ⟨_, Heap.get?_push_size _ rfl, rfl, rfl⟩, fun b hb => ?_, q⟩
    have e : b = s1.heap.objs.size := by simpa using hb
    subst e
    exact I1.fpOk (Nat.le_refl _) (I1.hok.fresh (Nat.le_refl _))
  · obtain ⟨t, rfl⟩ := r1
    cases ha : z.cps.all (· < 128)
    · exact wpAny_pyIter_wide ha (pi_one (tk := s1.toks) I1 _ (turn_str _ z t "str_iterator" (.inr rfl)) ⟨_, Heap.get?_push_size _ rfl, rfl, rfl⟩ q)
    · exact wpAny_pyIter_ascii ha (pi_one (tk := s1.toks) I1 _ (turn_str _ z t "str_ascii_iterator" (.inl rfl)) ⟨_, Heap.get?_push_size _ rfl, rfl, rfl⟩ q)
theorem _root_.L2.PI.imp {X : Cx} {tg e : Expr} {t t' : TI} (h : PI X tg e t) (f : ∀ σ H Q, t' σ H Q → t σ H Q) : PI X tg e t' := ⟨fun pins s σ H R I q => h.run pins s σ H R I (f σ H R q)⟩
def itS (s : DS) : Vt → R (List D)
  | .fr (.list ds) => .ok ds s
  | .fr (.tuple ds) => .ok ds s
  | .fr (.str z) => .ok (signs z) s
  | _ => .no
/-- a frozen thing walked -/
def dIt (m : M Vt) : M (List D) := fun s => (m s).bind fun x s1 => itS s1 x
section
variable {X : Cx} {B : By} {W : WX'}
theorem zit {tg e : Expr} {m : M Vt} (h : PE X e (rd X.K B W m)) : PI X tg e (rdI X.K B W (dIt m)) := by
  refine (pi_any h).imp fun σ H R ⟨sd, F, rp, q⟩ => ?_
  refine ⟨sd, F, rp, (Pst.bind q).mono fun x s1 H1 F1 _ p1 rp1 h1 v hv => ?_⟩
  cases x with
  | fr d =>
    have dd : Dp X.K F1 v d := hv
    cases dd with
    | @lst a xs ds k1 k2 => exact .inl ⟨a, rfl, ⟨xs, rp1.le.sqL k1⟩, Pst.now (show Pst X.K B W s1 σ H1 F1 (.ok ds s1) _ from h1) rp1 _ _ it_list ⟨xs, k1, k2⟩⟩
    | @tup a xs ds k1 k2 => exact .inr (.inl ⟨a, rfl, ⟨xs, rp1.le.sqT k1⟩, Pst.now (show Pst X.K B W s1 σ H1 F1 (.ok ds s1) _ from h1) rp1 _ _ it_tup ⟨xs, k1, k2⟩⟩)
    | str z => exact .inr (.inr ⟨z, rfl, Pst.now (show Pst X.K B W s1 σ H1 F1 (.ok (signs z) s1) _ from h1) rp1 _ _ it_str trivial⟩)
    | _ => exact h1.elim
  | ow d => exact h1.elim
  | sl i => exact h1.elim
/-- range(n) -/
def rg1S (s : DS) : Option (List D) → R (List D)
  | some [.int j] => if -(2 ^ 62) ≤ j ∧ j < 2 ^ 62 then .ok (rng 0 j.toNat) s else .no
  | _ => .no
def dRng1 (m : M (List Vt)) : M (List D) := fun s => (m s).bind fun xs s1 => rg1S s1 (frs' xs)
theorem zrng1 {tg a : Expr} {p pos : Pos} {m : M (List Vt)} (hg : Gl X "range") (hm : X.mg "range" = none) (ha : PA X [a] (rdA X.K B W m)) (hs : starEach [a] X.env = [(false, eval a X.env)] := by rfl) : PI X tg (.Call (.Name "range" p) [a] [] pos) (rdI X.K B W (dRng1 m)) := by
  refine (pi_range1 hg hm ha hs).imp fun σ H R ⟨sd, F, rp, q⟩ => ?_
  refine ⟨sd, F, rp, (Pst.bind q).mono fun xs s1 H1 F1 _ p1 rp1 h1 vs hvs => ?_⟩
  cases e : frs' xs with
  | none => rw [e] at h1; exact h1.elim
  | some ds =>
    rw [e] at h1
    have dd := frs_ok hvs e
    unfold rg1S at h1
    split at h1
    · rename_i j hj
      cases hj
      cases dd with
      | cons d1 d2 =>
        cases d1; cases d2
        split at h1
        · rename_i hc
          exact ⟨_, rfl, hc.1, hc.2, Pst.now h1 rp1 _ _ it_rng trivial⟩
        · exact h1.elim
    · exact h1.elim
def rg2S (s : DS) : Option (List D) → R (List D)
  | some [.int i, .int j] => if -(2 ^ 62) ≤ i ∧ i < 2 ^ 62 ∧ -(2 ^ 62) ≤ j ∧ j < 2 ^ 62 then .ok (rng i (j - i).toNat) s else .no
  | _ => .no
def dRng2 (m : M (List Vt)) : M (List D) := fun s => (m s).bind fun xs s1 => rg2S s1 (frs' xs)
theorem zrng2 {tg a b : Expr} {p pos : Pos} {m : M (List Vt)} (hg : Gl X "range") (hm : X.mg "range" = none) (ha : PA X [a, b] (rdA X.K B W m)) (hs : starEach [a, b] X.env = [(false, eval a X.env), (false, eval b X.env)] := by rfl) (hs2 : starEach [b] X.env = [(false, eval b X.env)] := by rfl) :
    PI X tg (.Call (.Name "range" p) [a, b] [] pos) (rdI X.K B W (dRng2 m)) := by
  refine (pi_range2 hg hm ha hs hs2).imp fun σ H R ⟨sd, F, rp, q⟩ => ?_
  refine ⟨sd, F, rp, (Pst.bind q).mono fun xs s1 H1 F1 _ p1 rp1 h1 vs hvs => ?_⟩
  cases e : frs' xs with
  | none => rw [e] at h1; exact h1.elim
  | some ds =>
    rw [e] at h1
    have dd := frs_ok hvs e
    unfold rg2S at h1
    split at h1
    · rename_i i j hj
      cases hj
      cases dd with
      | cons d1 d2 =>
        cases d1
        cases d2 with
        | cons d2 d3 =>
          cases d2; cases d3
          split at h1
          · rename_i hc
            exact ⟨_, _, rfl, hc, Pst.now h1 rp1 _ _ it_rng trivial⟩
          · exact h1.elim
    · exact h1.elim
end

/-! ### for -/
/-- behind a turn -/
def RS.lp (r : RS) (k : MS) : RS := match r with
  | .nx s => k s
  | .ct s => k s
  | .bk s => .nx s
  | r => r
@[simp] theorem lp_nx (s : DS) (n : MS) : (RS.nx s).lp n = n s := rfl
@[simp] theorem lp_ct (s : DS) (n : MS) : (RS.ct s).lp n = n s := rfl
@[simp] theorem lp_bk (s : DS) (n : MS) : (RS.bk s).lp n = .nx s := rfl
@[simp] theorem lp_rt (x : Vt) (s : DS) (n : MS) : (RS.rt x s).lp n = .rt x s := rfl
@[simp] theorem lp_er (e : Ex) (s : DS) (n : MS) : (RS.er e s).lp n = .er e s := rfl
@[simp] theorem lp_no (n : MS) : RS.no.lp n = .no := rfl
def onO (o : Option DS) (k : MS) : RS := match o with
  | some s => k s
  | none => .no
@[simp] theorem onO_some (s : DS) (k : MS) : onO (some s) k = k s := rfl
@[simp] theorem onO_none (k : MS) : onO none k = .no := rfl
def fl (t : Tg) (b : MS) : List D → MS
  | [], s => .nx s
  | d :: ds, s => onO (asg t d s) fun s1 => (b s1).lp (fl t b ds)
def sFor (m : M (List D)) (t : Tg) (b : MS) : MS := fun s => (m s).st fun ds s1 => fl t b ds s1
section
variable {X : Cx} {B : By} {W : WX'}
theorem zfor {tg iter : Expr} {body : List Stmt} {pos : Pos} {m : M (List D)} {t : Tg} {b : MS} (hp : PassesOwn (model X.prog X.w) X.A X.env X.xe) (hc : X.calm = true) (hi : PI X tg iter (rdI X.K B W m)) (hg : PG X tg (rg X.K B t)) (hb : PSs X body (rs X.K B W b))
    (hs : ∀ x, foldedSetIterable iter X.env x = pure x := by intro _; rfl) : PS X (.For tg iter body [] pos) (rs X.K B W (sFor m t b)) := by
  refine (ps_for hp hc hi hg hb hs).imp fun Dn σ H ⟨sd, F, rp, q⟩ => ⟨sd, F, rp, ?_⟩
  refine (Pss.st (sd := sd) (σ := σ) (H := H) q).mono fun ds s1 H1 F1 _ p1 rp1 h1 J inv ok i0 => ?_
  refine ⟨fun i n σ H => ∃ s F, Rep X.K B s σ H F ∧ inv H F ∧ i ≤ ds.length ∧ n = ds.length - i ∧ Pss X.K B W F Dn (fl t b (ds.drop i) s), ⟨ds.length, s1, F1, rp1, i0, Nat.zero_le _, rfl, h1⟩, ?_⟩
  rintro i n σ H ⟨s, F, rp, iv, hi, rfl, q⟩
  by_cases hlt : i < ds.length
  · have hd : ds[i]? = some ds[i] := List.getElem?_eq_getElem hlt
    obtain ⟨g1, g2⟩ := ok.go i H F _ iv rp.le hd
    refine .inr ⟨g1, fun σ' H' => ∃ s F, Rep X.K B s σ' H' F ∧ inv H' F ∧ Pss X.K B W F Dn (fl t b (ds.drop (i + 1)) s), fun σ' H' ⟨s, F, r1, r2, r3⟩ => ⟨ds.length - (i + 1), by omega, s, F, r1, r2, hlt, rfl, r3⟩, fun x H' y => ?_⟩
    obtain ⟨F', nw, dd⟩ := g2 x H' y
    rw [List.drop_eq_getElem_cons hlt] at q
    have q' : Pss X.K B W F Dn (onO (asg t ds[i] s) fun s1 => (b s1).lp (fl t b (ds.drop (i + 1)))) := q
    cases e : asg t ds[i] s with
    | none => rw [e] at q'; exact q'.elim
    | some s2 =>
      rw [e] at q'
      refine ⟨s, F', ds[i], rp.new nw, dd, s2, e, fun σ2 rp2 _ => ⟨s2, F', rp2, ?_⟩⟩
      have q2 : Pss X.K B W F' Dn ((b s2).lp (fl t b (ds.drop (i + 1)))) := Pss.grow nw.f q'
      have again : ∀ {s3 : DS} {σ3 : St} {H3 F3 : Hp}, Rep X.K B s3 σ3 H3 F3 → FL F' F3 → Pss X.K B W F' Dn (fl t b (ds.drop (i + 1)) s3) → ∃ s F, Rep X.K B s σ3 H3 F ∧ inv H3 F ∧ Pss X.K B W F Dn (fl t b (ds.drop (i + 1)) s) := fun {s3 σ3 H3 F3} r3 f3 w =>
        ⟨s3, F3, r3, ok.grow _ _ _ _ iv (nw.f.trans f3) r3.le, Pss.grow f3 w⟩
      cases e2 : b s2 with
      | nx s3 => rw [e2] at q2; exact fun σ3 H3 F3 r3 f3 => again r3 f3 q2
      | ct s3 => rw [e2] at q2; exact fun σ3 H3 F3 r3 f3 => again r3 f3 q2
      | bk s3 => rw [e2] at q2; exact q2
      | rt x s3 => rw [e2] at q2; exact q2
      | er x s3 => rw [e2] at q2; exact q2
      | no => rw [e2] at q2; exact q2
  · have e : i = ds.length := by omega
    subst e
    rw [List.drop_length] at q
    exact .inl ⟨ok.stop H F iv rp.le, (show Pss X.K B W F Dn (.nx s) from q) σ H F rp .refl⟩
end
end L2.Zd

set_option Elab.async false
set_option linter.all false
set_option maxRecDepth 100000
set_option maxHeartbeats 2000000
namespace L2.Zd
open PySem PySem.Spec PyProof.Rows

/-! ### comprehensions -/
/-- the block's own slots emptied; the outer ones back -/
def wipeD (s : DS) : List Nat → DS
  | [] => s
  | v :: vs => (wipeD s vs).set v .no
def kp : Sl → Sl
  | .fr d => .fr d
  | _ => .no
def restD (s0 s : DS) : List Nat → DS
  | [] => s
  | v :: vs => (restD s0 s vs).set v (match s0[v]? with
    | some x => kp x
    | none => .no)
def noOw (s : DS) (vs : List Nat) : Bool := vs.all fun i => match s[i]? with
  | some (.ow _) => false
  | _ => true
theorem wipeD_length (s : DS) : ∀ vs : List Nat, (wipeD s vs).length = s.length
  | [] => rfl
  | v :: vs => by show ((wipeD s vs).set v .no).length = _; rw [List.length_set]; exact wipeD_length s vs
theorem wipeD_out {s : DS} {i : Nat} : ∀ {vs : List Nat}, i ∉ vs → (wipeD s vs)[i]? = s[i]?
  | [], _ => rfl
  | v :: vs, h => by
    show ((wipeD s vs).set v .no)[i]? = _
    rw [List.getElem?_set_ne (fun z => h (by rw [z]; exact List.mem_cons_self))]
    exact wipeD_out fun z => h (List.mem_cons_of_mem _ z)
theorem wipeD_in {s : DS} {i : Nat} {x : Sl} : ∀ {vs : List Nat}, i ∈ vs → (wipeD s vs)[i]? = some x → x = .no
  | v :: vs, h, e => by
    have e' : ((wipeD s vs).set v .no)[i]? = some x := e
    by_cases hv : v = i
    · subst hv
      have hi := (List.getElem?_eq_some_iff.mp e').1
      rw [List.length_set] at hi
      rw [List.getElem?_set_self hi] at e'
      exact (Option.some.inj e').symm
    · rw [List.getElem?_set_ne hv] at e'
      rcases List.mem_cons.mp h with z | z
      · exact absurd z.symm hv
      · exact wipeD_in z e'
theorem restD_length (s0 s : DS) : ∀ vs : List Nat, (restD s0 s vs).length = s.length
  | [] => rfl
  | v :: vs => by show ((restD s0 s vs).set v _).length = _; rw [List.length_set]; exact restD_length s0 s vs
theorem restD_out {s0 s : DS} {i : Nat} : ∀ {vs : List Nat}, i ∉ vs → (restD s0 s vs)[i]? = s[i]?
  | [], _ => rfl
  | v :: vs, h => by
    show ((restD s0 s vs).set v _)[i]? = _
    rw [List.getElem?_set_ne (fun z => h (by rw [z]; exact List.mem_cons_self))]
    exact restD_out fun z => h (List.mem_cons_of_mem _ z)
theorem restD_in {s0 s : DS} {i : Nat} (hl : s.length = s0.length) : ∀ {vs : List Nat}, i ∈ vs → (restD s0 s vs)[i]? = s0[i]?.map kp
  | v :: vs, h => by
    show ((restD s0 s vs).set v _)[i]? = _
    by_cases hv : v = i
    · subst hv
      by_cases hi : v < s.length
      · rw [List.getElem?_set_self (by rw [restD_length]; exact hi)]
        rw [List.getElem?_eq_getElem (by omega)]; rfl
      · rw [List.getElem?_eq_none (by rw [List.length_set, restD_length]; omega), List.getElem?_eq_none (by omega)]; rfl
    · rw [List.getElem?_set_ne hv]
      rcases List.mem_cons.mp h with z | z
      · exact absurd z.symm hv
      · exact restD_in hl z
theorem wipe_in {σ : St} {i : Nat} : ∀ {vs : List Nat}, i ∈ vs → ∀ x : Option V, (wipe σ vs)[i]? = some x → x = none
  | v :: vs, h, x, e => by
    have e' : ((wipe σ vs).set v none)[i]? = some x := e
    by_cases hv : v = i
    · subst hv
      have hi := (List.getElem?_eq_some_iff.mp e').1
      rw [List.length_set] at hi
      rw [List.getElem?_set_self hi] at e'
      exact (Option.some.inj e').symm
    · rw [List.getElem?_set_ne hv] at e'
      rcases List.mem_cons.mp h with z | z
      · exact absurd z.symm hv
      · exact wipe_in z x e'
theorem wipe_of_ag {vs : List Nat} {σ σ' : St} (h : Ag vs (wipe σ vs) σ') : wipe σ' vs = wipe σ vs := by
  have hl : σ'.length = σ.length := by rw [h.1, wipe_length]
  refine List.ext_getElem? fun i => ?_
  by_cases hi : i ∈ vs
  · have n : ∀ τ : St, (wipe τ vs)[i]? = if i < τ.length then some none else none := fun τ => by
      by_cases hb : i < τ.length
      · rw [if_pos hb]
        have hb' : i < (wipe τ vs).length := by rw [wipe_length]; exact hb
        rw [List.getElem?_eq_getElem hb']
        exact congrArg some (wipe_in hi _ (List.getElem?_eq_getElem hb'))
      · rw [if_neg hb]; exact List.getElem?_eq_none (by rw [wipe_length]; omega)
    rw [n, n, hl]
  · rw [wipe_out hi, h.2 i hi]
section
variable {K : PySem.W.Frag} {B : By} {s : DS} {σ : St} {H F : Hp}
theorem Rep.wiped (rp : Rep K B s σ H F) (vs : List Nat) (hl : ∀ p ∈ B.lk, p.1 ∉ vs) : Rep K B (wipeD s vs) (wipe σ vs) H F := by
  have at_ : ∀ {i : Nat} {x : Sl}, (wipeD s vs)[i]? = some x → x ≠ .no → i ∉ vs ∧ s[i]? = some x := fun {i x} e n => by
    by_cases hi : i ∈ vs
    · exact absurd (wipeD_in hi e) n
    · exact ⟨hi, by rw [← wipeD_out hi]; exact e⟩
  refine ⟨rp.le, by rw [wipeD_length, wipe_length]; exact rp.len, fun i d e => ?_, fun i d e => ?_, fun i j d e a n e1 e2 => ?_, fun p hp => ?_, rp.f0, rp.h0, rp.nw, rp.al⟩
  · obtain ⟨h1, h2⟩ := at_ e (fun z => nomatch z)
    rw [wipe_out h1]; exact rp.fr i d h2
  · obtain ⟨h1, h2⟩ := at_ e (fun z => nomatch z)
    rw [wipe_out h1]; exact rp.ow i d h2
  · obtain ⟨h1, h2⟩ := at_ e1 (fun z => nomatch z)
    obtain ⟨h3, h4⟩ := at_ e2 (fun z => nomatch z)
    rw [wipe_out h1, wipe_out h3]; exact rp.dis i j d e a n h2 h4
  · rw [wipe_out (hl p hp)]; exact rp.lk p hp
/-- back in the outer slots -/
theorem Rep.rested {s0 : DS} {H0 F0 : Hp} {vs : List Nat} (r0 : Rep K B s0 σ H0 F0) (rp : Rep K B s (wipe σ vs) H F) (fl : FL F0 F) (hl : ∀ p ∈ B.lk, p.1 ∉ vs) : Rep K B (restD s0 s vs) σ H F := by
  have ls : s.length = s0.length := by rw [rp.len, wipe_length, r0.len]
  have lk := rp.lk
  refine ⟨rp.le, by rw [restD_length, rp.len, wipe_length], fun i d e => ?_, fun i d e => ?_, fun i j d e a n e1 e2 => ?_, fun p hp => ?_, rp.f0, rp.h0, rp.nw, rp.al⟩
  · by_cases hi : i ∈ vs
    · rw [restD_in ls hi] at e
      obtain ⟨x, h1, h2⟩ := Option.map_eq_some_iff.mp e
      cases x with
      | fr d' =>
        cases h2
        obtain ⟨v, h3, h4⟩ := r0.fr i d h1
        exact ⟨v, h3, dp_mono fl h4⟩
      | no => cases h2
      | ow d' => cases h2
    · rw [restD_out hi] at e
      have := rp.fr i d e
      rwa [wipe_out hi] at this
  · by_cases hi : i ∈ vs
    · rw [restD_in ls hi] at e
      obtain ⟨x, h1, h2⟩ := Option.map_eq_some_iff.mp e
      cases x <;> cases h2
    · rw [restD_out hi] at e
      have := rp.ow i d e
      rwa [wipe_out hi] at this
  · have at_ : ∀ {i : Nat} {d : D}, (restD s0 s vs)[i]? = some (Sl.ow d) → i ∉ vs ∧ s[i]? = some (Sl.ow d) := fun {i d} e => by
      by_cases hi : i ∈ vs
      · rw [restD_in ls hi] at e
        obtain ⟨x, h1, h2⟩ := Option.map_eq_some_iff.mp e
        cases x <;> cases h2
      · rw [restD_out hi] at e; exact ⟨hi, e⟩
    obtain ⟨n1, e1⟩ := at_ e1
    obtain ⟨n2, e2⟩ := at_ e2
    have := rp.dis i j d e a n e1 e2
    rwa [wipe_out n1, wipe_out n2] at this
  · have := lk p hp
    rwa [wipe_out (hl p hp)] at this
/-- a cell that is nobody's is written -/
theorem Rep.poke (rp : Rep K B s σ H F) {p : Addr} {o : HO} (hf : F p = none) (hw : ¬ OwAt s σ p) (h0 : B.H0 p = none) : Rep K B s σ (upd H p o) F := by
  refine ⟨fun a u e => ?_, rp.len, rp.fr, fun i d h => ?_, rp.dis, rp.lk, rp.f0, fun a u e n => ?_, rp.nw, fun a ha => ?_⟩
  · rw [upd_ne (fun z => by subst z; rw [hf] at e; cases e)]; exact rp.le a u e
  · obtain ⟨a, h1, ⟨u, h2, h3⟩, h4, h5⟩ := rp.ow i d h
    exact ⟨a, h1, ⟨u, by rw [upd_ne (fun z => hw ⟨i, d, h, by rw [← z]; exact h1⟩)]; exact h2, h3⟩, h4, h5⟩
  · rw [upd_ne (fun z => by subst z; rw [h0] at e; cases e)]; exact rp.h0 a u e n
  · by_cases z : a = p
    · exact ⟨o, by rw [z]; exact upd_same⟩
    · obtain ⟨u, e⟩ := rp.al a ha
      exact ⟨u, by rw [upd_ne z]; exact e⟩
end
/-- no slot of vs is own -/
def NoVs (s : DS) (vs : List Nat) : Prop := ∀ i ∈ vs, ∀ d : D, s[i]? ≠ some (Sl.ow d)
theorem OwAt.proj {s0 s : DS} {σ σ' : St} {vs : List Nat} {a : Addr} (hn : NoVs s vs) (ag : ∀ i : Nat, i ∉ vs → σ'[i]? = σ[i]?) (h : OwAt s σ' a) : OwAt (restD s0 s vs) σ a := by
  obtain ⟨i, d, h1, h2⟩ := h
  have hi : i ∉ vs := fun z => hn i z d h1
  exact ⟨i, d, by rw [restD_out hi]; exact h1, by rw [← ag i hi]; exact h2⟩
theorem OwAt.unproj {s0 s : DS} {σ σ' : St} {vs : List Nat} {a : Addr} (hl : s.length = s0.length) (ag : ∀ i : Nat, i ∉ vs → σ'[i]? = σ[i]?) (h : OwAt (restD s0 s vs) σ a) : OwAt s σ' a := by
  obtain ⟨i, d, h1, h2⟩ := h
  by_cases hi : i ∈ vs
  · rw [restD_in hl hi] at h1
    obtain ⟨x, _, h4⟩ := Option.map_eq_some_iff.mp h1
    cases x <;> cases h4
  · rw [restD_out hi] at h1
    exact ⟨i, d, h1, by rw [ag i hi]; exact h2⟩
/-- a step of the block, seen from outside -/
theorem Stp.proj {s0 s s' : DS} {σ σ' : St} {vs : List Nat} {H F H' F' : Hp} (hl : s.length = s0.length) (hl' : s'.length = s0.length) (ag : ∀ i : Nat, i ∉ vs → σ'[i]? = σ[i]?) (hn : NoVs s vs) (p : Stp s s' σ' H F H' F') : Stp (restD s0 s vs) (restD s0 s' vs) σ H F H' F' where
  f := p.f
  a := p.a
  h := fun a o e n => p.h a o e fun z => n (z.proj hn ag)
  n := fun a o e => by
    rcases p.n a o e with z | z | z
    · exact .inl z
    · exact .inr (.inl z)
    · exact .inr (.inr (z.proj hn ag))
  s := fun i d h => by
    by_cases hi : i ∈ vs
    · rw [restD_in hl' hi] at h
      obtain ⟨x, _, h4⟩ := Option.map_eq_some_iff.mp h
      cases x <;> cases h4
    · rw [restD_out hi] at h
      obtain ⟨e, q⟩ := p.s i d h
      exact ⟨e, by rw [restD_out hi]; exact q⟩
  k := fun i x h e => by
    by_cases hi : i ∈ vs
    · rw [restD_in hl hi] at h
      exact ⟨x, by rw [restD_in hl' hi]; exact h, e⟩
    · rw [restD_out hi] at h
      obtain ⟨y, q1, q2⟩ := p.k i x h e
      exact ⟨y, by rw [restD_out hi]; exact q1, q2⟩
theorem restD_wipe {s0 s : DS} {vs : List Nat} (hl : s.length = s0.length) : restD s0 (wipeD s vs) vs = restD s0 s vs := by
  refine List.ext_getElem? fun i => ?_
  by_cases hi : i ∈ vs
  · rw [restD_in (by rw [wipeD_length]; exact hl) hi, restD_in hl hi]
  · rw [restD_out hi, restD_out hi, wipeD_out hi]
/-- errors are not let out of a block -/
def R.nx' {α β : Type} (r : R α) (k : α → DS → R β) : R β := match r with
  | .ok a s => k a s
  | _ => .no
@[simp] theorem nx'_ok {α β : Type} (a : α) (s : DS) (k : α → DS → R β) : (R.ok a s).nx' k = k a s := rfl
@[simp] theorem nx'_er {α β : Type} (e : Ex) (s : DS) (k : α → DS → R β) : (R.er e s : R α).nx' k = .no := rfl
@[simp] theorem nx'_no {α β : Type} (k : α → DS → R β) : (R.no : R α).nx' k = .no := rfl
abbrev W0 : WX' := fun _ _ _ _ _ => False
theorem nx'_inv {α β : Type} {r : R α} {k : α → DS → R β} {b : β} {s : DS} (h : r.nx' k = .ok b s) : ∃ a s1, r = .ok a s1 ∧ k a s1 = .ok b s := by
  cases r with
  | ok a s1 => exact ⟨a, s1, rfl, h⟩
  | er e s1 => cases h
  | no => cases h
theorem Pst.of_ok {α : Type} {K : PySem.W.Frag} {B : By} {W : WX'} {sd s1 : DS} {σ : St} {H F : Hp} {r : R α} {a : α} {P : α → DS → Hp → Hp → Prop} (e : r = .ok a s1) (q : ∀ (H1 F1 : Hp), Stp sd s1 σ H F H1 F1 → Rep K B s1 σ H1 F1 → P a s1 H1 F1) : Pst K B W sd σ H F r P := by
  subst e; exact q
theorem onR_inv {α : Type} {o : Option DS} {k : DS → R α} {a : α} {s : DS} (h : (match o with | some s => k s | none => .no) = R.ok a s) : ∃ s1, o = some s1 ∧ k s1 = .ok a s := by
  cases o with
  | some s1 => exact ⟨s1, rfl, h⟩
  | none => cases h
def onR {α : Type} (o : Option DS) (k : DS → R α) : R α := match o with
  | some s => k s
  | none => .no
@[simp] theorem onR_some {α : Type} (s : DS) (k : DS → R α) : onR (some s) k = k s := rfl
@[simp] theorem onR_none {α : Type} (k : DS → R α) : onR none k = .no := rfl
def addL (acc : List D) (x : Vt) (k : List D → R (List D)) : R (List D) := match x with
  | .fr y => if acc.length < sizeLine then k (acc ++ [y]) else .no
  | _ => .no
/-- the block's turns -/
def lcG (t : Tg) (tt : M Bool) (e : M Vt) (vs : List Nat) : List D → List D → DS → R (List D)
  | [], acc, s => .ok acc s
  | d :: ds, acc, s => onR (asg t d s) fun s1 => (tt s1).nx' fun b s2 => if b = true then (e s2).nx' fun x s3 => addL acc x fun acc' => lcG t tt e vs ds acc' (wipeD s3 vs) else lcG t tt e vs ds acc (wipeD s2 vs)
def dLc (m : M (List D)) (t : Tg) (tt : M Bool) (e : M Vt) (vs : List Nat) : M Vt := fun s => (m s).bind fun ds s1 => if noOw s1 vs = true then (lcG t tt e vs ds [] (wipeD s1 vs)).nx' fun acc s2 => .ok (.ow (.list acc)) (restD s1 s2 vs) else .no
/-- the tests of a clause -/
def rdTs (K : PySem.W.Frag) (B : By) (m : M Bool) : TT := rdT K B W0 m
def dYes : M Bool := fun s => .ok true s
theorem _root_.L2.PTs.imp {X : Cx} {e : List Expr} {t t' : TT} (h : PTs X e t) (f : ∀ σ H Q, t' σ H Q → t σ H Q) : PTs X e t' := ⟨fun pins s σ H Q I q => h.run pins s σ H Q I (f σ H Q q)⟩
section
variable {X : Cx} {B : By} {W : WX'}
theorem zts0 : PTs X [] (rdT X.K B W0 dYes) := pts_nil.imp fun σ H Q ⟨sd, F, rp, h⟩ => Pst.now h rp
theorem zts1 {c : Expr} {m : M Bool} (h : PT X c (rdT X.K B W0 m)) : PTs X [c] (rdT X.K B W0 m) := pts_one h
theorem noVs_of {s : DS} {vs : List Nat} (h : noOw s vs = true) : NoVs s vs := fun i hi d e => by
  have := List.all_eq_true.mp h i hi
  rw [e] at this; cases this
mutual
theorem asg_len : ∀ {t : Tg} {d : D} {s s' : DS}, asg t d s = some s' → s'.length = s.length
  | .nm i, d, s, s', h => by
    have e : some (s.set i (Sl.fr d)) = some s' := by rw [← h]; rfl
    cases e; exact List.length_set
  | .tp ts, d, s, s', h => by
    cases d with
    | tuple ds => exact asgs_len' (show asgs ts ds s = some s' by rw [← h]; rfl)
    | _ => exact absurd h (by simp [asg])
theorem asgs_len' : ∀ {ts : List Tg} {ds : List D} {s s' : DS}, asgs ts ds s = some s' → s'.length = s.length
  | [], [], s, s', h => by
    have e : some s = some s' := by rw [← h]; rfl
    cases e; rfl
  | t :: ts, d :: ds, s, s', h => by
    have h' : (match asg t d s with | some s1 => asgs ts ds s1 | none => none) = some s' := by rw [← h]; rfl
    cases e : asg t d s with
    | none => rw [e] at h'; cases h'
    | some s1 =>
      rw [e] at h'
      exact (asgs_len' (show asgs ts ds s1 = some s' from h')).trans (asg_len e)
  | [], _ :: _, _, _, h => by simp [asgs] at h
  | _ :: _, [], _, _, h => by simp [asgs] at h
end
mutual
theorem asg_ow : ∀ {t : Tg} {d : D} {s s' : DS} {i : Nat} {e : D}, asg t d s = some s' → s'[i]? = some (Sl.ow e) → s[i]? = some (Sl.ow e)
  | .nm j, d, s, s', i, e, h, q => by
    have e : some (s.set j (Sl.fr d)) = some s' := by rw [← h]; rfl
    cases e
    by_cases hj : j = i
    · subst hj
      have hi := (List.getElem?_eq_some_iff.mp q).1
      rw [List.length_set] at hi
      rw [List.getElem?_set_self hi] at q; cases q
    · rw [List.getElem?_set_ne hj] at q; exact q
  | .tp ts, d, s, s', i, e, h, q => by
    cases d with
    | tuple ds => exact asgs_ow (show asgs ts ds s = some s' by rw [← h]; rfl) q
    | _ => exact absurd h (by simp [asg])
theorem asgs_ow : ∀ {ts : List Tg} {ds : List D} {s s' : DS} {i : Nat} {e : D}, asgs ts ds s = some s' → s'[i]? = some (Sl.ow e) → s[i]? = some (Sl.ow e)
  | [], [], s, s', i, e, h, q => by
    have e : some s = some s' := by rw [← h]; rfl
    cases e; exact q
  | t :: ts, d :: ds, s, s', i, e, h, q => by
    have h' : (match asg t d s with | some s1 => asgs ts ds s1 | none => none) = some s' := by rw [← h]; rfl
    cases e1 : asg t d s with
    | none => rw [e1] at h'; cases h'
    | some s1 =>
      rw [e1] at h'
      exact asg_ow e1 (asgs_ow (show asgs ts ds s1 = some s' from h') q)
  | [], _ :: _, _, _, _, _, h, _ => by simp [asgs] at h
  | _ :: _, [], _, _, _, _, h, _ => by simp [asgs] at h
end
mutual
theorem asg_out : ∀ {t : Tg} {d : D} {s s' : DS} {i : Nat}, asg t d s = some s' → i ∉ t.sl → s'[i]? = s[i]?
  | .nm j, d, s, s', i, h, n => by
    have e : some (s.set j (Sl.fr d)) = some s' := by rw [← h]; rfl
    cases e
    exact List.getElem?_set_ne (fun z => n (by rw [z]; exact List.mem_singleton_self _))
  | .tp ts, d, s, s', i, h, n => by
    cases d with
    | tuple ds => exact asgs_out (show asgs ts ds s = some s' by rw [← h]; rfl) n
    | _ => exact absurd h (by simp [asg])
theorem asgs_out : ∀ {ts : List Tg} {ds : List D} {s s' : DS} {i : Nat}, asgs ts ds s = some s' → i ∉ Tg.sls ts → s'[i]? = s[i]?
  | [], [], s, s', i, h, n => by
    have e : some s = some s' := by rw [← h]; rfl
    cases e; rfl
  | t :: ts, d :: ds, s, s', i, h, n => by
    have h' : (match asg t d s with | some s1 => asgs ts ds s1 | none => none) = some s' := by rw [← h]; rfl
    cases e1 : asg t d s with
    | none => rw [e1] at h'; cases h'
    | some s1 =>
      rw [e1] at h'
      exact (asgs_out (show asgs ts ds s1 = some s' from h') fun z => n (List.mem_append_right _ z)).trans (asg_out e1 fun z => n (List.mem_append_left _ z))
  | [], _ :: _, _, _, _, h, _ => by simp [asgs] at h
  | _ :: _, [], _, _, _, h, _ => by simp [asgs] at h
end
theorem addL_inv {acc : List D} {x : Vt} {k : List D → R (List D)} {a : List D} {s : DS} (h : addL acc x k = .ok a s) : ∃ y, x = .fr y ∧ acc.length < sizeLine ∧ k (acc ++ [y]) = .ok a s := by
  cases x with
  | fr y =>
    have h' : (if acc.length < sizeLine then k (acc ++ [y]) else .no) = R.ok a s := h
    by_cases hc : acc.length < sizeLine
    · rw [if_pos hc] at h'; exact ⟨y, rfl, hc, h'⟩
    · rw [if_neg hc] at h'; cases h'
  | ow d => cases h
  | sl i => cases h
/-- the reading of a comprehension, however it stands -/
theorem lc_read {m : M (List D)} {t : Tg} {tt : M Bool} {e : M Vt} {vs : List Nat} {L : List Nat} (hB : Lk B L) (hl : ∀ i ∈ vs, L.contains i = false) (ht : ∀ i ∈ t.sl, i ∈ vs) {σ : St} {H : Hp} {Q : VK} (h : rd X.K B W (dLc m t tt e vs) σ H Q) :
    tLc (rdI X.K B W m) (rg X.K B t) (rdT X.K B W0 tt) (rd X.K B W0 e) vs σ H Q := by
  obtain ⟨sd, F, rp, q⟩ := h
  have lkv : ∀ p ∈ B.lk, p.1 ∉ vs := fun p hp z => hB.ne (hl _ z) p hp rfl
  refine ⟨sd, F, rp, (Pst.bind q).mono fun ds s1 H1 F1 _ p1 rp1 h1 J inv ok i0 D hD => ?_⟩
  by_cases hno' : ¬ noOw s1 vs = true
  · simp only [if_neg hno'] at h1; exact h1.elim
  have hno : noOw s1 vs = true := Classical.not_not.mp hno'
  simp only [if_pos hno] at h1
  have nv1 : NoVs s1 vs := noVs_of hno
  cases hr : lcG t tt e vs ds [] (wipeD s1 vs) with
  | no => rw [hr] at h1; exact h1.elim
  | er x s2 => rw [hr] at h1; exact h1.elim
  | ok accF sF =>
    rw [hr] at h1
    have fin : ∀ H' F', Stp s1 (restD s1 sF vs) σ H1 F1 H' F' → Rep X.K B (restD s1 sF vs) σ H' F' → ∀ v, VtOk X.K B H (restD s1 sF vs) σ H' F' v (.ow (.list accF)) → Q v H' := h1
    have h0D : B.H0 D = none := rp1.h0none hD
    have f1D : F1 D = none := rp1.fnone hD
    refine ⟨fun i n H' => ∃ s F acc ads, Rep X.K B s (wipe σ vs) H' F ∧ inv H' F ∧ s.length = s1.length ∧ NoVs s vs ∧ Stp s1 (restD s1 s vs) σ H1 F1 H' F ∧ H' D = some (.lst acc) ∧ F D = none ∧ DpAll X.K F acc ads ∧ i ≤ ds.length ∧ n = ds.length - i ∧ lcG t tt e vs (ds.drop i) ads s = .ok accF sF, ?_, ?_⟩
    · refine ⟨ds.length, wipeD s1 vs, F1, [], [], (rp1.wiped vs lkv).poke f1D (fun z => ?_) h0D, ok.grow _ _ _ _ i0 .refl (fun a u x => ?_), wipeD_length _ _, fun i hi d x => ?_, ?_, upd_same, f1D, .nil, Nat.zero_le _, rfl, by rw [List.drop_zero]; exact hr⟩
      · obtain ⟨o, x⟩ := (rp1.wiped vs lkv).owH z
        rw [hD] at x; cases x
      · rw [upd_ne (fun z => by subst z; rw [f1D] at x; cases x)]; exact rp1.le a u x
      · cases wipeD_in hi x
      · have e1 : restD s1 (wipeD s1 vs) vs = restD s1 s1 vs := restD_wipe rfl
        rw [e1]
        have base : Stp s1 (restD s1 s1 vs) σ H1 F1 H1 F1 := ⟨.refl, fun a o e => ⟨o, e⟩, fun a o e _ => e, fun a o e => .inl e, fun i d x => by
          by_cases hi : i ∈ vs
          · rw [restD_in rfl hi] at x
            obtain ⟨y, _, x2⟩ := Option.map_eq_some_iff.mp x
            cases y <;> cases x2
          · rw [restD_out hi] at x; exact ⟨d, x⟩, fun i x hx ex => by
          by_cases hi : i ∈ vs
          · refine ⟨kp x, by rw [restD_in rfl hi, hx]; rfl, ?_⟩
            cases x with
            | fr d => rfl
            | no => cases ex
            | ow d => exact absurd hx (nv1 i hi d)
          · exact ⟨x, by rw [restD_out hi]; exact hx, ex⟩⟩
        exact base.trans (.laid hD _)
    · rintro i n H' ⟨s, F', acc, ads, r, iv, hlen, nv, st, hDl, fD, dd, hi, rfl, hc⟩
      by_cases hlt' : ¬ i < ds.length
      · have ei : i = ds.length := by omega
        subst ei
        rw [List.drop_length] at hc
        have hc' : R.ok ads s = R.ok accF sF := hc
        cases hc'
        refine .inl ⟨ok.stop H' F' iv r.le, ?_⟩
        have rr : Rep X.K B (restD s1 sF vs) σ H' F' := rp1.rested r st.f lkv
        refine fin H' F' st rr _ ⟨D, rfl, ⟨⟨_, hDl, dd⟩, fD, .inl h0D⟩, h0D, fun z => ?_, p1.fresh hD⟩
        obtain ⟨j, d, z1, z2⟩ := z
        obtain ⟨e', z3⟩ := st.s j d z1
        obtain ⟨o, z4⟩ := rp1.owH ⟨j, e', z3, z2⟩
        rw [hD] at z4; cases z4
      have hlt : i < ds.length := Classical.not_not.mp hlt'
      have hd : ds[i]? = some ds[i] := List.getElem?_eq_getElem hlt
      obtain ⟨g1, g2⟩ := ok.go i H' F' _ iv r.le hd
      rw [List.drop_eq_getElem_cons hlt] at hc
      have hc' : onR (asg t ds[i] s) (fun s1 => (tt s1).nx' fun b s2 => if b = true then (e s2).nx' fun x s3 => addL ads x fun acc' => lcG t tt e vs (ds.drop (i + 1)) acc' (wipeD s3 vs) else lcG t tt e vs (ds.drop (i + 1)) ads (wipeD s2 vs)) = .ok accF sF := hc
      obtain ⟨s2, ea, hc2⟩ := onR_inv hc'
      obtain ⟨b, s3, et, hc3⟩ := nx'_inv hc2
      refine .inr ⟨g1, fun H'' => ∃ s F acc ads, Rep X.K B s (wipe σ vs) H'' F ∧ inv H'' F ∧ s.length = s1.length ∧ NoVs s vs ∧ Stp s1 (restD s1 s vs) σ H1 F1 H'' F ∧ H'' D = some (.lst acc) ∧ F D = none ∧ DpAll X.K F acc ads ∧ lcG t tt e vs (ds.drop (i + 1)) ads s = .ok accF sF,
        fun H'' ⟨s, F, acc, ads, z1, z2, z3, z4, z5, z6, z7, z8, z9⟩ => ⟨ds.length - (i + 1), by omega, s, F, acc, ads, z1, z2, z3, z4, z5, z6, z7, z8, hlt, rfl, z9⟩, fun x H2 y => ?_⟩
      obtain ⟨F2, nw, dx⟩ := g2 x H2 y
      have r2 := r.new nw
      refine ⟨s, F2, ds[i], r2, dx, s2, ea, fun σ2 rp2 ag => ?_⟩
      have agv : Ag vs (wipe σ vs) σ2 := ⟨ag.1, fun j hj => ag.2 j fun z => hj (ht j z)⟩
      have ew := wipe_of_ag agv
      refine ⟨ew, ?_⟩
      have ago : ∀ j : Nat, j ∉ vs → σ2[j]? = σ[j]? := fun j hj => by rw [agv.2 j hj, wipe_out hj]
      have l2 : s2.length = s1.length := (asg_len ea).trans hlen
      have nv2 : NoVs s2 vs := fun j hj d z => nv j hj d (asg_ow ea z)
      -- from the start of the comprehension to the turn's start
      have eqR : restD s1 s2 vs = restD s1 s vs := by
        refine List.ext_getElem? fun j => ?_
        by_cases hj : j ∈ vs
        · rw [restD_in l2 hj, restD_in hlen hj]
        · rw [restD_out hj, restD_out hj]
          exact asg_out ea fun z => hj (ht j z)
      have stN : Stp s1 (restD s1 s2 vs) σ H1 F1 H2 F2 := by
        rw [eqR]
        exact st.trans ⟨nw.f, fun a o e => ⟨o, nw.h a o e⟩, fun a o e _ => nw.h a o e, fun a o e => (nw.n a o e).elim .inl fun z => .inr (.inl z), fun _ d h => ⟨d, h⟩, fun _ x h e => ⟨x, h, e⟩⟩
      have notOw : ∀ {s' : DS}, Stp s1 (restD s1 s' vs) σ H1 F1 H2 F2 → NoVs s' vs → ¬ OwAt s' σ2 D := fun {s'} q n z => by
        obtain ⟨j, d, z1, z2⟩ := OwAt.proj (s0 := s1) n ago z
        obtain ⟨e', z3⟩ := q.s j d z1
        obtain ⟨o, z4⟩ := rp1.owH ⟨j, e', z3, z2⟩
        rw [hD] at z4; cases z4
      have hD2 : H2 D = some (.lst acc) := nw.h D _ hDl
      have fD2 : F2 D = none := by
        cases z : F2 D with
        | none => rfl
        | some u =>
          rcases nw.n D u z with w | w
          · rw [fD] at w; cases w
          · rw [hDl] at w; cases w
      refine ⟨s2, F2, rp2, Pst.of_ok et fun H3 F3 p3 rp3 => ?_⟩
      have now2 : ¬ OwAt s2 σ2 D := notOw stN nv2
      have l3 : s3.length = s1.length := by rw [rp3.len, ← rp2.len]; exact l2
      have nv3 : NoVs s3 vs := fun j hj d z => by
        obtain ⟨e', z'⟩ := p3.s j d z
        exact nv2 j hj e' z'
      have hD3 : H3 D = some (.lst acc) := p3.h D _ hD2 now2
      have fD3 : F3 D = none := by
        cases z : F3 D with
        | none => rfl
        | some u =>
          rcases p3.n D u z with w | w | w
          · rw [fD2] at w; cases w
          · rw [hD2] at w; cases w
          · exact absurd w now2
      have st3 : Stp s1 (restD s1 s3 vs) σ H1 F1 H3 F3 := stN.trans (p3.proj l2 l3 ago nv2)
      have iv3 : inv H3 F3 := ok.grow _ _ _ _ iv (nw.f.trans p3.f) rp3.le
      cases b with
      | false =>
        rw [if_neg Bool.false_ne_true] at hc3
        refine L2.iteF ?_
        refine ⟨wipeD s3 vs, F3, acc, ads, ?_, iv3, by rw [wipeD_length]; exact l3, fun j hj d z => (by cases wipeD_in hj z), ?_, hD3, fD3, dpAll_mono (nw.f.trans p3.f) dd, hc3⟩
        · rw [← ew]; exact rp3.wiped vs lkv
        · rw [restD_wipe l3]; exact st3
      | true =>
        rw [if_pos rfl] at hc3
        refine L2.iteT ?_
        obtain ⟨xv, s4, ee, hc4⟩ := nx'_inv hc3
        obtain ⟨yv, rfl, hz, hc5⟩ := addL_inv hc4
        refine ⟨s3, F3, rp3, Pst.of_ok ee fun H4 F4 p4 rp4 v hv => ?_⟩
        have now3 : ¬ OwAt s3 σ2 D := fun z => now2 (p3.own z)
        have l4 : s4.length = s1.length := by rw [rp4.len, ← rp3.len]; exact l3
        have nv4 : NoVs s4 vs := fun j hj d z => by
          obtain ⟨e', z'⟩ := p4.s j d z
          exact nv3 j hj e' z'
        have hD4 : H4 D = some (.lst acc) := p4.h D _ hD3 now3
        have fD4 : F4 D = none := by
          cases z : F4 D with
          | none => rfl
          | some u =>
            rcases p4.n D u z with w | w | w
            · rw [fD3] at w; cases w
            · rw [hD3] at w; cases w
            · exact absurd w now3
        have st4 : Stp s1 (restD s1 s4 vs) σ H1 F1 H4 F4 := st3.trans (p4.proj l3 l4 ago nv3)
        have now4 : ¬ OwAt s4 σ2 D := fun z => now3 (p4.own z)
        have dacc : DpAll X.K F4 acc ads := dpAll_mono ((nw.f.trans p3.f).trans p4.f) dd
        refine ⟨acc, hD4, by rw [dacc.length]; exact hz, wipeD s4 vs, F4, acc ++ [v], ads ++ [yv], ?_, ok.grow _ _ _ _ iv ((nw.f.trans p3.f).trans p4.f) ?_, by rw [wipeD_length]; exact l4, fun j hj d z => (by cases wipeD_in hj z), ?_, upd_same, fD4, dacc.append (.cons hv .nil), hc5⟩
        · rw [← ew]
          exact (rp4.poke fD4 now4 h0D).wiped vs lkv
        · intro a u z
          rw [upd_ne (fun w => by subst w; rw [fD4] at z; cases z)]
          exact rp4.le a u z
        · rw [restD_wipe l4]
          refine ⟨st4.f, fun a o z => ?_, fun a o z n => ?_, st4.n, st4.s, st4.k⟩
          · by_cases w : a = D
            · exact ⟨_, by rw [w]; exact upd_same⟩
            · obtain ⟨o', z'⟩ := st4.a a o z
              exact ⟨o', by rw [upd_ne w]; exact z'⟩
          · rw [upd_ne (fun w => by subst w; rw [hD] at z; cases z)]
            exact st4.h a o z n
end
end L2.Zd

set_option Elab.async false
set_option linter.all false
set_option maxRecDepth 100000
set_option maxHeartbeats 2000000
namespace L2.Zd
open PySem PySem.Spec PyProof.Rows

section
variable {X : Cx} {B : By} {W : WX'} {L : List Nat}
/-! ### comprehensions, the rules -/
theorem zlc {elt tg iter : Expr} {ifs : List Expr} {scope : Scope} {own : List (Str × Nat)} {pos : Pos} {m : M (List D)} {t : Tg} {tt : M Bool} {e : M Vt} (hc : X.calm = true) (hB : Lk B L) (hN : X.N.Nodup) (hi : PI X tg iter (rdI X.K B W m)) (ok : BlkOk X.N X.env.scope scope own)
    (hg : ∀ (s : Shared) (H : Hp) (C : Addr) (cl : List (Str × Addr)) (fp : List Addr), PG (X.blk s H scope (compEnvC scope cl C X.env) fp) tg (rg X.K B t)) (ht : ∀ (s : Shared) (H : Hp) (C : Addr) (cl : List (Str × Addr)) (fp : List Addr), PTs (X.blk s H scope (compEnvC scope cl C X.env) fp) ifs (rdT X.K B W0 tt))
    (he : ∀ (s : Shared) (H : Hp) (C : Addr) (cl : List (Str × Addr)) (fp : List Addr), PE (X.blk s H scope (compEnvC scope cl C X.env) fp) elt (rd X.K B W0 e)) (h1 : ∀ i ∈ own.map (·.2), L.contains i = false := by decide) (h2 : ∀ i ∈ t.sl, i ∈ own.map (·.2) := by decide)
    (hs : ∀ x, foldedSetIterable iter X.env x = pure x := by intro _; rfl) : PE X (.ListComp elt [⟨tg, iter, ifs, 0⟩] scope pos) (rd X.K B W (dLc m t tt e (own.map (·.2)))) :=
  (pe_lc hc hN hi ok hg ht he hs).imp fun σ H Q h => lc_read hB h1 h2 h
/-- name = [..], the name a local, on one line -/
theorem zsetLc {i : Nat} {y : Str} {py : Pos} {elt tg iter : Expr} {ifs : List Expr} {scope : Scope} {own : List (Str × Nat)} {pos spos : Pos} {m : M (List D)} {t : Tg} {tt : M Bool} {e : M Vt} (hc : X.calm = true) (hB : Lk B L) (hN : X.N.Nodup) (hsw : swapsWith (.ListComp elt [⟨tg, iter, ifs, 0⟩] scope pos) (some (.Name y py)) spos.line X.env = pure true)
    (hi : PI X tg iter (rdI X.K B W m)) (ok : BlkOk X.N X.env.scope scope own)
    (hg : ∀ (s : Shared) (H : Hp) (C : Addr) (cl : List (Str × Addr)) (fp : List Addr), PG (X.blk s H scope (compEnvC scope cl C X.env) fp) tg (rg X.K B t)) (ht : ∀ (s : Shared) (H : Hp) (C : Addr) (cl : List (Str × Addr)) (fp : List Addr), PTs (X.blk s H scope (compEnvC scope cl C X.env) fp) ifs (rdT X.K B W0 tt))
    (he : ∀ (s : Shared) (H : Hp) (C : Addr) (cl : List (Str × Addr)) (fp : List Addr), PE (X.blk s H scope (compEnvC scope cl C X.env) fp) elt (rd X.K B W0 e)) (h1 : ∀ i ∈ own.map (·.2), L.contains i = false := by decide) (h2 : ∀ i ∈ t.sl, i ∈ own.map (·.2) := by decide)
    (hy : X.N[i]? = some y := by rfl) (hyl : X.env.scope.names.lookup y = some .local := by rfl) (hl : L.contains i = false := by rfl) (hs : ∀ x, foldedSetIterable iter X.env x = pure x := by intro _; rfl) :
    PS X (.Assign [.Name y py] (.ListComp elt [⟨tg, iter, ifs, 0⟩] scope pos) spos) (rs X.K B W (sSet i (dLc m t tt e (own.map (·.2))))) := by
  refine (ps_setLc hc hN hy hyl hsw hi ok hg ht he hs).imp fun Dn σ H ⟨sd, F, rp, q⟩ => ?_
  refine lc_read (X := X) (B := B) (W := W) (Q := fun x H1 => gName i x σ H1 Dn.nx) hB h1 h2 ⟨sd, F, rp, ?_⟩
  refine (Pss.st (sd := sd) (σ := σ) (H := H) q).mono fun x s1 H1 F1 _ p1 rp1 h1 v hv => ?_
  cases e : putS i s1 x with
  | none => rw [e] at h1; exact h1.elim
  | some s2 =>
    rw [e] at h1
    obtain ⟨F2, rp2, fl⟩ := put_ok rp1 (hB.ne hl) hv e
    exact h1 _ _ F2 rp2 fl
end

/-! ### what a def does -/
inductive FR where
  | ok (fresh : Bool) (d : D) (outs : List D)
  | er (e : Ex) (outs : List D)
  | no
abbrev FM := List D → FR
/-- arguments: frozen ones, lists that the def may change (at as) -/
inductive ArgsOk (K : PySem.W.Frag) (H F : Hp) : List Bool → List V → List D → List Addr → Prop
  | nil : ArgsOk K H F [] [] [] []
  | fr {v : V} {d : D} {ms : List Bool} {vs : List V} {ds : List D} {as : List Addr} : Dp K F v d → ArgsOk K H F ms vs ds as → ArgsOk K H F (false :: ms) (v :: vs) (d :: ds) as
  | io {a : Addr} {o : HO} {d : D} {ms : List Bool} {vs : List V} {ds : List D} {as : List Addr} : H a = some o → Cont K F o d → F a = none → a ∉ as → ArgsOk K H F ms vs ds as → ArgsOk K H F (true :: ms) (.ref a :: vs) (d :: ds) (a :: as)
def OutsOk (K : PySem.W.Frag) (H F : Hp) : List Addr → List D → Prop := Paired fun a d => (∃ o, H a = some o ∧ Cont K F o d) ∧ F a = none
/-- behind a call -/
structure Ret (K : PySem.W.Frag) (H F H' F' : Hp) (as : List Addr) (outs : List D) : Prop where
  f : FL F F'
  h : ∀ a o, H a = some o → a ∉ as → H' a = some o
  n : ∀ a o, F' a = some o → F a = some o ∨ H a = none
  le : FL F' H'
  o : OutsOk K H' F' as outs
def spOf (K : PySem.W.Frag) (ios : List Bool) (m : FM) : Sp := fun vs H Q _ => ∃ F ds as, FL F H ∧ ArgsOk K H F ios vs ds as ∧ match m ds with
  | .ok false d outs => ∀ v H' F', Ret K H F H' F' as outs → Dp K F' v d → Q v H'
  | .ok true d outs => ∀ p H' F', Ret K H F H' F' as outs → H p = none → (∃ o, H' p = some o ∧ Cont K F' o d) → F' p = none → Q (.ref p) H'
  | _ => False
theorem ArgsOk.len {K : PySem.W.Frag} {H F : Hp} {ms : List Bool} {vs : List V} {ds : List D} {as : List Addr} (h : ArgsOk K H F ms vs ds as) : vs.length = ms.length := by
  induction h with
  | nil => rfl
  | fr _ _ ih => exact congrArg Nat.succ ih
  | io _ _ _ _ _ ih => exact congrArg Nat.succ ih
theorem ArgsOk.lenD {K : PySem.W.Frag} {H F : Hp} {ms : List Bool} {vs : List V} {ds : List D} {as : List Addr} (h : ArgsOk K H F ms vs ds as) : ds.length = ms.length := by
  induction h with
  | nil => rfl
  | fr _ _ ih => exact congrArg Nat.succ ih
  | io _ _ _ _ _ ih => exact congrArg Nat.succ ih
/-- the slots at the entry -/
def sl0 : List Bool → List D → DS
  | b :: bs, d :: ds => (if b = true then .ow d else .fr d) :: sl0 bs ds
  | _, _ => []
def start0 (N : Nat) (ios : List Bool) (ds : List D) : DS := sl0 ios ds ++ List.replicate (N - ds.length) .no
/-- the slots that are the caller's lists, from i on -/
def ioS : Nat → List Bool → List Nat
  | _, [] => []
  | i, true :: bs => i :: ioS (i + 1) bs
  | i, false :: bs => ioS (i + 1) bs
def outS (s : DS) : List Nat → Option (List D)
  | [] => some []
  | i :: is => match s[i]? with
    | some (.ow d) => (outS s is).map (d :: ·)
    | _ => none
def frOf (b : Bool) (d : D) (o : Option (List D)) : FR := match o with
  | some outs => .ok b d outs
  | none => .no
/-- how the body's end is handed back -/
def endR (io : List Nat) : RS → FR
  | .nx s => frOf false .none (outS s io)
  | .rt (.fr d) s => frOf false d (outS s io)
  | .rt (.ow d) s => frOf true d (outS s io)
  | .rt (.sl i) s => match s[i]? with
    | some (.fr d) => frOf false d (outS s io)
    | some (.ow d) => if io.contains i = true then .no else frOf true d (outS s io)
    | _ => .no
  | .er e s => (match outS s io with
    | some outs => .er e outs
    | none => .no)
  | _ => .no
def mkF (N : Nat) (ios : List Bool) (b : MS) : FM := fun ds => endR (ioS 0 ios) (b (start0 N ios ds))

theorem ArgsOk.slots {K : PySem.W.Frag} {H F : Hp} {ms : List Bool} {vs : List V} {ds : List D} {as : List Addr} (h : ArgsOk K H F ms vs ds as) :
    (sl0 ms ds).length = vs.length ∧ (∀ (i : Nat) (d : D), (sl0 ms ds)[i]? = some (Sl.fr d) → ∃ v : V, vs[i]? = some v ∧ Dp K F v d) ∧
      (∀ (i : Nat) (d : D), (sl0 ms ds)[i]? = some (Sl.ow d) → ∃ a : Addr, vs[i]? = some (V.ref a) ∧ a ∈ as ∧ (∃ o, H a = some o ∧ Cont K F o d) ∧ F a = none) ∧
      (∀ (i j : Nat) (d e : D) (a : Addr), i ≠ j → (sl0 ms ds)[i]? = some (Sl.ow d) → (sl0 ms ds)[j]? = some (Sl.ow e) → vs[i]? = some (V.ref a) → vs[j]? ≠ some (V.ref a)) := by
  induction h with
  | nil => exact ⟨rfl, fun i d e => by simp [sl0] at e, fun i d e => by simp [sl0] at e, fun i j d e a _ e1 _ => by simp [sl0] at e1⟩
  | @fr v d ms vs ds as hd _ ih =>
    obtain ⟨h1, h2, h3, h4⟩ := ih
    refine ⟨congrArg Nat.succ h1, fun i e q => ?_, fun i e q => ?_, fun i j e e' a n q1 q2 => ?_⟩
    · cases i with
      | zero =>
        have q' : some (Sl.fr d) = some (Sl.fr e) := q
        cases q'
        exact ⟨v, rfl, hd⟩
      | succ i => exact h2 i e q
    · cases i with
      | zero => exact nomatch (show some (Sl.fr d) = some (Sl.ow e) from q)
      | succ i => exact h3 i e q
    · cases i with
      | zero => exact nomatch (show some (Sl.fr d) = some (Sl.ow e) from q1)
      | succ i =>
        cases j with
        | zero => exact nomatch (show some (Sl.fr d) = some (Sl.ow e') from q2)
        | succ j => exact h4 i j e e' a (fun z => n (congrArg Nat.succ z)) q1 q2
  | @io a o d ms vs ds as ho hc hf ha _ ih =>
    obtain ⟨h1, h2, h3, h4⟩ := ih
    refine ⟨congrArg Nat.succ h1, fun i e q => ?_, fun i e q => ?_, fun i j e e' b n q1 q2 => ?_⟩
    · cases i with
      | zero => exact nomatch (show some (Sl.ow d) = some (Sl.fr e) from q)
      | succ i => exact h2 i e q
    · cases i with
      | zero =>
        have q' : some (Sl.ow d) = some (Sl.ow e) := q
        cases q'
        exact ⟨a, rfl, List.mem_cons_self, ⟨o, ho, hc⟩, hf⟩
      | succ i =>
        obtain ⟨b, z1, z2, z3⟩ := h3 i e q
        exact ⟨b, z1, List.mem_cons_of_mem _ z2, z3⟩
    · cases i with
      | zero =>
        cases j with
        | zero => exact absurd rfl n
        | succ j =>
          intro e1 e2
          have e1' : some (V.ref a) = some (V.ref b) := e1
          cases e1'
          obtain ⟨b', z1, z2, _⟩ := h3 j e' q2
          have : some (V.ref b') = some (V.ref a) := z1.symm.trans e2
          cases this
          exact ha z2
      | succ i =>
        cases j with
        | zero =>
          intro e1 e2
          have e2' : some (V.ref a) = some (V.ref b) := e2
          cases e2'
          obtain ⟨b', z1, z2, _⟩ := h3 i e q1
          have : some (V.ref b') = some (V.ref a) := z1.symm.trans e1
          cases this
          exact ha z2
        | succ j => exact h4 i j e e' b (fun z => n (congrArg Nat.succ z)) q1 q2
/-- the locked slots with their addresses -/
theorem ArgsOk.lks {K : PySem.W.Frag} {H F : Hp} {ms : List Bool} {vs : List V} {ds : List D} {as : List Addr} (h : ArgsOk K H F ms vs ds as) : ∀ k : Nat, (ioS k ms).length = as.length ∧ ∀ p ∈ (ioS k ms).zip as, ∃ j : Nat, p.1 = k + j ∧ vs[j]? = some (V.ref p.2) := by
  induction h with
  | nil => exact fun k => ⟨rfl, fun p hp => by simp [ioS] at hp⟩
  | fr hd _ ih =>
    intro k
    obtain ⟨h1, h2⟩ := ih (k + 1)
    refine ⟨h1, fun p hp => ?_⟩
    obtain ⟨j, e1, e2⟩ := h2 p hp
    exact ⟨j + 1, by omega, e2⟩
  | @io a o d ms vs ds as ho hc hf ha _ ih =>
    intro k
    obtain ⟨h1, h2⟩ := ih (k + 1)
    refine ⟨congrArg Nat.succ h1, fun p hp => ?_⟩
    rcases List.mem_cons.mp (show p ∈ (k, a) :: (ioS (k + 1) ms).zip as from hp) with e | hp
    · subst e; exact ⟨0, rfl, rfl⟩
    · obtain ⟨j, e1, e2⟩ := h2 p hp
      exact ⟨j + 1, by omega, e2⟩
/-- the def's base -/
def byOf (ios : List Bool) (as : List Addr) (H F : Hp) : By := ⟨as, (ioS 0 ios).zip as, H, F⟩
theorem ArgsOk.lk {K : PySem.W.Frag} {H F : Hp} {ms : List Bool} {vs : List V} {ds : List D} {as : List Addr} (h : ArgsOk K H F ms vs ds as) : Lk (byOf ms as H F) (ioS 0 ms) := by
  show ((ioS 0 ms).zip as).map Prod.fst = _
  rw [List.map_fst_zip]
  exact Nat.le_of_eq (h.lks 0).1
theorem ArgsOk.al {K : PySem.W.Frag} {H F : Hp} {ms : List Bool} {vs : List V} {ds : List D} {as : List Addr} (h : ArgsOk K H F ms vs ds as) : ∀ a ∈ as, ∃ o, H a = some o := by
  induction h with
  | nil => exact fun a ha => by cases ha
  | fr _ _ ih => exact ih
  | io ho _ _ _ _ ih =>
    intro b hb
    rcases List.mem_cons.mp hb with e | hb
    · rw [e]; exact ⟨_, ho⟩
    · exact ih b hb
theorem rep_start {K : PySem.W.Frag} {H F : Hp} {ms : List Bool} {vs : List V} {ds : List D} {as : List Addr} {N : List Str} (le : FL F H) (h : ArgsOk K H F ms vs ds as) : Rep K (byOf ms as H F) (start0 N.length ms ds) (start N vs) H F := by
  obtain ⟨h1, h2, h3, h4⟩ := h.slots
  have hd : ds.length = vs.length := by rw [h.lenD, h.len]
  have atS : ∀ {i : Nat} {x : Sl}, (start0 N.length ms ds)[i]? = some x → x ≠ .no → (sl0 ms ds)[i]? = some x ∧ i < vs.length := fun {i x} e n => by
    unfold start0 at e
    by_cases hi : i < (sl0 ms ds).length
    · rw [List.getElem?_append_left hi] at e
      exact ⟨e, by rw [← h1]; exact hi⟩
    · rw [List.getElem?_append_right (by omega), List.getElem?_replicate] at e
      split at e
      · exact absurd (Option.some.inj e).symm n
      · cases e
  have atV : ∀ {i : Nat} {v : V}, vs[i]? = some v → (start N vs)[i]? = some (some v) := fun {i v} e => by
    unfold start
    have hi := (List.getElem?_eq_some_iff.mp e).1
    rw [List.getElem?_append_left (by rw [List.length_map]; exact hi), List.getElem?_map, e]; rfl
  have atV' : ∀ {i : Nat} {v : V}, i < vs.length → (start N vs)[i]? = some (some v) → vs[i]? = some v := fun {i v} hi e => by
    unfold start at e
    rw [List.getElem?_append_left (by rw [List.length_map]; exact hi), List.getElem?_map] at e
    cases e2 : vs[i]? with
    | none => rw [e2] at e; cases e
    | some u => rw [e2] at e; cases e; rfl
  refine ⟨le, ?_, fun i d e => ?_, fun i d e => ?_, fun i j d e a n q1 q2 => ?_, fun p hp => ?_, .refl, fun a o e _ => e, fun a o e => .inl e, h.al⟩
  · unfold start0 start
    rw [List.length_append, List.length_append, List.length_map, List.length_replicate, List.length_replicate, h1, hd]
  · obtain ⟨q, _⟩ := atS e (fun z => nomatch z)
    obtain ⟨v, z1, z2⟩ := h2 i d q
    exact ⟨v, atV z1, z2⟩
  · obtain ⟨q, _⟩ := atS e (fun z => nomatch z)
    obtain ⟨a, z1, z2, z3, z4⟩ := h3 i d q
    exact ⟨a, atV z1, z3, z4, .inr z2⟩
  · obtain ⟨q1, b1⟩ := atS q1 (fun z => nomatch z)
    obtain ⟨q2, b2⟩ := atS q2 (fun z => nomatch z)
    intro e1 e2
    exact h4 i j d e a n q1 q2 (atV' b1 e1) (atV' b2 e2)
  · obtain ⟨j, e1, e2⟩ := (h.lks 0).2 p hp
    rw [e1, Nat.zero_add]
    exact atV e2
theorem outS_ok {K : PySem.W.Frag} {B : By} {s : DS} {σ : St} {H F : Hp} (rp : Rep K B s σ H F) : ∀ {is : List Nat} {as : List Addr} {outs : List D}, is.length = as.length → (∀ p ∈ is.zip as, σ[p.1]? = some (some (V.ref p.2))) → outS s is = some outs → OutsOk K H F as outs
  | [], [], outs, _, _, e => by cases e; exact .nil
  | i :: is, a :: as, outs, hl, hs, e => by
    have e' : (match s[i]? with | some (.ow d) => (outS s is).map (d :: ·) | _ => none) = some outs := e
    cases e1 : s[i]? with
    | none => rw [e1] at e'; cases e'
    | some x =>
      cases x with
      | no => rw [e1] at e'; cases e'
      | fr d => rw [e1] at e'; cases e'
      | ow d =>
        rw [e1] at e'
        obtain ⟨os, h1, rfl⟩ := Option.map_eq_some_iff.mp (show (outS s is).map (d :: ·) = some outs from e')
        obtain ⟨b, h2, h3, h4, _⟩ := rp.ow i d e1
        have h5 := hs (i, a) List.mem_cons_self
        rw [h2] at h5; cases h5
        exact .cons ⟨h3, h4⟩ (outS_ok rp (Nat.succ.inj hl) (fun p hp => hs p (List.mem_cons_of_mem _ hp)) h1)
theorem ret_of {K : PySem.W.Frag} {H F : Hp} {ms : List Bool} {vs : List V} {ds : List D} {as : List Addr} {s : DS} {σ : St} {H' F' : Hp} {outs : List D} (h : ArgsOk K H F ms vs ds as) (rp : Rep K (byOf ms as H F) s σ H' F') (e : outS s (ioS 0 ms) = some outs) : Ret K H F H' F' as outs := by
  refine ⟨rp.f0, fun a o e n => rp.h0 a o e n, fun a o e' => ?_, rp.le, outS_ok rp (h.lks 0).1 rp.lk e⟩
  rcases rp.nw a o e' with z | z | z
  · exact .inl z
  · exact .inr z
  · -- the caller's own lists stay own
    have h2 := outS_ok rp (h.lks 0).1 rp.lk e
    have : F' a = none := by
      have key : ∀ {bs : List Addr} {os : List D}, OutsOk K H' F' bs os → a ∈ bs → F' a = none := by
        intro bs os q
        induction q with
        | nil => exact fun z => by cases z
        | cons r _ ih =>
          intro z
          rcases List.mem_cons.mp z with w | w
          · rw [w]; exact r.2
          · exact ih w
      exact key h2 z
    rw [this] at e'; cases e'
section
variable {P : Program} {w : World} {K : PySem.W.Frag} {mg : Str → Option Value} {base : Heap}
/-- no depth, no promise -/
theorem fn_zero {ios : List Bool} {f : Addr} {fd : FuncData} {ps : List Str} {CX : CXT} {k : Nat} {m : FM} (hm : ∀ ds, m ds = .no) : FnOk P w K mg base CX k f fd ps (spOf K ios m) := by
  refine ⟨fun vs H Q E ⟨F, ds, as, _, _, h⟩ => ?_, fun A outer s H args us vs Q E _ _ _ _ ⟨F, ds, as, _, _, h⟩ => ?_⟩
  · rw [hm ds] at h; exact h.elim
  · rw [hm ds] at h; exact h.elim
/-- THE RULE for a def: its body's walk, its mirror -/
theorem zfun {x qual : Str} {params : Arguments} {body : List Stmt} {scope : Scope} {dvs : List V} {kws : List (Str × V)} {f : Addr} {fd : FuncData} {N ps : List Str} {k : Nat} {ios : List Bool} {b : MS} (Fd : FunD K x qual params body scope dvs kws f fd) (S : FnScope N ps scope) (hl : ios.length = ps.length)
    (hbody : ∀ (cdv : Value) (A : Around) (outer : List Env) (s : Shared) (H : Hp) (E : XK) (B : By), Lk B (ioS 0 ios) → Room k (A.deeper (envOfC qual scope s.heap.objs.size f cdv)) →
      PSs (cxOf CX0 P w K mg base N qual scope f cdv A outer s H E).nox body (rs K B W0 b)) : FnOk P w K mg base CX0 (k + 1) f fd ps (spOf K ios (mkF N.length ios b)) := by
  refine Fd.ok S (fun vs H Q E ⟨F, ds, as, _, h, _⟩ => by rw [h.len, hl]) fun cdv A outer s H vs Q E hr ⟨F, ds, as, le, h, q⟩ => ?_
  refine ⟨rs K (byOf ios as H F) W0 b, PSs.nox (hbody cdv A outer s H E _ h.lk hr), start0 N.length ios ds, F, rep_start le h, ?_⟩
  unfold mkF at q
  have fin : ∀ (fresh : Bool) (d : D) (s' : DS), (match frOf fresh d (outS s' (ioS 0 ios)) with | .ok false d outs => ∀ v H' F', Ret K H F H' F' as outs → Dp K F' v d → Q v H' | .ok true d outs => ∀ p H' F', Ret K H F H' F' as outs → H p = none → (∃ o, H' p = some o ∧ Cont K F' o d) → F' p = none → Q (.ref p) H' | _ => False) →
      ∃ outs, outS s' (ioS 0 ios) = some outs ∧ (fresh = false → ∀ v H' F', Ret K H F H' F' as outs → Dp K F' v d → Q v H') ∧ (fresh = true → ∀ p H' F', Ret K H F H' F' as outs → H p = none → (∃ o, H' p = some o ∧ Cont K F' o d) → F' p = none → Q (.ref p) H') := fun fresh d s' q => by
    cases e : outS s' (ioS 0 ios) with
    | none => rw [e] at q; exact q.elim
    | some outs =>
      rw [e] at q
      cases fresh with
      | false => exact ⟨outs, rfl, fun _ => q, fun z => (by cases z)⟩
      | true => exact ⟨outs, rfl, fun z => (by cases z), fun _ => q⟩
  cases e : b (start0 N.length ios ds) with
  | nx s' =>
    rw [e] at q
    obtain ⟨outs, h1, h2, _⟩ := fin false .none s' q
    exact fun σ' H' F' rp' _ => h2 rfl _ H' F' (ret_of h rp' h1) .non
  | rt y s' =>
    rw [e] at q
    cases y with
    | fr d =>
      obtain ⟨outs, h1, h2, _⟩ := fin false d s' q
      exact fun v σ' H' F' rp' _ hv => h2 rfl v H' F' (ret_of h rp' h1) hv
    | ow d =>
      obtain ⟨outs, h1, _, h2⟩ := fin true d s' q
      intro v σ' H' F' rp' _ hv
      obtain ⟨p, rfl, h3, h4, h5, h6⟩ := hv
      exact h2 rfl p H' F' (ret_of h rp' h1) h4 h3.ob h3.nf
    | sl i =>
      have q' : (match (match s'[i]? with | some (Sl.fr d) => frOf false d (outS s' (ioS 0 ios)) | some (Sl.ow d) => if (ioS 0 ios).contains i = true then FR.no else frOf true d (outS s' (ioS 0 ios)) | _ => FR.no) with | .ok false d outs => ∀ v H' F', Ret K H F H' F' as outs → Dp K F' v d → Q v H' | .ok true d outs => ∀ p H' F', Ret K H F H' F' as outs → H p = none → (∃ o, H' p = some o ∧ Cont K F' o d) → F' p = none → Q (.ref p) H' | _ => False) := q
      intro v σ' H' F' rp' _ hv
      cases e2 : s'[i]? with
      | none => rw [e2] at q'; exact q'.elim
      | some y =>
        rw [e2] at q'
        cases y with
        | no => exact q'.elim
        | fr d =>
          obtain ⟨outs, h1, h2, _⟩ := fin false d s' q'
          obtain ⟨u, h3, h4⟩ := rp'.fr i d e2
          have h5 := hv.1
          rw [h3] at h5; cases h5
          exact h2 rfl _ H' F' (ret_of h rp' h1) h4
        | ow d =>
          by_cases hio : (ioS 0 ios).contains i = true
          · simp only [if_pos hio] at q'
          · simp only [if_neg hio] at q'
            obtain ⟨outs, h1, _, h2⟩ := fin true d s' q'
            obtain ⟨p, h3, h4⟩ := rp'.ow i d e2
            have h5 := hv.1
            rw [h3] at h5; cases h5
            have hp : H p = none := by
              rcases h4.new with z | z
              · exact z
              · -- p is one of the caller's lists: its slot is locked, and another
                exfalso
                have lz := h.lks 0
                have hz : p ∈ as := z
                obtain ⟨n, hn1, hn2⟩ := List.mem_iff_getElem.mp hz
                have hn3 : n < (ioS 0 ios).length := by rw [lz.1]; exact hn1
                have hm : ((ioS 0 ios)[n], p) ∈ (ioS 0 ios).zip as := by
                  rw [← hn2]
                  have hz2 : n < ((ioS 0 ios).zip as).length := by rw [List.length_zip, lz.1, Nat.min_self]; exact hn1
                  have := List.getElem_mem hz2
                  rwa [List.getElem_zip] at this
                have hs := rp'.lk _ hm
                have ho : ∃ e', s'[(ioS 0 ios)[n]]? = some (Sl.ow e') := by
                  have key : ∀ {is : List Nat} {os : List D} {j : Nat}, outS s' is = some os → j ∈ is → ∃ e', s'[j]? = some (Sl.ow e') := by
                    intro is
                    induction is with
                    | nil => exact fun _ z => by cases z
                    | cons k ks ih =>
                      intro os j eo hj
                      have eo' : (match s'[k]? with | some (.ow d) => (outS s' ks).map (d :: ·) | _ => none) = some os := eo
                      cases ek : s'[k]? with
                      | none => rw [ek] at eo'; cases eo'
                      | some y =>
                        cases y with
                        | no => rw [ek] at eo'; cases eo'
                        | fr d => rw [ek] at eo'; cases eo'
                        | ow d =>
                          rw [ek] at eo'
                          obtain ⟨os', h1, _⟩ := Option.map_eq_some_iff.mp (show (outS s' ks).map (d :: ·) = some os from eo')
                          rcases List.mem_cons.mp hj with w | w
                          · rw [w]; exact ⟨d, ek⟩
                          · exact ih h1 w
                  exact key h1 (List.getElem_mem hn3)
                obtain ⟨e', he'⟩ := ho
                have hne : i ≠ (ioS 0 ios)[n] := fun z => hio (by rw [List.contains_iff_mem, z]; exact List.getElem_mem hn3)
                exact rp'.dis i _ d e' p hne e2 he' h3 hs
            exact h2 rfl p H' F' (ret_of h rp' h1) hp h4.ob h4.nf
  | bk s' => rw [e] at q; exact q.elim
  | ct s' => rw [e] at q; exact q.elim
  | er x s' =>
    rw [e] at q
    have q' : (match (match outS s' (ioS 0 ios) with | some outs => FR.er x outs | none => FR.no) with | .ok false d outs => ∀ v H' F', Ret K H F H' F' as outs → Dp K F' v d → Q v H' | .ok true d outs => ∀ p H' F', Ret K H F H' F' as outs → H p = none → (∃ o, H' p = some o ∧ Cont K F' o d) → F' p = none → Q (.ref p) H' | _ => False) := q
    cases e2 : outS s' (ioS 0 ios) with
    | none => rw [e2] at q'; exact q'.elim
    | some outs => rw [e2] at q'; exact q'.elim
  | no => rw [e] at q; exact q.elim
end
end L2.Zd

set_option Elab.async false
set_option linter.all false
set_option maxRecDepth 100000
set_option maxHeartbeats 2000000
namespace L2.Zd
open PySem PySem.Spec PyProof.Rows

/-! ### the call of a def -/
/-- the data of the arguments: frozen ones, own slots (each once) -/
def argD : List Bool → List Vt → DS → Option (List D)
  | [], [], _ => some []
  | false :: ms, .fr d :: xs, s => (argD ms xs s).map (d :: ·)
  | true :: ms, .sl i :: xs, s => match s[i]? with
    | some (.ow d) => if xs.all (fun x => match x with | .sl j => j != i | _ => true) = true then (argD ms xs s).map (d :: ·) else none
    | _ => none
  | _, _, _ => none
/-- the slots that are handed on -/
def ioX : List Bool → List Vt → List Nat
  | true :: ms, .sl i :: xs => i :: ioX ms xs
  | _ :: ms, _ :: xs => ioX ms xs
  | _, _ => []
def setL : List Nat → List D → DS → DS
  | i :: is, d :: os, s => setL is os (s.set i (.ow d))
  | _, _, s => s
def setO (ms : List Bool) (xs : List Vt) (os : List D) (s : DS) : DS := setL (ioX ms xs) os s
def callR (ios : List Bool) (xs : List Vt) (s : DS) : FR → R Vt
  | .ok fresh d outs => .ok (if fresh = true then .ow d else .fr d) (setO ios xs outs s)
  | _ => .no
def callO (fm : FM) (ios : List Bool) (xs : List Vt) (s : DS) : Option (List D) → R Vt
  | some ds => callR ios xs s (fm ds)
  | none => .no
def dCall (fm : FM) (ios : List Bool) (m : M (List Vt)) : M Vt := fun s => (m s).bind fun xs s1 => callO fm ios xs s1 (argD ios xs s1)
theorem ioX_not {i : Nat} : ∀ {ms : List Bool} {xs : List Vt}, xs.all (fun x => match x with | .sl j => j != i | _ => true) = true → i ∉ ioX ms xs
  | [], _, _ => by intro z; cases z
  | _ :: _, [], _ => by intro z; cases ‹Bool› <;> cases z
  | true :: ms, .sl j :: xs, h => by
    rw [List.all_cons, Bool.and_eq_true] at h
    intro z
    rcases List.mem_cons.mp (show i ∈ j :: ioX ms xs from z) with w | w
    · have := h.1
      rw [w] at this
      simp at this
    · exact ioX_not h.2 w
  | false :: ms, x :: xs, h => by
    rw [List.all_cons, Bool.and_eq_true] at h
    exact fun z => ioX_not h.2 (show i ∈ ioX ms xs from z)
  | true :: ms, .fr d :: xs, h => by
    rw [List.all_cons, Bool.and_eq_true] at h
    exact fun z => ioX_not h.2 (show i ∈ ioX ms xs from z)
  | true :: ms, .ow d :: xs, h => by
    rw [List.all_cons, Bool.and_eq_true] at h
    exact fun z => ioX_not h.2 (show i ∈ ioX ms xs from z)
/-- the arguments as a def takes them -/
theorem argD_ok {K : PySem.W.Frag} {B : By} {Hs : Hp} {s : DS} {σ : St} {H F : Hp} (rp : Rep K B s σ H F) : ∀ {ms : List Bool} {xs : List Vt} {vs : List V} {ds : List D}, VtsOk K B Hs s σ H F vs xs → argD ms xs s = some ds →
    ∃ as, ArgsOk K H F ms vs ds as ∧ (ioX ms xs).length = as.length ∧ (∀ p ∈ (ioX ms xs).zip as, (∃ d, s[p.1]? = some (Sl.ow d)) ∧ σ[p.1]? = some (some (V.ref p.2))) ∧ (ioX ms xs).Nodup
  | [], [], _, ds, .nil, e => by cases e; exact ⟨[], .nil, rfl, fun p hp => (by cases hp), List.nodup_nil⟩
  | false :: ms, .fr d :: xs, v :: vs, ds, .cons h t, e => by
    obtain ⟨es, h1, rfl⟩ := Option.map_eq_some_iff.mp (show (argD ms xs s).map (d :: ·) = some ds from e)
    obtain ⟨as, q1, q2, q3, q4⟩ := argD_ok rp t h1
    exact ⟨as, .fr h q1, q2, q3, q4⟩
  | true :: ms, .sl i :: xs, v :: vs, ds, .cons h t, e => by
    have e' : (match s[i]? with | some (.ow d) => if xs.all (fun x => match x with | .sl j => j != i | _ => true) = true then (argD ms xs s).map (d :: ·) else none | _ => none) = some ds := e
    cases e1 : s[i]? with
    | none => rw [e1] at e'; cases e'
    | some y =>
      cases y with
      | no => rw [e1] at e'; cases e'
      | fr d => rw [e1] at e'; cases e'
      | ow d =>
        rw [e1] at e'
        have e'' : (if xs.all (fun x => match x with | .sl j => j != i | _ => true) = true then (argD ms xs s).map (d :: ·) else none) = some ds := e'
        by_cases hc' : ¬ xs.all (fun x => match x with | .sl j => j != i | _ => true) = true
        · rw [if_neg hc'] at e''; cases e''
        have hc := Classical.not_not.mp hc'
        rw [if_pos hc] at e''
        obtain ⟨es, h1, rfl⟩ := Option.map_eq_some_iff.mp e''
        obtain ⟨as, q1, q2, q3, q4⟩ := argD_ok rp t h1
        obtain ⟨a, z1, ⟨o, z2, z3⟩, z4, z5⟩ := rp.ow i d e1
        have z6 := h.1
        rw [z1] at z6; cases z6
        have hni := ioX_not (ms := ms) hc
        refine ⟨a :: as, .io z2 z3 z4 (fun ha => ?_) q1, congrArg Nat.succ q2, fun p hp => ?_, List.nodup_cons.mpr ⟨hni, q4⟩⟩
        · obtain ⟨n, hn1, hn2⟩ := List.mem_iff_getElem.mp ha
          have hn3 : n < (ioX ms xs).length := by rw [q2]; exact hn1
          have hz2 : n < ((ioX ms xs).zip as).length := by rw [List.length_zip, q2, Nat.min_self]; exact hn1
          have hm := List.getElem_mem hz2
          rw [List.getElem_zip] at hm
          obtain ⟨⟨d', w1⟩, w2⟩ := q3 _ hm
          rw [hn2] at w2
          exact rp.dis i _ d d' a (fun z => hni (by rw [z]; exact List.getElem_mem hn3)) e1 w1 z1 w2
        · rcases List.mem_cons.mp (show p ∈ (i, a) :: (ioX ms xs).zip as from hp) with w | w
          · subst w; exact ⟨⟨d, e1⟩, z1⟩
          · exact q3 p w
  | [], _ :: _, _, _, _, e => by cases e
  | true :: _, [], _, _, _, e => by cases e
  | false :: _, [], _, _, _, e => by cases e
  | true :: _, .fr _ :: _, _, _, _, e => by cases e
  | true :: _, .ow _ :: _, _, _, _, e => by cases e
  | false :: _, .ow _ :: _, _, _, _, e => by cases e
  | false :: _, .sl _ :: _, _, _, _, e => by cases e
theorem setL_len : ∀ {is : List Nat} {os : List D} {s : DS}, (setL is os s).length = s.length
  | i :: is, d :: os, s => by
    show (setL is os (s.set i (.ow d))).length = _
    rw [setL_len, List.length_set]
  | [], _, _ => rfl
  | _ :: _, [], _ => rfl
theorem setL_fr {j : Nat} {e : D} : ∀ {is : List Nat} {os : List D} {s : DS}, (setL is os s)[j]? = some (Sl.fr e) → s[j]? = some (Sl.fr e)
  | i :: is, d :: os, s, h => by
    have h' := setL_fr (show (setL is os (s.set i (.ow d)))[j]? = some (Sl.fr e) from h)
    by_cases hj : i = j
    · subst hj
      have hi := (List.getElem?_eq_some_iff.mp h').1
      rw [List.length_set] at hi
      rw [List.getElem?_set_self hi] at h'; cases h'
    · rw [List.getElem?_set_ne hj] at h'; exact h'
  | [], _, _, h => h
  | _ :: _, [], _, h => h
theorem setL_k {j : Nat} : ∀ {is : List Nat} {os : List D} {s : DS} {x : Sl}, s[j]? = some x → x.d.isSome = true → ∃ y : Sl, (setL is os s)[j]? = some y ∧ y.d.isSome = true
  | i :: is, d :: os, s, x, h, e => by
    show ∃ y : Sl, (setL is os (s.set i (.ow d)))[j]? = some y ∧ y.d.isSome = true
    by_cases hj : i = j
    · subst hj
      exact setL_k (x := .ow d) (List.getElem?_set_self (List.getElem?_eq_some_iff.mp h).1) rfl
    · exact setL_k (x := x) (by rw [List.getElem?_set_ne hj]; exact h) e
  | [], _, _, x, h, e => ⟨x, h, e⟩
  | _ :: _, [], _, x, h, e => ⟨x, h, e⟩
theorem setL_ow {K : PySem.W.Frag} {H F : Hp} {j : Nat} {e : D} : ∀ {is : List Nat} {os : List D} {s : DS} {as : List Addr}, is.length = as.length → OutsOk K H F as os → (setL is os s)[j]? = some (Sl.ow e) →
    (j ∉ is ∧ s[j]? = some (Sl.ow e)) ∨ ∃ a, (j, a) ∈ is.zip as ∧ (∃ o, H a = some o ∧ Cont K F o e) ∧ F a = none
  | i :: is, d :: os, s, a :: as, hl, q, h => by
    cases q with
    | cons q t =>
      rcases setL_ow (Nat.succ.inj hl) t (show (setL is os (s.set i (.ow d)))[j]? = some (Sl.ow e) from h) with ⟨h1, h2⟩ | ⟨b, h1, h2⟩
      · by_cases hj : i = j
        · subst hj
          have hi := (List.getElem?_eq_some_iff.mp h2).1
          rw [List.length_set] at hi
          rw [List.getElem?_set_self hi] at h2; cases h2
          exact .inr ⟨a, List.mem_cons_self, q⟩
        · rw [List.getElem?_set_ne hj] at h2
          refine .inl ⟨fun z => ?_, h2⟩
          rcases List.mem_cons.mp z with w | w
          · exact hj w.symm
          · exact h1 w
      · exact .inr ⟨b, List.mem_cons_of_mem _ h1, h2⟩
  | [], _, _, _, _, _, h => .inl ⟨fun z => (by cases z), h⟩
  | _ :: _, [], _, [], hl, _, _ => (by cases hl)
  | _ :: _, _ :: _, _, [], hl, _, _ => (by cases hl)
  | _ :: _, [], _, _ :: _, _, q, _ => (by cases q)
section
variable {X : Cx} {B : By} {W : WX'} {L : List Nat}
/-- behind a call: the slots that were handed on hold what came back -/
theorem rep_call {K : PySem.W.Frag} {s : DS} {σ : St} {H F H' F' : Hp} {is : List Nat} {as : List Addr} {outs : List D} (rp : Rep K B s σ H F) (hl : is.length = as.length) (hs : ∀ p ∈ is.zip as, (∃ d, s[p.1]? = some (Sl.ow d)) ∧ σ[p.1]? = some (some (V.ref p.2))) (r : Ret K H F H' F' as outs) :
    Rep K B (setL is outs s) σ H' F' ∧ Stp s (setL is outs s) σ H F H' F' := by
  have inAs : ∀ {a : Addr}, a ∈ as → ∃ i, i ∈ is ∧ (∃ d, s[i]? = some (Sl.ow d)) ∧ σ[i]? = some (some (V.ref a)) := fun {a} ha => by
    obtain ⟨n, hn1, hn2⟩ := List.mem_iff_getElem.mp ha
    have hn3 : n < is.length := by rw [hl]; exact hn1
    have hz2 : n < (is.zip as).length := by rw [List.length_zip, hl, Nat.min_self]; exact hn1
    have hm := List.getElem_mem hz2
    rw [List.getElem_zip] at hm
    obtain ⟨w1, w2⟩ := hs _ hm
    rw [hn2] at w2
    exact ⟨_, List.getElem_mem hn3, w1, w2⟩
  have asOw : ∀ {a : Addr}, a ∈ as → OwAt s σ a := fun {a} ha => by
    obtain ⟨i, _, ⟨d, h1⟩, h2⟩ := inAs ha
    exact ⟨i, d, h1, h2⟩
  have exH : ∀ {a : Addr} {o : HO}, H a = some o → ∃ o', H' a = some o' := fun {a o} e => by
    by_cases ha : a ∈ as
    · have key : ∀ {bs : List Addr} {os : List D}, OutsOk K H' F' bs os → a ∈ bs → ∃ o', H' a = some o' := by
        intro bs os q
        induction q with
        | nil => exact fun z => (by cases z)
        | cons r _ ih =>
          intro z
          rcases List.mem_cons.mp z with w | w
          · obtain ⟨⟨o, e, _⟩, _⟩ := r
            exact ⟨o, by rw [w]; exact e⟩
          · exact ih w
      exact key r.o ha
    · exact ⟨o, r.h a o e ha⟩
  have ow' : ∀ (j : Nat) (e : D), (setL is outs s)[j]? = some (Sl.ow e) → (∃ d, s[j]? = some (Sl.ow d)) ∧ ∃ a : Addr, σ[j]? = some (some (V.ref a)) ∧ (∃ o, H' a = some o ∧ Cont K F' o e) ∧ F' a = none ∧ (B.H0 a = none ∨ a ∈ B.ex) := fun j e h => by
    rcases setL_ow hl r.o h with ⟨h1, h2⟩ | ⟨a, h1, h2, h3⟩
    · obtain ⟨a, z1, ⟨o, z2, z3⟩, z4, z5⟩ := rp.ow j e h2
      have hna : a ∉ as := fun ha => by
        obtain ⟨i, w1, ⟨d, w2⟩, w3⟩ := inAs ha
        exact rp.dis i j d e a (fun z => h1 (by rw [← z]; exact w1)) w2 h2 w3 z1
      refine ⟨⟨e, h2⟩, a, z1, ⟨o, r.h a o z2 hna, z3.mono r.f⟩, ?_, z5⟩
      cases q : F' a with
      | none => rfl
      | some u =>
        rcases r.n a u q with w | w
        · rw [z4] at w; cases w
        · rw [z2] at w; cases w
    · obtain ⟨⟨d, w1⟩, w2⟩ := hs _ h1
      obtain ⟨b, z1, _, _, z5⟩ := rp.ow j d w1
      rw [z1] at w2; cases w2
      exact ⟨⟨d, w1⟩, _, z1, h2, h3, z5⟩
  refine ⟨⟨r.le, by rw [setL_len]; exact rp.len, fun i d h => ?_, fun i d h => ?_, fun i j d e a n h1 h2 => ?_, rp.lk, rp.f0.trans r.f, fun a o e x => ?_, fun a o e => ?_, fun a ha => ?_⟩,
    ⟨r.f, fun a o e => exH e, fun a o e n => r.h a o e fun z => n (asOw z), fun a o e => (r.n a o e).elim .inl fun z => .inr (.inl z), fun i d h => (ow' i d h).1, fun i x h e => setL_k h e⟩⟩
  · obtain ⟨v, z1, z2⟩ := rp.fr i d (setL_fr h)
    exact ⟨v, z1, dp_mono r.f z2⟩
  · obtain ⟨_, a, z1, z2, z3, z4⟩ := ow' i d h
    exact ⟨a, z1, z2, z3, z4⟩
  · obtain ⟨⟨d', w1⟩, _⟩ := ow' i d h1
    obtain ⟨⟨e', w2⟩, _⟩ := ow' j e h2
    exact rp.dis i j d' e' a n w1 w2
  · refine r.h a o (rp.h0 a o e x) fun ha => ?_
    obtain ⟨i, _, ⟨d, w1⟩, w2⟩ := inAs ha
    obtain ⟨b, z1, _, _, z5⟩ := rp.ow i d w1
    rw [z1] at w2; cases w2
    rcases z5 with z | z
    · rw [e] at z; cases z
    · exact x z
  · rcases r.n a o e with z | z
    · exact rp.nw a o z
    · exact .inr (.inl (rp.h0none z))
  · obtain ⟨o, e⟩ := rp.al a ha
    exact exH e
theorem call_read {ios : List Bool} {fm : FM} {m : M (List Vt)} : ∀ σ H Q, rd X.K B W (dCall fm ios m) σ H Q → tCall (spOf X.K ios fm) [] E0 (rdA X.K B W m) σ H Q := fun σ H Q ⟨sd, F, rp, q⟩ => by
  refine ⟨sd, F, rp, (Pst.bind q).mono fun xs s1 H1 F1 _ p1 rp1 h1 vs hvs => ?_⟩
  show spOf X.K ios fm (vs ++ []) H1 Q E0
  rw [List.append_nil]
  cases e : argD ios xs s1 with
  | none => rw [e] at h1; exact h1.elim
  | some ds =>
    rw [e] at h1
    obtain ⟨as, a1, a2, a3, _⟩ := argD_ok rp1 hvs e
    refine ⟨F1, ds, as, rp1.le, a1, ?_⟩
    have h2 : Pst X.K B W s1 σ H1 F1 (callR ios xs s1 (fm ds)) _ := h1
    cases ef : fm ds with
    | no => rw [ef] at h2; exact h2.elim
    | er x outs => rw [ef] at h2; exact h2.elim
    | ok fresh d outs =>
      rw [ef] at h2
      have back : ∀ a, H1 a = none → H a = none := fun a => p1.fresh
      cases fresh with
      | false =>
        intro v H' F' r hv
        obtain ⟨rp2, st2⟩ := rep_call rp1 a2 a3 r
        exact h2 H' F' st2 rp2 v hv
      | true =>
        intro p H' F' r hp hc hf
        obtain ⟨rp2, st2⟩ := rep_call rp1 a2 a3 r
        refine h2 H' F' st2 rp2 _ ⟨p, rfl, ⟨hc, hf, .inl (rp1.h0none hp)⟩, rp1.h0none hp, fun z => ?_, back p hp⟩
        exact rp1.nown hp (st2.own z)
/-- f(e, ..), f a def of the text -/
theorem zcall {ios : List Bool} {fm : FM} {k : Nat} {f : Addr} {fd : FuncData} {ps : List Str} {x : Str} {p pos : Pos} {e : Expr} {es : List Expr} {m : M (List Vt)} (F : FnOk X.prog X.w X.K X.mg X.base CX0 k f fd ps (spOf X.K ios fm)) (hr : Room k X.A) (hm : X.mg x = some (.ref f)) (hk : PySem.W.keepIn X.K (.ref f) = true) (hb : Binds X.K fd ps [])
    (ha : PA X (e :: es) (rdA X.K B W m)) (hg : Gl X x := by rfl) (hdb : (x == ("__debug__" : Str)) = false := by decide) (he : starEach (e :: es) X.env = (false, eval e X.env) :: starEach es X.env := by rfl) (hpl : (backTo pos (starEach es X.env)).any (·.1) = false := by rfl) :
    PE X (.Call (.Name x p) (e :: es) [] pos) (rd X.K B W (dCall fm ios m)) :=
  (pe_call F hr hg hm hk hb .nil pass0 ha hdb he hpl).imp call_read

/-! ### own lists changed -/
/-- an own cell gets a new content -/
theorem rep_mut {K : PySem.W.Frag} {s : DS} {σ : St} {H F : Hp} {i : Nat} {d d' : D} {a : Addr} {o' : HO} (rp : Rep K B s σ H F) (h1 : s[i]? = some (Sl.ow d)) (h2 : σ[i]? = some (some (V.ref a))) (hc : Cont K F o' d') : Rep K B (s.set i (.ow d')) σ (upd H a o') F ∧ Stp s (s.set i (.ow d')) σ H F (upd H a o') F := by
  obtain ⟨b, z1, z2, z3, z4⟩ := rp.ow i d h1
  rw [h2] at z1; cases z1
  have hi : i < s.length := (List.getElem?_eq_some_iff.mp h1).1
  have ow' : ∀ {j : Nat} {e : D}, (s.set i (.ow d'))[j]? = some (Sl.ow e) → (i = j ∧ e = d') ∨ (i ≠ j ∧ s[j]? = some (Sl.ow e)) := fun {j e} q => by
    by_cases hj : i = j
    · subst hj; rw [List.getElem?_set_self hi] at q; cases q; exact .inl ⟨rfl, rfl⟩
    · rw [List.getElem?_set_ne hj] at q; exact .inr ⟨hj, q⟩
  have own1 : ∀ {j : Nat} {e : D}, (s.set i (.ow d'))[j]? = some (Sl.ow e) → ∃ e', s[j]? = some (Sl.ow e') := fun {j e} q => by
    rcases ow' q with ⟨rfl, _⟩ | ⟨_, q⟩
    · exact ⟨d, h1⟩
    · exact ⟨e, q⟩
  refine ⟨⟨fun b o e => ?_, by rw [List.length_set]; exact rp.len, fun j e q => ?_, fun j e q => ?_, fun j k e e' b n q1 q2 => ?_, rp.lk, rp.f0, fun b o e x => ?_, rp.nw, fun b hb => ?_⟩,
    ⟨.refl, fun b o e => ?_, fun b o e n => ?_, fun b o e => .inl e, fun j e q => own1 q, fun j x q e => ?_⟩⟩
  · rw [upd_ne (fun z => by subst z; rw [z3] at e; cases e)]; exact rp.le b o e
  · by_cases hj : i = j
    · subst hj; rw [List.getElem?_set_self hi] at q; cases q
    · rw [List.getElem?_set_ne hj] at q; exact rp.fr j e q
  · rcases ow' q with ⟨rfl, rfl⟩ | ⟨hj, q⟩
    · exact ⟨a, h2, ⟨o', upd_same, hc⟩, z3, z4⟩
    · obtain ⟨b, w1, ⟨o, w2, w3⟩, w4, w5⟩ := rp.ow j e q
      exact ⟨b, w1, ⟨o, by rw [upd_ne (fun z => rp.dis i j d e a hj h1 q h2 (by rw [← z]; exact w1))]; exact w2, w3⟩, w4, w5⟩
  · obtain ⟨e1, q1⟩ := own1 q1
    obtain ⟨e2, q2⟩ := own1 q2
    exact rp.dis j k e1 e2 b n q1 q2
  · rw [upd_ne (fun z => by
      subst z
      rcases z4 with w | w
      · rw [e] at w; cases w
      · exact x w)]
    exact rp.h0 b o e x
  · by_cases z : b = a
    · exact ⟨o', by rw [z]; exact upd_same⟩
    · obtain ⟨o, e⟩ := rp.al b hb
      exact ⟨o, by rw [upd_ne z]; exact e⟩
  · by_cases z : b = a
    · exact ⟨o', by rw [z]; exact upd_same⟩
    · exact ⟨o, by rw [upd_ne z]; exact e⟩
  · rw [upd_ne (fun z => n ⟨i, d, h1, by rw [z]; exact h2⟩)]; exact e
  · by_cases hj : i = j
    · subst hj; exact ⟨_, List.getElem?_set_self hi, rfl⟩
    · exact ⟨x, by rw [List.getElem?_set_ne hj]; exact q, e⟩
/-- the own list in slot i -/
def ownS (i : Nat) (s : DS) : Option Sl → R Vt
  | some (.ow _) => .ok (.sl i) s
  | _ => .no
def dOwn (i : Nat) : M Vt := fun s => ownS i s s[i]?
theorem own_imp {i : Nat} {σ : St} {H : Hp} {Q : VK} (h : rd X.K B W (dOwn i) σ H Q) : rd X.K B W (dVar i) σ H Q := by
  obtain ⟨sd, F, rp, q⟩ := h
  refine ⟨sd, F, rp, ?_⟩
  have q' : Pst X.K B W sd σ H F (ownS i sd sd[i]?) _ := q
  show Pst X.K B W sd σ H F (varS i sd sd[i]?) _
  cases e : sd[i]? with
  | none => rw [e] at q'; exact q'.elim
  | some y =>
    rw [e] at q'
    cases y with
    | ow d => exact q'
    | no => exact q'.elim
    | fr d => exact q'.elim
theorem zo (i : Nat) {x : Str} {pos : Pos} (hN : X.N[i]? = some x := by rfl) (hv : Vis X.env.scope x := by first | exact Or.inl rfl | exact Or.inr (Or.inl rfl) | exact Or.inr (Or.inr rfl)) (hd : (x == ("__debug__" : Str)) = false := by decide)
    (hcd : (x == ("__classdict__" : Str)) = false := by decide) : PE X (.Name x pos) (rd X.K B W (dOwn i)) := (zv i hN hv hd hcd).imp fun σ H Q h => own_imp h
/-- the list in slot i and the arguments: what is handed back, what the list is then -/
def mutS (i : Nat) (f : List D → List D → Option (D × List D)) (ds : Option (List D)) (s : DS) : R Vt := match ds, s[i]? with
  | some as, some (.ow (.list xs)) => (match f xs as with
    | some (z, ys) => .ok (.fr z) (s.set i (.ow (.list ys)))
    | none => .no)
  | _, _ => .no
def dMut (i : Nat) (f : List D → List D → Option (D × List D)) (m : M (List Vt)) : M Vt := fun s => (dOwn i s).bind fun _ s0 => (m s0).bind fun xs s1 => mutS i f (frs' xs) s1
/-- a method of lists, by data -/
def PM (K : PySem.W.Frag) (r : V → List V → Hp → VK → Prop) (f : List D → List D → Option (D × List D)) : Prop := ∀ (H F : Hp) (a : Addr) (vs : List V) (xs : List D) (ws : List V) (as : List D) (z : D) (ys : List D) (Q : VK), H a = some (.lst vs) → DpAll K F vs xs → DpAll K F ws as → f xs as = some (z, ys) →
  (∀ v us, Dp K F v z → DpAll K F us ys → Q v (upd H a (.lst us))) → r (.ref a) ws H Q
theorem own_inv {i : Nat} {s s0 : DS} {x : Vt} (h : dOwn i s = .ok x s0) : x = .sl i ∧ s0 = s ∧ ∃ d, s[i]? = some (Sl.ow d) := by
  have h' : ownS i s s[i]? = .ok x s0 := h
  cases e : s[i]? with
  | none => rw [e] at h'; cases h'
  | some y =>
    rw [e] at h'
    cases y with
    | no => cases h'
    | fr d => cases h'
    | ow d => cases h'; exact ⟨rfl, rfl, d, rfl⟩
theorem mut_read {r : V → List V → Hp → VK → Prop} {i : Nat} {f : List D → List D → Option (D × List D)} {m : M (List Vt)} (hp : PM X.K r f) : ∀ σ H Q, rd X.K B W (dMut i f m) σ H Q → tBM X.K "list" r (rd X.K B W (dOwn i)) (rdA X.K B W m) σ H Q := fun σ H Q ⟨sd, F, rp, q⟩ => by
  refine ⟨sd, F, rp, (Pst.bind q).mono fun x0 s0 H0 F0 e0 p0 rp0 h0 v0 hv0 => ?_⟩
  obtain ⟨rfl, rfl, d, e1⟩ := own_inv e0
  obtain ⟨a, z1, ⟨o, z2, z3⟩, z4, z5⟩ := rp0.ow i d e1
  have hv1 := hv0.1
  rw [z1] at hv1; cases hv1
  have hd : ∃ vs, o = .lst vs := by
    cases o <;> cases d <;> first
      | exact ⟨_, rfl⟩
      | exact z3.elim
  obtain ⟨vs, rfl⟩ := hd
  refine ⟨Or.inl ⟨rfl, _, SqL.of z2⟩, _, F0, rp0, (Pst.bind h0).mono fun xs s1 H1 F1 _ p1 rp1 h1 ws hws => ?_⟩
  unfold mutS at h1
  split at h1
  · rename_i as xs' h2 h3
    obtain ⟨b, w1, ⟨o2, w2, w3⟩, w4, w5⟩ := rp1.ow i _ h3
    rw [z1] at w1; cases w1
    obtain ⟨vs2, rfl, w3⟩ := w3.list
    have dws := frs_ok hws h2
    cases ef : f xs' as with
    | none => rw [ef] at h1; exact h1.elim
    | some zy =>
      obtain ⟨z, ys⟩ := zy
      rw [ef] at h1
      refine hp H1 F1 _ vs2 xs' ws as z ys Q w2 w3 dws ef fun v us hv hus => ?_
      obtain ⟨r2, t2⟩ := rep_mut (o' := .lst us) (d' := .list ys) rp1 h3 z1 hus
      exact h1 _ F1 t2 r2 v hv
  · exact h1.elim
def mAppend : List D → List D → Option (D × List D)
  | xs, [d] => if xs.length < sizeLine then some (.none, xs ++ [d]) else none
  | _, _ => none
theorem m_append {K : PySem.W.Frag} : PM K rAppend mAppend := by
  intro H F a vs xs ws as z ys Q hH h1 h2 e q
  unfold mAppend at e
  split at e
  · obtain ⟨hc, e⟩ := ite_some e
    cases e
    cases h2 with
    | cons h2 h3 =>
      cases h3
      exact ⟨a, vs, _, rfl, rfl, hH, by rw [h1.length]; exact hc, q _ _ .non (h1.append (.cons h2 .nil))⟩
  · cases e
def mPop : List D → List D → Option (D × List D)
  | xs, [] => (xs[xs.length - 1]?).map fun d => (d, xs.dropLast)
  | _, _ => none
theorem _root_.L2.DpAll.dropLast {K : PySem.W.Frag} {F : Hp} : ∀ {vs : List V} {ds : List D}, DpAll K F vs ds → DpAll K F vs.dropLast ds.dropLast
  | _, _, .nil => .nil
  | _, _, .cons h .nil => .nil
  | _, _, .cons h (.cons k t) => .cons h (DpAll.dropLast (.cons k t))
theorem m_pop {K : PySem.W.Frag} : PM K rPop mPop := by
  intro H F a vs xs ws as z ys Q hH h1 h2 e q
  unfold mPop at e
  split at e
  · obtain ⟨d, hd, e⟩ := Option.map_eq_some_iff.mp e
    cases e
    cases h2
    obtain ⟨v, e1, e2⟩ := h1.get hd
    exact ⟨a, vs, v, rfl, rfl, hH, by rw [h1.length]; exact e1, q _ _ e2 h1.dropLast⟩
  · cases e
def mPopAt : List D → List D → Option (D × List D)
  | xs, [.int i] => if -(2 ^ 63) ≤ i ∧ i < 2 ^ 63 then (seqIndex? i xs.length).bind fun k => (xs[k]?).map fun d => (d, xs.eraseIdx k) else none
  | _, _ => none
theorem m_popAt {K : PySem.W.Frag} : PM K rPopAt mPopAt := by
  intro H F a vs xs ws as z ys Q hH h1 h2 e q
  unfold mPopAt at e
  split at e
  · rename_i xs i
    by_cases hc : -(2 ^ 63) ≤ i ∧ i < 2 ^ 63
    · rw [if_pos hc] at e
      obtain ⟨k, hk, e⟩ := Option.bind_eq_some_iff.mp e
      obtain ⟨d, hd, e⟩ := Option.map_eq_some_iff.mp e
      cases e
      cases h2 with
      | cons h2 h3 =>
        cases h3; cases h2
        obtain ⟨v, e1, e2⟩ := h1.get hd
        exact ⟨a, vs, i, k, v, rfl, rfl, hH, hc.1, hc.2, by rw [h1.length]; exact hk, e1, q _ _ e2 (h1.erase k)⟩
    · rw [if_neg hc] at e; cases e
  · cases e
/-- x.append(e), x.pop(e): x an own list in slot i -/
theorem zmut1 {r : V → List V → Hp → VK → Prop} {f : List D → List D → Option (D × List D)} {i : Nat} {o e : Expr} {es : List Expr} {name : Str} {id : String} {apos cpos : Pos} {m : M (List Vt)} (hp : PM X.K r f) (slot : Slot "list" name id) (hty : typeOf (.builtin id) = pure (.type "method_descriptor")) (hm : MtR X id r)
    (ho : PE X o (rd X.K B W (dOwn i))) (ha : PA X (e :: es) (rdA X.K B W m)) (hbase : attributeBase o name X.env (eval o X.env) = eval o X.env := by rfl)
    (hfew : ((backTo cpos (starEach (e :: es) X.env)).all (fun x => !x.1) && (backToKw cpos (keywordEach [] X.env)).all (fun x => x.1.isSome)
      && decide ((e :: es).length + ([] : List Keyword).length + (if ([] : List Keyword).isEmpty then 0 else 1) < 30)) = true := by rfl)
    (hline : (apos.endLine == cpos.line) = true := by rfl) (hs : starEach (e :: es) X.env = (false, eval e X.env) :: starEach es X.env := by rfl) (hplain : (backTo cpos (starEach es X.env)).any (·.1) = false := by rfl) :
    PE X (.Call (.Attribute o name apos) (e :: es) [] cpos) (rd X.K B W (dMut i f m)) :=
  (pe_bm PySem.F.plainAttrs_list slot hty hm ho ha hbase hfew hline hs hplain).imp (mut_read hp)
/-- x.pop() -/
theorem zmut0 {r : V → List V → Hp → VK → Prop} {f : List D → List D → Option (D × List D)} {i : Nat} {o : Expr} {name : Str} {id : String} {apos cpos : Pos} (hp : PM X.K r f) (slot : Slot "list" name id) (hty : typeOf (.builtin id) = pure (.type "method_descriptor")) (hm : MtR X id r)
    (ho : PE X o (rd X.K B W (dOwn i))) (hbase : attributeBase o name X.env (eval o X.env) = eval o X.env := by rfl) (hline : (apos.endLine == cpos.line) = true := by rfl) : PE X (.Call (.Attribute o name apos) [] [] cpos) (rd X.K B W (dMut i f dNil)) := by
  refine (pe_bm0 PySem.F.plainAttrs_list slot hty hm ho hbase hline).imp fun σ H Q h => ?_
  have h2 := mut_read hp σ H Q h
  -- the same without arguments
  obtain ⟨sd, F, rp, q⟩ := h2
  refine ⟨sd, F, rp, q.mono fun x s' H' F' _ _ rp' h3 v hv => ?_⟩
  obtain ⟨h4, sd2, F2, rp2, h5⟩ := h3 v hv
  exact ⟨h4, Pst.now h5 rp2 [] .nil⟩
/-! ### x[i] = e, x an own list in slot j -/
def stoS (j : Nat) (x : Vt) (k : Vt) (s : DS) : RS := match x, der k s, s[j]? with
  | .fr d, some (.int i), some (.ow (.list xs)) => (match ixN xs.length i with
    | some n => .nx (s.set j (.ow (.list (xs.set n d))))
    | none => .no)
  | _, _, _ => .no
def sSto (j : Nat) (e : M Vt) (k : M Vt) : MS := fun s => (e s).st fun x s1 => (dOwn j s1).st fun _ s2 => (k s2).st fun y s3 => stoS j x y s3
theorem sto_inv {j : Nat} {x y : Vt} {s : DS} {F : Hp} {Dn : Ends} (h : Pss X.K B W F Dn (stoS j x y s)) : ∃ d i xs n, x = .fr d ∧ der y s = some (.int i) ∧ s[j]? = some (Sl.ow (.list xs)) ∧ ixN xs.length i = some n ∧ Pss X.K B W F Dn (.nx (s.set j (.ow (.list (xs.set n d))))) := by
  cases x with
  | ow d => exact h.elim
  | sl k => exact h.elim
  | fr d =>
    cases e1 : der y s with
    | none => unfold stoS at h; rw [e1] at h; exact h.elim
    | some dy =>
      cases e2 : s[j]? with
      | none => unfold stoS at h; rw [e1, e2] at h; cases dy <;> exact h.elim
      | some z =>
        cases dy with
        | int i =>
          cases z with
          | ow c =>
            cases c with
            | list xs =>
              unfold stoS at h
              rw [e1, e2] at h
              have h' : Pss X.K B W F Dn (match ixN xs.length i with | some n => .nx (s.set j (.ow (.list (xs.set n d)))) | none => .no) := h
              cases e3 : ixN xs.length i with
              | none => rw [e3] at h'; exact h'.elim
              | some n => rw [e3] at h'; exact ⟨d, i, xs, n, rfl, rfl, rfl, e3, h'⟩
            | _ => unfold stoS at h; rw [e1, e2] at h; exact h.elim
          | no => unfold stoS at h; rw [e1, e2] at h; exact h.elim
          | fr c => unfold stoS at h; rw [e1, e2] at h; exact h.elim
        | _ => unfold stoS at h; rw [e1, e2] at h; exact h.elim
theorem zsto {j : Nat} {o ie e : Expr} {pos pos' : Pos} {m k : M Vt} (ho : PE X o (rd X.K B W (dOwn j))) (hi : PE X ie (rd X.K B W k)) (he : PE X e (rd X.K B W m)) (hs : swapsWithSole [.Subscript o ie pos'] e pos.line X.env = pure false := by rfl) (hw : swappedStores [.Subscript o ie pos'] e X.env = pure none := by rfl)
    (h1 : (assignEach [.Subscript o ie pos'] X.env).map (·.2) = [assign (.Subscript o ie pos') X.env] := by rfl)
    (ha : ∀ v, assign (.Subscript o ie pos') X.env v = (do
      let ov ← holding [v] (eval o X.env)
      let iv ← holding [v, ov] (eval ie X.env)
      standAt pos'
      holding [v, ov, iv] (setItem ov iv v)
      release [v, ov, iv] []) := by intro _; rfl) : PS X (.Assign [.Subscript o ie pos'] e pos) (rs X.K B W (sSto j m k)) := by
  refine (ps_asg he (pg_sub ho hi set_list ha) hs hw h1).imp fun Dn σ H ⟨sd, F, rp, q⟩ => ⟨sd, F, rp, ?_⟩
  refine (Pss.st (sd := sd) (σ := σ) (H := H) q).mono fun x s1 H1 F1 _ p1 rp1 h1 v hv => ?_
  refine ⟨s1, F1, rp1, (Pss.st (sd := s1) (σ := σ) (H := H1) h1).mono fun x0 s2 H2 F2 e0 p2 rp2 h2 o' ho' => ?_⟩
  obtain ⟨rfl, rfl, d, e1⟩ := own_inv e0
  refine ⟨_, F2, rp2, (Pss.st (sd := _) (σ := σ) (H := H2) h2).mono fun y s3 H3 F3 _ p3 rp3 h3 i' hi' => ?_⟩
  obtain ⟨dx, n, xs, t, rfl, hk, hj, en, h3⟩ := sto_inv h3
  have w := hi'.vw rp3 hk
  cases w
  obtain ⟨a, z1, ⟨o2, z2, z3⟩, z4, z5⟩ := rp3.ow j _ hj
  have ho1 := ho'.1
  rw [z1] at ho1; cases ho1
  obtain ⟨vs, rfl, z3⟩ := z3.list
  refine ⟨a, vs, n, t, rfl, rfl, z2, by rw [z3.length]; exact en, ?_⟩
  have dv : Dp X.K F3 v dx := dp_mono (p2.f.trans p3.f) hv
  obtain ⟨r4, t4⟩ := rep_mut (o' := .lst (vs.set t v)) (d' := .list (xs.set t dx)) rp3 hj z1 (z3.set dv t)
  exact h3 σ _ F3 r4 .refl
/-! ### x op= e -/
def sAug (i : Nat) (f : D → D → Option Vt) (m : M Vt) : MS := fun s => (dVar i s).st fun x s0 => (m s0).st fun y s1 => (p2 f x y s1).st fun z s2 => putR (putS i s2 z)
theorem zaug (i : Nat) {x : Str} {e : Expr} {op : Operator} {r : R2} {f : D → D → Option Vt} {pos pos' : Pos} {m : M Vt} (hB : Lk B L) (hN : X.N.Nodup) (ho : PIp X op r) (hp : P2 X.K r f) (he : PE X e (rd X.K B W m)) (hi : X.N[i]? = some x := by rfl) (hx : Loc X.env.scope x := by first | exact Or.inl rfl | exact Or.inr rfl) (hl : L.contains i = false := by rfl)
    (hf : X.fn x = true ∨ X.env.scope.names.lookup x = some .local := by first | exact .inl rfl | exact .inr rfl | assumption) : PS X (.AugAssign (.Name x pos') op e pos) (rs X.K B W (sAug i f m)) := by
  refine (ps_aug hN hi hx he ho hf).imp fun Dn σ H ⟨sd, F, rp, q⟩ => ?_
  have q0 : Pss X.K B W F Dn ((varS i sd sd[i]?).st fun x s0 => (m s0).st fun y s1 => (p2 f x y s1).st fun z s2 => putR (putS i s2 z)) := q
  cases e1 : sd[i]? with
  | none => rw [e1] at q0; exact q0.elim
  | some y0 =>
    rw [e1] at q0
    have go : ∀ (x0 : Vt) (v : V), σ[i]? = some (some v) → VtOk X.K B H sd σ H F v x0 → Pss X.K B W F Dn ((m sd).st fun y s1 => (p2 f x0 y s1).st fun z s2 => putR (putS i s2 z)) → tAug i (rd X.K B W m) r Dn σ H := fun x0 v hv hx0 q1 => by
      refine ⟨v, hv, sd, F, rp, (Pss.st (sd := sd) (σ := σ) (H := H) q1).mono fun y s1 H1 F1 _ p1 rp1 h1 u hu => ?_⟩
      have h2 := Pss.st (sd := s1) (σ := σ) (H := H1) h1
      obtain ⟨d, e, z, w1, w2, e3, g⟩ := p2_out (Hs := H) h2 rp1 (hx0.stp p1) hu
      refine hp B s1 σ H1 F1 v u d e z _ rp1 w1 w2 e3 fun v' H' F' p3 rp3 hv' => ?_
      have h3 := g H' F' p3 rp3
      cases ep : putS i s1 z with
      | none => rw [ep] at h3; exact h3.elim
      | some s2 =>
        rw [ep] at h3
        obtain ⟨F2, rp2, fl⟩ := put_ok rp3 (hB.ne hl) hv' ep
        exact h3 _ _ F2 rp2 fl
    cases y0 with
    | no => exact q0.elim
    | fr d =>
      obtain ⟨v, z1, z2⟩ := rp.fr i d e1
      exact go (.fr d) v z1 z2 q0
    | ow d =>
      obtain ⟨a, z1, z2⟩ := rp.ow i d e1
      exact go (.sl i) _ z1 ⟨z1, _, e1, rfl⟩ q0
theorem pip_of {op : Operator} {r : R2} (h : OpR X (inplaceOp op) r) : PIp X op r := h
end
end L2.Zd

set_option Elab.async false
set_option linter.all false
set_option maxRecDepth 100000
set_option maxHeartbeats 2000000
namespace L2.Zd
open PySem PySem.Spec PyProof.Rows

/-! ### the module's constants, read off the written part -/
def all2 {α β : Type} (f : α → β → Bool) : List α → List β → Bool
  | [], [] => true
  | a :: as, b :: bs => f a b && all2 f as bs
  | _, _ => false
def dB (K : PySem.W.Frag) : Nat → Value → D → Bool
  | _, .none, .none => true
  | _, .bool b, .bool c => b == c
  | _, .int i _, .int j => decide (i = j)
  | _, .str x _, .str y => decide (x = y)
  | n + 1, .ref a, .list ds => (match K.lookup a with
    | some ⟨.type c, none, .seq its _, _⟩ => decide (c = "list") && (decide (its.size ≤ sizeLine) && all2 (dB K n) its.toList ds)
    | _ => false)
  | n + 1, .ref a, .tuple ds => (match K.lookup a with
    | some ⟨.type c, _, .seq its _, _⟩ => decide (c = "tuple") && (decide (its.size ≤ sizeLine) && all2 (dB K n) its.toList ds)
    | _ => false)
  | _, _, _ => false
theorem and2 {a b : Bool} (h : (a && b) = true) : a = true ∧ b = true := Bool.and_eq_true_iff.mp h
def DBok (K : PySem.W.Frag) (n : Nat) : Prop := ∀ (u : Value) (d : D), dB K n u d = true → ∃ v, RelV v u ∧ ∀ F, Dp K F v d
theorem all2_ok {K : PySem.W.Frag} {n : Nat} (h : DBok K n) : ∀ {us : List Value} {ds : List D}, all2 (dB K n) us ds = true → ∃ vs, Vals vs us ∧ ∀ F, DpAll K F vs ds
  | [], [], _ => ⟨[], .nil, fun _ => .nil⟩
  | u :: us, d :: ds, e => by
    obtain ⟨h1, h2⟩ := and2 (show (dB K n u d && all2 (dB K n) us ds) = true from e)
    obtain ⟨v, r, q⟩ := h u d h1
    obtain ⟨vs, rs, qs⟩ := all2_ok h h2
    exact ⟨v :: vs, .cons r rs, fun F => .cons (q F) (qs F)⟩
  | [], _ :: _, e => by cases e
  | _ :: _, [], e => by cases e
theorem dB_ok {K : PySem.W.Frag} : ∀ n : Nat, DBok K n := by
  intro n
  induction n with
  | zero =>
    intro u d h
    cases u <;> cases d <;> first
      | exact ⟨.non, rfl, fun _ => .non⟩
      | (rename_i b c
         have e : b = c := eq_of_beq h
         subst e
         exact ⟨.bl b, rfl, fun _ => .bl b⟩)
      | (rename_i i t j
         have e : i = j := of_decide_eq_true h
         subst e
         exact ⟨.int i, ⟨t, rfl⟩, fun _ => .int i⟩)
      | (rename_i i t j
         have e : i = j := of_decide_eq_true h
         subst e
         exact ⟨.str i, ⟨t, rfl⟩, fun _ => .str i⟩)
      | cases h
  | succ n ih =>
    intro u d h
    cases d with
    | none => cases u <;> first | exact ⟨.non, rfl, fun _ => .non⟩ | cases h
    | bool c =>
      cases u <;> first
        | (rename_i b
           have e : b = c := eq_of_beq h
           subst e
           exact ⟨.bl b, rfl, fun _ => .bl b⟩)
        | cases h
    | int j =>
      cases u <;> first
        | (rename_i i t
           have e : i = j := of_decide_eq_true h
           subst e
           exact ⟨.int i, ⟨t, rfl⟩, fun _ => .int i⟩)
        | cases h
    | str y =>
      cases u <;> first
        | (rename_i x t
           have e : x = y := of_decide_eq_true h
           subst e
           exact ⟨.str x, ⟨t, rfl⟩, fun _ => .str x⟩)
        | cases h
    | dict kvs => cases u <;> cases h
    | list ds =>
      cases u with
      | ref a =>
        have h' : (match K.lookup a with | some ⟨.type c, none, .seq its _, _⟩ => decide (c = "list") && (decide (its.size ≤ sizeLine) && all2 (dB K n) its.toList ds) | _ => false) = true := h
        cases q : K.lookup a with
        | none => rw [q] at h'; cases h'
        | some o =>
          obtain ⟨oc, od, dt, osl⟩ := o
          rw [q] at h'
          cases oc with
          | type c =>
            cases od with
            | none =>
              cases dt with
              | seq its m =>
                obtain ⟨h1, h2⟩ := and2 h'
                obtain ⟨h3, h4⟩ := and2 h2
                obtain ⟨vs, r, qs⟩ := all2_ok ih h4
                exact ⟨.ref a, rfl, fun F => .lst (.inr ⟨_, its, m, q, congrArg Value.type (of_decide_eq_true h1), rfl, rfl, of_decide_eq_true h3, r⟩) (qs F)⟩
              | _ => cases h'
            | some d => cases dt <;> cases h'
          | _ => cases od <;> cases dt <;> cases h'
      | _ => cases h
    | tuple ds =>
      cases u with
      | ref a =>
        have h' : (match K.lookup a with | some ⟨.type c, _, .seq its _, _⟩ => decide (c = "tuple") && (decide (its.size ≤ sizeLine) && all2 (dB K n) its.toList ds) | _ => false) = true := h
        cases q : K.lookup a with
        | none => rw [q] at h'; cases h'
        | some o =>
          obtain ⟨oc, od, dt, osl⟩ := o
          rw [q] at h'
          cases oc with
          | type c =>
            cases dt with
            | seq its m =>
              obtain ⟨h1, h2⟩ := and2 h'
              obtain ⟨h3, h4⟩ := and2 h2
              obtain ⟨vs, r, qs⟩ := all2_ok ih h4
              exact ⟨.ref a, rfl, fun F => .tup (.inr ⟨_, its, m, q, congrArg Value.type (of_decide_eq_true h1), rfl, of_decide_eq_true h3, r⟩) (qs F)⟩
            | _ => cases h'
          | _ => cases dt <;> cases h'
      | _ => cases h
/-- the module's name x is the datum d -/
def conB (K : PySem.W.Frag) (x : Str) (d : D) : Bool := match PySem.W.nsIn K mainGlobals x with
  | some (some u) => dB K 8 u d
  | _ => false
/-- the module's name x as a constant -/
structure CstOk (K : PySem.W.Frag) (mg : Str → Option Value) (x : Str) (d : D) : Prop where
  ex : ∃ v u, mg x = some u ∧ RelV v u ∧ ∀ F, Dp K F v d
theorem conB_ok {K : PySem.W.Frag} {h : Heap} {mg : Str → Option Value} (X : K.In h) (G : h.Ns mainGlobals mg) {x : Str} {d : D} (c : conB K x d = true) : CstOk K mg x d := by
  unfold conB at c
  cases e : PySem.W.nsIn K mainGlobals x with
  | none => rw [e] at c; cases c
  | some o =>
    rw [e] at c
    cases o with
    | none => cases c
    | some u =>
      obtain ⟨v, r, q⟩ := dB_ok 8 u d c
      exact ⟨v, u, PySem.W.mg_of X G e, r, q⟩
theorem zcst {X : Cx} {B : By} {W : WX'} {x : Str} {d : D} {pos : Pos} (h : CstOk X.K X.mg x d) (hg : Gl X x := by rfl) (hd : (x == ("__debug__" : Str)) = false := by decide) : PE X (.Name x pos) (rd X.K B W (dC d)) := by
  obtain ⟨v, u, h1, h2, h3⟩ := h.ex
  exact zglob hg ⟨u, h1, h2⟩ h3 hd

/-! ### the head's facts -/
abbrev AlZ : Type := He.AlD × Bool
def obsZ (n : Nat) (fa : List He.Fa) (fn : List He.DefD) (cs : List (Str × D)) (g : Addr → Option Obj) : AlZ := (He.obsD fa fn (He.frG g (He.asD g n)), cs.all fun c => conB (He.frG g (He.asD g n)) c.1 c.2)
/-- what the end leans on -/
structure SaysZ (fa : List He.Fa) (fn : List He.DefD) (cs : List (Str × D)) (K : PySem.W.Frag) : Prop where
  d : He.SaysD fa fn K
  c : (cs.all fun c => conB K c.1 c.2) = true
def hookZ (n : Nat) (fa : List He.Fa) (fn : List He.DefD) (cs : List (Str × D)) : PySem.W.Hook where
  α := AlZ
  obs := fun s => obsZ n fa fn cs s.heap.get?
  val := fun _ => (He.valD fn, true)
  says := fun _ h => ∃ K : PySem.W.Frag, K.In h ∧ SaysZ fa fn cs K
  of := fun _ _ e => ⟨_, He.frG_in, ⟨congrArg Prod.fst e, congrArg Prod.snd e⟩⟩
  keeps := fun _ _ _ ⟨K, hK, c⟩ k => ⟨K, hK.keeps k, c⟩
theorem obsZ_eq {n : Nat} {fa : List He.Fa} {fn : List He.DefD} {cs : List (Str × D)} {g : Addr → Option Obj} {s : Shared} (h : ∀ a, g a = s.heap.get? a) : obsZ n fa fn cs g = (hookZ n fa fn cs).obs s := by
  rw [show g = s.heap.get? from funext h] <;> rfl
theorem SaysZ.cst {fa : List He.Fa} {fn : List He.DefD} {cs : List (Str × D)} {K : PySem.W.Frag} {h : Heap} {mg : Str → Option Value} (c : SaysZ fa fn cs K) (X : K.In h) (G : h.Ns mainGlobals mg) (i : Nat) {x : Str} {d : D} (e : cs[i]? = some (x, d) := by rfl) : CstOk K mg x d :=
  conB_ok X G (List.all_eq_true.mp c.c (x, d) (List.mem_of_getElem? e))
/-- the end: the law's mirror says True of each script -/
theorem law_sp {K : PySem.W.Frag} {H : Hp} {a : Addr} {ns : List Int} {fm : FM} {outs : List D} (hS : SqL K H a (ns.map V.int)) (e : fm [.list (ns.map PyData.int)] = .ok false (.bool true) outs) : spOf K [false] fm [.ref a] H (fun v _ => v = .bl true) fun _ _ _ => False := by
  have dd : ∀ ns : List Int, DpAll K H (ns.map V.int) (ns.map PyData.int) := fun ns => by
    induction ns with
    | nil => exact .nil
    | cons n ns ih => exact .cons (.int n) ih
  refine ⟨H, [.list (ns.map PyData.int)], [], .refl, .fr (.lst hS (dd ns)) .nil, ?_⟩
  rw [e]
  intro v H' F' _ hv
  cases hv
  rfl
end L2.Zd

set_option Elab.async false
set_option linter.all false
set_option maxRecDepth 100000
set_option maxHeartbeats 2000000
namespace L2.Zd
open PySem PySem.Spec PyProof.Rows

/-! ### isinstance(x, T) -/
def tyN : D → String
  | .none => "NoneType"
  | .bool _ => "bool"
  | .int _ => "int"
  | .str _ => "str"
  | .list _ => "list"
  | .tuple _ => "tuple"
  | .dict _ => "dict"
theorem tyX_of {K : PySem.W.Frag} {H F : Hp} {v : V} {d : D} (le : FL F H) (h : Vw K H F v d) : TyX K H v (.type (tyN d)) := by
  cases d with
  | none => cases (show v = .non from h); exact .base .non
  | bool b => cases (show v = .bl b from h); exact .base (.bl b)
  | int i => cases (show v = .int i from h); exact .base (.int i)
  | str s => cases (show v = .str s from h); exact .base (.str s)
  | list ds =>
    obtain ⟨a, vs, rfl, h1, _⟩ := h
    rcases h1 with (h1 | ⟨o, h1⟩) | ⟨o, its, n, h1, h2, _⟩
    · exact .base (.lst h1)
    · exact .base (.frz h1)
    · exact .kList h1 h2
  | tuple ds =>
    obtain ⟨a, vs, rfl, h1, _⟩ := h
    rcases le.sqT h1 with (h1 | ⟨o, h1⟩) | ⟨o, its, n, h1, h2, _⟩
    · exact .base (.tup h1)
    · exact .fTuple h1
    · exact .kTuple h1 h2
  | dict _ => exact h.elim
def isiD (T : String) (d : D) : Option Bool := kitB (tyN d) T
theorem kit_n_s : kitB "NoneType" "str" = some false := by decide +kernel
theorem kit_n_i : kitB "NoneType" "int" = some false := by decide +kernel
theorem kit_n_t : kitB "NoneType" "tuple" = some false := by decide +kernel
theorem kit_n_b : kitB "NoneType" "bool" = some false := by decide +kernel
theorem kit_n_l : kitB "NoneType" "list" = some false := by decide +kernel
theorem kit_b_s : kitB "bool" "str" = some false := by decide +kernel
theorem kit_b_i : kitB "bool" "int" = some true := by decide +kernel
theorem kit_b_t : kitB "bool" "tuple" = some false := by decide +kernel
theorem kit_b_b : kitB "bool" "bool" = some true := by decide +kernel
theorem kit_b_l : kitB "bool" "list" = some false := by decide +kernel
theorem kit_i_s : kitB "int" "str" = some false := by decide +kernel
theorem kit_i_i : kitB "int" "int" = some true := by decide +kernel
theorem kit_i_t : kitB "int" "tuple" = some false := by decide +kernel
theorem kit_i_b : kitB "int" "bool" = some false := by decide +kernel
theorem kit_i_l : kitB "int" "list" = some false := by decide +kernel
theorem kit_s_s : kitB "str" "str" = some true := by decide +kernel
theorem kit_s_i : kitB "str" "int" = some false := by decide +kernel
theorem kit_s_t : kitB "str" "tuple" = some false := by decide +kernel
theorem kit_s_b : kitB "str" "bool" = some false := by decide +kernel
theorem kit_s_l : kitB "str" "list" = some false := by decide +kernel
theorem kit_l_s : kitB "list" "str" = some false := by decide +kernel
theorem kit_l_i : kitB "list" "int" = some false := by decide +kernel
theorem kit_l_t : kitB "list" "tuple" = some false := by decide +kernel
theorem kit_l_b : kitB "list" "bool" = some false := by decide +kernel
theorem kit_l_l : kitB "list" "list" = some true := by decide +kernel
theorem kit_t_s : kitB "tuple" "str" = some false := by decide +kernel
theorem kit_t_i : kitB "tuple" "int" = some false := by decide +kernel
theorem kit_t_t : kitB "tuple" "tuple" = some true := by decide +kernel
theorem kit_t_b : kitB "tuple" "bool" = some false := by decide +kernel
theorem kit_t_l : kitB "tuple" "list" = some false := by decide +kernel
def boolS (s : DS) : Option Bool → R Vt
  | some b => .ok (.fr (.bool b)) s
  | none => .no
def dIsi (T : String) (m : M Vt) : M Vt := fun s => (m s).bind fun x s1 => boolS s1 ((der x s1).bind (isiD T))
section
variable {X : Cx} {B : By} {W : WX'} {L : List Nat}
theorem zisi {T : Str} {n : String} {p q pos : Pos} {e : Expr} {m : M Vt} (mi : X.mg "isinstance" = none) (mT : X.mg T = none) (hT : bootBuiltins T = some (.type n)) (he : PE X e (rd X.K B W m)) (gi : Gl X "isinstance" := by rfl) (gT : Gl X T := by rfl) (nT : T ≠ "__name__" := by decide) (dT : (T == ("__debug__" : Str)) = false := by decide)
    (h1 : starEach [e, .Name T q] X.env = (false, eval e X.env) :: starEach [.Name T q] X.env := by rfl) (h2 : starEach [.Name T q] X.env = (false, eval (.Name T q) X.env) :: starEach [] X.env := by rfl) (h3 : (backTo pos (starEach [.Name T q] X.env)).any (·.1) = false := by rfl) :
    PE X (.Call (.Name "isinstance" p) [e, .Name T q] [] pos) (rd X.K B W (dIsi n m)) := by
  refine (pe_callB call_isi gi mi boot_isinstance (pa_cons he (pa_cons (pe_bltn (v := .ty n) gT mT hT rfl nT dT) pa_nil h2) h1) (by decide) (by decide) h1 h3).imp fun σ H Q ⟨sd, F, rp, w⟩ => ?_
  refine ⟨sd, F, rp, (Pst.bind w).mono fun x s1 H1 F1 _ p1 rp1 h4 v hv => ?_⟩
  cases e1 : der x s1 with
  | none => rw [e1] at h4; exact h4.elim
  | some d =>
    rw [e1] at h4
    have h5 : Pst X.K B W s1 σ H1 F1 (boolS s1 (isiD n d)) _ := h4
    cases e2 : isiD n d with
    | none => rw [e2] at h5; exact h5.elim
    | some b =>
      rw [e2] at h5
      exact ⟨v, .ty n, _, _, b, rfl, .ty n, tyX_of rp1.le (hv.vw rp1 e1), kit_ty e2, Pst.now h5 rp1 _ (.bl b)⟩
/-! ### list(range(n)) -/
def lrgS (s : DS) : Option D → R Vt
  | some (.int n) => if -(2 ^ 62) ≤ n ∧ n < 2 ^ 62 ∧ n.toNat ≤ 2 ^ 24 then .ok (.ow (.list (rng 0 n.toNat))) s else .no
  | _ => .no
def dLRng (m : M Vt) : M Vt := fun s => (m s).bind fun x s1 => lrgS s1 (der x s1)
theorem dpAll_rng {K : PySem.W.Frag} {F : Hp} (n : Nat) : DpAll K F ((List.range n).map fun i => V.int (0 + (i : Nat))) (rng 0 n) := by
  unfold rng
  generalize List.range n = l
  induction l with
  | nil => exact .nil
  | cons a l ih => exact .cons (.int _) ih
theorem zlrng {a : Expr} {p q pos pos' : Pos} {m : M Vt} (hc : X.calm = true) (ml : X.mg "list" = none) (mr : X.mg "range" = none) (ha : PE X a (rd X.K B W m)) (gl : Gl X "list" := by rfl) (gr : Gl X "range" := by rfl) (na : starEach [a] X.env = (false, eval a X.env) :: starEach [] X.env := by rfl)
    (nb : starEach [.Call (.Name "range" p) [a] [] pos] X.env = (false, eval (.Call (.Name "range" p) [a] [] pos) X.env) :: starEach [] X.env := by rfl) : PE X (.Call (.Name "list" q) [.Call (.Name "range" p) [a] [] pos] [] pos') (rd X.K B W (dLRng m)) := by
  refine (pe_listRg hc gl ml (prg_1 gr mr ha na) nb).imp fun σ H Q ⟨sd, F, rp, w⟩ => ?_
  refine ⟨sd, F, rp, (Pst.bind w).mono fun x s1 H1 F1 _ p1 rp1 h1 v hv => ?_⟩
  cases e : der x s1 with
  | none => rw [e] at h1; exact h1.elim
  | some d =>
    rw [e] at h1
    cases d with
    | int n =>
      have h2 : Pst X.K B W s1 σ H1 F1 (if -(2 ^ 62) ≤ n ∧ n < 2 ^ 62 ∧ n.toNat ≤ 2 ^ 24 then R.ok (Vt.ow (PyData.list (rng 0 n.toNat))) s1 else R.no) _ := h1
      by_cases hn : -(2 ^ 62) ≤ n ∧ n < 2 ^ 62 ∧ n.toNat ≤ 2 ^ 24
      · rw [if_pos hn] at h2
        have wv := hv.vw rp1 e
        cases wv
        refine ⟨n, rfl, ⟨by omega, by omega, hn.1, hn.2.1, by rw [Int.sub_zero]; exact hn.2.2⟩, fun p hp => ?_⟩
        have e3 : rgV 0 n = (List.range n.toNat).map fun i => V.int (0 + (i : Nat)) := by unfold rgV; rw [Int.sub_zero]
        rw [e3]
        exact Res.lst (Q := Q) rp1 (fun v' H' F' p4 rp4 hv' => h2 H' F' p4 rp4 v' (hv'.back fun a => p1.fresh)) (dpAll_rng _) p hp
      · rw [if_neg hn] at h2; exact h2.elim
    | _ => exact h1.elim
/-! ### methods of texts with one argument -/
def strG {α : Type} (o : Option D) (r : R α) : R α := match o with
  | some (.str _) => r
  | _ => .no
def dStr1 (f : D → D → Option Vt) (m k : M Vt) : M Vt := fun s => (m s).bind fun x s1 => strG (der x s1) ((k s1).bind fun y s2 => p2 f x y s2)
def PS1 (K : PySem.W.Frag) (r : V → List V → Hp → VK → Prop) (f : D → D → Option Vt) : Prop := P2 K (fun x y H Q => r x [y] H Q) f
theorem zstr1 {id : String} {name : Str} {apos pos : Pos} {r : V → List V → Hp → VK → Prop} {f : D → D → Option Vt} {o e : Expr} {m k : M Vt} (hp : PS1 X.K r f) (slot : Slot "str" name id) (ty : typeOf (.builtin id) = pure (.type "method_descriptor")) (rule : MtR X id r) (ho : PE X o (rd X.K B W m)) (he : PE X e (rd X.K B W k))
    (hs : starEach [e] X.env = [(false, eval e X.env)] := by rfl) (hbase : attributeBase o name X.env (eval o X.env) = eval o X.env := by rfl) (hline : (apos.endLine == pos.line) = true := by rfl) : PE X (.Call (.Attribute o name apos) [e] [] pos) (rd X.K B W (dStr1 f m k)) := by
  refine (pe_m1 slot ty rule ho he hs hbase hline).imp fun σ H Q ⟨sd, F, rp, w⟩ => ?_
  refine ⟨sd, F, rp, (Pst.bind w).mono fun x s1 H1 F1 _ p1 rp1 h1 v hv => ?_⟩
  cases e1 : der x s1 with
  | none => rw [e1] at h1; exact h1.elim
  | some d =>
    rw [e1] at h1
    cases d with
    | str z =>
      have wv := hv.vw rp1 e1
      cases wv
      refine ⟨⟨z, rfl⟩, s1, F1, rp1, (Pst.bind (show Pst X.K B W s1 σ H1 F1 ((k s1).bind fun y s2 => p2 f x y s2) _ from h1)).mono fun y s2 H2 F2 _ p2 rp2 h2 u hu => ?_⟩
      obtain ⟨d, e, z', w1, w2, e3, q⟩ := p2_out (Hs := H) h2 rp2 (hv.stp p2) (hu.back fun a => p1.fresh)
      exact hp B s2 σ H2 F2 _ u d e z' Q rp2 w1 w2 e3 fun v' H' F' p3 rp3 hv' => q H' F' p3 rp3 v' (hv'.back fun a hn => p1.fresh (p2.fresh hn))
    | _ => exact h1.elim
end
section
variable {K : PySem.W.Frag}
def pSplit : D → D → Option Vt
  | .str a, .str b => if (b.length == 0) = false ∧ a.length + 2 ≤ sizeLine then some (.ow (.list ((Txt.split a b).map .str))) else none
  | _, _ => none
theorem dpAll_strs {F : Hp} : ∀ ys : List Str, DpAll K F (ys.map V.str) (ys.map PyData.str)
  | [] => .nil
  | y :: ys => .cons (.str y) (dpAll_strs ys)
theorem p_split : PS1 K (fun x xs H Q => ∃ a b, x = .str a ∧ xs = [.str b] ∧ (b.length == 0) = false ∧ a.length + 2 ≤ sizeLine ∧ rNewStrs (Txt.split a b) H Q) pSplit := by
  intro B s σ H F v u d e z Q rp hv hu he q
  unfold pSplit at he
  split at he
  · obtain ⟨⟨h1, h2⟩, rfl⟩ := ite_some he
    cases hv; cases hu
    exact ⟨_, _, rfl, rfl, h1, h2, fun p hp => q.lst rp (dpAll_strs _) p hp⟩
  · cases he
def mInsert : List D → List D → Option (D × List D)
  | xs, [.int i, d] => if xs.length < sizeLine ∧ 0 ≤ i ∧ i < 2 ^ 63 then some (.none, xs.take i.toNat ++ [d] ++ xs.drop i.toNat) else none
  | _, _ => none
theorem m_insert : PM K (fun x vs H Q => ∃ (l : Addr) (xs : List V) (i : Int) (y : V), x = .ref l ∧ vs = [.int i, y] ∧ H l = some (.lst xs) ∧ xs.length < sizeLine ∧ 0 ≤ i ∧ i < 2 ^ 63 ∧
    Q .non (upd H l (.lst (xs.take i.toNat ++ [y] ++ xs.drop i.toNat)))) mInsert := by
  intro H F a vs xs ws as z ys Q hH h1 h2 e q
  unfold mInsert at e
  split at e
  · obtain ⟨⟨c1, c2, c3⟩, e⟩ := ite_some e
    cases e
    cases h2 with
    | cons h2 h3 =>
      cases h2
      cases h3 with
      | cons h3 h4 =>
        cases h4
        exact ⟨a, vs, _, _, rfl, rfl, hH, by rw [h1.length]; exact c1, c2, c3, q _ _ .non (((h1.take _).append (.cons h3 .nil)).append (h1.drop _))⟩
  · cases e
end
end L2.Zd

set_option Elab.async false
set_option linter.all false
set_option maxRecDepth 100000
set_option maxHeartbeats 2000000
namespace L2.Zd
open PySem PySem.Spec PyProof.Rows
theorem z_boot_abs : bootBuiltins "abs" = some (.builtin "abs") := by decide +kernel
theorem units65 {k : Nat} {A : Around} (r : Room k A) : A.units + 65 < cLine := by have := r.un; omega
def pIAdd : D → D → Option Vt
  | .int i, .int j => some (.fr (.int (i + j)))
  | _, _ => none
theorem p_iadd {K : PySem.W.Frag} : P2 K (rI0 fun i j => .int (i + j)) pIAdd := by
  intro B s σ H F v u d e z Q rp hv hu he q
  unfold pIAdd at he
  split at he
  · cases he; cases hv; cases hu
    exact ⟨_, _, rfl, rfl, q.val rp (.int _)⟩
  · cases he
/-! ### comparisons as tests -/
def tbS (s : DS) : Vt → R Bool
  | .fr (.bool b) => .ok b s
  | _ => .no
def dTb (m : M Vt) : M Bool := fun s => (m s).bind fun x s1 => tbS s1 x
section
variable {X : Cx} {B : By} {W : WX'}
theorem rd_tb {m : M Vt} : ∀ σ H Q, rdT X.K B W (dTb m) σ H Q → tTest (rd X.K B W m) σ H Q := fun σ H Q ⟨sd, F, rp, q⟩ => by
  refine ⟨sd, F, rp, (Pst.bind q).mono fun x s1 H1 F1 _ p1 rp1 h1 v hv => ?_⟩
  cases x with
  | fr d =>
    cases d with
    | bool b =>
      have dd : Dp X.K F1 v (.bool b) := hv
      cases dd
      exact ⟨b, rfl, Pst.now (show Pst X.K B W s1 σ H1 F1 (.ok b s1) _ from h1) rp1⟩
    | _ => exact h1.elim
  | ow d => exact h1.elim
  | sl i => exact h1.elim
theorem ztc {a b : Expr} {op : CmpOp} {r : R2} {f : D → D → Option Vt} {ma mb : M Vt} {pos : Pos} (ho : OpR X (compareOp op) r) (hp : P2 X.K r f) (ha : PE X a (rd X.K B W ma)) (hb : PE X b (rd X.K B W mb)) (hm : behindInMarks op b = false := by rfl) :
    PT X (.Compare a [op] [b] pos) (rdT X.K B W (dTb (dOp2 f ma mb))) := (pt_cmpR ho ha hb hm).imp fun σ H Q h => by
  obtain ⟨sd, F, rp, q⟩ := rd_tb σ H Q h
  exact rd_op2 hp σ H _ ⟨sd, F, rp, q⟩
end
end L2.Zd

set_option Elab.async false
set_option linter.all false
set_option maxRecDepth 100000
set_option maxHeartbeats 2000000
/-! What a mirror comes to: promises about its end, as equations that simp runs. -/
namespace L2.Zd
open PySem PySem.Spec PyProof.Rows

def OptP {α : Type} (o : Option α) (P : α → Prop) : Prop := match o with
  | some a => P a
  | none => False
def WpR {α : Type} (r : R α) (P : α → DS → Prop) : Prop := match r with
  | .ok a s => P a s
  | _ => False
def Wp {α : Type} (m : M α) (s : DS) (P : α → DS → Prop) : Prop := WpR (m s) P
def Ws (m : MS) (s : DS) (N : DS → Prop) (T : Vt → DS → Prop) (B C : DS → Prop) : Prop := match m s with
  | .nx s' => N s'
  | .rt x s' => T x s'
  | .bk s' => B s'
  | .ct s' => C s'
  | _ => False
def FnP (fm : FM) (ds : List D) (Q : Bool → D → List D → Prop) : Prop := match fm ds with
  | .ok b d outs => Q b d outs
  | _ => False
def BoolW (k : Bool) (A B : Prop) : Prop := match k with
  | true => A
  | false => B
theorem OptP_some {α : Type} (a : α) (P : α → Prop) : OptP (some a) P = P a := rfl
theorem OptP_none {α : Type} (P : α → Prop) : OptP none P = False := rfl
theorem OptP_ite {α : Type} {c : Prop} [Decidable c] (a : α) (P : α → Prop) : OptP (if c then some a else none) P = (c ∧ P a) := by
  by_cases h : c <;> simp [h, OptP]
theorem OptP_map {α β : Type} (f : α → β) (o : Option α) (P : β → Prop) : OptP (o.map f) P = OptP o fun a => P (f a) := by cases o <;> rfl
theorem OptP_bind {α β : Type} (f : α → Option β) (o : Option α) (P : β → Prop) : OptP (o.bind f) P = OptP o fun a => OptP (f a) P := by cases o <;> rfl
theorem BoolW_t (A B : Prop) : BoolW true A B = A := rfl
theorem BoolW_f (A B : Prop) : BoolW false A B = B := rfl
theorem BoolW_not (k : Bool) (A B : Prop) : BoolW (!k) A B = BoolW k B A := by cases k <;> rfl
theorem BoolW_and (k l : Bool) (A B : Prop) : BoolW (k && l) A B = BoolW k (BoolW l A B) B := by cases k <;> rfl
theorem BoolW_or (k l : Bool) (A B : Prop) : BoolW (k || l) A B = BoolW k A (BoolW l A B) := by cases k <;> rfl
theorem BoolW_dec {p : Prop} {dp : Decidable p} {A B : Prop} (a : p → A) (b : ¬ p → B) : BoolW (decide p) A B := by
  by_cases h : p
  · rw [decide_eq_true h]; exact a h
  · rw [decide_eq_false h]; exact b h
theorem BoolW_any {k : Bool} {A B : Prop} (a : k = true → A) (b : k = false → B) : BoolW k A B := by
  cases k
  · exact b rfl
  · exact a rfl
theorem Wp_bindR {α β : Type} (r : R α) (k : α → DS → R β) (P : β → DS → Prop) : WpR (r.bind k) P = WpR r fun a s => WpR (k a s) P := by cases r <;> rfl
theorem Wp_mono {α : Type} {m : M α} {s : DS} {P P' : α → DS → Prop} (h : Wp m s P) (f : ∀ a s', P a s' → P' a s') : Wp m s P' := by
  unfold Wp WpR at h ⊢
  cases e : m s with
  | ok a s' => rw [e] at h; exact f a s' h
  | er x s' => rw [e] at h; exact h
  | no => rw [e] at h; exact h

/-! ### values -/
theorem der_fr (d : D) (s : DS) : der (.fr d) s = some d := rfl
theorem der_ow (d : D) (s : DS) : der (.ow d) s = some d := rfl
theorem der_sl (i : Nat) (s : DS) : der (.sl i) s = (s[i]?).bind Sl.d := rfl
theorem sld_fr (d : D) : Sl.d (.fr d) = some d := rfl
theorem sld_ow (d : D) : Sl.d (.ow d) = some d := rfl
theorem frz_fr (d : D) (s : DS) : frz (.fr d) s = some (d, s) := rfl
theorem frz_ow (d : D) (s : DS) : frz (.ow d) s = some (d, s) := rfl
theorem frz_sl (i : Nat) (s : DS) : frz (.sl i) s = frzS i s s[i]? := rfl
theorem frzS_fr (i : Nat) (d : D) (s : DS) : frzS i s (some (.fr d)) = some (d, s) := rfl
theorem frzS_ow (i : Nat) (d : D) (s : DS) : frzS i s (some (.ow d)) = some (d, s.set i (.fr d)) := rfl
theorem frs'_nil : frs' [] = some [] := rfl
theorem frs'_fr (d : D) (xs : List Vt) : frs' (.fr d :: xs) = (frs' xs).map (d :: ·) := rfl
theorem ders_nil (s : DS) : ders [] s = some [] := rfl
theorem ders_cons (x : Vt) (xs : List Vt) (s : DS) : ders (x :: xs) s = (der x s).bind fun d => (ders xs s).map (d :: ·) := by
  show (match der x s, ders xs s with | some d, some ds => some (d :: ds) | _, _ => none) = _
  cases der x s <;> cases ders xs s <;> rfl
/-! ### expressions -/
def VarW (i : Nat) (s : DS) (o : Option Sl) (P : Vt → DS → Prop) : Prop := match o with
  | some (.fr d) => P (.fr d) s
  | some (.ow _) => P (.sl i) s
  | _ => False
theorem VarW_fr (i : Nat) (s : DS) (d : D) (P : Vt → DS → Prop) : VarW i s (some (.fr d)) P = P (.fr d) s := rfl
theorem VarW_ow (i : Nat) (s : DS) (d : D) (P : Vt → DS → Prop) : VarW i s (some (.ow d)) P = P (.sl i) s := rfl
theorem w_var (i : Nat) (s : DS) (P : Vt → DS → Prop) : Wp (dVar i) s P = VarW i s s[i]? P := by
  show WpR (varS i s s[i]?) P = _
  generalize s[i]? = o
  cases o with
  | none => rfl
  | some x => cases x <;> rfl
def OwnW (i : Nat) (s : DS) (o : Option Sl) (P : Vt → DS → Prop) : Prop := match o with
  | some (.ow _) => P (.sl i) s
  | _ => False
theorem OwnW_ow (i : Nat) (s : DS) (d : D) (P : Vt → DS → Prop) : OwnW i s (some (.ow d)) P = P (.sl i) s := rfl
theorem w_own (i : Nat) (s : DS) (P : Vt → DS → Prop) : Wp (dOwn i) s P = OwnW i s s[i]? P := by
  show WpR (ownS i s s[i]?) P = _
  generalize s[i]? = o
  cases o with
  | none => rfl
  | some x => cases x <;> rfl
theorem w_C (d : D) (s : DS) (P : Vt → DS → Prop) : Wp (dC d) s P = P (.fr d) s := rfl
def P2W (f : D → D → Option Vt) (o p : Option D) (P : Vt → Prop) : Prop := match o, p with
  | some d, some e => OptP (f d e) P
  | _, _ => False
theorem P2W_ss (f : D → D → Option Vt) (d e : D) (P : Vt → Prop) : P2W f (some d) (some e) P = OptP (f d e) P := rfl
theorem w_p2 (f : D → D → Option Vt) (x y : Vt) (s : DS) (P : Vt → DS → Prop) : WpR (p2 f x y s) P = P2W f (der x s) (der y s) fun z => P z s := by
  unfold p2 P2W
  cases der x s with
  | none => rfl
  | some d =>
    cases der y s with
    | none => rfl
    | some e => show WpR (match f d e with | some z => .ok z s | none => .no) P = OptP (f d e) _; cases f d e <;> rfl
theorem w_op2 (f : D → D → Option Vt) (a b : M Vt) (s : DS) (P : Vt → DS → Prop) : Wp (dOp2 f a b) s P = Wp a s fun x s1 => Wp b s1 fun y s2 => P2W f (der x s2) (der y s2) fun z => P z s2 := by
  unfold Wp dOp2
  rw [Wp_bindR]
  congr 1; funext x s1
  rw [Wp_bindR]
  congr 1; funext y s2
  exact w_p2 f x y s2 P
theorem w_p1s (f : D → Option Vt) (x : Vt) (s : DS) (P : Vt → DS → Prop) : WpR (p1s f x s) P = OptP ((der x s).bind f) fun z => P z s := by
  unfold p1s
  cases der x s with
  | none => rfl
  | some d => show WpR (match f d with | some z => .ok z s | none => .no) P = OptP (f d) _; cases f d <;> rfl
theorem w_sl (m : M Vt) (lo hi : M (Option Int)) (s : DS) (P : Vt → DS → Prop) : Wp (dSl m lo hi) s P = Wp m s fun x s1 => Wp lo s1 fun l s2 => Wp hi s2 fun h s3 => OptP ((der x s3).bind (pSl l h)) fun z => P z s3 := by
  unfold Wp dSl
  rw [Wp_bindR]; congr 1; funext x s1
  rw [Wp_bindR]; congr 1; funext l s2
  rw [Wp_bindR]; congr 1; funext h s3
  exact w_p1s _ x s3 P
theorem w_noP (s : DS) (P : Option Int → DS → Prop) : Wp dNoP s P = P none s := rfl
def PartW (o : Option D) (P : Option Int → Prop) : Prop := match o with
  | some (.int i) => P (some i)
  | _ => False
theorem PartW_int (i : Int) (P : Option Int → Prop) : PartW (some (.int i)) P = P (some i) := rfl
theorem w_part (m : M Vt) (s : DS) (P : Option Int → DS → Prop) : Wp (dPart m) s P = Wp m s fun x s1 => PartW (der x s1) fun o => P o s1 := by
  unfold Wp dPart
  rw [Wp_bindR]; congr 1; funext x s1
  generalize der x s1 = o
  cases o with
  | none => rfl
  | some d => cases d <;> rfl
theorem w_op1 (f : D → Option Vt) (m : M Vt) (s : DS) (P : Vt → DS → Prop) : Wp (dOp1 f m) s P = Wp m s fun x s1 => OptP ((der x s1).bind f) fun z => P z s1 := by
  unfold Wp dOp1
  rw [Wp_bindR]; congr 1; funext x s1
  exact w_p1s _ x s1 P
theorem w_if {α : Type} (c : M Bool) (a b : M α) (s : DS) (P : α → DS → Prop) : Wp (dIf c a b) s P = Wp c s fun k s1 => BoolW k (Wp a s1 P) (Wp b s1 P) := by
  unfold Wp dIf
  rw [Wp_bindR]; congr 1; funext k s1
  cases k <;> rfl
theorem w_truS (x : Vt) (s : DS) (P : Bool → DS → Prop) : WpR (truS s (der x s)) P = OptP ((der x s).bind truD) fun b => P b s := by
  unfold truS
  cases (der x s).bind truD <;> rfl
theorem w_tru (m : M Vt) (s : DS) (P : Bool → DS → Prop) : Wp (dTru m) s P = Wp m s fun x s1 => OptP ((der x s1).bind truD) fun b => P b s1 := by
  unfold Wp dTru
  rw [Wp_bindR]; congr 1; funext x s1
  exact w_truS x s1 P
def TbW (x : Vt) (P : Bool → Prop) : Prop := match x with
  | .fr (.bool b) => P b
  | _ => False
theorem TbW_b (b : Bool) (P : Bool → Prop) : TbW (.fr (.bool b)) P = P b := rfl
theorem w_tb (m : M Vt) (s : DS) (P : Bool → DS → Prop) : Wp (dTb m) s P = Wp m s fun x s1 => TbW x fun b => P b s1 := by
  unfold Wp dTb
  rw [Wp_bindR]; congr 1; funext x s1
  cases x with
  | fr d => cases d <;> rfl
  | _ => rfl
theorem w_notB (m : M Bool) (s : DS) (P : Bool → DS → Prop) : Wp (dNotB m) s P = Wp m s fun b s1 => P (!b) s1 := by
  unfold Wp dNotB
  rw [Wp_bindR]; rfl
theorem w_andB (a b : M Bool) (s : DS) (P : Bool → DS → Prop) : Wp (dAndB a b) s P = Wp a s fun c s1 => BoolW c (Wp b s1 P) (P false s1) := by
  unfold Wp dAndB
  rw [Wp_bindR]; congr 1; funext c s1
  cases c <;> rfl
theorem w_orB (a b : M Bool) (s : DS) (P : Bool → DS → Prop) : Wp (dOrB a b) s P = Wp a s fun c s1 => BoolW c (P true s1) (Wp b s1 P) := by
  unfold Wp dOrB
  rw [Wp_bindR]; congr 1; funext c s1
  cases c <;> rfl
theorem w_yes (s : DS) (P : Bool → DS → Prop) : Wp dYes s P = P true s := rfl
theorem w_andV (a b : M Vt) (s : DS) (P : Vt → DS → Prop) : Wp (dAndV a b) s P = Wp a s fun x s1 => OptP ((der x s1).bind truD) fun c => BoolW c (Wp b s1 P) (P x s1) := by
  unfold Wp dAndV
  rw [Wp_bindR]; congr 1; funext x s1
  rw [Wp_bindR, w_truS]
  congr 1; funext c
  cases c <;> rfl
theorem w_orV (a b : M Vt) (s : DS) (P : Vt → DS → Prop) : Wp (dOrV a b) s P = Wp a s fun x s1 => OptP ((der x s1).bind truD) fun c => BoolW c (P x s1) (Wp b s1 P) := by
  unfold Wp dOrV
  rw [Wp_bindR]; congr 1; funext x s1
  rw [Wp_bindR, w_truS]
  congr 1; funext c
  cases c <;> rfl
theorem w_notV (m : M Vt) (s : DS) (P : Vt → DS → Prop) : Wp (dNotV m) s P = Wp m s fun x s1 => OptP ((der x s1).bind truD) fun b => P (.fr (.bool (!b))) s1 := by
  have e : Wp (dNotV m) s P = Wp (dTru m) s fun b s1 => P (.fr (.bool (!b))) s1 := by
    unfold Wp dNotV
    rw [Wp_bindR]; rfl
  rw [e, w_tru]
def FzP (o : Option (D × DS)) (P : Vt → DS → Prop) : Prop := match o with
  | some (d, s) => P (.fr d) s
  | none => False
theorem w_fz (m : M Vt) (s : DS) (P : Vt → DS → Prop) : Wp (fz m) s P = Wp m s fun x s1 => FzP (frz x s1) P := by
  unfold Wp fz
  rw [Wp_bindR]; congr 1; funext x s1
  cases frz x s1 <;> rfl
theorem w_nil (s : DS) (P : List Vt → DS → Prop) : Wp dNil s P = P [] s := rfl
theorem w_cons (m : M Vt) (n : M (List Vt)) (s : DS) (P : List Vt → DS → Prop) : Wp (dCons m n) s P = Wp m s fun x s1 => Wp n s1 fun xs s2 => P (x :: xs) s2 := by
  unfold Wp dCons
  rw [Wp_bindR]; congr 1; funext x s1
  rw [Wp_bindR]; rfl
theorem w_tup (m : M (List Vt)) (s : DS) (P : Vt → DS → Prop) : Wp (dTup m) s P = Wp m s fun xs s1 => OptP (frs' xs) fun ds => ds.length ≤ sizeLine ∧ P (.fr (.tuple ds)) s1 := by
  unfold Wp dTup
  rw [Wp_bindR]; congr 1; funext xs s1
  unfold tupS
  cases frs' xs with
  | none => rfl
  | some ds => by_cases h : ds.length ≤ sizeLine <;> simp [h, OptP, WpR]
theorem w_lst (m : M (List Vt)) (s : DS) (P : Vt → DS → Prop) : Wp (dLst m) s P = Wp m s fun xs s1 => OptP (frs' xs) fun ds => ds.length ≤ sizeLine ∧ P (.ow (.list ds)) s1 := by
  unfold Wp dLst
  rw [Wp_bindR]; congr 1; funext xs s1
  unfold lstS
  cases frs' xs with
  | none => rfl
  | some ds => by_cases h : ds.length ≤ sizeLine <;> simp [h, OptP, WpR]
theorem w_CB (f : List D → Option Vt) (m : M (List Vt)) (s : DS) (P : Vt → DS → Prop) : Wp (dCB f m) s P = Wp m s fun xs s1 => OptP ((ders xs s1).bind f) fun z => P z s1 := by
  unfold Wp dCB
  rw [Wp_bindR]; congr 1; funext xs s1
  unfold cbS
  cases ders xs s1 with
  | none => rfl
  | some ds => show WpR (match f ds with | some z => .ok z s1 | none => .no) P = OptP (f ds) _; cases f ds <;> rfl
theorem w_isi (T : String) (m : M Vt) (s : DS) (P : Vt → DS → Prop) : Wp (dIsi T m) s P = Wp m s fun x s1 => OptP ((der x s1).bind (isiD T)) fun b => P (.fr (.bool b)) s1 := by
  unfold Wp dIsi
  rw [Wp_bindR]; congr 1; funext x s1
  cases (der x s1).bind (isiD T) <;> rfl
def LrgW (o : Option D) (P : Vt → Prop) : Prop := match o with
  | some (.int n) => (-(2 ^ 62) ≤ n ∧ n < 2 ^ 62 ∧ n.toNat ≤ 2 ^ 24) ∧ P (.ow (.list (rng 0 n.toNat)))
  | _ => False
theorem LrgW_int (n : Int) (P : Vt → Prop) : LrgW (some (.int n)) P = ((-(2 ^ 62) ≤ n ∧ n < 2 ^ 62 ∧ n.toNat ≤ 2 ^ 24) ∧ P (.ow (.list (rng 0 n.toNat)))) := rfl
theorem w_lrng (m : M Vt) (s : DS) (P : Vt → DS → Prop) : Wp (dLRng m) s P = Wp m s fun x s1 => LrgW (der x s1) fun z => P z s1 := by
  unfold Wp dLRng
  rw [Wp_bindR]; congr 1; funext x s1
  generalize der x s1 = o
  cases o with
  | none => rfl
  | some d =>
    cases d with
    | int n =>
      show WpR (if -(2 ^ 62) ≤ n ∧ n < 2 ^ 62 ∧ n.toNat ≤ 2 ^ 24 then _ else _) P = _
      by_cases h : -(2 ^ 62) ≤ n ∧ n < 2 ^ 62 ∧ n.toNat ≤ 2 ^ 24
      · rw [if_pos h]; exact propext ⟨fun q => ⟨h, q⟩, fun q => q.2⟩
      · rw [if_neg h]; exact propext ⟨fun q => q.elim, fun q => h q.1⟩
    | _ => rfl
def StrW (o : Option D) (A : Prop) : Prop := match o with
  | some (.str _) => A
  | _ => False
theorem StrW_str (z : Str) (A : Prop) : StrW (some (.str z)) A = A := rfl
theorem w_str1 (f : D → D → Option Vt) (m k : M Vt) (s : DS) (P : Vt → DS → Prop) : Wp (dStr1 f m k) s P = Wp m s fun x s1 => StrW (der x s1) (Wp k s1 fun y s2 => P2W f (der x s2) (der y s2) fun z => P z s2) := by
  unfold Wp dStr1
  rw [Wp_bindR]; congr 1; funext x s1
  generalize der x s1 = o
  cases o with
  | none => rfl
  | some d =>
    cases d with
    | str z =>
      show WpR ((k s1).bind fun y s2 => p2 f x y s2) P = WpR (k s1) _
      rw [Wp_bindR]; congr 1; funext y s2
      exact w_p2 f x y s2 P
    | _ => rfl
def vtOf (b : Bool) (d : D) : Vt := if b = true then .ow d else .fr d
theorem vtOf_t (d : D) : vtOf true d = .ow d := rfl
theorem vtOf_f (d : D) : vtOf false d = .fr d := rfl
theorem w_call (fm : FM) (ios : List Bool) (m : M (List Vt)) (s : DS) (P : Vt → DS → Prop) : Wp (dCall fm ios m) s P = Wp m s fun xs s1 => OptP (argD ios xs s1) fun ds => FnP fm ds fun b d outs => P (vtOf b d) (setO ios xs outs s1) := by
  unfold Wp dCall
  rw [Wp_bindR]; congr 1; funext xs s1
  cases argD ios xs s1 with
  | none => rfl
  | some ds =>
    show WpR (callR ios xs s1 (fm ds)) P = FnP fm ds _
    unfold FnP
    cases fm ds <;> rfl
def ArgO (o : Option Sl) (ds : Option (List D)) : Option (List D) := match o with
  | some (.ow t) => ds.map (t :: ·)
  | _ => none
theorem ArgO_ow (t : D) (ds : Option (List D)) : ArgO (some (.ow t)) ds = ds.map (t :: ·) := rfl
theorem argD_nil (s : DS) : argD [] [] s = some [] := rfl
theorem argD_f (ms : List Bool) (d : D) (xs : List Vt) (s : DS) : argD (false :: ms) (.fr d :: xs) s = (argD ms xs s).map (d :: ·) := rfl
theorem argD_t0 (i : Nat) (s : DS) : argD [true] [.sl i] s = ArgO s[i]? (some []) := by
  show (match s[i]? with | some (.ow d) => _ | _ => none) = _
  generalize s[i]? = o
  cases o with
  | none => rfl
  | some x => cases x <;> rfl
theorem argD_t1 (i : Nat) (d : D) (s : DS) : argD [true, false] [.sl i, .fr d] s = ArgO s[i]? (some [d]) := by
  show (match s[i]? with | some (.ow d) => _ | _ => none) = _
  generalize s[i]? = o
  cases o with
  | none => rfl
  | some x => cases x <;> rfl
theorem argD_t2 (i : Nat) (d e : D) (s : DS) : argD [true, false, false] [.sl i, .fr d, .fr e] s = ArgO s[i]? (some [d, e]) := by
  show (match s[i]? with | some (.ow d) => _ | _ => none) = _
  generalize s[i]? = o
  cases o with
  | none => rfl
  | some x => cases x <;> rfl
theorem argD_t3 (i : Nat) (d e g : D) (s : DS) : argD [true, false, false, false] [.sl i, .fr d, .fr e, .fr g] s = ArgO s[i]? (some [d, e, g]) := by
  show (match s[i]? with | some (.ow d) => _ | _ => none) = _
  generalize s[i]? = o
  cases o with
  | none => rfl
  | some x => cases x <;> rfl
theorem argD_t4 (i : Nat) (d e g h : D) (s : DS) : argD [true, false, false, false, false] [.sl i, .fr d, .fr e, .fr g, .fr h] s = ArgO s[i]? (some [d, e, g, h]) := by
  show (match s[i]? with | some (.ow d) => _ | _ => none) = _
  generalize s[i]? = o
  cases o with
  | none => rfl
  | some x => cases x <;> rfl
theorem setO_t (ms : List Bool) (i : Nat) (xs : List Vt) (o : D) (os : List D) (s : DS) : setO (true :: ms) (.sl i :: xs) (o :: os) s = setO ms xs os (s.set i (.ow o)) := rfl
theorem setO_f (ms : List Bool) (d : D) (xs : List Vt) (os : List D) (s : DS) : setO (false :: ms) (.fr d :: xs) os s = setO ms xs os s := rfl
theorem setO_nil (s : DS) : setO [] [] [] s = s := rfl
def MutP (o : Option (D × List D)) (P : D → List D → Prop) : Prop := match o with
  | some (d, xs) => P d xs
  | none => False
def MutW (i : Nat) (f : List D → List D → Option (D × List D)) (ds : Option (List D)) (o : Option Sl) (s : DS) (P : Vt → DS → Prop) : Prop := match ds, o with
  | some as, some (.ow (.list xs)) => MutP (f xs as) fun d ys => P (.fr d) (s.set i (.ow (.list ys)))
  | _, _ => False
theorem MutW_ss (i : Nat) (f : List D → List D → Option (D × List D)) (as xs : List D) (s : DS) (P : Vt → DS → Prop) : MutW i f (some as) (some (.ow (.list xs))) s P = MutP (f xs as) fun d ys => P (.fr d) (s.set i (.ow (.list ys))) := rfl
theorem w_mut (i : Nat) (f : List D → List D → Option (D × List D)) (m : M (List Vt)) (s : DS) (P : Vt → DS → Prop) : Wp (dMut i f m) s P = OwnW i s s[i]? fun _ s0 => Wp m s0 fun xs s1 => MutW i f (frs' xs) s1[i]? s1 P := by
  have e : Wp (dMut i f m) s P = Wp (dOwn i) s fun _ s0 => Wp m s0 fun xs s1 => WpR (mutS i f (frs' xs) s1) P := by
    unfold Wp dMut
    rw [Wp_bindR]; congr 1; funext x s0
    rw [Wp_bindR]
  rw [e, w_own]
  congr 1; funext x s0
  congr 1; funext xs s1
  unfold mutS MutW
  generalize s1[i]? = o
  cases frs' xs with
  | none => rfl
  | some as =>
    cases o with
    | none => rfl
    | some y =>
      cases y with
      | ow d =>
        cases d with
        | list ys => show WpR (match f ys as with | some (z, ys) => .ok (.fr z) (s1.set i (.ow (.list ys))) | none => .no) P = MutP (f ys as) _; cases f ys as <;> rfl
        | _ => rfl
      | _ => rfl
def ItW (x : Vt) (P : List D → Prop) : Prop := match x with
  | .fr (.list ds) => P ds
  | .fr (.tuple ds) => P ds
  | .fr (.str z) => P (signs z)
  | _ => False
theorem ItW_l (ds : List D) (P : List D → Prop) : ItW (.fr (.list ds)) P = P ds := rfl
theorem ItW_t (ds : List D) (P : List D → Prop) : ItW (.fr (.tuple ds)) P = P ds := rfl
theorem ItW_s (z : Str) (P : List D → Prop) : ItW (.fr (.str z)) P = P (signs z) := rfl
theorem w_it (m : M Vt) (s : DS) (P : List D → DS → Prop) : Wp (dIt m) s P = Wp m s fun x s1 => ItW x fun ds => P ds s1 := by
  unfold Wp dIt
  rw [Wp_bindR]; congr 1; funext x s1
  cases x with
  | fr d => cases d <;> rfl
  | _ => rfl
def Rg1W (o : Option (List D)) (P : List D → Prop) : Prop := match o with
  | some [.int j] => (-(2 ^ 62) ≤ j ∧ j < 2 ^ 62) ∧ P (rng 0 j.toNat)
  | _ => False
theorem Rg1W_int (j : Int) (P : List D → Prop) : Rg1W (some [.int j]) P = ((-(2 ^ 62) ≤ j ∧ j < 2 ^ 62) ∧ P (rng 0 j.toNat)) := rfl
theorem w_rng1 (m : M (List Vt)) (s : DS) (P : List D → DS → Prop) : Wp (dRng1 m) s P = Wp m s fun xs s1 => Rg1W (frs' xs) fun ds => P ds s1 := by
  unfold Wp dRng1
  rw [Wp_bindR]; congr 1; funext xs s1
  generalize frs' xs = o
  cases o with
  | none => rfl
  | some l =>
    cases l with
    | nil => rfl
    | cons d l =>
      cases d <;> cases l <;> first
        | rfl
        | (rename_i j
           show WpR (if -(2 ^ 62) ≤ j ∧ j < 2 ^ 62 then _ else _) P = _
           by_cases h : -(2 ^ 62) ≤ j ∧ j < 2 ^ 62
           · rw [if_pos h]; exact propext ⟨fun q => ⟨h, q⟩, fun q => q.2⟩
           · rw [if_neg h]; exact propext ⟨fun q => q.elim, fun q => h q.1⟩)
def Rg2W (o : Option (List D)) (P : List D → Prop) : Prop := match o with
  | some [.int i, .int j] => (-(2 ^ 62) ≤ i ∧ i < 2 ^ 62 ∧ -(2 ^ 62) ≤ j ∧ j < 2 ^ 62) ∧ P (rng i (j - i).toNat)
  | _ => False
theorem Rg2W_int (i j : Int) (P : List D → Prop) : Rg2W (some [.int i, .int j]) P = ((-(2 ^ 62) ≤ i ∧ i < 2 ^ 62 ∧ -(2 ^ 62) ≤ j ∧ j < 2 ^ 62) ∧ P (rng i (j - i).toNat)) := rfl
theorem w_rng2 (m : M (List Vt)) (s : DS) (P : List D → DS → Prop) : Wp (dRng2 m) s P = Wp m s fun xs s1 => Rg2W (frs' xs) fun ds => P ds s1 := by
  unfold Wp dRng2
  rw [Wp_bindR]; congr 1; funext xs s1
  generalize frs' xs = o
  cases o with
  | none => rfl
  | some l =>
    cases l with
    | nil => rfl
    | cons d l =>
      cases l with
      | nil => cases d <;> rfl
      | cons e l =>
        cases d <;> cases e <;> cases l <;> first
          | rfl
          | (rename_i i j
             show WpR (if -(2 ^ 62) ≤ i ∧ i < 2 ^ 62 ∧ -(2 ^ 62) ≤ j ∧ j < 2 ^ 62 then _ else _) P = _
             by_cases h : -(2 ^ 62) ≤ i ∧ i < 2 ^ 62 ∧ -(2 ^ 62) ≤ j ∧ j < 2 ^ 62
             · rw [if_pos h]; exact propext ⟨fun q => ⟨h, q⟩, fun q => q.2⟩
             · rw [if_neg h]; exact propext ⟨fun q => q.elim, fun q => h q.1⟩)
/-! ### comprehensions -/
def LcW (t : Tg) (tt : M Bool) (e : M Vt) (vs : List Nat) (ds acc : List D) (s : DS) (P : List D → DS → Prop) : Prop := WpR (lcG t tt e vs ds acc s) P
theorem WpR_nx' {α β : Type} (r : R α) (k : α → DS → R β) (P : β → DS → Prop) : WpR (r.nx' k) P = WpR r fun a s => WpR (k a s) P := by cases r <;> rfl
theorem w_lc (m : M (List D)) (t : Tg) (tt : M Bool) (e : M Vt) (vs : List Nat) (s : DS) (P : Vt → DS → Prop) : Wp (dLc m t tt e vs) s P = Wp m s fun ds s1 => noOw s1 vs = true ∧ LcW t tt e vs ds [] (wipeD s1 vs) fun acc s2 => P (.ow (.list acc)) (restD s1 s2 vs) := by
  unfold Wp dLc
  rw [Wp_bindR]; congr 1; funext ds s1
  by_cases h : noOw s1 vs = true
  · rw [if_pos h, WpR_nx']
    exact propext ⟨fun q => ⟨h, q⟩, fun q => q.2⟩
  · rw [if_neg h]; exact propext ⟨fun q => q.elim, fun q => h q.1⟩
/-- one turn -/
def AddW (acc : List D) (x : Vt) (P : List D → Prop) : Prop := match x with
  | .fr y => acc.length < sizeLine ∧ P (acc ++ [y])
  | _ => False
theorem AddW_fr (acc : List D) (y : D) (P : List D → Prop) : AddW acc (.fr y) P = (acc.length < sizeLine ∧ P (acc ++ [y])) := rfl
theorem lcW_nil (t : Tg) (tt : M Bool) (e : M Vt) (vs : List Nat) (acc : List D) (s : DS) (P : List D → DS → Prop) : LcW t tt e vs [] acc s P = P acc s := rfl
theorem lcW_cons (t : Tg) (tt : M Bool) (e : M Vt) (vs : List Nat) (d : D) (ds acc : List D) (s : DS) (P : List D → DS → Prop) : LcW t tt e vs (d :: ds) acc s P = OptP (asg t d s) fun s1 => Wp tt s1 fun b s2 => BoolW b (Wp e s2 fun x s3 => AddW acc x fun acc' => LcW t tt e vs ds acc' (wipeD s3 vs) P) (LcW t tt e vs ds acc (wipeD s2 vs) P) := by
  show WpR (onR (asg t d s) _) P = _
  cases asg t d s with
  | none => rfl
  | some s1 =>
    show WpR ((tt s1).nx' _) P = Wp tt s1 _
    rw [WpR_nx']; unfold Wp; congr 1; funext b s2
    cases b with
    | false => rfl
    | true =>
      show WpR ((e s2).nx' _) P = WpR (e s2) _
      rw [WpR_nx']; congr 1; funext x s3
      cases x with
      | fr y =>
        show WpR (if acc.length < sizeLine then _ else _) P = _
        by_cases h : acc.length < sizeLine
        · rw [if_pos h]; exact propext ⟨fun q => ⟨h, q⟩, fun q => q.2⟩
        · rw [if_neg h]; exact propext ⟨fun q => q.elim, fun q => h q.1⟩
      | ow d => rfl
      | sl i => rfl
/-- the turns of a comprehension, by what stands before each -/
theorem lc_inv (I : List D → List D → DS → Prop) {t : Tg} {tt : M Bool} {e : M Vt} {vs : List Nat} {ds : List D} {s : DS} {P : List D → DS → Prop} (h0 : I ds [] s)
    (hs : ∀ d rest acc s, I (d :: rest) acc s → OptP (asg t d s) fun s1 => Wp tt s1 fun b s2 => BoolW b (Wp e s2 fun x s3 => AddW acc x fun acc' => I rest acc' (wipeD s3 vs)) (I rest acc (wipeD s2 vs))) (hP : ∀ acc s, I [] acc s → P acc s) : LcW t tt e vs ds [] s P := by
  suffices h : ∀ ds acc s, I ds acc s → LcW t tt e vs ds acc s P from h ds [] s h0
  intro ds
  induction ds with
  | nil => exact fun acc s h => hP acc s h
  | cons d ds ih =>
    intro acc s h
    rw [lcW_cons]
    have q := hs d ds acc s h
    revert q
    cases asg t d s with
    | none => exact fun q => q
    | some s1 =>
      intro q
      refine Wp_mono q fun b s2 q => ?_
      cases b with
      | false => exact ih _ _ q
      | true =>
        refine Wp_mono q fun x s3 q => ?_
        cases x with
        | fr y => exact ⟨q.1, ih _ _ q.2⟩
        | ow d => exact q
        | sl i => exact q
/-! ### statements -/
theorem s_nil (s : DS) (N : DS → Prop) (T : Vt → DS → Prop) (B C : DS → Prop) : Ws sNil s N T B C = N s := rfl
theorem s_cons (m n : MS) (s : DS) (N : DS → Prop) (T : Vt → DS → Prop) (B C : DS → Prop) : Ws (sCons m n) s N T B C = Ws m s (fun s' => Ws n s' N T B C) T B C := by
  unfold Ws sCons
  cases e : m s <;> rfl
theorem Ws_st {α : Type} (r : R α) (k : α → DS → RS) (N : DS → Prop) (T : Vt → DS → Prop) (B C : DS → Prop) : (match r.st k with | .nx s' => N s' | .rt x s' => T x s' | .bk s' => B s' | .ct s' => C s' | _ => False) = WpR r fun a s => (match k a s with | .nx s' => N s' | .rt x s' => T x s' | .bk s' => B s' | .ct s' => C s' | _ => False) := by cases r <;> rfl
theorem s_expr (m : M Vt) (s : DS) (N : DS → Prop) (T : Vt → DS → Prop) (B C : DS → Prop) : Ws (sExpr m) s N T B C = Wp m s fun _ s1 => N s1 := Ws_st _ _ _ _ _ _
theorem s_ret (m : M Vt) (s : DS) (N : DS → Prop) (T : Vt → DS → Prop) (B C : DS → Prop) : Ws (sRet m) s N T B C = Wp m s fun x s1 => T x s1 := Ws_st _ _ _ _ _ _
theorem s_retN (s : DS) (N : DS → Prop) (T : Vt → DS → Prop) (B C : DS → Prop) : Ws sRetN s N T B C = T (.fr .none) s := rfl
theorem s_brk (s : DS) (N : DS → Prop) (T : Vt → DS → Prop) (B C : DS → Prop) : Ws sBrk s N T B C = B s := rfl
theorem s_cnt (s : DS) (N : DS → Prop) (T : Vt → DS → Prop) (B C : DS → Prop) : Ws sCnt s N T B C = C s := rfl
theorem s_if (c : M Bool) (a b : MS) (s : DS) (N : DS → Prop) (T : Vt → DS → Prop) (B C : DS → Prop) : Ws (sIf c a b) s N T B C = Wp c s fun k s1 => BoolW k (Ws a s1 N T B C) (Ws b s1 N T B C) := by
  refine (Ws_st _ _ _ _ _ _).trans ?_
  unfold Wp; congr 1; funext k s1
  cases k <;> rfl
theorem s_set (i : Nat) (m : M Vt) (s : DS) (N : DS → Prop) (T : Vt → DS → Prop) (B C : DS → Prop) : Ws (sSet i m) s N T B C = Wp m s fun x s1 => OptP (putS i s1 x) N := by
  refine (Ws_st _ _ _ _ _ _).trans ?_
  unfold Wp; congr 1; funext x s1
  cases putS i s1 x <;> rfl
theorem putS_fr (i : Nat) (s : DS) (d : D) : putS i s (.fr d) = some (s.set i (.fr d)) := rfl
theorem putS_ow (i : Nat) (s : DS) (d : D) : putS i s (.ow d) = some (s.set i (.ow d)) := rfl
theorem putS_sl (i j : Nat) (s : DS) : putS i s (.sl j) = (frzS j s s[j]?).map fun p => p.2.set i (.fr p.1) := by
  show (match frzS j s s[j]? with | some (d, s') => some (s'.set i (.fr d)) | none => none) = _
  cases frzS j s s[j]? <;> rfl
def AsgW (t : Tg) (x : Vt) (s : DS) (N : DS → Prop) : Prop := match x with
  | .fr d => OptP (asg t d s) N
  | _ => False
theorem AsgW_fr (t : Tg) (d : D) (s : DS) (N : DS → Prop) : AsgW t (.fr d) s N = OptP (asg t d s) N := rfl
theorem s_asg (t : Tg) (m : M Vt) (s : DS) (N : DS → Prop) (T : Vt → DS → Prop) (B C : DS → Prop) : Ws (sAsg t m) s N T B C = Wp m s fun x s1 => AsgW t x s1 N := by
  refine (Ws_st _ _ _ _ _ _).trans ?_
  unfold Wp; congr 1; funext x s1
  cases x with
  | fr d => show (match putR (asg t d s1) with | .nx s' => N s' | .rt x s' => T x s' | .bk s' => B s' | .ct s' => C s' | _ => False) = OptP (asg t d s1) N; cases asg t d s1 <;> rfl
  | _ => rfl
theorem asg_nm (i : Nat) (d : D) (s : DS) : asg (.nm i) d s = some (s.set i (.fr d)) := by simp [asg]
theorem asg_tp (ts : List Tg) (ds : List D) (s : DS) : asg (.tp ts) (.tuple ds) s = asgs ts ds s := by simp [asg]
theorem asgs_nil (s : DS) : asgs [] [] s = some s := by simp [asgs]
theorem asgs_cons (t : Tg) (ts : List Tg) (d : D) (ds : List D) (s : DS) : asgs (t :: ts) (d :: ds) s = (asg t d s).bind fun s1 => asgs ts ds s1 := by
  rw [asgs]; cases asg t d s <;> rfl
def StoW (j : Nat) (x : Vt) (k : Option D) (o : Option Sl) (s : DS) (N : DS → Prop) : Prop := match x, k, o with
  | .fr d, some (.int i), some (.ow (.list xs)) => OptP (ixN xs.length i) fun n => N (s.set j (.ow (.list (xs.set n d))))
  | _, _, _ => False
theorem StoW_ok (j : Nat) (d : D) (i : Int) (xs : List D) (s : DS) (N : DS → Prop) : StoW j (.fr d) (some (.int i)) (some (.ow (.list xs))) s N = OptP (ixN xs.length i) fun n => N (s.set j (.ow (.list (xs.set n d)))) := rfl
theorem s_sto (j : Nat) (e k : M Vt) (s : DS) (N : DS → Prop) (T : Vt → DS → Prop) (B C : DS → Prop) : Ws (sSto j e k) s N T B C = Wp e s fun x s1 => OwnW j s1 s1[j]? fun _ s2 => Wp k s2 fun y s3 => StoW j x (der y s3) s3[j]? s3 N := by
  refine (Ws_st _ _ _ _ _ _).trans ?_
  unfold Wp; congr 1; funext x s1
  refine (Ws_st _ _ _ _ _ _).trans ?_
  refine (w_own j s1 _).trans ?_
  congr 1; funext _ s2
  refine (Ws_st _ _ _ _ _ _).trans ?_
  congr 1; funext y s3
  unfold stoS StoW
  generalize der y s3 = a
  generalize s3[j]? = o
  cases x with
  | fr d =>
    cases a with
    | none => rfl
    | some dy =>
      cases dy with
      | int i =>
        cases o with
        | none => rfl
        | some z =>
          cases z with
          | ow w =>
            cases w with
            | list xs =>
              show (match (match ixN xs.length i with | some n => RS.nx (s3.set j (.ow (.list (xs.set n d)))) | none => .no) with | .nx s' => N s' | .rt x s' => T x s' | .bk s' => B s' | .ct s' => C s' | _ => False) = OptP (ixN xs.length i) _
              cases ixN xs.length i <;> rfl
            | _ => rfl
          | _ => rfl
      | _ => rfl
  | _ => rfl
theorem s_aug (i : Nat) (f : D → D → Option Vt) (m : M Vt) (s : DS) (N : DS → Prop) (T : Vt → DS → Prop) (B C : DS → Prop) : Ws (sAug i f m) s N T B C = Wp (dVar i) s fun x s0 => Wp m s0 fun y s1 => P2W f (der x s1) (der y s1) fun z => OptP (putS i s1 z) N := by
  refine (Ws_st _ _ _ _ _ _).trans ?_
  unfold Wp; congr 1; funext x s0
  refine (Ws_st _ _ _ _ _ _).trans ?_
  congr 1; funext y s1
  refine (Ws_st _ _ _ _ _ _).trans ?_
  rw [w_p2]
  congr 1; funext z
  cases putS i s1 z <;> rfl
def FlW (t : Tg) (b : MS) (ds : List D) (s : DS) (N : DS → Prop) (T : Vt → DS → Prop) : Prop := match fl t b ds s with
  | .nx s' => N s'
  | .rt x s' => T x s'
  | _ => False
theorem fl_shape (t : Tg) (b : MS) : ∀ (ds : List D) (s : DS), (∀ s', fl t b ds s ≠ .bk s') ∧ ∀ s', fl t b ds s ≠ .ct s'
  | [], s => ⟨fun s' h => (by cases h), fun s' h => (by cases h)⟩
  | d :: ds, s => by
    show (∀ s', onO (asg t d s) (fun s1 => (b s1).lp (fl t b ds)) ≠ .bk s') ∧ ∀ s', onO (asg t d s) (fun s1 => (b s1).lp (fl t b ds)) ≠ .ct s'
    cases asg t d s with
    | none => exact ⟨fun s' h => (by cases h), fun s' h => (by cases h)⟩
    | some s1 =>
      show (∀ s', (b s1).lp (fl t b ds) ≠ .bk s') ∧ ∀ s', (b s1).lp (fl t b ds) ≠ .ct s'
      cases b s1 with
      | nx s2 => exact fl_shape t b ds s2
      | ct s2 => exact fl_shape t b ds s2
      | bk s2 => exact ⟨fun s' h => (by cases h), fun s' h => (by cases h)⟩
      | rt x s2 => exact ⟨fun s' h => (by cases h), fun s' h => (by cases h)⟩
      | er x s2 => exact ⟨fun s' h => (by cases h), fun s' h => (by cases h)⟩
      | no => exact ⟨fun s' h => (by cases h), fun s' h => (by cases h)⟩
theorem s_for (m : M (List D)) (t : Tg) (b : MS) (s : DS) (N : DS → Prop) (T : Vt → DS → Prop) (B C : DS → Prop) : Ws (sFor m t b) s N T B C = Wp m s fun ds s1 => FlW t b ds s1 N T := by
  refine (Ws_st _ _ _ _ _ _).trans ?_
  unfold Wp; congr 1; funext ds s1
  unfold FlW
  have h := fl_shape t b ds s1
  revert h
  cases fl t b ds s1 with
  | bk s2 => exact fun h => absurd rfl (h.1 s2)
  | ct s2 => exact fun h => absurd rfl (h.2 s2)
  | _ => exact fun _ => rfl
theorem flW_nil (t : Tg) (b : MS) (s : DS) (N : DS → Prop) (T : Vt → DS → Prop) : FlW t b [] s N T = N s := rfl
theorem flW_cons (t : Tg) (b : MS) (d : D) (ds : List D) (s : DS) (N : DS → Prop) (T : Vt → DS → Prop) : FlW t b (d :: ds) s N T = OptP (asg t d s) fun s1 => Ws b s1 (fun s2 => FlW t b ds s2 N T) T N (fun s2 => FlW t b ds s2 N T) := by
  unfold FlW
  show (match onO (asg t d s) (fun s1 => (b s1).lp (fl t b ds)) with | .nx s' => N s' | .rt x s' => T x s' | _ => False) = _
  cases asg t d s with
  | none => rfl
  | some s1 =>
    show (match (b s1).lp (fl t b ds) with | .nx s' => N s' | .rt x s' => T x s' | _ => False) = Ws b s1 _ T N _
    unfold Ws
    cases b s1 <;> rfl
theorem fl_inv (I : List D → DS → Prop) {t : Tg} {b : MS} {ds : List D} {s : DS} {N : DS → Prop} {T : Vt → DS → Prop} (h0 : I ds s)
    (hs : ∀ d rest s, I (d :: rest) s → OptP (asg t d s) fun s1 => Ws b s1 (I rest) T N (I rest)) (hN : ∀ s, I [] s → N s) : FlW t b ds s N T := by
  suffices h : ∀ ds s, I ds s → FlW t b ds s N T from h ds s h0
  intro ds
  induction ds with
  | nil => exact fun s h => hN s h
  | cons d ds ih =>
    intro s h
    rw [flW_cons]
    have q := hs d ds s h
    revert q
    cases asg t d s with
    | none => exact fun q => q
    | some s1 =>
      intro q
      have q' : Ws b s1 (I ds) T N (I ds) := q
      show Ws b s1 _ T N _
      unfold Ws at q' ⊢
      revert q'
      cases b s1 with
      | nx s2 => exact fun q => ih s2 q
      | ct s2 => exact fun q => ih s2 q
      | _ => exact fun q => q
/-! ### a def -/
def EndW (io : List Nat) (x : Vt) (s : DS) (Q : Bool → D → List D → Prop) : Prop := match x with
  | .fr d => OptP (outS s io) fun o => Q false d o
  | .ow d => OptP (outS s io) fun o => Q true d o
  | .sl i => (match s[i]? with
    | some (.fr d) => OptP (outS s io) fun o => Q false d o
    | some (.ow d) => io.contains i = false ∧ OptP (outS s io) fun o => Q true d o
    | _ => False)
def EndS (io : List Nat) (i : Nat) (o : Option Sl) (s : DS) (Q : Bool → D → List D → Prop) : Prop := match o with
  | some (.fr d) => OptP (outS s io) fun o => Q false d o
  | some (.ow d) => io.contains i = false ∧ OptP (outS s io) fun o => Q true d o
  | _ => False
theorem EndW_fr (io : List Nat) (d : D) (s : DS) (Q : Bool → D → List D → Prop) : EndW io (.fr d) s Q = OptP (outS s io) fun o => Q false d o := rfl
theorem EndW_ow (io : List Nat) (d : D) (s : DS) (Q : Bool → D → List D → Prop) : EndW io (.ow d) s Q = OptP (outS s io) fun o => Q true d o := rfl
theorem EndW_sl (io : List Nat) (i : Nat) (s : DS) (Q : Bool → D → List D → Prop) : EndW io (.sl i) s Q = EndS io i s[i]? s Q := by
  show (match s[i]? with | some (.fr d) => _ | some (.ow d) => _ | _ => False) = _
  generalize s[i]? = o
  cases o with
  | none => rfl
  | some x => cases x <;> rfl
theorem EndS_fr (io : List Nat) (i : Nat) (d : D) (s : DS) (Q : Bool → D → List D → Prop) : EndS io i (some (.fr d)) s Q = OptP (outS s io) fun o => Q false d o := rfl
theorem EndS_ow (io : List Nat) (i : Nat) (d : D) (s : DS) (Q : Bool → D → List D → Prop) : EndS io i (some (.ow d)) s Q = (io.contains i = false ∧ OptP (outS s io) fun o => Q true d o) := rfl
def OutW (o : Option Sl) (r : Option (List D)) : Option (List D) := match o with
  | some (.ow d) => r.map (d :: ·)
  | _ => none
theorem OutW_ow (d : D) (r : Option (List D)) : OutW (some (.ow d)) r = r.map (d :: ·) := rfl
theorem outS_nil (s : DS) : outS s [] = some [] := rfl
theorem outS_cons (s : DS) (i : Nat) (is : List Nat) : outS s (i :: is) = OutW s[i]? (outS s is) := by
  show (match s[i]? with | some (.ow d) => (outS s is).map (d :: ·) | _ => none) = _
  generalize s[i]? = o
  cases o with
  | none => rfl
  | some x => cases x <;> rfl
theorem FnP_mk {N : Nat} {ios : List Bool} {b : MS} {ds : List D} {Q : Bool → D → List D → Prop} (s0 : DS) (io : List Nat) (e : start0 N ios ds = s0) (e' : ioS 0 ios = io)
    (h : Ws b s0 (fun s => OptP (outS s io) fun o => Q false .none o) (fun x s => EndW io x s Q) (fun _ => False) fun _ => False) : FnP (mkF N ios b) ds Q := by
  subst e e'
  unfold Ws at h
  unfold FnP mkF
  revert h
  cases b (start0 N ios ds) with
  | nx s' =>
    intro h
    show (match frOf false .none (outS s' (ioS 0 ios)) with | .ok b d outs => Q b d outs | _ => False)
    have h' : OptP (outS s' (ioS 0 ios)) fun o => Q false .none o := h
    revert h'
    cases outS s' (ioS 0 ios) <;> exact fun h => h
  | rt x s' =>
    intro h
    have h' : EndW (ioS 0 ios) x s' Q := h
    cases x with
    | fr d =>
      show (match frOf false d (outS s' (ioS 0 ios)) with | .ok b d outs => Q b d outs | _ => False)
      have h' : OptP (outS s' (ioS 0 ios)) fun o => Q false d o := h
      revert h'
      cases outS s' (ioS 0 ios) <;> exact fun h => h
    | ow d =>
      show (match frOf true d (outS s' (ioS 0 ios)) with | .ok b d outs => Q b d outs | _ => False)
      have h' : OptP (outS s' (ioS 0 ios)) fun o => Q true d o := h
      revert h'
      cases outS s' (ioS 0 ios) <;> exact fun h => h
    | sl i =>
      rw [EndW_sl] at h'
      show (match (match s'[i]? with | some (Sl.fr d) => frOf false d (outS s' (ioS 0 ios)) | some (Sl.ow d) => if (ioS 0 ios).contains i = true then FR.no else frOf true d (outS s' (ioS 0 ios)) | _ => FR.no) with | .ok b d outs => Q b d outs | _ => False)
      revert h'
      cases s'[i]? with
      | none => exact fun h => h
      | some y =>
        cases y with
        | no => exact fun h => h
        | fr d =>
          intro h
          show (match frOf false d (outS s' (ioS 0 ios)) with | .ok b d outs => Q b d outs | _ => False)
          have h' : OptP (outS s' (ioS 0 ios)) fun o => Q false d o := h
          revert h'
          cases outS s' (ioS 0 ios) <;> exact fun h => h
        | ow d =>
          intro h
          have hc : (ioS 0 ios).contains i = false := h.1
          have h' : OptP (outS s' (ioS 0 ios)) fun o => Q true d o := h.2
          show (match (if (ioS 0 ios).contains i = true then FR.no else frOf true d (outS s' (ioS 0 ios))) with | .ok b d outs => Q b d outs | _ => False)
          rw [hc]
          show (match frOf true d (outS s' (ioS 0 ios)) with | .ok b d outs => Q b d outs | _ => False)
          revert h'
          cases outS s' (ioS 0 ios) <;> exact fun h => h
  | _ => exact fun h => (show False from h).elim
theorem FnP_mono {fm : FM} {ds : List D} {Q Q' : Bool → D → List D → Prop} (h : FnP fm ds Q) (f : ∀ b d o, Q b d o → Q' b d o) : FnP fm ds Q' := by
  unfold FnP at h ⊢
  revert h
  cases fm ds with
  | ok b d o => exact fun h => f b d o h
  | _ => exact fun h => h
theorem FnP_eq {fm : FM} {ds : List D} {b : Bool} {d : D} {o : List D} (h : FnP fm ds fun b' d' o' => b' = b ∧ d' = d ∧ o' = o) : fm ds = .ok b d o := by
  unfold FnP at h
  revert h
  cases fm ds with
  | ok b' d' o' => rintro ⟨rfl, rfl, rfl⟩; rfl
  | _ => exact fun h => h.elim
theorem FnP_of {fm : FM} {ds : List D} {b : Bool} {d : D} {o : List D} {Q : Bool → D → List D → Prop} (h : fm ds = .ok b d o) (q : Q b d o) : FnP fm ds Q := by
  unfold FnP; rw [h]; exact q

def Str.instDecEq_z (a b : PySem.Str) : Bool := decide (a = b)
theorem Str.z_eq {a b : PySem.Str} (h : Str.instDecEq_z a b = true) : a = b := of_decide_eq_true h
theorem Str.z_ne {a b : PySem.Str} (h : Str.instDecEq_z a b = false) : a ≠ b := of_decide_eq_false h
/-! ### the same as rules, to be run -/
section
variable {s s1 s' : DS} {N : DS → Prop} {T : Vt → DS → Prop} {B C : DS → Prop} {i j : Nat}
theorem Je (h : N s) : Ws sNil s N T B C := h
theorem J0 {m n : MS} (h : Ws m s (fun s' => Ws n s' N T B C) T B C) : Ws (sCons m n) s N T B C := by rw [s_cons]; exact h
theorem Jf {m : M Vt} (h : Wp m s fun _ s1 => N s1) : Ws (sExpr m) s N T B C := by rw [s_expr]; exact h
theorem J5 {m : M Vt} (h : Wp m s T) : Ws (sRet m) s N T B C := by rw [s_ret]; exact h
theorem U1 (h : T (.fr .none) s) : Ws sRetN s N T B C := h
theorem U2 (h : B s) : Ws sBrk s N T B C := h
theorem U3 (h : C s) : Ws sCnt s N T B C := h
theorem J4 {c : M Bool} {a b : MS} (h : Wp c s fun k s1 => BoolW k (Ws a s1 N T B C) (Ws b s1 N T B C)) : Ws (sIf c a b) s N T B C := by rw [s_if]; exact h
theorem J3 {m : M Vt} (h : Wp m s fun x s1 => OptP (putS i s1 x) N) : Ws (sSet i m) s N T B C := by rw [s_set]; exact h
theorem U4 {t : Tg} {m : M Vt} (h : Wp m s fun x s1 => AsgW t x s1 N) : Ws (sAsg t m) s N T B C := by rw [s_asg]; exact h
theorem Yu {t : Tg} {x : Vt} {d : D} (e : x = .fr d) (e2 : asg t d s = some s') (h : N s') : AsgW t x s N := by subst e; rw [AsgW_fr, e2]; exact h
theorem U5 {e k : M Vt} (h : Wp e s fun x s1 => OwnW j s1 s1[j]? fun _ s2 => Wp k s2 fun y s3 => StoW j x (der y s3) s3[j]? s3 N) : Ws (sSto j e k) s N T B C := by rw [s_sto]; exact h
theorem X4 {x : Vt} {k : Option D} {o : Option Sl} {d : D} {n : Int} {xs : List D} {q : Nat} (e1 : x = .fr d) (e2 : k = some (.int n)) (e3 : o = some (.ow (.list xs))) (e4 : ixN xs.length n = some q) (h : N (s.set j (.ow (.list (xs.set q d))))) : StoW j x k o s N := by
  subst e1 e2 e3; rw [StoW_ok, e4]; exact h
theorem U6 {f : D → D → Option Vt} {m : M Vt} (h : Wp (dVar i) s fun x s0 => Wp m s0 fun y s1 => P2W f (der x s1) (der y s1) fun z => OptP (putS i s1 z) N) : Ws (sAug i f m) s N T B C := by rw [s_aug]; exact h
theorem U7 {m : M (List D)} {t : Tg} {b : MS} (h : Wp m s fun ds s1 => FlW t b ds s1 N T) : Ws (sFor m t b) s N T B C := by rw [s_for]; exact h
variable {P : Vt → DS → Prop} {Pb : Bool → DS → Prop} {Pl : List Vt → DS → Prop} {Pd : List D → DS → Prop} {Po : Option Int → DS → Prop}
theorem J1 {d : D} (h : P (.fr d) s) : Wp (dC d) s P := h
theorem Yb {d : D} (e : s[i]? = some (.fr d)) (h : P (.fr d) s) : Wp (dVar i) s P := by rw [w_var, e]; exact h
theorem Yv {d : D} (e : s[i]? = some (.ow d)) (h : P (.sl i) s) : Wp (dVar i) s P := by rw [w_var, e]; exact h
theorem Ye {d : D} (e : s[i]? = some (.ow d)) (h : P (.sl i) s) : Wp (dOwn i) s P := by rw [w_own, e]; exact h
theorem Yf {o : Option Sl} {d : D} (e : o = some (.ow d)) (h : P (.sl i) s) : OwnW i s o P := by subst e; exact h
theorem J2 {f : D → D → Option Vt} {a b : M Vt} (h : Wp a s fun x s1 => Wp b s1 fun y s2 => P2W f (der x s2) (der y s2) fun z => P z s2) : Wp (dOp2 f a b) s P := by rw [w_op2]; exact h
theorem Yr {f : D → D → Option Vt} {o p : Option D} {d e : D} {K : Vt → Prop} (e1 : o = some d) (e2 : p = some e) (h : OptP (f d e) K) : P2W f o p K := by subst e1 e2; exact h
theorem Jp {m : M Vt} {lo hi : M (Option Int)} (h : Wp m s fun x s1 => Wp lo s1 fun l s2 => Wp hi s2 fun h s3 => OptP ((der x s3).bind (pSl l h)) fun z => P z s3) : Wp (dSl m lo hi) s P := by rw [w_sl]; exact h
theorem Jq (h : Po none s) : Wp dNoP s Po := h
theorem Jr {m : M Vt} (h : Wp m s fun x s1 => PartW (der x s1) fun o => Po o s1) : Wp (dPart m) s Po := by rw [w_part]; exact h
theorem Yg {o : Option D} {n : Int} {K : Option Int → Prop} (e : o = some (.int n)) (h : K (some n)) : PartW o K := by subst e; exact h
theorem Js {f : D → Option Vt} {m : M Vt} (h : Wp m s fun x s1 => OptP ((der x s1).bind f) fun z => P z s1) : Wp (dOp1 f m) s P := by rw [w_op1]; exact h
theorem Jg {α : Type} {P : α → DS → Prop} {c : M Bool} {a b : M α} (h : Wp c s fun k s1 => BoolW k (Wp a s1 P) (Wp b s1 P)) : Wp (dIf c a b) s P := by rw [w_if]; exact h
theorem Jh {m : M Vt} (h : Wp m s fun x s1 => OptP ((der x s1).bind truD) fun b => Pb b s1) : Wp (dTru m) s Pb := by rw [w_tru]; exact h
theorem J9 {m : M Vt} (h : Wp m s fun x s1 => TbW x fun b => Pb b s1) : Wp (dTb m) s Pb := by rw [w_tb]; exact h
theorem Yc {x : Vt} {b : Bool} {K : Bool → Prop} (e : x = .fr (.bool b)) (h : K b) : TbW x K := by subst e; exact h
theorem Ji {m : M Bool} (h : Wp m s fun b s1 => Pb (!b) s1) : Wp (dNotB m) s Pb := by rw [w_notB]; exact h
theorem Jj {a b : M Bool} (h : Wp a s fun c s1 => BoolW c (Wp b s1 Pb) (Pb false s1)) : Wp (dAndB a b) s Pb := by rw [w_andB]; exact h
theorem Jk {a b : M Bool} (h : Wp a s fun c s1 => BoolW c (Pb true s1) (Wp b s1 Pb)) : Wp (dOrB a b) s Pb := by rw [w_orB]; exact h
theorem U0 (h : Pb true s) : Wp dYes s Pb := h
theorem Jl {a b : M Vt} (h : Wp a s fun x s1 => OptP ((der x s1).bind truD) fun c => BoolW c (Wp b s1 P) (P x s1)) : Wp (dAndV a b) s P := by rw [w_andV]; exact h
theorem Jm {a b : M Vt} (h : Wp a s fun x s1 => OptP ((der x s1).bind truD) fun c => BoolW c (P x s1) (Wp b s1 P)) : Wp (dOrV a b) s P := by rw [w_orV]; exact h
theorem Jn {m : M Vt} (h : Wp m s fun x s1 => OptP ((der x s1).bind truD) fun b => P (.fr (.bool (!b))) s1) : Wp (dNotV m) s P := by rw [w_notV]; exact h
theorem J6 {m : M Vt} (h : Wp m s fun x s1 => FzP (frz x s1) P) : Wp (fz m) s P := by rw [w_fz]; exact h
theorem Yy {o : Option (D × DS)} {d : D} (e : o = some (d, s)) (h : P (.fr d) s) : FzP o P := by subst e; exact h
theorem J8 (h : Pl [] s) : Wp dNil s Pl := h
theorem J7 {m : M Vt} {n : M (List Vt)} (h : Wp m s fun x s1 => Wp n s1 fun xs s2 => Pl (x :: xs) s2) : Wp (dCons m n) s Pl := by rw [w_cons]; exact h
theorem Jc {m : M (List Vt)} (h : Wp m s fun xs s1 => OptP (frs' xs) fun ds => ds.length ≤ sizeLine ∧ P (.fr (.tuple ds)) s1) : Wp (dTup m) s P := by rw [w_tup]; exact h
theorem Jd {m : M (List Vt)} (h : Wp m s fun xs s1 => OptP (frs' xs) fun ds => ds.length ≤ sizeLine ∧ P (.ow (.list ds)) s1) : Wp (dLst m) s P := by rw [w_lst]; exact h
theorem Ja {f : List D → Option Vt} {m : M (List Vt)} (h : Wp m s fun xs s1 => OptP ((ders xs s1).bind f) fun z => P z s1) : Wp (dCB f m) s P := by rw [w_CB]; exact h
/-- the arguments' data first -/
theorem Yl {α β : Type} {o : Option α} {a : α} {f : α → Option β} {K : β → Prop} (e : o = some a) (h : OptP (f a) K) : OptP (o.bind f) K := by subst e; exact h
theorem Xb {α : Type} {o : Option α} {a : α} {K : α → Prop} (e : o = some a) (h : K a) : OptP o K := by subst e; exact h
theorem Jo {Ty : String} {m : M Vt} (h : Wp m s fun x s1 => OptP ((der x s1).bind (isiD Ty)) fun b => P (.fr (.bool b)) s1) : Wp (dIsi Ty m) s P := by rw [w_isi]; exact h
theorem Jt {m : M Vt} (h : Wp m s fun x s1 => LrgW (der x s1) fun z => P z s1) : Wp (dLRng m) s P := by rw [w_lrng]; exact h
theorem Yh {o : Option D} {n : Int} {K : Vt → Prop} (e : o = some (.int n)) (h : K (.ow (.list (rng 0 n.toNat)))) (c : -(2 ^ 62) ≤ n ∧ n < 2 ^ 62 ∧ n.toNat ≤ 2 ^ 24) : LrgW o K := by subst e; exact ⟨c, h⟩
theorem Ju {f : D → D → Option Vt} {m k : M Vt} (h : Wp m s fun x s1 => StrW (der x s1) (Wp k s1 fun y s2 => P2W f (der x s2) (der y s2) fun z => P z s2)) : Wp (dStr1 f m k) s P := by rw [w_str1]; exact h
theorem Yi {o : Option D} {z : Str} {A : Prop} (e : o = some (.str z)) (h : A) : StrW o A := by subst e; exact h
theorem Jb {fm : FM} {ios : List Bool} {m : M (List Vt)} (h : Wp m s fun xs s1 => OptP (argD ios xs s1) fun ds => FnP fm ds fun b d outs => P (vtOf b d) (setO ios xs outs s1)) : Wp (dCall fm ios m) s P := by rw [w_call]; exact h
theorem Jv {f : List D → List D → Option (D × List D)} {m : M (List Vt)} (h : OwnW i s s[i]? fun _ s0 => Wp m s0 fun xs s1 => MutW i f (frs' xs) s1[i]? s1 P) : Wp (dMut i f m) s P := by rw [w_mut]; exact h
theorem Yt {f : List D → List D → Option (D × List D)} {o : Option (List D)} {o2 : Option Sl} {as xs : List D} (e1 : o = some as) (e2 : o2 = some (.ow (.list xs))) (h : MutP (f xs as) fun d ys => P (.fr d) (s.set i (.ow (.list ys)))) : MutW i f o o2 s P := by subst e1 e2; exact h
theorem Yz {o : Option (D × List D)} {d : D} {ys : List D} {K : D → List D → Prop} (e : o = some (d, ys)) (h : K d ys) : MutP o K := by subst e; exact h
theorem Jw {m : M Vt} (h : Wp m s fun x s1 => ItW x fun ds => Pd ds s1) : Wp (dIt m) s Pd := by rw [w_it]; exact h
theorem Yd {x : Vt} {ds : List D} {K : List D → Prop} (e : x = .fr (.list ds)) (h : K ds) : ItW x K := by subst e; exact h
theorem Yw {x : Vt} {ds : List D} {K : List D → Prop} (e : x = .fr (.tuple ds)) (h : K ds) : ItW x K := by subst e; exact h
theorem Yx {x : Vt} {z : Str} {K : List D → Prop} (e : x = .fr (.str z)) (h : K (signs z)) : ItW x K := by subst e; exact h
theorem Jx {m : M (List Vt)} (h : Wp m s fun xs s1 => Rg1W (frs' xs) fun ds => Pd ds s1) : Wp (dRng1 m) s Pd := by rw [w_rng1]; exact h
theorem Yj {o : Option (List D)} {n : Int} {K : List D → Prop} (e : o = some [.int n]) (h : K (rng 0 n.toNat)) (c : -(2 ^ 62) ≤ n ∧ n < 2 ^ 62) : Rg1W o K := by subst e; exact ⟨c, h⟩
theorem Jy {m : M (List Vt)} (h : Wp m s fun xs s1 => Rg2W (frs' xs) fun ds => Pd ds s1) : Wp (dRng2 m) s Pd := by rw [w_rng2]; exact h
theorem X0 {o : Option (List D)} {n k : Int} {K : List D → Prop} (e : o = some [.int n, .int k]) (h : K (rng n (k - n).toNat)) (c : -(2 ^ 62) ≤ n ∧ n < 2 ^ 62 ∧ -(2 ^ 62) ≤ k ∧ k < 2 ^ 62) : Rg2W o K := by subst e; exact ⟨c, h⟩
theorem Jz {m : M (List D)} {t : Tg} {tt : M Bool} {e : M Vt} {vs : List Nat} (h : Wp m s fun ds s1 => noOw s1 vs = true ∧ LcW t tt e vs ds [] (wipeD s1 vs) fun acc s2 => P (.ow (.list acc)) (restD s1 s2 vs)) : Wp (dLc m t tt e vs) s P := by rw [w_lc]; exact h
theorem Yk {acc : List D} {x : Vt} {y : D} {K : List D → Prop} (e : x = .fr y) (h : K (acc ++ [y])) (c : acc.length < sizeLine) : AddW acc x K := by subst e; exact ⟨c, h⟩
variable {A A' : Prop} {k l : Bool}
theorem U8 (h : A) : BoolW true A A' := h
theorem U9 (h : A') : BoolW false A A' := h
theorem Ua (h : BoolW k A' A) : BoolW (!k) A A' := by rw [BoolW_not]; exact h
theorem Y9 {p : Prop} {dp : Decidable p} (h : A) (c : p) : BoolW (decide p) A A' := by rw [decide_eq_true c]; exact h
theorem Ya {p : Prop} {dp : Decidable p} (h : A') (c : ¬ p) : BoolW (decide p) A A' := by rw [decide_eq_false c]; exact h
theorem X6 {d : D} (e : isNoneD d = true) (h : A) : BoolW (isNoneD d) A A' := by rw [e]; exact h
theorem X9 {d : D} (e : isNoneD d = false) (h : A') : BoolW (isNoneD d) A A' := by rw [e]; exact h
theorem X5 {b c : Bool} (e : (b == c) = true) (h : A) : BoolW (b == c) A A' := by rw [e]; exact h
theorem X8 {b c : Bool} (e : (b == c) = false) (h : A') : BoolW (b == c) A A' := by rw [e]; exact h
theorem i_eqvT {d e : D} (q : PyData.eqv d e = true) (h : A) : BoolW (PyData.eqv d e) A A' := by rw [q]; exact h
theorem i_eqvF {d e : D} (q : PyData.eqv d e = false) (h : A') : BoolW (PyData.eqv d e) A A' := by rw [q]; exact h
/-- texts, both told -/
theorem X7 {x y : String} (c : Str.instDecEq_z (PySem.Str.ofString x) (PySem.Str.ofString y) = true) (h : A) : BoolW (decide (PySem.Str.ofString x = PySem.Str.ofString y)) A A' := by rw [decide_eq_true (Str.z_eq c)]; exact h
theorem Xa {x y : String} (c : Str.instDecEq_z (PySem.Str.ofString x) (PySem.Str.ofString y) = false) (h : A') : BoolW (decide (PySem.Str.ofString x = PySem.Str.ofString y)) A A' := by rw [decide_eq_false (Str.z_ne c)]; exact h
variable {Q : Bool → D → List D → Prop} {io : List Nat} {x : Vt} {d : D} {o : List D}
theorem Ys (e0 : x = .fr d) (e : outS s io = some o) (h : Q false d o) : EndW io x s Q := by subst e0; rw [EndW_fr, e]; exact h
theorem X1 (e0 : x = .ow d) (e : outS s io = some o) (h : Q true d o) : EndW io x s Q := by subst e0; rw [EndW_ow, e]; exact h
theorem X2 (e0 : x = .sl i) (e1 : s[i]? = some (.fr d)) (e : outS s io = some o) (h : Q false d o) : EndW io x s Q := by subst e0; rw [EndW_sl, e1, EndS_fr, e]; exact h
theorem X3 (e0 : x = .sl i) (e1 : s[i]? = some (.ow d)) (c : io.contains i = false) (e : outS s io = some o) (h : Q true d o) : EndW io x s Q := by subst e0; rw [EndW_sl, e1, EndS_ow, e]; exact ⟨c, h⟩
end
/-! ### primitives -/
section
variable {K : Vt → Prop}
theorem mulOk_r {i j : Int} (h : -(2 ^ 64) < j ∧ j < 2 ^ 64) : mulOk i j = true := by
  unfold mulOk; rw [decide_eq_true h]; simp
theorem mulOk_l {i j : Int} (h : -(2 ^ 64) < i ∧ i < 2 ^ 64) : mulOk i j = true := by
  unfold mulOk; rw [decide_eq_true h]; simp
theorem Uz {i j : Int} (h : K (.fr (.int (i * j)))) (c : (-(2 ^ 64) < i ∧ i < 2 ^ 64) ∨ (-(2 ^ 64) < j ∧ j < 2 ^ 64)) : OptP (pMul (.int i) (.int j)) K := by
  have e : pMul (.int i) (.int j) = if mulOk i j = true then some (.fr (.int (i * j))) else none := rfl
  rw [e, if_pos (c.elim mulOk_l mulOk_r)]; exact h
theorem Y0 {i j : Int} (h : K (.fr (.int (i % j)))) (c : 0 < j) : OptP (pMod (.int i) (.int j)) K := by
  have e : pMod (.int i) (.int j) = if 0 < j then some (.fr (.int (i % j))) else none := rfl
  rw [e, if_pos c]; exact h
theorem Ub {i j : Int} (h : K (.fr (.bool (decide (i < j))))) : OptP (pLt (.int i) (.int j)) K := h
theorem Uc {i j : Int} (h : K (.fr (.bool (decide (i ≤ j))))) : OptP (pLe (.int i) (.int j)) K := h
theorem Ud {i j : Int} (h : K (.fr (.bool (decide (j < i))))) : OptP (pGt (.int i) (.int j)) K := h
theorem Ue {i j : Int} (h : K (.fr (.bool (decide (j ≤ i))))) : OptP (pGe (.int i) (.int j)) K := h
theorem Uf (h : K (.fr (.int 1000000000000000000))) : OptP (pPow (.int 10) (.int 18)) K := by
  have c : (0 : Int) ≤ 18 ∧ (18 : Int) ≤ 1000000 ∧ (10 : Int).natAbs < 2 ^ 64 := by decide
  have e : pPow (.int 10) (.int 18) = if (0 : Int) ≤ 18 ∧ (18 : Int) ≤ 1000000 ∧ (10 : Int).natAbs < 2 ^ 64 then some (.fr (.int ((10 : Int) ^ (Int.toNat 18)))) else none := rfl
  have g : (10 : Int) ^ (Int.toNat 18) = 1000000000000000000 := by decide +kernel
  rw [e, if_pos c, g]; exact h
theorem Ug (h : K (.fr (.int 1000000000))) : OptP (pPow (.int 10) (.int 9)) K := by
  have c : (0 : Int) ≤ 9 ∧ (9 : Int) ≤ 1000000 ∧ (10 : Int).natAbs < 2 ^ 64 := by decide
  have e : pPow (.int 10) (.int 9) = if (0 : Int) ≤ 9 ∧ (9 : Int) ≤ 1000000 ∧ (10 : Int).natAbs < 2 ^ 64 then some (.fr (.int ((10 : Int) ^ (Int.toNat 9)))) else none := rfl
  have g : (10 : Int) ^ (Int.toNat 9) = 1000000000 := by decide +kernel
  rw [e, if_pos c, g]; exact h
theorem log2_lt {j : Int} (h : 0 < j) (c : j < 2 ^ 64) : j.natAbs.log2 < 9000 := by
  have h1 : j.natAbs < 2 ^ 64 := by omega
  have h2 : j.natAbs ≠ 0 := by omega
  have := (Nat.log2_lt h2).mpr h1
  omega
theorem Y1 {i j : Int} (h : K (.fr (.int (i / j)))) (c : 0 < j ∧ j < 2 ^ 64) : OptP (pDiv (.int i) (.int j)) K := by
  have e : pDiv (.int i) (.int j) = if 0 < j ∧ j.natAbs.log2 < 9000 then some (.fr (.int (i / j))) else none := rfl
  rw [e, if_pos ⟨c.1, log2_lt c.1 c.2⟩]; exact h
theorem Ut {x y : Str} (h : K (.fr (.str (x ++ y)))) (c : x.length + y.length ≤ sizeLine) : OptP (pAdd (.str x) (.str y)) K := by
  have e : pAdd (.str x) (.str y) = if x.length + y.length ≤ sizeLine then some (.fr (.str (x ++ y))) else none := rfl
  rw [e, if_pos c]; exact h
theorem Uu {x y : List D} (h : K (.ow (.list (x ++ y)))) (c : x.length + y.length ≤ sizeLine) : OptP (pAdd (.list x) (.list y)) K := by
  have e : pAdd (.list x) (.list y) = if x.length + y.length ≤ sizeLine then some (.ow (.list (x ++ y))) else none := rfl
  rw [e, if_pos c]; exact h
theorem Uv {x y : List D} (h : K (.fr (.tuple (x ++ y)))) (c : x.length + y.length ≤ sizeLine) : OptP (pAdd (.tuple x) (.tuple y)) K := by
  have e : pAdd (.tuple x) (.tuple y) = if x.length + y.length ≤ sizeLine then some (.fr (.tuple (x ++ y))) else none := rfl
  rw [e, if_pos c]; exact h
theorem eqv_int (i j : Int) : PyData.eqv (.int i) (.int j) = decide (i = j) := by first | rfl | simp [PyData.eqv]
theorem eqD_int (i j : Int) : eqD (.int i) (.int j) = some (decide (i = j)) := by
  rw [← eqv_int]; rfl
theorem Uh {i j : Int} (h : K (.fr (.bool (decide (i = j))))) : OptP (pEq (.int i) (.int j)) K := by unfold pEq; rw [eqD_int]; exact h
theorem Ui {i j : Int} (h : K (.fr (.bool (!decide (i = j))))) : OptP (pNe (.int i) (.int j)) K := by unfold pNe; rw [eqD_int]; exact h
theorem Uj {i j : Str} (h : K (.fr (.bool (decide (i = j))))) : OptP (pEq (.str i) (.str j)) K := h
theorem Uk {i j : Str} (h : K (.fr (.bool (!decide (i = j))))) : OptP (pNe (.str i) (.str j)) K := h
theorem Ul {b c : Bool} (h : K (.fr (.bool (!(b == c))))) : OptP (pNe (.bool b) (.bool c)) K := by
  cases b <;> cases c <;> exact h
theorem Um {b c : Bool} (h : K (.fr (.bool (b == c)))) : OptP (pEq (.bool b) (.bool c)) K := by
  cases b <;> cases c <;> exact h
theorem o_eqg {d e : D} (h : K (.fr (.bool (PyData.eqv d e)))) (c : SeqAt.shaped d = true ∧ SeqAt.shaped e = true) (n : ∀ x, d ≠ .str x) : OptP (pEq d e) K := by
  have q : eqD d e = some (PyData.eqv d e) := by
    unfold eqD
    split
    · exact absurd rfl (n _)
    · rw [if_pos c]
  unfold pEq; rw [q]; exact h
theorem o_neg {d e : D} (h : K (.fr (.bool (!PyData.eqv d e)))) (c : SeqAt.shaped d = true ∧ SeqAt.shaped e = true) (n : ∀ x, d ≠ .str x) : OptP (pNe d e) K := by
  have q : eqD d e = some (PyData.eqv d e) := by
    unfold eqD
    split
    · exact absurd rfl (n _)
    · rw [if_pos c]
  unfold pNe; rw [q]; exact h
theorem Un {i j : Int} (h : K (.fr (.int (max i j)))) : OptP (pMax2 [.int i, .int j]) K := by
  have e : (if j > i then j else i) = max i j := by omega
  show K (.fr (.int (if j > i then j else i)))
  rw [e]; exact h
theorem Uo {i j : Int} (h : K (.fr (.int (min i j)))) : OptP (pMin2 [.int i, .int j]) K := by
  have e : (if j < i then j else i) = min i j := by omega
  show K (.fr (.int (if j < i then j else i)))
  rw [e]; exact h
theorem Up {i : Int} (h : K (.fr (.int (i.natAbs : Int)))) : OptP (pAbs [.int i]) K := by
  have e : (if i < 0 then -i else i) = (i.natAbs : Int) := by omega
  show K (.fr (.int (if i < 0 then -i else i)))
  rw [e]; exact h
theorem Uw {z : Str} (h : K (.fr (.int z.length))) (c : z.length ≤ sizeLine) : OptP (pLen [.str z]) K := by
  have e : pLen [.str z] = if z.length ≤ sizeLine then some (.fr (.int z.length)) else none := rfl
  rw [e, if_pos c]; exact h
theorem Y2 {i : Int} (h : K (.fr (.str (toString i)))) (c : 0 ≤ i ∧ i < 2 ^ 64) : OptP (pStrI [.int i]) K := by
  have e : pStrI [.int i] = if i.natAbs.log2 < 1920 then some (.fr (.str (toString i))) else none := rfl
  have h1 : i.natAbs.log2 < 1920 := by
    by_cases h0 : i.natAbs = 0
    · rw [h0]; decide
    · have := (Nat.log2_lt h0).mpr (show i.natAbs < 2 ^ 64 by omega)
      omega
  rw [e, if_pos h1]; exact h
theorem Ux {xs : List D} {d : D} {L : D → List D → Prop} (h : L .none (xs ++ [d])) (c : xs.length < sizeLine) : MutP (mAppend xs [d]) L := by
  have e : mAppend xs [d] = if xs.length < sizeLine then some (.none, xs ++ [d]) else none := rfl
  rw [e, if_pos c]; exact h
theorem ixN_in {n : Nat} {i : Int} (h : 0 ≤ i) (k : i < n) : ixN n i = some i.toNat := by unfold ixN; rw [if_pos h, if_pos k]
theorem atI_in {α : Type} {xs : List α} {i : Int} (h : 0 ≤ i) (k : i < xs.length) : ∃ x, atI xs i = some x ∧ x ∈ xs ∧ xs[i.toNat]? = some x := by
  have hl : i.toNat < xs.length := by omega
  refine ⟨xs[i.toNat], ?_, List.getElem_mem hl, List.getElem?_eq_getElem hl⟩
  unfold atI; rw [ixN_in h k]
  exact List.getElem?_eq_getElem hl
/-- an item of a list, whichever -/
theorem o_ixl {xs : List D} {i : Int} (h : 0 ≤ i ∧ i < xs.length) (q : ∀ x, x ∈ xs → xs[i.toNat]? = some x → K (.fr x)) : OptP (pIx (.list xs) (.int i)) K := by
  obtain ⟨x, e, m, g⟩ := atI_in h.1 h.2
  show OptP ((atI xs i).map Vt.fr) K
  rw [e]; exact q x m g
theorem o_ixt {xs : List D} {i : Int} (h : 0 ≤ i ∧ i < xs.length) (q : ∀ x, x ∈ xs → xs[i.toNat]? = some x → K (.fr x)) : OptP (pIx (.tuple xs) (.int i)) K := by
  obtain ⟨x, e, m, g⟩ := atI_in h.1 h.2
  show OptP ((atI xs i).map Vt.fr) K
  rw [e]; exact q x m g
theorem o_ixs {z : Str} {i : Int} (h : 0 ≤ i ∧ i < z.length) (c : z.length ≤ sizeLine) (q : ∀ x, x ∈ z.cps.toList → K (.fr (.str ⟨#[x]⟩))) : OptP (pIx (.str z) (.int i)) K := by
  have hz : z.length = z.cps.toList.length := by first | rfl | simp [PySem.Str.length]
  obtain ⟨x, e, m, g⟩ := atI_in (xs := z.cps.toList) h.1 (by rw [← hz]; exact h.2)
  have e2 : pIx (.str z) (.int i) = if z.length ≤ sizeLine then (atI z.cps.toList i).map fun c => .fr (.str ⟨#[c]⟩) else none := rfl
  rw [e2, if_pos c, e]; exact q x m
end
theorem isi_n_s : isiD "str" .none = some false := kit_n_s
theorem isi_n_i : isiD "int" .none = some false := kit_n_i
theorem isi_n_t : isiD "tuple" .none = some false := kit_n_t
theorem isi_n_b : isiD "bool" .none = some false := kit_n_b
theorem isi_n_l : isiD "list" .none = some false := kit_n_l
theorem isi_b_s (k : Bool) : isiD "str" (.bool k) = some false := kit_b_s
theorem isi_b_i (k : Bool) : isiD "int" (.bool k) = some true := kit_b_i
theorem isi_b_t (k : Bool) : isiD "tuple" (.bool k) = some false := kit_b_t
theorem isi_b_b (k : Bool) : isiD "bool" (.bool k) = some true := kit_b_b
theorem isi_b_l (k : Bool) : isiD "list" (.bool k) = some false := kit_b_l
theorem isi_i_s (k : Int) : isiD "str" (.int k) = some false := kit_i_s
theorem isi_i_i (k : Int) : isiD "int" (.int k) = some true := kit_i_i
theorem isi_i_t (k : Int) : isiD "tuple" (.int k) = some false := kit_i_t
theorem isi_i_b (k : Int) : isiD "bool" (.int k) = some false := kit_i_b
theorem isi_i_l (k : Int) : isiD "list" (.int k) = some false := kit_i_l
theorem isi_s_s (k : Str) : isiD "str" (.str k) = some true := kit_s_s
theorem isi_s_i (k : Str) : isiD "int" (.str k) = some false := kit_s_i
theorem isi_s_t (k : Str) : isiD "tuple" (.str k) = some false := kit_s_t
theorem isi_s_b (k : Str) : isiD "bool" (.str k) = some false := kit_s_b
theorem isi_s_l (k : Str) : isiD "list" (.str k) = some false := kit_s_l
theorem isi_l_s (k : List D) : isiD "str" (.list k) = some false := kit_l_s
theorem isi_l_i (k : List D) : isiD "int" (.list k) = some false := kit_l_i
theorem isi_l_t (k : List D) : isiD "tuple" (.list k) = some false := kit_l_t
theorem isi_l_b (k : List D) : isiD "bool" (.list k) = some false := kit_l_b
theorem isi_l_l (k : List D) : isiD "list" (.list k) = some true := kit_l_l
theorem isi_t_s (k : List D) : isiD "str" (.tuple k) = some false := kit_t_s
theorem isi_t_i (k : List D) : isiD "int" (.tuple k) = some false := kit_t_i
theorem isi_t_t (k : List D) : isiD "tuple" (.tuple k) = some true := kit_t_t
theorem isi_t_b (k : List D) : isiD "bool" (.tuple k) = some false := kit_t_b
theorem isi_t_l (k : List D) : isiD "list" (.tuple k) = some false := kit_t_l
def isQ_t : D → Option Bool
  | .none => some false
  | .bool _ => some false
  | .int _ => some false
  | .str _ => some false
  | .list _ => some false
  | .tuple _ => some true
  | _ => none
theorem Ym {d : D} {b : Bool} {K : Bool → Prop} (e : isQ_t d = some b) (h : K b) : OptP (isiD "tuple" d) K := by
  cases d with
  | none => cases e; exact Xb (isi_n_t) h
  | bool x => cases e; exact Xb (isi_b_t x) h
  | int x => cases e; exact Xb (isi_i_t x) h
  | str x => cases e; exact Xb (isi_s_t x) h
  | list x => cases e; exact Xb (isi_l_t x) h
  | tuple x => cases e; exact Xb (isi_t_t x) h
  | dict x => cases e
def isQ_i : D → Option Bool
  | .none => some false
  | .bool _ => some true
  | .int _ => some true
  | .str _ => some false
  | .list _ => some false
  | .tuple _ => some false
  | _ => none
theorem Yn {d : D} {b : Bool} {K : Bool → Prop} (e : isQ_i d = some b) (h : K b) : OptP (isiD "int" d) K := by
  cases d with
  | none => cases e; exact Xb (isi_n_i) h
  | bool x => cases e; exact Xb (isi_b_i x) h
  | int x => cases e; exact Xb (isi_i_i x) h
  | str x => cases e; exact Xb (isi_s_i x) h
  | list x => cases e; exact Xb (isi_l_i x) h
  | tuple x => cases e; exact Xb (isi_t_i x) h
  | dict x => cases e
def isQ_s : D → Option Bool
  | .none => some false
  | .bool _ => some false
  | .int _ => some false
  | .str _ => some true
  | .list _ => some false
  | .tuple _ => some false
  | _ => none
theorem Yo {d : D} {b : Bool} {K : Bool → Prop} (e : isQ_s d = some b) (h : K b) : OptP (isiD "str" d) K := by
  cases d with
  | none => cases e; exact Xb (isi_n_s) h
  | bool x => cases e; exact Xb (isi_b_s x) h
  | int x => cases e; exact Xb (isi_i_s x) h
  | str x => cases e; exact Xb (isi_s_s x) h
  | list x => cases e; exact Xb (isi_l_s x) h
  | tuple x => cases e; exact Xb (isi_t_s x) h
  | dict x => cases e
def isQ_b : D → Option Bool
  | .none => some false
  | .bool _ => some true
  | .int _ => some false
  | .str _ => some false
  | .list _ => some false
  | .tuple _ => some false
  | _ => none
theorem Yp {d : D} {b : Bool} {K : Bool → Prop} (e : isQ_b d = some b) (h : K b) : OptP (isiD "bool" d) K := by
  cases d with
  | none => cases e; exact Xb (isi_n_b) h
  | bool x => cases e; exact Xb (isi_b_b x) h
  | int x => cases e; exact Xb (isi_i_b x) h
  | str x => cases e; exact Xb (isi_s_b x) h
  | list x => cases e; exact Xb (isi_l_b x) h
  | tuple x => cases e; exact Xb (isi_t_b x) h
  | dict x => cases e
def isQ_l : D → Option Bool
  | .none => some false
  | .bool _ => some false
  | .int _ => some false
  | .str _ => some false
  | .list _ => some true
  | .tuple _ => some false
  | _ => none
theorem Yq {d : D} {b : Bool} {K : Bool → Prop} (e : isQ_l d = some b) (h : K b) : OptP (isiD "list" d) K := by
  cases d with
  | none => cases e; exact Xb (isi_n_l) h
  | bool x => cases e; exact Xb (isi_b_l x) h
  | int x => cases e; exact Xb (isi_i_l x) h
  | str x => cases e; exact Xb (isi_s_l x) h
  | list x => cases e; exact Xb (isi_l_l x) h
  | tuple x => cases e; exact Xb (isi_t_l x) h
  | dict x => cases e
end L2.Zd

set_option Elab.async false
set_option linter.all false
set_option maxRecDepth 100000
set_option maxHeartbeats 2000000
namespace L2.Zd
open PySem PySem.Spec PyProof.Rows
/-! ### slices -/
theorem cutG_hi {α : Type} (xs : List α) {k : Int} (h : 0 ≤ k) : cutG xs none (some k) = xs.take k.toNat := by
  unfold cutG HT.sIx
  simp only [show ¬ k < 0 by omega, if_false, List.drop_zero, Nat.sub_zero]
  by_cases hk : k.toNat ≤ xs.length
  · rw [Nat.min_eq_left hk]
  · rw [Nat.min_eq_right (by omega), List.take_length, List.take_of_length_le (by omega)]
theorem cutG_lo {α : Type} (xs : List α) {k : Int} (h : 0 ≤ k) : cutG xs (some k) none = xs.drop k.toNat := by
  unfold cutG HT.sIx
  simp only [show ¬ k < 0 by omega, if_false]
  by_cases hk : k.toNat ≤ xs.length
  · rw [Nat.min_eq_left hk, List.take_of_length_le (by rw [List.length_drop]; exact Nat.le_refl _)]
  · rw [Nat.min_eq_right (by omega), Nat.sub_self, List.take_zero, List.drop_of_length_le (by omega)]
theorem cutG_mid {α : Type} (xs : List α) {j k : Int} (hj : 0 ≤ j) (h : 0 ≤ k) : cutG xs (some j) (some k) = (xs.take k.toNat).drop j.toNat := by
  unfold cutG HT.sIx
  simp only [show ¬ k < 0 by omega, show ¬ j < 0 by omega, if_false]
  rw [List.drop_take]
  by_cases hk : j.toNat ≤ xs.length
  · rw [Nat.min_eq_left hk]
    by_cases h2 : k.toNat ≤ xs.length
    · rw [Nat.min_eq_left h2]
    · rw [Nat.min_eq_right (by omega), List.take_of_length_le (by rw [List.length_drop]; exact Nat.le_refl _), List.take_of_length_le (by rw [List.length_drop]; omega)]
  · rw [Nat.min_eq_right (show xs.length ≤ j.toNat by omega), List.drop_of_length_le (Nat.le_refl _), List.drop_of_length_le (show xs.length ≤ j.toNat by omega), List.take_nil, List.take_nil]
section
variable {K : Vt → Prop} {ds : List D} {j k : Int}
theorem Y3 (h : K (.fr (.tuple (ds.take k.toNat)))) (c : 0 ≤ k) : OptP (pSl none (some k) (.tuple ds)) K := by
  rw [← cutG_hi ds c] at h; exact h
theorem Y4 (h : K (.fr (.tuple (ds.drop k.toNat)))) (c : 0 ≤ k) : OptP (pSl (some k) none (.tuple ds)) K := by
  rw [← cutG_lo ds c] at h; exact h
theorem Y7 (h : K (.fr (.tuple ((ds.take k.toNat).drop j.toNat)))) (c : 0 ≤ j) (c2 : 0 ≤ k) : OptP (pSl (some j) (some k) (.tuple ds)) K := by
  rw [← cutG_mid ds c c2] at h; exact h
theorem Y5 (h : K (.ow (.list (ds.take k.toNat)))) (c : 0 ≤ k) : OptP (pSl none (some k) (.list ds)) K := by
  rw [← cutG_hi ds c] at h; exact h
theorem Y6 (h : K (.ow (.list (ds.drop k.toNat)))) (c : 0 ≤ k) : OptP (pSl (some k) none (.list ds)) K := by
  rw [← cutG_lo ds c] at h; exact h
theorem Y8 (h : K (.ow (.list ((ds.take k.toNat).drop j.toNat)))) (c : 0 ≤ j) (c2 : 0 ≤ k) : OptP (pSl (some j) (some k) (.list ds)) K := by
  rw [← cutG_mid ds c c2] at h; exact h
theorem Us {i : Int} (h : K (.fr (.int (-i)))) : OptP (pNeg (.int i)) K := h
end
theorem set_put {α : Type} (ds : List α) (k : Nat) (x : α) (h : k < ds.length) : ds.take k ++ [x] ++ ds.drop (k + 1) = ds.set k x := by
  rw [List.set_eq_take_append_cons_drop, if_pos h, List.append_assoc]; rfl
/-! ### lists of texts -/
theorem eqv_str (a b : Str) : PyData.eqv (.str a) (.str b) = decide (a = b) := by first | rfl | simp [PyData.eqv]
theorem all_flat_strs (zs : List Str) : (zs.map PyData.str).all flatD = true := by
  rw [List.all_eq_true]; intro x hx
  obtain ⟨z, _, rfl⟩ := List.mem_map.mp hx
  rfl
theorem any_strs (z : Str) (zs : List Str) : ((zs.map PyData.str).any fun y => PyData.eqv y (.str z)) = decide (z ∈ zs) := by
  induction zs with
  | nil => rfl
  | cons y ys ih =>
    rw [List.map_cons, List.any_cons, ih, eqv_str]
    by_cases h : y = z
    · subst h; simp
    · have h' : ¬ z = y := fun e => h e.symm
      simp [h, h']
section
variable {K : Vt → Prop} {z : Str} {zs : List Str}
theorem inD_strs : inD (.str z) (.list (zs.map .str)) = some (decide (z ∈ zs)) := by
  show anyD (.str z) (zs.map .str) = _
  unfold anyD
  rw [if_pos ⟨rfl, all_flat_strs zs⟩, any_strs]
theorem Uq (h : K (.fr (.bool (decide (z ∈ zs))))) : OptP (pIn (.str z) (.list (zs.map .str))) K := by
  unfold pIn; rw [inD_strs]; exact h
theorem Ur (h : K (.fr (.bool (!decide (z ∈ zs))))) : OptP (pNotIn (.str z) (.list (zs.map .str))) K := by
  unfold pNotIn; rw [inD_strs]; exact h
theorem Uy {a b : Str} (h : K (.ow (.list ((Txt.split a b).map .str)))) (c : (b.length == 0) = false ∧ a.length + 2 ≤ sizeLine) : OptP (pSplit (.str a) (.str b)) K := by
  have e : pSplit (.str a) (.str b) = if (b.length == 0) = false ∧ a.length + 2 ≤ sizeLine then some (.ow (.list ((Txt.split a b).map .str))) else none := rfl
  rw [e, if_pos c]; exact h
/-- whether something flat is among flat things -/
theorem o_in_flat {d : D} {ds : List D} (h : ∀ b, K (.fr (.bool b))) (c : flatD d = true ∧ ds.all flatD = true) : OptP (pIn d (.list ds)) K := by
  have e : inD d (.list ds) = anyD d ds := by cases d <;> rfl
  unfold pIn; rw [e]; unfold anyD; rw [if_pos c]; exact h _
end
/-- a list all of whose items stand in another is no longer -/
theorem nodup_le {α : Type} [DecidableEq α] : ∀ {C U : List α}, C.Nodup → (∀ x ∈ C, x ∈ U) → C.length ≤ U.length
  | [], _, _, _ => Nat.zero_le _
  | x :: C, U, nd, h => by
    have hx := h x List.mem_cons_self
    have nd' := List.nodup_cons.mp nd
    have h2 : ∀ y ∈ C, y ∈ U.erase x := fun y hy => by
      have ne : y ≠ x := fun e => nd'.1 (e ▸ hy)
      exact (List.mem_erase_of_ne ne).mpr (h y (List.mem_cons_of_mem _ hy))
    have := nodup_le nd'.2 h2
    rw [List.length_erase_of_mem hx] at this
    have hpos := List.length_pos_of_mem hx
    rw [List.length_cons]; omega
theorem pigeon {α : Type} [DecidableEq α] {C U : List α} (nd : C.Nodup) (h : U.length < C.length) : ∃ x ∈ C, x ∉ U := by
  refine Classical.byContradiction fun n => ?_
  have : ∀ x ∈ C, x ∈ U := fun x hx => Classical.byContradiction fun hn => n ⟨x, hx, hn⟩
  have := nodup_le nd this
  omega
theorem nodup_map_range {α : Type} {f : Nat → α} {k : Nat} (h : ∀ i j, i < k → j < k → f i = f j → i = j) : ((List.range k).map f).Nodup := by
  unfold List.Nodup
  rw [List.pairwise_map]
  refine List.Pairwise.imp_of_mem ?_ List.nodup_range
  intro a b ha hb hab e
  exact hab (h a b (List.mem_range.mp ha) (List.mem_range.mp hb) e)
/-! ### a comprehension whose turns change nothing -/
theorem lc_pure (g : D → D) (p : D → Bool) {t : Tg} {tt : M Bool} {e : M Vt} {vs : List Nat} {ds : List D} {s : DS} {P : List D → DS → Prop}
    (hs : ∀ d ∈ ds, OptP (asg t d s) fun s1 => Wp tt s1 fun b s2 => BoolW b (Wp e s2 fun x s3 => x = .fr (g d) ∧ p d = true ∧ wipeD s3 vs = s) (p d = false ∧ wipeD s2 vs = s)) (hl : ds.length ≤ sizeLine) (hP : P ((ds.filter p).map g) s) : LcW t tt e vs ds [] s P := by
  suffices h : ∀ ds' acc, (∀ d ∈ ds', d ∈ ds) → acc.length + ds'.length ≤ sizeLine → P (acc ++ (ds'.filter p).map g) s → LcW t tt e vs ds' acc s P from
    h ds [] (fun d h => h) (by simpa using hl) (by simpa using hP)
  intro ds'
  induction ds' with
  | nil => intro acc _ _ q; rw [lcW_nil]; simpa using q
  | cons d ds' ih =>
    intro acc hm hle q
    rw [lcW_cons]
    have h1 := hs d (hm d List.mem_cons_self)
    revert h1
    cases asg t d s with
    | none => exact fun h => h
    | some s1 =>
      intro h1
      refine Wp_mono h1 fun b s2 h2 => ?_
      rw [List.length_cons] at hle
      cases b with
      | false =>
        obtain ⟨hp, hw⟩ := (show p d = false ∧ wipeD s2 vs = s from h2)
        rw [BoolW_f, hw]
        refine ih acc (fun x hx => hm x (List.mem_cons_of_mem _ hx)) (by omega) ?_
        rwa [List.filter_cons_of_neg (by simp [hp])] at q
      | true =>
        refine Wp_mono h2 fun x s3 h3 => ?_
        obtain ⟨hx, hp, hw⟩ := h3
        subst hx
        rw [AddW_fr, hw]
        refine ⟨by omega, ih _ (fun x hx => hm x (List.mem_cons_of_mem _ hx)) (by rw [List.length_append, List.length_singleton]; omega) ?_⟩
        rw [List.filter_cons_of_pos hp, List.map_cons] at q
        rw [List.append_assoc]
        exact q
end L2.Zd

set_option Elab.async false
set_option linter.all false
set_option maxRecDepth 100000
set_option maxHeartbeats 2000000
/-! What the defs do that many laws share (printed by gen.py), as mirrors. -/
namespace L2.Zd.Lib
open PySem PySem.Spec PyProof.Rows L2.Zd
/-! is_data -/
abbrev io_is_data : List Bool := [false]
/-- slots: 0 shape -/
def b_is_data (is_data : FM) : MS :=
 (sCons (sIf (dNotB (dTru (dIsi "tuple" (dVar 0))))
 (sRet (dC (.bool true)))
 sNil)
 (sRet (dAndV (dOp2 pEq (dOp2 pIx (dVar 0) (dC (.int 0))) (dC (.str "pair"))) (dAndV (dCall is_data io_is_data (dCons (dOp2 pIx (dVar 0) (dC (.int 1))) dNil)) (dCall is_data io_is_data (dCons (dOp2 pIx (dVar 0) (dC (.int 2))) dNil))))))
def f_is_data (is_data : FM) : FM := mkF 1 io_is_data (b_is_data is_data)
/-! function_shape -/
abbrev io_function_shape : List Bool := [false, false]
/-- slots: 0 obj, 1 number, 2 function -/
def b_function_shape : MS :=
 (sCons (sSet 2 (dOp2 pIx (dOp2 pIx (dVar 0) (dC (.int 1))) (dVar 1)))
 (sRet (dTup (dCons (dC (.str "to")) (dCons (dOp2 pIx (dVar 2) (dC (.int 1))) (dCons (dOp2 pIx (dVar 2) (dC (.int 2))) dNil))))))
def f_function_shape : FM := mkF 3 io_function_shape b_function_shape
/-! face_of -/
abbrev io_face_of : List Bool := [false]
/-- slots: 0 obj, 1 name, 2 number -/
def b_face_of (function_shape : FM) : MS :=
 (sRet (dTup (dCons (dOp2 pIx (dVar 0) (dC (.int 0))) (dCons (dCB pTuple (dCons (dLc (dIt (dOp2 pIx (dVar 0) (dC (.int 2)))) (.tp [(.nm 1), (.nm 2)]) dYes (dTup (dCons (fz (dVar 1)) (dCons (fz (dCall function_shape io_function_shape (dCons (fz (dVar 0)) (dCons (fz (dVar 2)) dNil)))) dNil))) [1, 2]) dNil)) dNil))))
def f_face_of (function_shape : FM) : FM := mkF 3 io_face_of (b_face_of function_shape)
/-! exported_function -/
abbrev io_exported_function : List Bool := [false, false]
/-- slots: 0 obj, 1 name, 2 exported, 3 number -/
def b_exported_function : MS :=
 (sCons (sFor (dIt (dOp2 pIx (dVar 0) (dC (.int 2)))) (.tp [(.nm 2), (.nm 3)])
 (sIf (dTb (dOp2 pEq (dVar 2) (dVar 1)))
 (sRet (dVar 3))
 sNil))
 (sRet (dC .none)))
def f_exported_function : FM := mkF 4 io_exported_function b_exported_function
/-! is_program -/
abbrev io_is_program : List Bool := [false]
/-- slots: 0 obj, 1 number, 2 captured, 3 parameter, 4 result, 5 code -/
def b_is_program (exported_function : FM) (is_data : FM) : MS :=
 (sCons (sSet 1 (dCall exported_function io_exported_function (dCons (fz (dVar 0)) (dCons (dC (.str "main")) dNil))))
 (sCons (sIf (dOrB (dTb (dOp2 pNe (dOp2 pIx (dVar 0) (dC (.int 0))) (dTup dNil))) (dOrB (dTb (dOp2 pIsN (dVar 1) (dC .none))) (dTb (dOp2 pGe (dVar 1) (dCB pLen (dCons (dOp2 pIx (dVar 0) (dC (.int 1))) dNil))))))
 (sRet (dC (.bool false)))
 sNil)
 (sCons (sAsg (.tp [(.nm 2), (.nm 3), (.nm 4), (.nm 5)]) (dOp2 pIx (dOp2 pIx (dVar 0) (dC (.int 1))) (dVar 1)))
 (sRet (dAndV (dOp2 pEq (dVar 2) (dTup dNil)) (dAndV (dOp2 pEq (dVar 3) (dC (.int 1))) (dCall is_data io_is_data (dCons (fz (dVar 4)) dNil))))))))
def f_is_program (exported_function : FM) (is_data : FM) : FM := mkF 6 io_is_program (b_is_program exported_function is_data)
/-! _law_tape -/
abbrev io_l_tape : List Bool := [false]
/-- slots: 0 script, 1 mixed, 2 cell -/
def b_l_tape : MS :=
 (sCons (sSet 1 (dC (.int 7)))
 (sCons (sFor (dIt (fz (dVar 0))) (.nm 2)
 (sSet 1 (dOp2 pMod (dCB pInt (dCons (dOp2 pAdd (dOp2 pMul (dVar 1) (dC (.int 31))) (dCB pAbs (dCons (dCB pInt (dCons (dVar 2) dNil)) dNil))) dNil)) (dC (.int 2147483647)))))
 (sRet (dLst (dCons (fz (dCB pList (dCons (dVar 0) dNil))) (dCons (dC (.int 0)) (dCons (dC (.int 0)) (dCons (fz (dVar 1)) dNil))))))))
def f_l_tape : FM := mkF 3 io_l_tape b_l_tape
/-! _law_draw -/
abbrev io_l_draw : List Bool := [true, false]
/-- slots: 0 tape, 1 wide, 2 place, 3 number -/
def b_l_draw : MS :=
 (sCons (sIf (dTb (dOp2 pEq (dOp2 pIx (dVar 0) (dC (.int 2))) (dC (.int 0))))
 (sCons (sSet 2 (dOp2 pIx (dVar 0) (dC (.int 1))))
 (sCons (sSet 3 (dC (.int 0)))
 (sCons (sIf (dTb (dOp2 pLt (dVar 2) (dCB pLen (dCons (dOp2 pIx (dVar 0) (dC (.int 0))) dNil))))
 (sSet 3 (dCB pAbs (dCons (dCB pInt (dCons (dOp2 pIx (dOp2 pIx (dVar 0) (dC (.int 0))) (dVar 2)) dNil)) dNil)))
 (sCons (sSto 0 (dOp2 pMod (dCB pInt (dCons (dOp2 pAdd (dOp2 pAdd (dOp2 pMul (dOp2 pIx (dVar 0) (dC (.int 3))) (dC (.int 48271))) (dVar 2)) (dC (.int 1))) dNil)) (dC (.int 2147483647))) (dC (.int 3)))
 (sSet 3 (dOp2 pIx (dVar 0) (dC (.int 3))))))
 (sCons (sSto 0 (fz (dOp2 pAdd (dVar 2) (dC (.int 1)))) (dC (.int 1)))
 (sCons (sIf (dTb (dOp2 pLt (dVar 3) (dOp2 pPow (dC (.int 10)) (dC (.int 18)))))
 (sCons (sSet 3 (dOp2 pMod (dCB pInt (dCons (dOp2 pAdd (dOp2 pAdd (dOp2 pMul (dVar 3) (dC (.int 48271))) (dOp2 pMul (dVar 2) (dC (.int 69621)))) (dC (.int 5))) dNil)) (dC (.int 2147483647))))
 (sCons (sSet 3 (dOp2 pMod (dCB pInt (dCons (dOp2 pMul (dVar 3) (dC (.int 69621))) dNil)) (dC (.int 2147483629))))
 (sRet (dOp2 pMod (dCB pInt (dCons (dVar 3) dNil)) (dCB pMax2 (dCons (dVar 1) (dCons (dC (.int 1)) dNil)))))))
 sNil)
 (sSto 0 (fz (dVar 3)) (dC (.int 2))))))))
 sNil)
 (sCons (sSet 3 (dOp2 pIx (dVar 0) (dC (.int 2))))
 (sCons (sSto 0 (dOp2 pDiv (dVar 3) (dCB pMax2 (dCons (dVar 1) (dCons (dC (.int 2)) dNil)))) (dC (.int 2)))
 (sRet (dOp2 pMod (dCB pInt (dCons (dVar 3) dNil)) (dCB pMax2 (dCons (dVar 1) (dCons (dC (.int 1)) dNil))))))))
def f_l_draw : FM := mkF 4 io_l_draw b_l_draw
/-! _law_pick -/
abbrev io_l_pick : List Bool := [true, false]
/-- slots: 0 tape, 1 menu -/
def b_l_pick (l_draw : FM) : MS :=
 (sRet (dOp2 pIx (dVar 1) (dCall l_draw io_l_draw (dCons (dOwn 0) (dCons (dCB pLen (dCons (dVar 1) dNil)) dNil)))))
def f_l_pick (l_draw : FM) : FM := mkF 2 io_l_pick (b_l_pick l_draw)
/-! _law_turns -/
abbrev io_l_turns : List Bool := [true, false]
/-- slots: 0 tape, 1 total, 2 left, 3 turns, 4 k -/
def b_l_turns (l_draw : FM) : MS :=
 (sCons (sSet 2 (dLRng (dVar 1)))
 (sCons (sSet 3 (dLst dNil))
 (sCons (sFor (dRng1 (dCons (fz (dVar 1)) dNil)) (.nm 4)
 (sExpr (dMut 3 mAppend (dCons (fz (dMut 2 mPopAt (dCons (fz (dCall l_draw io_l_draw (dCons (dOwn 0) (dCons (dCB pLen (dCons (dVar 2) dNil)) dNil)))) dNil))) dNil))))
 (sRet (dSl (dVar 3) dNoP (dPart (dOp2 pIx (dLst (dCons (fz (dVar 1)) (dCons (fz (dVar 1)) (dCons (dC (.int 1)) dNil)))) (dCall l_draw io_l_draw (dCons (dOwn 0) (dCons (dC (.int 3)) dNil))))))))))
def f_l_turns (l_draw : FM) : FM := mkF 5 io_l_turns (b_l_turns l_draw)
/-! _law_put -/
abbrev io_l_put : List Bool := [false, false, false]
/-- slots: 0 told, 1 place, 2 thing -/
def b_l_put : MS :=
 (sRet (dOp2 pAdd (dOp2 pAdd (dSl (dVar 0) dNoP (dPart (dVar 1))) (dTup (dCons (fz (dVar 2)) dNil))) (dSl (dVar 0) (dPart (dOp2 pAdd (dVar 1) (dC (.int 1)))) dNoP)))
def f_l_put : FM := mkF 3 io_l_put b_l_put
/-! _law_same -/
abbrev io_l_same : List Bool := [false, false]
/-- slots: 0 told, 1 wanted, 2 k -/
def b_l_same (l_same : FM) : MS :=
 (sCons (sIf (dTru (dIsi "tuple" (dVar 1)))
 (sCons (sIf (dOrB (dNotB (dTru (dIsi "tuple" (dVar 0)))) (dTb (dOp2 pNe (dCB pLen (dCons (dVar 0) dNil)) (dCB pLen (dCons (dVar 1) dNil)))))
 (sRet (dC (.bool false)))
 sNil)
 (sCons (sFor (dRng1 (dCons (dCB pLen (dCons (dVar 1) dNil)) dNil)) (.nm 2)
 (sIf (dNotB (dTru (dCall l_same io_l_same (dCons (dOp2 pIx (dVar 0) (dVar 2)) (dCons (dOp2 pIx (dVar 1) (dVar 2)) dNil)))))
 (sRet (dC (.bool false)))
 sNil))
 (sRet (dC (.bool true)))))
 sNil)
 (sCons (sIf (dOrB (dTb (dOp2 pIsN (dVar 1) (dC .none))) (dTb (dOp2 pIsN (dVar 0) (dC .none))))
 (sRet (dAndV (dOp2 pIsN (dVar 1) (dC .none)) (dOp2 pIsN (dVar 0) (dC .none))))
 sNil)
 (sCons (sIf (dTru (dIsi "str" (dVar 1)))
 (sRet (dAndV (dIsi "str" (dVar 0)) (dOp2 pEq (dVar 0) (dVar 1))))
 sNil)
 (sCons (sIf (dOrB (dTb (dOp2 pNe (dIsi "bool" (dVar 0)) (dIsi "bool" (dVar 1)))) (dNotB (dTru (dIsi "int" (dVar 0)))))
 (sRet (dC (.bool false)))
 sNil)
 (sRet (dOp2 pEq (dVar 0) (dVar 1)))))))
def f_l_same (l_same : FM) : FM := mkF 3 io_l_same (b_l_same l_same)
/-! _law_names -/
abbrev io_l_names : List Bool := [true, false]
/-- slots: 0 tape, 1 total, 2 signs, 3 barred, 4 stem, 5 names, 6 k, 7 name, 8 j, 9 other -/
def b_l_names (l_pick : FM) (l_draw : FM) : MS :=
 (sCons (sSet 2 (dC (.str "abcdefghijklmnopqrstuvwxyz0123456789_ABCDEFGHIJKLMNOPQRSTUVWXYZ")))
 (sCons (sSet 3 (dC (.str "enum import export def fun let in if then else match raise try catch unit bool error false true invalid missing main")))
 (sCons (sSet 4 (dCall l_pick io_l_pick (dCons (dOwn 0) (dCons (fz (dLst (dCons (dC (.str "")) (dCons (dC (.str "")) (dCons (dC (.str "")) (dCons (dC (.str "a")) (dCons (dC (.str "in")) (dCons (dC (.str "let_")) (dCons (dC (.str "z9z9z9z9z9")) dNil))))))))) dNil))))
 (sCons (sSet 5 (dLst dNil))
 (sCons (sFor (dRng1 (dCons (fz (dVar 1)) dNil)) (.nm 6)
 (sCons (sSet 7 (dVar 4))
 (sCons (sFor (dRng1 (dCons (fz (dCall l_pick io_l_pick (dCons (dOwn 0) (dCons (fz (dLst (dCons (dC (.int 1)) (dCons (dC (.int 1)) (dCons (dC (.int 2)) (dCons (dC (.int 3)) (dCons (dOp2 pSub (dC (.int 12)) (dCB pLen (dCons (dVar 4) dNil))) dNil))))))) dNil)))) dNil)) (.nm 8)
 (sIf (dTb (dOp2 pLt (dCB pLen (dCons (dVar 7) dNil)) (dC (.int 12))))
 (sSet 7 (dOp2 pAdd (dVar 7) (dOp2 pIx (dVar 2) (dCall l_draw io_l_draw (dCons (dOwn 0) (dCons (fz (dIf (dTb (dOp2 pNe (dVar 7) (dC (.str "")))) (dC (.int 63)) (dC (.int 26)))) dNil))))))
 sNil))
 (sCons (sIf (dOrB (dTb (dOp2 pIn (dVar 7) (dVar 5))) (dTb (dOp2 pIn (dVar 7) (dStr1 pSplit (dVar 3) (dC (.str " "))))))
 (sSet 7 (dOp2 pIx (dLc (dIt (fz (dLc (dRng1 (dCons (fz (dOp2 pAdd (dCB pLen (dCons (dVar 5) dNil)) (dC (.int 1)))) dNil)) (.nm 8) dYes (fz (dOp2 pAdd (dOp2 pAdd (dC (.str "q")) (dCB pStrI (dCons (dVar 8) dNil))) (dC (.str "_")))) [8]))) (.nm 9) (dTb (dOp2 pNotIn (dVar 9) (dVar 5))) (fz (dVar 9)) [9]) (dC (.int 0))))
 sNil)
 (sExpr (dMut 5 mAppend (dCons (fz (dVar 7)) dNil)))))))
 (sRet (dVar 5)))))))
def f_l_names (l_pick : FM) (l_draw : FM) : FM := mkF 10 io_l_names (b_l_names l_pick l_draw)
/-! _law_shape_is_data -/
abbrev io_l_shape_is_data : List Bool := [false]
/-- slots: 0 shape -/
def b_l_shape_is_data (l_shape_is_data : FM) : MS :=
 (sCons (sIf (dTru (dIsi "int" (dVar 0)))
 (sRet (dC (.bool true)))
 sNil)
 (sRet (dAndV (dOp2 pEq (dOp2 pIx (dVar 0) (dC (.int 0))) (dC (.str "pair"))) (dAndV (dCall l_shape_is_data io_l_shape_is_data (dCons (dOp2 pIx (dVar 0) (dC (.int 1))) dNil)) (dCall l_shape_is_data io_l_shape_is_data (dCons (dOp2 pIx (dVar 0) (dC (.int 2))) dNil))))))
def f_l_shape_is_data (l_shape_is_data : FM) : FM := mkF 1 io_l_shape_is_data (b_l_shape_is_data l_shape_is_data)
/-! _law_shape_any -/
abbrev io_l_shape_any : List Bool := [true, false]
/-- slots: 0 tape, 1 size, 2 kind, 3 left, 4 first -/
def b_l_shape_any (l_draw : FM) (l_pick : FM) (l_shape_any : FM) : MS :=
 (sCons (sSet 2 (dCall l_draw io_l_draw (dCons (dOwn 0) (dCons (dC (.int 5)) dNil))))
 (sCons (sIf (dOrB (dTb (dOp2 pLt (dVar 1) (dC (.int 3)))) (dTb (dOp2 pLt (dVar 2) (dC (.int 2)))))
 (sRet (dCall l_pick io_l_pick (dCons (dOwn 0) (dCons (fz (dLst (dCons (dC (.int 1)) (dCons (dC (.int 2)) (dCons (dC (.int 2)) (dCons (dC (.int 2)) (dCons (dC (.int 3)) (dCons (dC (.int 1)) (dCons (dC (.int 4)) (dCons (dC (.int 5)) (dCons (dC (.int 6)) dNil))))))))))) dNil))))
 sNil)
 (sCons (sSet 3 (dOp2 pAdd (dC (.int 1)) (dCall l_draw io_l_draw (dCons (dOwn 0) (dCons (dOp2 pSub (dVar 1) (dC (.int 2))) dNil)))))
 (sCons (sSet 4 (dCall l_shape_any io_l_shape_any (dCons (dOwn 0) (dCons (fz (dVar 3)) dNil))))
 (sRet (dTup (dCons (fz (dIf (dTb (dOp2 pEq (dVar 2) (dC (.int 2)))) (dC (.str "pair")) (dC (.str "to")))) (dCons (fz (dVar 4)) (dCons (fz (dCall l_shape_any io_l_shape_any (dCons (dOwn 0) (dCons (dOp2 pSub (dOp2 pSub (dVar 1) (dC (.int 1))) (dVar 3)) dNil)))) dNil)))))))))
def f_l_shape_any (l_draw : FM) (l_pick : FM) (l_shape_any : FM) : FM := mkF 5 io_l_shape_any (b_l_shape_any l_draw l_pick l_shape_any)
/-! _law_shape_data -/
abbrev io_l_shape_data : List Bool := [true, false]
/-- slots: 0 tape, 1 size, 2 left, 3 first -/
def b_l_shape_data (l_draw : FM) (l_pick : FM) (l_shape_data : FM) : MS :=
 (sCons (sIf (dOrB (dTb (dOp2 pLt (dVar 1) (dC (.int 3)))) (dTb (dOp2 pEq (dCall l_draw io_l_draw (dCons (dOwn 0) (dCons (dC (.int 3)) dNil))) (dC (.int 0)))))
 (sRet (dCall l_pick io_l_pick (dCons (dOwn 0) (dCons (fz (dLst (dCons (dC (.int 1)) (dCons (dC (.int 2)) (dCons (dC (.int 2)) (dCons (dC (.int 2)) (dCons (dC (.int 3)) (dCons (dC (.int 1)) (dCons (dC (.int 4)) (dCons (dC (.int 5)) (dCons (dC (.int 6)) dNil))))))))))) dNil))))
 sNil)
 (sCons (sSet 2 (dOp2 pAdd (dC (.int 1)) (dCall l_draw io_l_draw (dCons (dOwn 0) (dCons (dOp2 pSub (dVar 1) (dC (.int 2))) dNil)))))
 (sCons (sSet 3 (dCall l_shape_data io_l_shape_data (dCons (dOwn 0) (dCons (fz (dVar 2)) dNil))))
 (sRet (dTup (dCons (dC (.str "pair")) (dCons (fz (dVar 3)) (dCons (fz (dCall l_shape_data io_l_shape_data (dCons (dOwn 0) (dCons (dOp2 pSub (dOp2 pSub (dVar 1) (dC (.int 1))) (dVar 2)) dNil)))) dNil))))))))
def f_l_shape_data (l_draw : FM) (l_pick : FM) (l_shape_data : FM) : FM := mkF 4 io_l_shape_data (b_l_shape_data l_draw l_pick l_shape_data)
end L2.Zd.Lib

set_option Elab.async false
set_option linter.all false
set_option maxRecDepth 100000
set_option maxHeartbeats 2000000
/-! More rules: all, any, sum, max, min of a list; step ranges; chains of comparisons. -/
namespace L2.Zd
open PySem PySem.Spec PyProof.Rows
def boolsD : List D → Option (List Bool)
  | [] => some []
  | .bool b :: ds => (boolsD ds).map (b :: ·)
  | _ :: _ => none
def intsD : List D → Option (List Int)
  | [] => some []
  | .int b :: ds => (intsD ds).map (b :: ·)
  | _ :: _ => none
section
variable {K : PySem.W.Frag}
theorem dp_bools {F : Hp} : ∀ {vs : List V} {ds : List D} {bs : List Bool}, DpAll K F vs ds → boolsD ds = some bs → vs = bs.map V.bl
  | _, _, _, .nil, e => by cases e; rfl
  | _, d :: ds, bs, .cons h t, e => by
    cases d with
    | bool b =>
      obtain ⟨cs, h1, rfl⟩ := Option.map_eq_some_iff.mp (show (boolsD ds).map (b :: ·) = some bs from e)
      cases h
      rw [dp_bools t h1]; rfl
    | _ => cases e
theorem dp_ints {F : Hp} : ∀ {vs : List V} {ds : List D} {bs : List Int}, DpAll K F vs ds → intsD ds = some bs → vs = bs.map V.int
  | _, _, _, .nil, e => by cases e; rfl
  | _, d :: ds, bs, .cons h t, e => by
    cases d with
    | int b =>
      obtain ⟨cs, h1, rfl⟩ := Option.map_eq_some_iff.mp (show (intsD ds).map (b :: ·) = some bs from e)
      cases h
      rw [dp_ints t h1]; rfl
    | _ => cases e
def pAll : List D → Option Vt
  | [.list ds] => (boolsD ds).map fun bs => .fr (.bool (bs.all id))
  | _ => none
def pAny : List D → Option Vt
  | [.list ds] => (boolsD ds).map fun bs => .fr (.bool (bs.any id))
  | _ => none
def pSum : List D → Option Vt
  | [.list ds] => (intsD ds).map fun ns => .fr (.int ns.sum)
  | _ => none
theorem p_all : PL K (rAll K) pAll := by
  intro B s σ H F vs ds z Q rp hv he q
  unfold pAll at he
  split at he
  · obtain ⟨bs, hb, rfl⟩ := Option.map_eq_some_iff.mp he
    obtain ⟨v, rfl, w⟩ := hv.one
    obtain ⟨a, us, rfl, h1, h2⟩ := w
    exact ⟨a, bs, rfl, by rw [← dp_bools h2 hb]; exact h1, q.val rp (.bl _)⟩
  · cases he
theorem p_any : PL K (rAny K) pAny := by
  intro B s σ H F vs ds z Q rp hv he q
  unfold pAny at he
  split at he
  · obtain ⟨bs, hb, rfl⟩ := Option.map_eq_some_iff.mp he
    obtain ⟨v, rfl, w⟩ := hv.one
    obtain ⟨a, us, rfl, h1, h2⟩ := w
    exact ⟨a, bs, rfl, by rw [← dp_bools h2 hb]; exact h1, q.val rp (.bl _)⟩
  · cases he
theorem p_sum : PL K (rSum K) pSum := by
  intro B s σ H F vs ds z Q rp hv he q
  unfold pSum at he
  split at he
  · obtain ⟨bs, hb, rfl⟩ := Option.map_eq_some_iff.mp he
    obtain ⟨v, rfl, w⟩ := hv.one
    obtain ⟨a, us, rfl, h1, h2⟩ := w
    exact ⟨a, bs, rfl, by rw [← dp_ints h2 hb]; exact h1, q.val rp (.int _)⟩
  · cases he
def maxI : Int → List Int → Int
  | m, [] => m
  | m, n :: ns => maxI (max m n) ns
def minI : Int → List Int → Int
  | m, [] => m
  | m, n :: ns => minI (min m n) ns
theorem maxI_ge : ∀ (ns : List Int) (m : Int), m ≤ maxI m ns ∧ ∀ y ∈ ns, y ≤ maxI m ns
  | [], m => ⟨Int.le_refl _, fun y h => by cases h⟩
  | n :: ns, m => by
    obtain ⟨h1, h2⟩ := maxI_ge ns (max m n)
    refine ⟨by show m ≤ maxI (max m n) ns; omega, fun y hy => ?_⟩
    show y ≤ maxI (max m n) ns
    rcases List.mem_cons.mp hy with rfl | hy
    · omega
    · exact h2 y hy
theorem maxI_mem : ∀ (ns : List Int) (m : Int), maxI m ns = m ∨ maxI m ns ∈ ns
  | [], m => .inl rfl
  | n :: ns, m => by
    rcases maxI_mem ns (max m n) with h | h
    · show maxI (max m n) ns = m ∨ maxI (max m n) ns ∈ n :: ns
      rw [h]
      by_cases c : m ≤ n
      · exact .inr (by rw [show max m n = n by omega]; exact List.mem_cons_self)
      · exact .inl (by omega)
    · exact .inr (List.mem_cons_of_mem _ h)
theorem minI_le : ∀ (ns : List Int) (m : Int), minI m ns ≤ m ∧ ∀ y ∈ ns, minI m ns ≤ y
  | [], m => ⟨Int.le_refl _, fun y h => by cases h⟩
  | n :: ns, m => by
    obtain ⟨h1, h2⟩ := minI_le ns (min m n)
    refine ⟨by show minI (min m n) ns ≤ m; omega, fun y hy => ?_⟩
    show minI (min m n) ns ≤ y
    rcases List.mem_cons.mp hy with rfl | hy
    · omega
    · exact h2 y hy
theorem minI_mem : ∀ (ns : List Int) (m : Int), minI m ns = m ∨ minI m ns ∈ ns
  | [], m => .inl rfl
  | n :: ns, m => by
    rcases minI_mem ns (min m n) with h | h
    · show minI (min m n) ns = m ∨ minI (min m n) ns ∈ n :: ns
      rw [h]
      by_cases c : n ≤ m
      · exact .inr (by rw [show min m n = n by omega]; exact List.mem_cons_self)
      · exact .inl (by omega)
    · exact .inr (List.mem_cons_of_mem _ h)
def mxR (b : Bool) : Option (List Int) → Option Vt
  | some (n :: ns) => some (.fr (.int (if b = true then maxI n ns else minI n ns)))
  | _ => none
def pMaxL : List D → Option Vt
  | [.list ds] => mxR true (intsD ds)
  | _ => none
def pMinL : List D → Option Vt
  | [.list ds] => mxR false (intsD ds)
  | _ => none
theorem p_maxL : PL K (rMax K) pMaxL := by
  intro B s σ H F vs ds z Q rp hv he q
  unfold pMaxL at he
  split at he
  · rename_i ds
    cases hb : intsD ds with
    | none => rw [hb] at he; cases he
    | some bs =>
      rw [hb] at he
      cases bs with
      | nil => cases he
      | cons n ns =>
        cases he
        obtain ⟨v, rfl, w⟩ := hv.one
        obtain ⟨a, us, rfl, h1, h2⟩ := w
        refine ⟨a, n :: ns, rfl, by rw [← dp_ints h2 hb]; exact h1, by simp, fun m hm hall => ?_⟩
        have e : m = maxI n ns := by
          have g := maxI_ge ns n
          have l1 : m ≤ maxI n ns := by
            rcases List.mem_cons.mp hm with rfl | hm
            · exact g.1
            · exact g.2 m hm
          have l2 : maxI n ns ≤ m := by
            rcases maxI_mem ns n with h | h
            · rw [h]; exact hall n List.mem_cons_self
            · exact hall _ (List.mem_cons_of_mem _ h)
          omega
        rw [e]
        exact q.val rp (.int _)
  · cases he
theorem p_minL : PL K (rMin K) pMinL := by
  intro B s σ H F vs ds z Q rp hv he q
  unfold pMinL at he
  split at he
  · rename_i ds
    cases hb : intsD ds with
    | none => rw [hb] at he; cases he
    | some bs =>
      rw [hb] at he
      cases bs with
      | nil => cases he
      | cons n ns =>
        cases he
        obtain ⟨v, rfl, w⟩ := hv.one
        obtain ⟨a, us, rfl, h1, h2⟩ := w
        refine ⟨a, n :: ns, rfl, by rw [← dp_ints h2 hb]; exact h1, by simp, fun m hm hall => ?_⟩
        have e : m = minI n ns := by
          have g := minI_le ns n
          have l1 : minI n ns ≤ m := by
            rcases List.mem_cons.mp hm with rfl | hm
            · exact g.1
            · exact g.2 m hm
          have l2 : m ≤ minI n ns := by
            rcases minI_mem ns n with h | h
            · rw [h]; exact hall n List.mem_cons_self
            · exact hall _ (List.mem_cons_of_mem _ h)
          omega
        rw [e]
        exact q.val rp (.int _)
  · cases he
end
/-! ### step ranges -/
/-- how many turns -/
def rg3N (i j c : Int) : Nat := (Builtin.Range.rangeSize i j c).toNat
def rg3S (s : DS) : Option (List D) → R (List D)
  | some [.int i, .int j, .int c] => if c ≠ 0 ∧ c.natAbs < 1073741824 ∧ Builtin.Range.small i j c = true ∧ 0 ≤ Builtin.Range.rangeSize i j c then .ok (rngC i c (rg3N i j c)) s else .no
  | _ => .no
def dRng3 (m : M (List Vt)) : M (List D) := fun s => (m s).bind fun xs s1 => rg3S s1 (frs' xs)
section
variable {X : Cx} {B : By} {W : WX'}
theorem zrng3 {tg a b c : Expr} {p pos : Pos} {m : M (List Vt)} (hg : Gl X "range") (hm : X.mg "range" = none) (ha : PA X [a, b, c] (rdA X.K B W m)) (hs : starEach [a, b, c] X.env = (false, eval a X.env) :: starEach [b, c] X.env := by rfl) (hpl : (backTo pos (starEach [b, c] X.env)).any (·.1) = false := by rfl) :
    PI X tg (.Call (.Name "range" p) [a, b, c] [] pos) (rdI X.K B W (dRng3 m)) := by
  refine (pi_range3 hg hm ha hs hpl).imp fun σ H R ⟨sd, F, rp, q⟩ => ?_
  refine ⟨sd, F, rp, (Pst.bind q).mono fun xs s1 H1 F1 _ p1 rp1 h1 vs hvs => ?_⟩
  cases e : frs' xs with
  | none => rw [e] at h1; exact h1.elim
  | some ds =>
    rw [e] at h1
    have dd := frs_ok hvs e
    unfold rg3S at h1
    split at h1
    · rename_i i j k he
      cases he
      by_cases hc : k ≠ 0 ∧ k.natAbs < 1073741824 ∧ Builtin.Range.small i j k = true ∧ 0 ≤ Builtin.Range.rangeSize i j k
      · simp only [if_pos hc] at h1
        cases dd with
        | cons d1 dd =>
          cases dd with
          | cons d2 dd =>
            cases dd with
            | cons d3 dd =>
              cases dd; cases d1; cases d2; cases d3
              exact ⟨i, j, k, rg3N i j k, rfl, ⟨hc.1, hc.2.1, hc.2.2.1, (Int.toNat_of_nonneg hc.2.2.2).symm⟩, Pst.now h1 rp1 _ _ it_rngC trivial⟩
      · simp only [if_neg hc] at h1; exact h1.elim
    · exact h1.elim
end
/-! ### a < b < c -/
def chB (s : DS) : Option Vt → (DS → R Vt) → R Vt
  | some (.fr (.bool true)), k => k s
  | some (.fr (.bool false)), _ => .ok (.fr (.bool false)) s
  | _, _ => .no
def p2o (f : D → D → Option Vt) (x y : Vt) (s : DS) : Option Vt := match der x s, der y s with
  | some d, some e => f d e
  | _, _ => none
def dChain (f g : D → D → Option Vt) (a b c : M Vt) : M Vt := fun s => (a s).bind fun x s1 => (b s1).bind fun y s2 => chB s2 (p2o f x y s2) fun s3 => (c s3).bind fun z s4 => p2 g y z s4
section
variable {X : Cx} {B : By} {W : WX'}
theorem Pst.shift {α : Type} {K : PySem.W.Frag} {sd sd' : DS} {σ : St} {H F H' F' : Hp} {r : R α} {P : α → DS → Hp → Hp → Prop} (p : Stp sd sd' σ H F H' F') (h : Pst K B W sd σ H F r P) : Pst K B W sd' σ H' F' r P := by
  cases r with
  | ok a s' => exact fun H2 F2 q rp => h H2 F2 (p.trans q) rp
  | er e s' => exact fun H2 F2 q rp => h H2 F2 (p.trans q) rp
  | no => exact h
theorem chain_read {r r' : R2} {f g : D → D → Option Vt} {ma mb mc : M Vt} (hp : P2 X.K r f) (hq : P2 X.K r' g) : ∀ σ H Q, rd X.K B W (dChain f g ma mb mc) σ H Q → tChain r r' (rd X.K B W ma) (rd X.K B W mb) (rd X.K B W mc) σ H Q := fun σ H Q ⟨sd, F, rp, h⟩ => by
  refine ⟨sd, F, rp, (Pst.bind h).mono fun x s1 H1 F1 _ p1 rp1 h1 v hv => ?_⟩
  refine ⟨s1, F1, rp1, (Pst.bind h1).mono fun y s2 H2 F2 _ p2 rp2 h2 u hu => ?_⟩
  have h3 : Pst X.K B W s2 σ H2 F2 (chB s2 (p2o f x y s2) fun s3 => (mc s3).bind fun z s4 => L2.Zd.p2 g y z s4) (fun x s' H' F' => ∀ v, VtOk X.K B H s' σ H' F' v x → Q v H') := h2
  unfold p2o at h3
  cases ex : der x s2 with
  | none => rw [ex] at h3; exact h3.elim
  | some d =>
    cases ey : der y s2 with
    | none => rw [ex, ey] at h3; exact h3.elim
    | some e =>
      rw [ex, ey] at h3
      have h4 : Pst X.K B W s2 σ H2 F2 (chB s2 (f d e) fun s3 => (mc s3).bind fun z s4 => L2.Zd.p2 g y z s4) (fun x s' H' F' => ∀ v, VtOk X.K B H s' σ H' F' v x → Q v H') := h3
      cases ef : f d e with
      | none => rw [ef] at h4; exact h4.elim
      | some z =>
        rw [ef] at h4
        cases z with
        | ow w => exact h4.elim
        | sl i => exact h4.elim
        | fr w =>
          cases w with
          | bool b =>
            refine hp B s2 σ H2 F2 v u d e _ _ rp2 ((hv.stp p2).vw rp2 ex) (hu.vw rp2 ey) ef fun v' H' F' p3 rp3 hv' => ?_
            have dd : Dp X.K F' v' (.bool b) := hv'
            cases dd
            refine ⟨b, rfl, ?_⟩
            cases b with
            | false => exact (show Pst X.K B W s2 σ H2 F2 (R.ok (Vt.fr (.bool false)) s2) _ from h4) H' F' p3 rp3 _ (.bl false)
            | true =>
              have h5 : Pst X.K B W s2 σ H' F' ((mc s2).bind fun z s4 => L2.Zd.p2 g y z s4) (fun x s' H' F' => ∀ v, VtOk X.K B H s' σ H' F' v x → Q v H') := Pst.shift p3 h4
              refine ⟨s2, F', rp3, (Pst.bind h5).mono fun w s4 H4 F4 _ p4 rp4 h6 w' hw => ?_⟩
              have hu4 : VtOk X.K B H s4 σ H4 F4 u y := (((hu.back fun a => p1.fresh).stp p3).stp p4)
              obtain ⟨d2, e2, z2, w1, w2, e3, q⟩ := p2_out (Hs := H) h6 rp4 hu4 (hw.back fun a hn => p1.fresh (p2.fresh (p3.fresh hn)))
              exact hq B s4 σ H4 F4 u w' d2 e2 z2 Q rp4 w1 w2 e3 fun v' H' F' p5 rp5 hv' => q H' F' p5 rp5 v' (hv'.back fun a hn => p1.fresh (p2.fresh (p3.fresh (p4.fresh hn))))
          | _ => exact h4.elim
theorem zchain {op op' : CmpOp} {r r' : R2} {a b c : Expr} {f g : D → D → Option Vt} {ma mb mc : M Vt} {pos : Pos} (ho : OpR X (compareOp op) r) (hp : P2 X.K r f) (ho' : OpR X (compareOp op') r') (hq : P2 X.K r' g) (ha : PE X a (rd X.K B W ma)) (hb : PE X b (rd X.K B W mb)) (hc : PE X c (rd X.K B W mc))
    (hm : lastMarks [op, op'] [b, c] = false := by with_unfolding_all rfl) : PE X (.Compare a [op, op'] [b, c] pos) (rd X.K B W (dChain f g ma mb mc)) := (pe_chain ho ho' ha hb hc hm).imp (chain_read hp hq)
theorem ztch {op op' : CmpOp} {r r' : R2} {a b c : Expr} {f g : D → D → Option Vt} {ma mb mc : M Vt} {pos : Pos} (ho : OpR X (compareOp op) r) (hp : P2 X.K r f) (ho' : OpR X (compareOp op') r') (hq : P2 X.K r' g) (ha : PE X a (rd X.K B W ma)) (hb : PE X b (rd X.K B W mb)) (hc : PE X c (rd X.K B W mc))
    (hm : lastMarks [op, op'] [b, c] = false := by with_unfolding_all rfl) : PT X (.Compare a [op, op'] [b, c] pos) (rdT X.K B W (dTb (dChain f g ma mb mc))) := (pt_chain ho ho' ha hb hc hm).imp fun σ H Q h => by
  obtain ⟨sd, F, rp, q⟩ := rd_tb σ H Q h
  exact chain_read hp hq σ H _ ⟨sd, F, rp, q⟩
end
/-! ### x.extend(e), e a fresh list -/
def extS (i : Nat) : List Vt → DS → R Vt
  | [.ow (.list ys)], s => (match s[i]? with
    | some (.ow (.list xs)) => if xs.length + ys.length ≤ sizeLine then .ok (.fr .none) (s.set i (.ow (.list (xs ++ ys)))) else .no
    | _ => .no)
  | _, _ => .no
def dExt (i : Nat) (m : M (List Vt)) : M Vt := fun s => (dOwn i s).bind fun _ s0 => (m s0).bind fun xs s1 => extS i xs s1
section
variable {X : Cx} {B : By} {W : WX'}
theorem ext_read {i : Nat} {m : M (List Vt)} : ∀ σ H Q, rd X.K B W (dExt i m) σ H Q → tBM X.K "list" rExtend (rd X.K B W (dOwn i)) (rdA X.K B W m) σ H Q := fun σ H Q ⟨sd, F, rp, q⟩ => by
  refine ⟨sd, F, rp, (Pst.bind q).mono fun x0 s0 H0 F0 e0 p0 rp0 h0 v0 hv0 => ?_⟩
  obtain ⟨rfl, rfl, d, e1⟩ := own_inv e0
  obtain ⟨a, z1, ⟨o, z2, z3⟩, z4, z5⟩ := rp0.ow i d e1
  have hv1 := hv0.1
  rw [z1] at hv1; cases hv1
  have hd : ∃ vs, o = .lst vs := by
    cases o <;> cases d <;> first
      | exact ⟨_, rfl⟩
      | exact z3.elim
  obtain ⟨vs, rfl⟩ := hd
  refine ⟨Or.inl ⟨rfl, _, SqL.of z2⟩, _, F0, rp0, (Pst.bind h0).mono fun xs s1 H1 F1 em p1 rp1 h1 ws hws => ?_⟩
  clear em
  unfold extS at h1
  split at h1
  · rename_i ys
    cases hws with
    | cons hw ht =>
      cases ht
      obtain ⟨p, rfl, ⟨⟨oy, y1, y2⟩, y3, y4⟩, y5, y6, y7⟩ := hw
      obtain ⟨us, rfl, y2⟩ := y2.list
      split at h1
      · rename_i xs' h3
        obtain ⟨b, w1, ⟨o2, w2, w3⟩, w4, w5⟩ := rp1.ow i _ h3
        rw [z1] at w1; cases w1
        obtain ⟨vs2, rfl, w3⟩ := w3.list
        by_cases hz : xs'.length + ys.length ≤ sizeLine
        · simp only [if_pos hz] at h1
          obtain ⟨r2, t2⟩ := rep_mut (o' := .lst (vs2 ++ us)) (d' := .list (xs' ++ ys)) rp1 h3 z1 (w3.append y2)
          exact ⟨_, p, vs2, us, rfl, rfl, w2, y1, by rw [w3.length, y2.length]; exact hz, h1 _ F1 t2 r2 _ .non⟩
        · simp only [if_neg hz] at h1; exact h1.elim
      · exact h1.elim
  · exact h1.elim
theorem zext {i : Nat} {o e : Expr} {es : List Expr} {apos cpos : Pos} {m : M (List Vt)}
    (ho : PE X o (rd X.K B W (dOwn i))) (ha : PA X (e :: es) (rdA X.K B W m)) (hbase : attributeBase o "extend" X.env (eval o X.env) = eval o X.env := by rfl)
    (hfew : ((backTo cpos (starEach (e :: es) X.env)).all (fun x => !x.1) && (backToKw cpos (keywordEach [] X.env)).all (fun x => x.1.isSome)
      && decide ((e :: es).length + ([] : List Keyword).length + (if ([] : List Keyword).isEmpty then 0 else 1) < 30)) = true := by rfl)
    (hline : (apos.endLine == cpos.line) = true := by rfl) (hs : starEach (e :: es) X.env = (false, eval e X.env) :: starEach es X.env := by rfl) (hplain : (backTo cpos (starEach es X.env)).any (·.1) = false := by rfl) :
    PE X (.Call (.Attribute o "extend" apos) (e :: es) [] cpos) (rd X.K B W (dExt i m)) :=
  (pe_bm PySem.F.plainAttrs_list PySem.F.slot_list_extend PySem.F.type_list_extend mt_extend ho ha hbase hfew hline hs hplain).imp ext_read
end
end L2.Zd

set_option Elab.async false
set_option linter.all false
set_option maxRecDepth 100000
set_option maxHeartbeats 2000000
/-! Promises about the further rules' mirrors. -/
namespace L2.Zd
open PySem PySem.Spec PyProof.Rows
def Rg3W (o : Option (List D)) (P : List D → Prop) : Prop := match o with
  | some [.int i, .int j, .int c] => (c ≠ 0 ∧ c.natAbs < 1073741824 ∧ Builtin.Range.small i j c = true ∧ 0 ≤ Builtin.Range.rangeSize i j c) ∧ P (rngC i c (rg3N i j c))
  | _ => False
theorem w_rg3S (o : Option (List D)) (s : DS) (P : List D → DS → Prop) : WpR (rg3S s o) P = Rg3W o fun ds => P ds s := by
  cases o with
  | none => rfl
  | some l =>
    rcases l with _ | ⟨d, _ | ⟨e, _ | ⟨c, _ | ⟨x, l⟩⟩⟩⟩
    · rfl
    · cases d <;> rfl
    · cases d <;> cases e <;> rfl
    · cases d <;> cases e <;> cases c <;> first
        | rfl
        | (rename_i i j c
           show WpR (if c ≠ 0 ∧ c.natAbs < 1073741824 ∧ Builtin.Range.small i j c = true ∧ 0 ≤ Builtin.Range.rangeSize i j c then _ else _) P = _
           by_cases h : c ≠ 0 ∧ c.natAbs < 1073741824 ∧ Builtin.Range.small i j c = true ∧ 0 ≤ Builtin.Range.rangeSize i j c
           · rw [if_pos h]; exact propext ⟨fun q => ⟨h, q⟩, fun q => q.2⟩
           · rw [if_neg h]; exact propext ⟨fun q => q.elim, fun q => h q.1⟩)
    · cases d <;> cases e <;> cases c <;> rfl
theorem i_rng3 {m : M (List Vt)} {s : DS} {P : List D → DS → Prop} (h : Wp m s fun xs s1 => Rg3W (frs' xs) fun ds => P ds s1) : Wp (dRng3 m) s P := by
  unfold Wp dRng3
  rw [Wp_bindR]
  unfold Wp at h
  revert h
  cases m s with
  | ok xs s1 => exact fun h => by show WpR (rg3S s1 (frs' xs)) P; rw [w_rg3S]; exact h
  | er e s1 => exact fun h => h
  | no => exact fun h => h
theorem i_rg3w {o : Option (List D)} {i j c : Int} {P : List D → Prop} (e : o = some [.int i, .int j, .int c]) (h : P (rngC i c (rg3N i j c))) (k : c ≠ 0 ∧ c.natAbs < 1073741824 ∧ Builtin.Range.small i j c = true ∧ 0 ≤ Builtin.Range.rangeSize i j c) : Rg3W o P := by subst e; exact ⟨k, h⟩
def ChW (o p : Option D) (f : D → D → Option Vt) (A B : Prop) : Prop := match o, p with
  | some d, some e => (match f d e with
    | some (.fr (.bool true)) => A
    | some (.fr (.bool false)) => B
    | _ => False)
  | _, _ => False
end L2.Zd

set_option Elab.async false
set_option linter.all false
set_option maxRecDepth 100000
set_option maxHeartbeats 2000000
/-! Mirrors of further shared defs (printed by gen.py): shapes' counts, observations. -/
namespace L2.Zd.Lib
open PySem PySem.Spec PyProof.Rows L2.Zd
abbrev io_cut : List Bool := [false]
abbrev io_cut_power : List Bool := [false, false]
abbrev io_count_values : List Bool := [false]
abbrev io_shows : List Bool := [false]
abbrev io_count_value_observations : List Bool := [false]
abbrev io_count_observations : List Bool := [false]
abbrev io_outcome_found : List Bool := [false, false]
abbrev io_value_found : List Bool := [false, false]
abbrev io_constructor_found : List Bool := [false]
abbrev io_table_found : List Bool := [false, false]
abbrev io_l_shape_count : List Bool := [false]
abbrev io_l_shape_rows : List Bool := [false]
abbrev io_l_shape_values : List Bool := [false]
abbrev io_l_shape_outcomes : List Bool := [false]
abbrev io_l_shape_rank : List Bool := [false, false]
abbrev io_l_shape_outcome_rank : List Bool := [false, false]
abbrev io_l_shape_at : List Bool := [false, false]
abbrev io_l_shape_outcome_at : List Bool := [false, false]
abbrev io_l_shape_row : List Bool := [false, false, false]
abbrev io_l_shape_value : List Bool := [true, false]
abbrev io_l_shape_outcome : List Bool := [true, false]
abbrev io_l_look_shows : List Bool := [false]
abbrev io_l_look_inner : List Bool := [false]
abbrev io_l_look_all : List Bool := [false]
abbrev io_l_look_sum : List Bool := [false]
abbrev io_l_look_count : List Bool := [false]
abbrev io_l_look_last : List Bool := [false, false]
abbrev io_l_look_finds : List Bool := [false, false, false]
abbrev io_l_look_decoded : List Bool := [false, false]
abbrev io_l_look_worth : List Bool := [false, false]
/-! cut -/
/-- slots: 0 number -/
def b_cut : MS :=
 (sRet (dCB pMin2 (dCons (dVar 0) (dCons (dC (.int 1000000000)) dNil))))
def f_cut : FM := mkF 1 io_cut b_cut
/-! cut_power -/
/-- slots: 0 base, 1 exponent, 2 power, 3 _ -/
def b_cut_power : MS :=
 (sCons (sSet 2 (dC (.int 1)))
 (sCons (sFor (dRng1 (dCons (fz (dVar 1)) dNil)) (.nm 3)
 (sCons (sSet 2 (dOp2 pMul (dVar 2) (dVar 0)))
 (sIf (dTb (dOp2 pGe (dVar 2) (dC (.int 1000000000))))
 (sRet (dC (.int 1000000000)))
 sNil)))
 (sRet (dVar 2))))
def f_cut_power : FM := mkF 4 io_cut_power b_cut_power
/-! count_values -/
/-- slots: 0 shape, 1 first, 2 second -/
def b_count_values (count_values : FM) (cut : FM) (cut_power : FM) : MS :=
 (sCons (sIf (dNotB (dTru (dIsi "tuple" (dVar 0))))
 (sRet (dVar 0))
 sNil)
 (sCons (sSet 1 (dCall count_values io_count_values (dCons (dOp2 pIx (dVar 0) (dC (.int 1))) dNil)))
 (sCons (sSet 2 (dCall count_values io_count_values (dCons (dOp2 pIx (dVar 0) (dC (.int 2))) dNil)))
 (sCons (sIf (dTb (dOp2 pEq (dOp2 pIx (dVar 0) (dC (.int 0))) (dC (.str "pair"))))
 (sRet (dCall cut io_cut (dCons (dOp2 pMul (dVar 1) (dVar 2)) dNil)))
 sNil)
 (sRet (dCall cut_power io_cut_power (dCons (fz (dOp2 pAdd (dVar 2) (dC (.int 2)))) (dCons (fz (dVar 1)) dNil))))))))
def f_count_values (count_values : FM) (cut : FM) (cut_power : FM) : FM := mkF 3 io_count_values (b_count_values count_values cut cut_power)
/-! shows -/
/-- slots: 0 shape -/
def b_shows (shows : FM) : MS :=
 (sCons (sIf (dNotB (dTru (dIsi "tuple" (dVar 0))))
 (sRet (dOp2 pGe (dVar 0) (dC (.int 2))))
 sNil)
 (sRet (dAndV (dOp2 pEq (dOp2 pIx (dVar 0) (dC (.int 0))) (dC (.str "pair"))) (dOrV (dCall shows io_shows (dCons (dOp2 pIx (dVar 0) (dC (.int 1))) dNil)) (dCall shows io_shows (dCons (dOp2 pIx (dVar 0) (dC (.int 2))) dNil))))))
def f_shows (shows : FM) : FM := mkF 1 io_shows (b_shows shows)
/-! count_value_observations -/
/-- slots: 0 shape -/
def b_count_value_observations (cut : FM) (count_value_observations : FM) (count_values : FM) (count_observations : FM) : MS :=
 (sCons (sIf (dNotB (dTru (dIsi "tuple" (dVar 0))))
 (sRet (dCB pInt (dCons (dOp2 pGe (dVar 0) (dC (.int 2))) dNil)))
 sNil)
 (sCons (sIf (dTb (dOp2 pEq (dOp2 pIx (dVar 0) (dC (.int 0))) (dC (.str "pair"))))
 (sRet (dCall cut io_cut (dCons (fz (dOp2 pAdd (dCall count_value_observations io_count_value_observations (dCons (dOp2 pIx (dVar 0) (dC (.int 1))) dNil)) (dCall count_value_observations io_count_value_observations (dCons (dOp2 pIx (dVar 0) (dC (.int 2))) dNil)))) dNil)))
 sNil)
 (sRet (dCall cut io_cut (dCons (dOp2 pMul (dCall count_values io_count_values (dCons (dOp2 pIx (dVar 0) (dC (.int 1))) dNil)) (dCall count_observations io_count_observations (dCons (dOp2 pIx (dVar 0) (dC (.int 2))) dNil))) dNil)))))
def f_count_value_observations (cut : FM) (count_value_observations : FM) (count_values : FM) (count_observations : FM) : FM := mkF 1 io_count_value_observations (b_count_value_observations cut count_value_observations count_values count_observations)
/-! count_observations -/
/-- slots: 0 shape -/
def b_count_observations (cut : FM) (count_value_observations : FM) (shows : FM) : MS :=
 (sRet (dCall cut io_cut (dCons (fz (dOp2 pAdd (dCall count_value_observations io_count_value_observations (dCons (fz (dVar 0)) dNil)) (dCB pInt (dCons (dNotV (dCall shows io_shows (dCons (fz (dVar 0)) dNil))) dNil)))) dNil)))
def f_count_observations (cut : FM) (count_value_observations : FM) (shows : FM) : FM := mkF 1 io_count_observations (b_count_observations cut count_value_observations shows)
/-! outcome_found -/
/-- slots: 0 shape, 1 found, 2 first, 3 value, 4 outcome -/
def b_outcome_found (shows : FM) (value_found : FM) : MS :=
 (sCons (sSet 2 (dOp2 pIx (dVar 1) (dC (.int 0))))
 (sCons (sIf (dAndB (dTb (dOp2 pEq (dOp2 pIx (dVar 2) (dC (.int 0))) (dC (.str "error")))) (dTru (dCB pAll (dCons (dLc (dIt (fz (dVar 1))) (.nm 4) dYes (dOp2 pEq (dVar 4) (dVar 2)) [4]) dNil))))
 (sRet (dVar 2))
 sNil)
 (sCons (sIf (dNotB (dTru (dCall shows io_shows (dCons (fz (dVar 0)) dNil))))
 (sCons (sIf (dTb (dOp2 pEq (dOp2 pIx (dVar 2) (dC (.int 0))) (dC (.str "error"))))
 (sRet (dC .none))
 sNil)
 (sSet 1 (dSl (dVar 1) (dPart (dC (.int 1))) dNoP)))
 sNil)
 (sCons (sSet 3 (dCall value_found io_value_found (dCons (fz (dVar 0)) (dCons (fz (dVar 1)) dNil))))
 (sCons (sIf (dTb (dOp2 pIsN (dVar 3) (dC .none)))
 (sRet (dC .none))
 sNil)
 (sRet (dTup (dCons (dC (.str "value")) (dCons (fz (dVar 3)) dNil)))))))))
def f_outcome_found (shows : FM) (value_found : FM) : FM := mkF 5 io_outcome_found (b_outcome_found shows value_found)
/-! value_found -/
/-- slots: 0 shape, 1 found, 2 place, 3 first, 4 second -/
def b_value_found (constructor_found : FM) (table_found : FM) (count_value_observations : FM) (value_found : FM) : MS :=
 (sCons (sIf (dNotB (dTru (dIsi "tuple" (dVar 0))))
 (sRet (dCall constructor_found io_constructor_found (dCons (fz (dVar 1)) dNil)))
 sNil)
 (sCons (sIf (dTb (dOp2 pEq (dOp2 pIx (dVar 0) (dC (.int 0))) (dC (.str "to"))))
 (sRet (dCall table_found io_table_found (dCons (fz (dVar 0)) (dCons (fz (dVar 1)) dNil))))
 sNil)
 (sCons (sSet 2 (dCall count_value_observations io_count_value_observations (dCons (dOp2 pIx (dVar 0) (dC (.int 1))) dNil)))
 (sCons (sSet 3 (dCall value_found io_value_found (dCons (dOp2 pIx (dVar 0) (dC (.int 1))) (dCons (fz (dSl (dVar 1) dNoP (dPart (dVar 2)))) dNil))))
 (sCons (sSet 4 (dCall value_found io_value_found (dCons (dOp2 pIx (dVar 0) (dC (.int 2))) (dCons (fz (dSl (dVar 1) (dPart (dVar 2)) dNoP)) dNil))))
 (sCons (sIf (dOrB (dTb (dOp2 pIsN (dVar 3) (dC .none))) (dTb (dOp2 pIsN (dVar 4) (dC .none))))
 (sRet (dC .none))
 sNil)
 (sRet (dTup (dCons (fz (dVar 3)) (dCons (fz (dVar 4)) dNil))))))))))
def f_value_found (constructor_found : FM) (table_found : FM) (count_value_observations : FM) (value_found : FM) : FM := mkF 5 io_value_found (b_value_found constructor_found table_found count_value_observations value_found)
/-! constructor_found -/
/-- slots: 0 found -/
def b_constructor_found : MS :=
 (sCons (sIf (dTb (dOp2 pEq (dVar 0) (dTup dNil)))
 (sRet (dC (.int 0)))
 sNil)
 (sCons (sIf (dTb (dOp2 pEq (dOp2 pIx (dOp2 pIx (dVar 0) (dC (.int 0))) (dC (.int 0))) (dC (.str "error"))))
 (sRet (dC .none))
 sNil)
 (sRet (dOp2 pIx (dOp2 pIx (dVar 0) (dC (.int 0))) (dC (.int 1))))))
def f_constructor_found : FM := mkF 1 io_constructor_found b_constructor_found
/-! table_found -/
/-- slots: 0 shape, 1 found, 2 many, 3 rows, 4 place, 5 row -/
def b_table_found (count_observations : FM) (outcome_found : FM) : MS :=
 (sCons (sSet 2 (dCall count_observations io_count_observations (dCons (dOp2 pIx (dVar 0) (dC (.int 2))) dNil)))
 (sCons (sSet 3 (dLst dNil))
 (sCons (sFor (dRng3 (dCons (dC (.int 0)) (dCons (dCB pLen (dCons (dVar 1) dNil)) (dCons (fz (dVar 2)) dNil)))) (.nm 4)
 (sCons (sSet 5 (dCall outcome_found io_outcome_found (dCons (dOp2 pIx (dVar 0) (dC (.int 2))) (dCons (fz (dSl (dVar 1) (dPart (dVar 4)) (dPart (dOp2 pAdd (dVar 4) (dVar 2))))) dNil))))
 (sCons (sIf (dTb (dOp2 pIsN (dVar 5) (dC .none)))
 (sRet (dC .none))
 sNil)
 (sExpr (dMut 3 mAppend (dCons (fz (dVar 5)) dNil))))))
 (sRet (dCB pTuple (dCons (dVar 3) dNil))))))
def f_table_found (count_observations : FM) (outcome_found : FM) : FM := mkF 6 io_table_found (b_table_found count_observations outcome_found)
/-! _law_shape_count -/
/-- slots: 0 shape, 1 one, 2 other, 3 total, 4 k -/
def b_l_shape_count (l_shape_count : FM) : MS :=
 (sCons (sIf (dTru (dIsi "int" (dVar 0)))
 (sRet (dVar 0))
 sNil)
 (sCons (sSet 1 (dCall l_shape_count io_l_shape_count (dCons (dOp2 pIx (dVar 0) (dC (.int 1))) dNil)))
 (sCons (sSet 2 (dCall l_shape_count io_l_shape_count (dCons (dOp2 pIx (dVar 0) (dC (.int 2))) dNil)))
 (sCons (sIf (dTb (dOp2 pEq (dOp2 pIx (dVar 0) (dC (.int 0))) (dC (.str "pair"))))
 (sRet (dCB pMin2 (dCons (dOp2 pMul (dVar 1) (dVar 2)) (dCons (dOp2 pPow (dC (.int 10)) (dC (.int 9))) dNil))))
 sNil)
 (sCons (sSet 3 (dC (.int 1)))
 (sCons (sFor (dRng1 (dCons (dCB pMin2 (dCons (dVar 1) (dCons (dC (.int 20)) dNil))) dNil)) (.nm 4)
 (sSet 3 (dCB pMin2 (dCons (dOp2 pMul (dVar 3) (dOp2 pAdd (dVar 2) (dC (.int 2)))) (dCons (dOp2 pPow (dC (.int 10)) (dC (.int 9))) dNil)))))
 (sRet (dVar 3))))))))
def f_l_shape_count (l_shape_count : FM) : FM := mkF 5 io_l_shape_count (b_l_shape_count l_shape_count)
/-! _law_shape_rows -/
/-- slots: 0 shape, 1 rows -/
def b_l_shape_rows (l_shape_rows : FM) (l_shape_count : FM) : MS :=
 (sCons (sIf (dTru (dIsi "int" (dVar 0)))
 (sRet (dC (.int 0)))
 sNil)
 (sCons (sSet 1 (dCB pMax2 (dCons (dCall l_shape_rows io_l_shape_rows (dCons (dOp2 pIx (dVar 0) (dC (.int 1))) dNil)) (dCons (dCall l_shape_rows io_l_shape_rows (dCons (dOp2 pIx (dVar 0) (dC (.int 2))) dNil)) dNil))))
 (sCons (sIf (dTb (dOp2 pEq (dOp2 pIx (dVar 0) (dC (.int 0))) (dC (.str "to"))))
 (sSet 1 (dCB pMax2 (dCons (dVar 1) (dCons (dCall l_shape_count io_l_shape_count (dCons (dOp2 pIx (dVar 0) (dC (.int 1))) dNil)) dNil))))
 sNil)
 (sRet (dVar 1)))))
def f_l_shape_rows (l_shape_rows : FM) (l_shape_count : FM) : FM := mkF 2 io_l_shape_rows (b_l_shape_rows l_shape_rows l_shape_count)
/-! _law_shape_values -/
/-- slots: 0 shape, 1 one, 2 other, 3 pairs, 4 v, 5 rows, 6 told, 7 wider, 8 table, 9 w, 10 row -/
def b_l_shape_values (l_shape_values : FM) (l_shape_outcomes : FM) : MS :=
 (sCons (sIf (dTru (dIsi "int" (dVar 0)))
 (sRet (dLRng (dVar 0)))
 sNil)
 (sCons (sSet 1 (dCall l_shape_values io_l_shape_values (dCons (dOp2 pIx (dVar 0) (dC (.int 1))) dNil)))
 (sCons (sIf (dTb (dOp2 pEq (dOp2 pIx (dVar 0) (dC (.int 0))) (dC (.str "pair"))))
 (sCons (sSet 2 (dCall l_shape_values io_l_shape_values (dCons (dOp2 pIx (dVar 0) (dC (.int 2))) dNil)))
 (sCons (sSet 3 (dLst dNil))
 (sCons (sFor (dIt (fz (dVar 1))) (.nm 4)
 (sSet 3 (dOp2 pAdd (dVar 3) (dLc (dIt (fz (dVar 2))) (.nm 9) dYes (dTup (dCons (fz (dVar 4)) (dCons (fz (dVar 9)) dNil))) [9]))))
 (sRet (dVar 3)))))
 sNil)
 (sCons (sSet 5 (dCall l_shape_outcomes io_l_shape_outcomes (dCons (dOp2 pIx (dVar 0) (dC (.int 2))) dNil)))
 (sCons (sSet 6 (dLst (dCons (dTup dNil) dNil)))
 (sCons (sFor (dIt (fz (dVar 1))) (.nm 4)
 (sCons (sSet 7 (dLst dNil))
 (sCons (sFor (dIt (fz (dVar 6))) (.nm 8)
 (sSet 7 (dOp2 pAdd (dVar 7) (dLc (dIt (fz (dVar 5))) (.nm 10) dYes (fz (dOp2 pAdd (dVar 8) (dTup (dCons (fz (dVar 10)) dNil)))) [10]))))
 (sSet 6 (dVar 7)))))
 (sRet (dVar 6))))))))
def f_l_shape_values (l_shape_values : FM) (l_shape_outcomes : FM) : FM := mkF 11 io_l_shape_values (b_l_shape_values l_shape_values l_shape_outcomes)
/-! _law_shape_outcomes -/
/-- slots: 0 shape, 1 v -/
def b_l_shape_outcomes (l_shape_values : FM) : MS :=
 (sRet (dOp2 pAdd (dLc (dIt (fz (dCall l_shape_values io_l_shape_values (dCons (fz (dVar 0)) dNil)))) (.nm 1) dYes (dTup (dCons (dC (.str "value")) (dCons (fz (dVar 1)) dNil))) [1]) (dLst (dCons (dTup (dCons (dC (.str "error")) (dCons (dC (.int 0)) dNil))) (dCons (dTup (dCons (dC (.str "error")) (dCons (dC (.int 1)) dNil))) dNil)))))
def f_l_shape_outcomes (l_shape_values : FM) : FM := mkF 2 io_l_shape_outcomes (b_l_shape_outcomes l_shape_values)
/-! _law_shape_rank -/
/-- slots: 0 shape, 1 value, 2 rank, 3 base, 4 row -/
def b_l_shape_rank (l_shape_rank : FM) (l_shape_count : FM) (l_shape_outcome_rank : FM) : MS :=
 (sCons (sIf (dTru (dIsi "int" (dVar 0)))
 (sRet (dVar 1))
 sNil)
 (sCons (sIf (dTb (dOp2 pEq (dOp2 pIx (dVar 0) (dC (.int 0))) (dC (.str "pair"))))
 (sRet (dOp2 pAdd (dOp2 pMul (dCall l_shape_rank io_l_shape_rank (dCons (dOp2 pIx (dVar 0) (dC (.int 1))) (dCons (dOp2 pIx (dVar 1) (dC (.int 0))) dNil))) (dCall l_shape_count io_l_shape_count (dCons (dOp2 pIx (dVar 0) (dC (.int 2))) dNil))) (dCall l_shape_rank io_l_shape_rank (dCons (dOp2 pIx (dVar 0) (dC (.int 2))) (dCons (dOp2 pIx (dVar 1) (dC (.int 1))) dNil)))))
 sNil)
 (sCons (sSet 2 (dC (.int 0)))
 (sCons (sSet 3 (dOp2 pAdd (dCall l_shape_count io_l_shape_count (dCons (dOp2 pIx (dVar 0) (dC (.int 2))) dNil)) (dC (.int 2))))
 (sCons (sFor (dIt (fz (dVar 1))) (.nm 4)
 (sSet 2 (dOp2 pAdd (dOp2 pMul (dVar 2) (dVar 3)) (dCall l_shape_outcome_rank io_l_shape_outcome_rank (dCons (dOp2 pIx (dVar 0) (dC (.int 2))) (dCons (fz (dVar 4)) dNil))))))
 (sRet (dVar 2)))))))
def f_l_shape_rank (l_shape_rank : FM) (l_shape_count : FM) (l_shape_outcome_rank : FM) : FM := mkF 5 io_l_shape_rank (b_l_shape_rank l_shape_rank l_shape_count l_shape_outcome_rank)
/-! _law_shape_outcome_rank -/
/-- slots: 0 shape, 1 outcome -/
def b_l_shape_outcome_rank (l_shape_count : FM) (l_shape_rank : FM) : MS :=
 (sCons (sIf (dTb (dOp2 pEq (dOp2 pIx (dVar 1) (dC (.int 0))) (dC (.str "error"))))
 (sRet (dOp2 pAdd (dCall l_shape_count io_l_shape_count (dCons (fz (dVar 0)) dNil)) (dOp2 pIx (dVar 1) (dC (.int 1)))))
 sNil)
 (sRet (dCall l_shape_rank io_l_shape_rank (dCons (fz (dVar 0)) (dCons (dOp2 pIx (dVar 1) (dC (.int 1))) dNil)))))
def f_l_shape_outcome_rank (l_shape_count : FM) (l_shape_rank : FM) : FM := mkF 2 io_l_shape_outcome_rank (b_l_shape_outcome_rank l_shape_count l_shape_rank)
/-! _law_shape_at -/
/-- slots: 0 shape, 1 rank, 2 base, 3 table, 4 k -/
def b_l_shape_at (l_shape_count : FM) (l_shape_at : FM) (l_shape_outcome_at : FM) : MS :=
 (sCons (sIf (dTru (dIsi "int" (dVar 0)))
 (sRet (dVar 1))
 sNil)
 (sCons (sSet 2 (dCall l_shape_count io_l_shape_count (dCons (dOp2 pIx (dVar 0) (dC (.int 2))) dNil)))
 (sCons (sIf (dTb (dOp2 pEq (dOp2 pIx (dVar 0) (dC (.int 0))) (dC (.str "pair"))))
 (sRet (dTup (dCons (fz (dCall l_shape_at io_l_shape_at (dCons (dOp2 pIx (dVar 0) (dC (.int 1))) (dCons (dOp2 pDiv (dVar 1) (dVar 2)) dNil)))) (dCons (fz (dCall l_shape_at io_l_shape_at (dCons (dOp2 pIx (dVar 0) (dC (.int 2))) (dCons (dOp2 pMod (dCB pInt (dCons (dVar 1) dNil)) (dVar 2)) dNil)))) dNil))))
 sNil)
 (sCons (sSet 3 (dTup dNil))
 (sCons (sFor (dRng1 (dCons (fz (dCall l_shape_count io_l_shape_count (dCons (dOp2 pIx (dVar 0) (dC (.int 1))) dNil))) dNil)) (.nm 4)
 (sCons (sSet 3 (dOp2 pAdd (dTup (dCons (fz (dCall l_shape_outcome_at io_l_shape_outcome_at (dCons (dOp2 pIx (dVar 0) (dC (.int 2))) (dCons (dOp2 pMod (dCB pInt (dCons (dVar 1) dNil)) (dOp2 pAdd (dVar 2) (dC (.int 2)))) dNil)))) dNil)) (dVar 3)))
 (sSet 1 (dOp2 pDiv (dVar 1) (dOp2 pAdd (dVar 2) (dC (.int 2)))))))
 (sRet (dVar 3)))))))
def f_l_shape_at (l_shape_count : FM) (l_shape_at : FM) (l_shape_outcome_at : FM) : FM := mkF 5 io_l_shape_at (b_l_shape_at l_shape_count l_shape_at l_shape_outcome_at)
/-! _law_shape_outcome_at -/
/-- slots: 0 shape, 1 rank -/
def b_l_shape_outcome_at (l_shape_count : FM) (l_shape_at : FM) : MS :=
 (sCons (sIf (dTb (dOp2 pLt (dVar 1) (dCall l_shape_count io_l_shape_count (dCons (fz (dVar 0)) dNil))))
 (sRet (dTup (dCons (dC (.str "value")) (dCons (fz (dCall l_shape_at io_l_shape_at (dCons (fz (dVar 0)) (dCons (fz (dVar 1)) dNil)))) dNil))))
 sNil)
 (sRet (dTup (dCons (dC (.str "error")) (dCons (dOp2 pSub (dVar 1) (dCall l_shape_count io_l_shape_count (dCons (fz (dVar 0)) dNil))) dNil)))))
def f_l_shape_outcome_at (l_shape_count : FM) (l_shape_at : FM) : FM := mkF 2 io_l_shape_outcome_at (b_l_shape_outcome_at l_shape_count l_shape_at)
/-! _law_shape_row -/
/-- slots: 0 shape, 1 table, 2 argument -/
def b_l_shape_row (l_shape_rank : FM) : MS :=
 (sRet (dOp2 pIx (dVar 1) (dCall l_shape_rank io_l_shape_rank (dCons (dOp2 pIx (dVar 0) (dC (.int 1))) (dCons (fz (dVar 2)) dNil)))))
def f_l_shape_row (l_shape_rank : FM) : FM := mkF 3 io_l_shape_row (b_l_shape_row l_shape_rank)
/-! _law_shape_value -/
/-- slots: 0 tape, 1 shape, 2 first, 3 k -/
def b_l_shape_value (l_draw : FM) (l_shape_value : FM) (l_shape_count : FM) (l_shape_outcome : FM) : MS :=
 (sCons (sIf (dTru (dIsi "int" (dVar 1)))
 (sRet (dCall l_draw io_l_draw (dCons (dOwn 0) (dCons (fz (dVar 1)) dNil))))
 sNil)
 (sCons (sIf (dTb (dOp2 pEq (dOp2 pIx (dVar 1) (dC (.int 0))) (dC (.str "pair"))))
 (sCons (sSet 2 (dCall l_shape_value io_l_shape_value (dCons (dOwn 0) (dCons (dOp2 pIx (dVar 1) (dC (.int 1))) dNil))))
 (sRet (dTup (dCons (fz (dVar 2)) (dCons (fz (dCall l_shape_value io_l_shape_value (dCons (dOwn 0) (dCons (dOp2 pIx (dVar 1) (dC (.int 2))) dNil)))) dNil)))))
 sNil)
 (sRet (dCB pTuple (dCons (dLc (dRng1 (dCons (fz (dCall l_shape_count io_l_shape_count (dCons (dOp2 pIx (dVar 1) (dC (.int 1))) dNil))) dNil)) (.nm 3) dYes (fz (dCall l_shape_outcome io_l_shape_outcome (dCons (dOwn 0) (dCons (dOp2 pIx (dVar 1) (dC (.int 2))) dNil)))) [3]) dNil)))))
def f_l_shape_value (l_draw : FM) (l_shape_value : FM) (l_shape_count : FM) (l_shape_outcome : FM) : FM := mkF 4 io_l_shape_value (b_l_shape_value l_draw l_shape_value l_shape_count l_shape_outcome)
/-! _law_shape_outcome -/
/-- slots: 0 tape, 1 shape, 2 kind -/
def b_l_shape_outcome (l_draw : FM) (l_shape_value : FM) : MS :=
 (sCons (sSet 2 (dCall l_draw io_l_draw (dCons (dOwn 0) (dCons (dC (.int 6)) dNil))))
 (sCons (sIf (dTb (dOp2 pLt (dVar 2) (dC (.int 4))))
 (sRet (dTup (dCons (dC (.str "value")) (dCons (fz (dCall l_shape_value io_l_shape_value (dCons (dOwn 0) (dCons (fz (dVar 1)) dNil)))) dNil))))
 sNil)
 (sRet (dTup (dCons (dC (.str "error")) (dCons (dOp2 pSub (dVar 2) (dC (.int 4))) dNil))))))
def f_l_shape_outcome (l_draw : FM) (l_shape_value : FM) : FM := mkF 3 io_l_shape_outcome (b_l_shape_outcome l_draw l_shape_value)
/-! _law_look_shows -/
/-- slots: 0 shape -/
def b_l_look_shows (l_look_shows : FM) : MS :=
 (sCons (sIf (dTru (dIsi "int" (dVar 0)))
 (sRet (dOp2 pGe (dVar 0) (dC (.int 2))))
 sNil)
 (sRet (dAndV (dOp2 pEq (dOp2 pIx (dVar 0) (dC (.int 0))) (dC (.str "pair"))) (dOrV (dCall l_look_shows io_l_look_shows (dCons (dOp2 pIx (dVar 0) (dC (.int 1))) dNil)) (dCall l_look_shows io_l_look_shows (dCons (dOp2 pIx (dVar 0) (dC (.int 2))) dNil))))))
def f_l_look_shows (l_look_shows : FM) : FM := mkF 1 io_l_look_shows (b_l_look_shows l_look_shows)
/-! _law_look_inner -/
/-- slots: 0 shape, 1 told, 2 below, 3 value, 4 rest -/
def b_l_look_inner (l_look_inner : FM) (l_look_all : FM) (l_shape_values : FM) : MS :=
 (sCons (sIf (dTru (dIsi "int" (dVar 0)))
 (sRet (dIf (dTb (dOp2 pGe (dVar 0) (dC (.int 2)))) (dLst (dCons (dTup dNil) dNil)) (dLst dNil)))
 sNil)
 (sCons (sIf (dTb (dOp2 pEq (dOp2 pIx (dVar 0) (dC (.int 0))) (dC (.str "pair"))))
 (sCons (sSet 1 (dLc (dIt (fz (dCall l_look_inner io_l_look_inner (dCons (dOp2 pIx (dVar 0) (dC (.int 1))) dNil)))) (.nm 4) dYes (fz (dOp2 pAdd (dTup (dCons (dTup (dCons (dC (.str "first")) dNil)) dNil)) (dVar 4))) [4]))
 (sRet (dOp2 pAdd (dVar 1) (dLc (dIt (fz (dCall l_look_inner io_l_look_inner (dCons (dOp2 pIx (dVar 0) (dC (.int 2))) dNil)))) (.nm 4) dYes (fz (dOp2 pAdd (dTup (dCons (dTup (dCons (dC (.str "second")) dNil)) dNil)) (dVar 4))) [4]))))
 sNil)
 (sCons (sSet 1 (dLst dNil))
 (sCons (sSet 2 (dCall l_look_all io_l_look_all (dCons (dOp2 pIx (dVar 0) (dC (.int 2))) dNil)))
 (sCons (sFor (dIt (fz (dCall l_shape_values io_l_shape_values (dCons (dOp2 pIx (dVar 0) (dC (.int 1))) dNil)))) (.nm 3)
 (sExpr (dExt 1 (dCons (dLc (dIt (fz (dVar 2))) (.nm 4) dYes (fz (dOp2 pAdd (dTup (dCons (dTup (dCons (dC (.str "apply")) (dCons (fz (dVar 3)) dNil))) dNil)) (dVar 4))) [4]) dNil))))
 (sRet (dVar 1)))))))
def f_l_look_inner (l_look_inner : FM) (l_look_all : FM) (l_shape_values : FM) : FM := mkF 5 io_l_look_inner (b_l_look_inner l_look_inner l_look_all l_shape_values)
/-! _law_look_all -/
/-- slots: 0 shape -/
def b_l_look_all (l_look_shows : FM) (l_look_inner : FM) : MS :=
 (sCons (sIf (dTru (dCall l_look_shows io_l_look_shows (dCons (fz (dVar 0)) dNil)))
 (sRet (dCall l_look_inner io_l_look_inner (dCons (fz (dVar 0)) dNil)))
 sNil)
 (sRet (dOp2 pAdd (dLst (dCons (dTup (dCons (dTup (dCons (dC (.str "whether")) dNil)) dNil)) dNil)) (dCall l_look_inner io_l_look_inner (dCons (fz (dVar 0)) dNil)))))
def f_l_look_all (l_look_shows : FM) (l_look_inner : FM) : FM := mkF 1 io_l_look_all (b_l_look_all l_look_shows l_look_inner)
/-! _law_look_sum -/
/-- slots: 0 shape -/
def b_l_look_sum (l_look_sum : FM) (l_shape_count : FM) (l_look_count : FM) : MS :=
 (sCons (sIf (dTru (dIsi "int" (dVar 0)))
 (sRet (dCB pInt (dCons (dOp2 pGe (dVar 0) (dC (.int 2))) dNil)))
 sNil)
 (sCons (sIf (dTb (dOp2 pEq (dOp2 pIx (dVar 0) (dC (.int 0))) (dC (.str "pair"))))
 (sRet (dCB pMin2 (dCons (dOp2 pAdd (dCall l_look_sum io_l_look_sum (dCons (dOp2 pIx (dVar 0) (dC (.int 1))) dNil)) (dCall l_look_sum io_l_look_sum (dCons (dOp2 pIx (dVar 0) (dC (.int 2))) dNil))) (dCons (dOp2 pPow (dC (.int 10)) (dC (.int 9))) dNil))))
 sNil)
 (sRet (dCB pMin2 (dCons (dOp2 pMul (dCall l_shape_count io_l_shape_count (dCons (dOp2 pIx (dVar 0) (dC (.int 1))) dNil)) (dCall l_look_count io_l_look_count (dCons (dOp2 pIx (dVar 0) (dC (.int 2))) dNil))) (dCons (dOp2 pPow (dC (.int 10)) (dC (.int 9))) dNil))))))
def f_l_look_sum (l_look_sum : FM) (l_shape_count : FM) (l_look_count : FM) : FM := mkF 1 io_l_look_sum (b_l_look_sum l_look_sum l_shape_count l_look_count)
/-! _law_look_count -/
/-- slots: 0 shape -/
def b_l_look_count (l_look_sum : FM) (l_look_shows : FM) : MS :=
 (sRet (dCB pMin2 (dCons (dOp2 pAdd (dCall l_look_sum io_l_look_sum (dCons (fz (dVar 0)) dNil)) (dCB pInt (dCons (dNotV (dCall l_look_shows io_l_look_shows (dCons (fz (dVar 0)) dNil))) dNil))) (dCons (dOp2 pPow (dC (.int 10)) (dC (.int 9))) dNil))))
def f_l_look_count (l_look_sum : FM) (l_look_shows : FM) : FM := mkF 1 io_l_look_count (b_l_look_count l_look_sum l_look_shows)
/-! _law_look_last -/
/-- slots: 0 shape, 1 moves, 2 move -/
def b_l_look_last : MS :=
 (sCons (sFor (dIt (fz (dVar 1))) (.nm 2)
 (sCons (sIf (dTb (dOp2 pEq (dOp2 pIx (dVar 2) (dC (.int 0))) (dC (.str "whether"))))
 (sRet (dC (.int 1)))
 sNil)
 (sSet 0 (dIf (dTb (dOp2 pEq (dOp2 pIx (dVar 2) (dC (.int 0))) (dC (.str "first")))) (dOp2 pIx (dVar 0) (dC (.int 1))) (dOp2 pIx (dVar 0) (dC (.int 2)))))))
 (sRet (dVar 0)))
def f_l_look_last : FM := mkF 3 io_l_look_last b_l_look_last
/-! _law_look_finds -/
/-- slots: 0 shape, 1 moves, 2 outcome, 3 move -/
def b_l_look_finds (l_shape_row : FM) : MS :=
 (sCons (sFor (dIt (fz (dVar 1))) (.nm 3)
 (sCons (sIf (dTb (dOp2 pEq (dOp2 pIx (dVar 2) (dC (.int 0))) (dC (.str "error"))))
 (sRet (dVar 2))
 sNil)
 (sCons (sIf (dTb (dOp2 pEq (dOp2 pIx (dVar 3) (dC (.int 0))) (dC (.str "whether"))))
 (sRet (dTup (dCons (dC (.str "value")) (dCons (dC (.int 0)) dNil))))
 sNil)
 (sIf (dTb (dOp2 pEq (dOp2 pIx (dVar 3) (dC (.int 0))) (dC (.str "first"))))
 (sCons (sSet 2 (dTup (dCons (dC (.str "value")) (dCons (dOp2 pIx (dOp2 pIx (dVar 2) (dC (.int 1))) (dC (.int 0))) dNil))))
 (sSet 0 (dOp2 pIx (dVar 0) (dC (.int 1)))))
 (sIf (dTb (dOp2 pEq (dOp2 pIx (dVar 3) (dC (.int 0))) (dC (.str "second"))))
 (sCons (sSet 2 (dTup (dCons (dC (.str "value")) (dCons (dOp2 pIx (dOp2 pIx (dVar 2) (dC (.int 1))) (dC (.int 1))) dNil))))
 (sSet 0 (dOp2 pIx (dVar 0) (dC (.int 2)))))
 (sCons (sSet 2 (dCall l_shape_row io_l_shape_row (dCons (fz (dVar 0)) (dCons (dOp2 pIx (dVar 2) (dC (.int 1))) (dCons (dOp2 pIx (dVar 3) (dC (.int 1))) dNil)))))
 (sSet 0 (dOp2 pIx (dVar 0) (dC (.int 2))))))))))
 (sRet (dVar 2)))
def f_l_look_finds (l_shape_row : FM) : FM := mkF 4 io_l_look_finds (b_l_look_finds l_shape_row)
/-! _law_look_decoded -/
/-- slots: 0 shape, 1 found, 2 rest, 3 worth, 4 one -/
def b_l_look_decoded (l_look_shows : FM) (l_look_worth : FM) : MS :=
 (sCons (sIf (dAndB (dTb (dOp2 pEq (dOp2 pIx (dOp2 pIx (dVar 1) (dC (.int 0))) (dC (.int 0))) (dC (.str "error")))) (dTb (dOp2 pEq (dLc (dIt (fz (dVar 1))) (.nm 4) (dTb (dOp2 pNe (dVar 4) (dOp2 pIx (dVar 1) (dC (.int 0))))) (fz (dVar 4)) [4]) (dLst dNil))))
 (sRet (dOp2 pIx (dVar 1) (dC (.int 0))))
 sNil)
 (sCons (sSet 2 (dVar 1))
 (sCons (sIf (dNotB (dTru (dCall l_look_shows io_l_look_shows (dCons (fz (dVar 0)) dNil))))
 (sCons (sIf (dTb (dOp2 pEq (dOp2 pIx (dOp2 pIx (dVar 1) (dC (.int 0))) (dC (.int 0))) (dC (.str "error"))))
 (sRet (dC .none))
 sNil)
 (sSet 2 (dSl (dVar 1) (dPart (dC (.int 1))) dNoP)))
 sNil)
 (sCons (sSet 3 (dCall l_look_worth io_l_look_worth (dCons (fz (dVar 0)) (dCons (fz (dVar 2)) dNil))))
 (sRet (dIf (dTb (dOp2 pIsN (dVar 3) (dC .none))) (dC .none) (dTup (dCons (dC (.str "value")) (dCons (fz (dVar 3)) dNil)))))))))
def f_l_look_decoded (l_look_shows : FM) (l_look_worth : FM) : FM := mkF 5 io_l_look_decoded (b_l_look_decoded l_look_shows l_look_worth)
/-! _law_look_worth -/
/-- slots: 0 shape, 1 found, 2 left, 3 one, 4 two, 5 block, 6 rows, 7 k -/
def b_l_look_worth (l_look_sum : FM) (l_look_worth : FM) (l_look_count : FM) (l_shape_count : FM) (l_look_decoded : FM) : MS :=
 (sCons (sIf (dTru (dIsi "int" (dVar 0)))
 (sCons (sIf (dTb (dOp2 pEq (dVar 0) (dC (.int 1))))
 (sRet (dC (.int 0)))
 sNil)
 (sRet (dIf (dTb (dOp2 pEq (dOp2 pIx (dOp2 pIx (dVar 1) (dC (.int 0))) (dC (.int 0))) (dC (.str "value")))) (dOp2 pIx (dOp2 pIx (dVar 1) (dC (.int 0))) (dC (.int 1))) (dC .none))))
 sNil)
 (sCons (sIf (dTb (dOp2 pEq (dOp2 pIx (dVar 0) (dC (.int 0))) (dC (.str "pair"))))
 (sCons (sSet 2 (dCall l_look_sum io_l_look_sum (dCons (dOp2 pIx (dVar 0) (dC (.int 1))) dNil)))
 (sCons (sSet 3 (dCall l_look_worth io_l_look_worth (dCons (dOp2 pIx (dVar 0) (dC (.int 1))) (dCons (fz (dSl (dVar 1) dNoP (dPart (dVar 2)))) dNil))))
 (sCons (sSet 4 (dCall l_look_worth io_l_look_worth (dCons (dOp2 pIx (dVar 0) (dC (.int 2))) (dCons (fz (dSl (dVar 1) (dPart (dVar 2)) dNoP)) dNil))))
 (sRet (dIf (dOrB (dTb (dOp2 pIsN (dVar 3) (dC .none))) (dTb (dOp2 pIsN (dVar 4) (dC .none)))) (dC .none) (dTup (dCons (fz (dVar 3)) (dCons (fz (dVar 4)) dNil))))))))
 sNil)
 (sCons (sSet 5 (dCall l_look_count io_l_look_count (dCons (dOp2 pIx (dVar 0) (dC (.int 2))) dNil)))
 (sCons (sSet 6 (dLc (dRng1 (dCons (fz (dCall l_shape_count io_l_shape_count (dCons (dOp2 pIx (dVar 0) (dC (.int 1))) dNil))) dNil)) (.nm 7) dYes (fz (dCall l_look_decoded io_l_look_decoded (dCons (dOp2 pIx (dVar 0) (dC (.int 2))) (dCons (fz (dSl (dVar 1) (dPart (dOp2 pMul (dVar 7) (dVar 5))) (dPart (dOp2 pAdd (dOp2 pMul (dVar 7) (dVar 5)) (dVar 5))))) dNil)))) [7]))
 (sRet (dIf (dTb (dOp2 pIn (dC .none) (dVar 6))) (dC .none) (dCB pTuple (dCons (dVar 6) dNil))))))))
def f_l_look_worth (l_look_sum : FM) (l_look_worth : FM) (l_look_count : FM) (l_shape_count : FM) (l_look_decoded : FM) : FM := mkF 8 io_l_look_worth (b_l_look_worth l_look_sum l_look_worth l_look_count l_shape_count l_look_decoded)
end L2.Zd.Lib

set_option Elab.async false
set_option linter.all false
set_option maxRecDepth 100000
set_option maxHeartbeats 2000000
namespace L2.Zd.Lib
open PySem PySem.Spec PyProof.Rows L2.Zd
/-! ### the tape -/
def Tp (t : D) : Prop := ∃ (cs : List Int) (p q r : Int), t = .list [.list (cs.map .int), .int p, .int q, .int r] ∧ 0 ≤ p ∧ 0 ≤ q ∧ 0 ≤ r
abbrev DrawS (f : FM) : Prop := ∀ (t : D) (w : Int) (Q : Bool → D → List D → Prop), Tp t → w < 2 ^ 63 → (∀ r t', Tp t' → 0 ≤ r → r < max w 1 → Q false (.int r) [t']) → FnP f [t, .int w] Q
theorem draw_s : DrawS f_l_draw := by
  intro t w Q ⟨cs, p, q, r, ht, hp, hq, hr⟩ hw hQ
  subst ht
  refine FnP_mk [.ow _, .fr (.int w), .no, .no] [0] rfl rfl ?_
  unfold b_l_draw
  repeat (first|((with_reducible first|refine Yb (d:=?_) ?_ ?_|refine Yc (b:=?_) ?_ ?_);rotate_left 1;exact rfl)|((with_reducible refine Yr (d:=?_) (e:=?_) ?_ ?_ ?_);rotate_left 2;exact rfl;exact rfl)|(with_reducible first|refine J0 ?_|refine J1 ?_|refine J2 ?_|refine J4 ?_|refine J9 ?_|refine Uh ?_)|((with_reducible refine Yv (d:=?_) ?_ ?_);rotate_left 1;exact rfl)|((with_reducible refine Xb (a:=?_) ?_ ?_);rotate_left 1;exact rfl))
  (with_reducible refine BoolW_dec (fun h => ?_) (fun h => ?_))
  · repeat (first|((with_reducible first|refine Yb (d:=?_) ?_ ?_|refine Yc (b:=?_) ?_ ?_|refine Yl (a:=?_) ?_ ?_);rotate_left 1;exact rfl)|((with_reducible refine Yr (d:=?_) (e:=?_) ?_ ?_ ?_);rotate_left 2;exact rfl;exact rfl)|(with_reducible first|refine J0 ?_|refine J1 ?_|refine J2 ?_|refine J3 ?_|refine J4 ?_|refine J7 ?_|refine J8 ?_|refine J9 ?_|refine Ja ?_|refine Ub ?_)|((with_reducible refine Yv (d:=?_) ?_ ?_);rotate_left 1;exact rfl)|((with_reducible refine Xb (a:=?_) ?_ ?_);rotate_left 1;exact rfl))
    (with_reducible refine BoolW_dec (fun h2 => ?_) (fun h2 => ?_))
    · repeat (first|((with_reducible refine Yb (d:=?_) ?_ ?_);rotate_left 1;exact rfl)|((with_reducible refine Yr (d:=?_) (e:=?_) ?_ ?_ ?_);rotate_left 2;exact rfl;exact rfl)|(with_reducible first|refine J1 ?_|refine J2 ?_|refine J3 ?_|refine J7 ?_|refine Ja ?_)|((with_reducible refine Yv (d:=?_) ?_ ?_);rotate_left 1;exact rfl)|((with_reducible refine Xb (a:=?_) ?_ ?_);rotate_left 1;exact rfl))
      refine o_ixl ⟨hp, h2⟩ fun x hx _ => ?_
      obtain ⟨c, _, rfl⟩ := List.mem_map.mp hx
      repeat (first|((with_reducible first|refine Yb (d:=?_) ?_ ?_|refine Yc (b:=?_) ?_ ?_|refine Yf (d:=?_) ?_ ?_|refine Yl (a:=?_) ?_ ?_);rotate_left 1;exact rfl)|((with_reducible refine Yr (d:=?_) (e:=?_) ?_ ?_ ?_);rotate_left 2;exact rfl;exact rfl)|(with_reducible first|refine J0 ?_|refine J1 ?_|refine J2 ?_|refine J4 ?_|refine J6 ?_|refine J8 ?_|refine J9 ?_|refine U5 ?_|refine Ub ?_|refine Uf ?_|refine Up ?_)|((with_reducible refine Yy (d:=?_) (s:=?_) ?_ ?_);rotate_left 2;exact rfl)|((with_reducible refine X4 (d:=?_) (n:=?_) (xs:=?_) (q:=?_) ?_ ?_ ?_ ?_ ?_);rotate_left 4;exact rfl;exact rfl;exact rfl;exact rfl)|((with_reducible refine Xb (a:=?_) ?_ ?_);rotate_left 1;exact rfl))
      (with_reducible refine BoolW_dec (fun h3 => ?_) (fun h3 => ?_))
      · repeat (first|((with_reducible first|refine Yb (d:=?_) ?_ ?_|refine Yl (a:=?_) ?_ ?_);rotate_left 1;exact rfl)|((with_reducible first|refine Yr (d:=?_) (e:=?_) ?_ ?_ ?_|refine Ys (d:=?_) (o:=?_) ?_ ?_ ?_);rotate_left 2;exact rfl;exact rfl)|(with_reducible first|refine J0 ?_|refine J1 ?_|refine J2 ?_|refine J3 ?_|refine J5 ?_|refine J7 ?_|refine J8 ?_|refine Ja ?_|refine Un ?_|refine Uz ?_ (by first|(left;constructor<;>omega)|(right;constructor<;>omega))|refine Y0 ?_ (by omega))|((with_reducible refine Xb (a:=?_) ?_ ?_);rotate_left 1;exact rfl))
        exact hQ _ _ ⟨cs, _, _, _, rfl, by omega, by omega, by omega⟩ (Int.emod_nonneg _ (by omega)) (Int.emod_lt_of_pos _ (by omega))
      · repeat (first|((with_reducible first|refine Yb (d:=?_) ?_ ?_|refine Yf (d:=?_) ?_ ?_|refine Yl (a:=?_) ?_ ?_);rotate_left 1;exact rfl)|((with_reducible first|refine Yr (d:=?_) (e:=?_) ?_ ?_ ?_|refine Ys (d:=?_) (o:=?_) ?_ ?_ ?_);rotate_left 2;exact rfl;exact rfl)|(with_reducible first|refine J0 ?_|refine J1 ?_|refine J2 ?_|refine J3 ?_|refine J5 ?_|refine J6 ?_|refine J7 ?_|refine J8 ?_|refine Ja ?_|refine Je ?_|refine U5 ?_|refine Un ?_|refine Y0 ?_ (by omega)|refine Y1 ?_ (by omega))|((with_reducible refine Yv (d:=?_) ?_ ?_);rotate_left 1;exact rfl)|((with_reducible refine Yy (d:=?_) (s:=?_) ?_ ?_);rotate_left 2;exact rfl)|((with_reducible refine X4 (d:=?_) (n:=?_) (xs:=?_) (q:=?_) ?_ ?_ ?_ ?_ ?_);rotate_left 4;exact rfl;exact rfl;exact rfl;exact rfl)|((with_reducible refine Xb (a:=?_) ?_ ?_);rotate_left 1;exact rfl))
        exact hQ _ _ ⟨cs, _, _, _, rfl, by omega, Int.ediv_nonneg (by omega) (by omega), by omega⟩ (Int.emod_nonneg _ (by omega)) (Int.emod_lt_of_pos _ (by omega))
    · repeat (first|((with_reducible first|refine Yb (d:=?_) ?_ ?_|refine Yc (b:=?_) ?_ ?_|refine Yf (d:=?_) ?_ ?_|refine Yl (a:=?_) ?_ ?_);rotate_left 1;exact rfl)|((with_reducible first|refine Yr (d:=?_) (e:=?_) ?_ ?_ ?_|refine Ys (d:=?_) (o:=?_) ?_ ?_ ?_);rotate_left 2;exact rfl;exact rfl)|(with_reducible first|refine J0 ?_|refine J1 ?_|refine J2 ?_|refine J3 ?_|refine J4 ?_|refine J5 ?_|refine J6 ?_|refine J7 ?_|refine J8 ?_|refine J9 ?_|refine Ja ?_|refine U5 ?_|refine Ub ?_|refine Uf ?_|refine Un ?_|refine Uz ?_ (by first|(left;constructor<;>omega)|(right;constructor<;>omega))|refine Y0 ?_ (by omega))|((with_reducible refine Yv (d:=?_) ?_ ?_);rotate_left 1;exact rfl)|((with_reducible refine Yy (d:=?_) (s:=?_) ?_ ?_);rotate_left 2;exact rfl)|((with_reducible refine X4 (d:=?_) (n:=?_) (xs:=?_) (q:=?_) ?_ ?_ ?_ ?_ ?_);rotate_left 4;exact rfl;exact rfl;exact rfl;exact rfl)|(with_reducible refine Y9 ?_ (by first|omega|assumption))|((with_reducible refine Xb (a:=?_) ?_ ?_);rotate_left 1;exact rfl))
      have hm := Int.emod_nonneg (r * 48271 + p + 1) (show (2147483647 : Int) ≠ 0 by omega)
      exact hQ _ _ ⟨cs, _, _, _, rfl, by omega, by omega, hm⟩ (Int.emod_nonneg _ (by omega)) (Int.emod_lt_of_pos _ (by omega))
  · repeat (first|((with_reducible first|refine Yb (d:=?_) ?_ ?_|refine Yf (d:=?_) ?_ ?_|refine Yl (a:=?_) ?_ ?_);rotate_left 1;exact rfl)|((with_reducible first|refine Yr (d:=?_) (e:=?_) ?_ ?_ ?_|refine Ys (d:=?_) (o:=?_) ?_ ?_ ?_);rotate_left 2;exact rfl;exact rfl)|(with_reducible first|refine J0 ?_|refine J1 ?_|refine J2 ?_|refine J3 ?_|refine J5 ?_|refine J7 ?_|refine J8 ?_|refine Ja ?_|refine Je ?_|refine U5 ?_|refine Un ?_|refine Y0 ?_ (by omega)|refine Y1 ?_ (by omega))|((with_reducible refine Yv (d:=?_) ?_ ?_);rotate_left 1;exact rfl)|((with_reducible refine X4 (d:=?_) (n:=?_) (xs:=?_) (q:=?_) ?_ ?_ ?_ ?_ ?_);rotate_left 4;exact rfl;exact rfl;exact rfl;exact rfl)|((with_reducible refine Xb (a:=?_) ?_ ?_);rotate_left 1;exact rfl))
    exact hQ _ _ ⟨cs, _, _, _, rfl, by omega, Int.ediv_nonneg hq (by omega), by omega⟩ (Int.emod_nonneg _ (by omega)) (Int.emod_lt_of_pos _ (by omega))
abbrev PickS (f : FM) : Prop := ∀ (t : D) (xs : List D) (Q : Bool → D → List D → Prop), Tp t → xs ≠ [] → xs.length < 2 ^ 62 → (∀ x t', x ∈ xs → Tp t' → Q false x [t']) → FnP f [t, .list xs] Q
theorem pick_s {f : FM} (hd : DrawS f) : PickS (f_l_pick f) := by
  intro t xs Q ht hx hl hQ
  refine FnP_mk [.ow _, .fr (.list xs)] [0] rfl rfl ?_
  unfold b_l_pick
  have hl0 : 0 < xs.length := List.length_pos_iff.mpr hx
  repeat (first|((with_reducible first|refine Yb (d:=?_) ?_ ?_|refine Ye (d:=?_) ?_ ?_|refine Yl (a:=?_) ?_ ?_);rotate_left 1;exact rfl)|(with_reducible first|refine J2 ?_|refine J5 ?_|refine J7 ?_|refine J8 ?_|refine Ja ?_|refine Jb ?_)|((with_reducible refine Xb (a:=?_) ?_ ?_);rotate_left 1;exact rfl))
  refine hd _ _ _ ht (by omega) fun r t' ht' h0 h1 => ?_
  repeat (first|((with_reducible refine Yr (d:=?_) (e:=?_) ?_ ?_ ?_);rotate_left 2;exact rfl;exact rfl)|((with_reducible refine Xb (a:=?_) ?_ ?_);rotate_left 1;exact rfl))
  refine o_ixl ⟨h0, by omega⟩ fun x hx _ => ?_
  repeat (first|((with_reducible refine Ys (d:=?_) (o:=?_) ?_ ?_ ?_);rotate_left 2;exact rfl;exact rfl))
  exact hQ _ _ hx ht'

theorem tape_s (ns : List Int) {Q : Bool → D → List D → Prop} (hQ : ∀ t, Tp t → Q true t []) : FnP f_l_tape [.list (ns.map .int)] Q := by
  refine FnP_mk [.fr _, .no, .no] [] rfl rfl ?_
  unfold b_l_tape
  repeat (first|((with_reducible first|refine Yb (d:=?_) ?_ ?_|refine Yd (ds:=?_) ?_ ?_);rotate_left 1;exact rfl)|(with_reducible first|refine J0 ?_|refine J1 ?_|refine J3 ?_|refine J6 ?_|refine Jw ?_|refine U7 ?_)|((with_reducible refine Yy (d:=?_) (s:=?_) ?_ ?_);rotate_left 2;exact rfl)|((with_reducible refine Xb (a:=?_) ?_ ?_);rotate_left 1;exact rfl))
  refine fl_inv (fun rest s => ∃ (r : Int) (x : Sl), s = [.fr (.list (ns.map .int)), .fr (.int r), x] ∧ 0 ≤ r ∧ ∃ ms : List Int, rest = ms.map .int) ⟨7, .no, rfl, by omega, ns, rfl⟩ ?_ ?_
  · rintro d rest s ⟨r, x, rfl, hr, ms, hm⟩
    cases ms with
    | nil => cases hm
    | cons m ms =>
      cases hm
      repeat (first|((with_reducible first|refine Yb (d:=?_) ?_ ?_|refine Yl (a:=?_) ?_ ?_);rotate_left 1;exact rfl)|((with_reducible refine Yr (d:=?_) (e:=?_) ?_ ?_ ?_);rotate_left 2;exact rfl;exact rfl)|(with_reducible first|refine J1 ?_|refine J2 ?_|refine J3 ?_|refine J7 ?_|refine J8 ?_|refine Ja ?_|refine Up ?_|refine Uz ?_ (by first|(left;constructor<;>omega)|(right;constructor<;>omega))|refine Y0 ?_ (by omega))|((with_reducible refine Xb (a:=?_) ?_ ?_);rotate_left 1;exact rfl))
      exact ⟨_, _, rfl, Int.emod_nonneg _ (by omega), ms, rfl⟩
  · rintro s ⟨r, x, rfl, hr, _⟩
    repeat (first|((with_reducible first|refine Yb (d:=?_) ?_ ?_|refine Yl (a:=?_) ?_ ?_);rotate_left 1;exact rfl)|((with_reducible refine Ys (d:=?_) (o:=?_) ?_ ?_ ?_);rotate_left 2;exact rfl;exact rfl)|(with_reducible first|refine J1 ?_|refine J5 ?_|refine J6 ?_|refine J7 ?_|refine J8 ?_|refine Ja ?_|refine Jd ?_)|((with_reducible refine Yy (d:=?_) (s:=?_) ?_ ?_);rotate_left 2;exact rfl)|((with_reducible refine X1 (d:=?_) (o:=?_) ?_ ?_ ?_);rotate_left 2;exact rfl;exact rfl)|((with_reducible refine Xb (a:=?_) ?_ ?_);rotate_left 1;exact rfl)|((with_reducible refine And.intro ?_ ?_);first|exact Nat.le_of_ble_eq_true rfl|exact rfl))
    exact hQ _ ⟨ns, _, _, _, rfl, by omega, by omega, hr⟩
/-! ### numbers in a row -/
theorem rng_len (lo : Int) (n : Nat) : (rng lo n).length = n := by unfold rng; simp
theorem rng_mem {lo : Int} {n : Nat} {x : D} (h : x ∈ rng lo n) : ∃ k : Int, x = .int k ∧ lo ≤ k ∧ k < lo + n := by
  unfold rng at h
  obtain ⟨i, hi, rfl⟩ := List.mem_map.mp h
  have := List.mem_range.mp hi
  exact ⟨_, rfl, by omega, by omega⟩
def Ints (n : Int) (ds : List D) : Prop := ∀ x ∈ ds, ∃ k : Int, x = .int k ∧ 0 ≤ k ∧ k < n
theorem ints_rng (n : Nat) : Ints n (rng 0 n) := fun x h => by
  obtain ⟨k, e, h1, h2⟩ := rng_mem h
  exact ⟨k, e, h1, by omega⟩
theorem o_popAt {xs : List D} {i : Int} {L : D → List D → Prop} (c : 0 ≤ i ∧ i < xs.length ∧ xs.length < 2 ^ 62) (h : ∀ x, x ∈ xs → L x (xs.eraseIdx i.toNat)) : MutP (mPopAt xs [.int i]) L := by
  have e : mPopAt xs [.int i] = if -(2 ^ 63) ≤ i ∧ i < 2 ^ 63 then (seqIndex? i xs.length).bind fun k => (xs[k]?).map fun d => (d, xs.eraseIdx k) else none := rfl
  have e2 := (ixN_seq (ixN_in c.1 c.2.1)).1
  have hl : i.toNat < xs.length := by omega
  rw [e, if_pos (by omega), e2]
  show MutP ((xs[i.toNat]?).map fun d => (d, xs.eraseIdx i.toNat)) L
  rw [List.getElem?_eq_getElem hl]
  exact h _ (List.getElem_mem hl)
abbrev TurnsS (f : FM) : Prop := ∀ (t : D) (n : Int) (Q : Bool → D → List D → Prop), Tp t → 0 ≤ n → n < 2 ^ 20 → (∀ ds t', Tp t' → Ints n ds → Q true (.list ds) [t']) → FnP f [t, .int n] Q
theorem turns_s {f : FM} (hd : DrawS f) : TurnsS (f_l_turns f) := by
  intro t n Q ht h0 h1 hQ
  refine FnP_mk [.ow t, .fr (.int n), .no, .no, .no] [0] rfl rfl ?_
  unfold b_l_turns
  repeat (first|((with_reducible first|refine Yb (d:=?_) ?_ ?_|refine Yh (n:=?_) ?_ ?_ ?_|refine Yj (n:=?_) ?_ ?_ ?_);rotate_left 1;exact rfl)|(with_reducible first|refine J0 ?_|refine J3 ?_|refine J6 ?_|refine J7 ?_|refine J8 ?_|refine Jd ?_|refine Jt ?_|refine Jx ?_|refine U7 ?_)|((with_reducible refine Yy (d:=?_) (s:=?_) ?_ ?_);rotate_left 2;exact rfl)|((with_reducible refine Xb (a:=?_) ?_ ?_);rotate_left 1;exact rfl)|((with_reducible refine And.intro ?_ ?_);first|exact Nat.le_of_ble_eq_true rfl|exact rfl))
  refine fl_inv (fun rest s => ∃ (t' : D) (left turns : List D) (x : Sl), s = [.ow t', .fr (.int n), .ow (.list left), .ow (.list turns), x] ∧ Tp t' ∧ Ints n left ∧ Ints n turns ∧ left.length = rest.length ∧ rest.length + turns.length = n.toNat) ⟨t, _, [], .no, rfl, ht, by have := ints_rng n.toNat; rwa [Int.toNat_of_nonneg h0] at this, fun _ h => (by cases h), rfl, by simp [rng_len]⟩ ?_ ?_
  · rintro d rest s ⟨t', left, turns, x, rfl, ht', h2, h3, h4, h5⟩
    simp only [List.length_cons] at h4 h5
    repeat (first|((with_reducible first|refine Yb (d:=?_) ?_ ?_|refine Ye (d:=?_) ?_ ?_|refine Yf (d:=?_) ?_ ?_|refine Yl (a:=?_) ?_ ?_);rotate_left 1;exact rfl)|(with_reducible first|refine J6 ?_|refine J7 ?_|refine J8 ?_|refine Ja ?_|refine Jb ?_|refine Jf ?_|refine Jv ?_)|((with_reducible refine Yv (d:=?_) ?_ ?_);rotate_left 1;exact rfl)|((with_reducible refine Xb (a:=?_) ?_ ?_);rotate_left 1;exact rfl))
    refine hd _ _ _ ht' (by omega) fun r t2 ht2 q0 q1 => ?_
    repeat (first|((with_reducible refine Yt (as:=?_) (xs:=?_) ?_ ?_ ?_);rotate_left 2;exact rfl;exact rfl)|(with_reducible refine J8 ?_)|((with_reducible first|refine Yy (d:=?_) (s:=?_) ?_ ?_|refine Yz (d:=?_) (ys:=?_) ?_ ?_);rotate_left 2;exact rfl))
    refine o_popAt ⟨q0, by omega, by omega⟩ fun y hy => ?_
    repeat (first|((with_reducible refine Yt (as:=?_) (xs:=?_) ?_ ?_ ?_);rotate_left 2;exact rfl;exact rfl)|(with_reducible first|refine J8 ?_|refine Ux ?_ ?_)|((with_reducible refine Yy (d:=?_) (s:=?_) ?_ ?_);rotate_left 2;exact rfl))
    · refine ⟨t2, _, _, _, rfl, ht2, fun z hz => h2 z (List.mem_of_mem_eraseIdx hz), fun z hz => ?_, ?_, ?_⟩
      · rcases List.mem_append.mp hz with hz | hz
        · exact h3 z hz
        · rw [List.mem_singleton.mp hz]; exact h2 y hy
      · rw [List.length_eraseIdx]; split <;> omega
      · rw [List.length_append, List.length_singleton]; omega
    · show turns.length < sizeLine
      have : sizeLine = 2 ^ 24 := rfl
      omega
  · rintro s ⟨t', left, turns, x, rfl, ht', h2, h3, h4, h5⟩
    repeat (first|((with_reducible first|refine Yb (d:=?_) ?_ ?_|refine Ye (d:=?_) ?_ ?_);rotate_left 1;exact rfl)|(with_reducible first|refine J1 ?_|refine J2 ?_|refine J5 ?_|refine J6 ?_|refine J7 ?_|refine J8 ?_|refine Jb ?_|refine Jd ?_|refine Jp ?_|refine Jq ?_|refine Jr ?_)|((with_reducible refine Yv (d:=?_) ?_ ?_);rotate_left 1;exact rfl)|((with_reducible refine Yy (d:=?_) (s:=?_) ?_ ?_);rotate_left 2;exact rfl)|((with_reducible refine Xb (a:=?_) ?_ ?_);rotate_left 1;exact rfl)|((with_reducible refine And.intro ?_ ?_);first|exact Nat.le_of_ble_eq_true rfl|exact rfl))
    refine hd _ _ _ ht' (by omega) fun r t2 ht2 q0 q1 => ?_
    repeat (first|((with_reducible refine Yr (d:=?_) (e:=?_) ?_ ?_ ?_);rotate_left 2;exact rfl;exact rfl)|((with_reducible refine Xb (a:=?_) ?_ ?_);rotate_left 1;exact rfl))
    refine o_ixl ⟨q0, by simp only [List.length_cons, List.length_nil]; omega⟩ fun y hy _ => ?_
    have hy' : ∃ k : Int, y = .int k := by
      simp only [List.mem_cons, List.not_mem_nil, or_false] at hy
      rcases hy with h | h | h <;> exact ⟨_, h⟩
    obtain ⟨k, rfl⟩ := hy'
    repeat (first|((with_reducible first|refine Yg (n:=?_) ?_ ?_|refine Yl (a:=?_) ?_ ?_);rotate_left 1;exact rfl)|((with_reducible refine Ys (d:=?_) (o:=?_) ?_ ?_ ?_);rotate_left 2;exact rfl;exact rfl)|((with_reducible refine X1 (d:=?_) (o:=?_) ?_ ?_ ?_);rotate_left 2;exact rfl;exact rfl)|((with_reducible refine Xb (a:=?_) ?_ ?_);rotate_left 1;exact rfl))
    exact hQ _ _ ht2 fun z hz => h3 z (List.mem_of_mem_drop (List.mem_of_mem_take hz))
  all_goals omega

/-! ### shapes -/
def ShpL : D → Prop := fun d => ∃ i : Int, d = .int i ∧ 1 ≤ i ∧ i ≤ 6
def Shp : Nat → D → Prop
  | 0, d => ShpL d
  | n + 1, d => ShpL d ∨ ∃ (w : Str) (a b : D), (w = "pair" ∨ w = "to") ∧ d = .tuple [.str w, a, b] ∧ Shp n a ∧ Shp n b
theorem Shp.leaf {n : Nat} {d : D} (h : ShpL d) : Shp n d := by cases n with
  | zero => exact h
  | succ n => exact .inl h
theorem Shp.up {n : Nat} : ∀ {d : D}, Shp n d → Shp (n + 1) d := by
  induction n with
  | zero => exact fun h => .inl h
  | succ n ih =>
    rintro d (h | ⟨w, a, b, hw, e, h1, h2⟩)
    · exact .inl h
    · exact .inr ⟨w, a, b, hw, e, ih h1, ih h2⟩
theorem Shp.mono {n : Nat} {d : D} (h : Shp n d) : ∀ {k : Nat}, n ≤ k → Shp k d := by
  intro k hk
  induction hk with
  | refl => exact h
  | step _ ih => exact ih.up
/-- data shapes -/
def ShpD : Nat → D → Prop
  | 0, d => ShpL d
  | n + 1, d => ShpL d ∨ ∃ a b, d = .tuple [.str "pair", a, b] ∧ ShpD n a ∧ ShpD n b
theorem ShpD.shp {n : Nat} : ∀ {d : D}, ShpD n d → Shp n d := by
  induction n with
  | zero => exact fun h => h
  | succ n ih =>
    rintro d (h | ⟨a, b, e, h1, h2⟩)
    · exact .inl h
    · exact .inr ⟨"pair", a, b, .inl rfl, e, ih h1, ih h2⟩
theorem shpL_menu {x : D} (h : x ∈ [PyData.int 1, .int 2, .int 2, .int 2, .int 3, .int 1, .int 4, .int 5, .int 6]) : ShpL x := by
  simp only [List.mem_cons, List.not_mem_nil, or_false] at h
  rcases h with h | h | h | h | h | h | h | h | h <;> exact ⟨_, h, by omega, by omega⟩
abbrev ShapeS (f : FM) (b : Int) : Prop := ∀ (t : D) (z : Int) (Q : Bool → D → List D → Prop), Tp t → 1 ≤ z → z ≤ b → (∀ d t', Shp z.toNat d → Tp t' → Q false d [t']) → FnP f [t, .int z] Q
theorem shape0 (f : FM) : ShapeS f 0 := fun t z Q _ h1 h2 => by omega
theorem shapeS_any {d p f : FM} {b : Int} (hd : DrawS d) (hp : PickS p) (hf : ShapeS f b) (hb : b < 2 ^ 40) : ShapeS (f_l_shape_any d p f) (b + 2) := by
  intro t z Q ht h1 h2 hQ
  refine FnP_mk [.ow t, .fr (.int z), .no, .no, .no] [0] rfl rfl ?_
  unfold b_l_shape_any
  have leaf : ∀ d t', ShpL d → Tp t' → Q false d [t'] := fun d t' h ht => hQ d t' (.leaf h) ht
  repeat (first|((with_reducible refine Ye (d:=?_) ?_ ?_);rotate_left 1;exact rfl)|(with_reducible first|refine J0 ?_|refine J1 ?_|refine J3 ?_|refine J7 ?_|refine J8 ?_|refine Jb ?_)|((with_reducible refine Xb (a:=?_) ?_ ?_);rotate_left 1;exact rfl))
  refine hd _ _ _ ht (by omega) fun k t1 ht1 k0 k1 => ?_
  repeat (first|((with_reducible first|refine Yb (d:=?_) ?_ ?_|refine Yc (b:=?_) ?_ ?_);rotate_left 1;exact rfl)|((with_reducible refine Yr (d:=?_) (e:=?_) ?_ ?_ ?_);rotate_left 2;exact rfl;exact rfl)|(with_reducible first|refine J0 ?_|refine J1 ?_|refine J2 ?_|refine J4 ?_|refine J9 ?_|refine Jk ?_|refine Ub ?_)|((with_reducible refine Xb (a:=?_) ?_ ?_);rotate_left 1;exact rfl))
  (with_reducible refine BoolW_dec (fun hz => ?_) (fun hz => ?_))
  · repeat (first|((with_reducible refine Ye (d:=?_) ?_ ?_);rotate_left 1;exact rfl)|(with_reducible first|refine J1 ?_|refine J5 ?_|refine J6 ?_|refine J7 ?_|refine J8 ?_|refine Jb ?_|refine Jd ?_|refine U8 ?_)|((with_reducible refine Yy (d:=?_) (s:=?_) ?_ ?_);rotate_left 2;exact rfl)|((with_reducible refine Xb (a:=?_) ?_ ?_);rotate_left 1;exact rfl)|((with_reducible refine And.intro ?_ ?_);first|exact Nat.le_of_ble_eq_true rfl|exact rfl))
    refine hp _ _ _ ht1 (List.cons_ne_nil _ _) (by decide) fun x t2 hx ht2 => ?_
    repeat (first|((with_reducible refine Ys (d:=?_) (o:=?_) ?_ ?_ ?_);rotate_left 2;exact rfl;exact rfl))
    exact leaf _ _ (shpL_menu hx) ht2
  · repeat (first|((with_reducible first|refine Yb (d:=?_) ?_ ?_|refine Yc (b:=?_) ?_ ?_);rotate_left 1;exact rfl)|((with_reducible refine Yr (d:=?_) (e:=?_) ?_ ?_ ?_);rotate_left 2;exact rfl;exact rfl)|(with_reducible first|refine J1 ?_|refine J2 ?_|refine J9 ?_|refine Ub ?_))
    (with_reducible refine BoolW_dec (fun hk => ?_) (fun hk => ?_))
    · repeat (first|((with_reducible refine Ye (d:=?_) ?_ ?_);rotate_left 1;exact rfl)|(with_reducible first|refine J1 ?_|refine J5 ?_|refine J6 ?_|refine J7 ?_|refine J8 ?_|refine Jb ?_|refine Jd ?_)|((with_reducible refine Yy (d:=?_) (s:=?_) ?_ ?_);rotate_left 2;exact rfl)|((with_reducible refine Xb (a:=?_) ?_ ?_);rotate_left 1;exact rfl)|((with_reducible refine And.intro ?_ ?_);first|exact Nat.le_of_ble_eq_true rfl|exact rfl))
      refine hp _ _ _ ht1 (List.cons_ne_nil _ _) (by decide) fun x t2 hx ht2 => ?_
      repeat (first|((with_reducible refine Ys (d:=?_) (o:=?_) ?_ ?_ ?_);rotate_left 2;exact rfl;exact rfl))
      exact leaf _ _ (shpL_menu hx) ht2
    · repeat (first|((with_reducible first|refine Yb (d:=?_) ?_ ?_|refine Ye (d:=?_) ?_ ?_);rotate_left 1;exact rfl)|((with_reducible refine Yr (d:=?_) (e:=?_) ?_ ?_ ?_);rotate_left 2;exact rfl;exact rfl)|(with_reducible first|refine J0 ?_|refine J1 ?_|refine J2 ?_|refine J3 ?_|refine J7 ?_|refine J8 ?_|refine Jb ?_|refine Je ?_)|((with_reducible refine Xb (a:=?_) ?_ ?_);rotate_left 1;exact rfl))
      refine hd _ _ _ ht1 (by omega) fun r t2 ht2 r0 r1 => ?_
      repeat (first|((with_reducible first|refine Yb (d:=?_) ?_ ?_|refine Ye (d:=?_) ?_ ?_);rotate_left 1;exact rfl)|((with_reducible refine Yr (d:=?_) (e:=?_) ?_ ?_ ?_);rotate_left 2;exact rfl;exact rfl)|(with_reducible first|refine J0 ?_|refine J3 ?_|refine J6 ?_|refine J7 ?_|refine J8 ?_|refine Jb ?_)|((with_reducible refine Yy (d:=?_) (s:=?_) ?_ ?_);rotate_left 2;exact rfl)|((with_reducible refine Xb (a:=?_) ?_ ?_);rotate_left 1;exact rfl))
      refine hf _ _ _ ht2 (by omega) (by omega) fun a t3 ha ht3 => ?_
      have two : ∀ (w : Str) (c t4 : D), (w = "pair" ∨ w = "to") → Shp (z - 1 - (1 + r)).toNat c → Tp t4 → Q false (.tuple [.str w, a, c]) [t4] := fun w c t4 hw hc ht4 => by
        have e : z.toNat = (z.toNat - 1) + 1 := by omega
        refine hQ _ _ ?_ ht4
        rw [e]
        exact .inr ⟨w, a, c, hw, rfl, ha.mono (by omega), hc.mono (by omega)⟩
      repeat (first|((with_reducible first|refine Yb (d:=?_) ?_ ?_|refine Yc (b:=?_) ?_ ?_);rotate_left 1;exact rfl)|((with_reducible refine Yr (d:=?_) (e:=?_) ?_ ?_ ?_);rotate_left 2;exact rfl;exact rfl)|(with_reducible first|refine J1 ?_|refine J2 ?_|refine J5 ?_|refine J6 ?_|refine J7 ?_|refine J9 ?_|refine Jc ?_|refine Jg ?_|refine Uh ?_)|((with_reducible refine Xb (a:=?_) ?_ ?_);rotate_left 1;exact rfl))
      (with_reducible refine BoolW_dec (fun hq => ?_) (fun hq => ?_))
      · repeat (first|((with_reducible first|refine Yb (d:=?_) ?_ ?_|refine Ye (d:=?_) ?_ ?_);rotate_left 1;exact rfl)|((with_reducible refine Yr (d:=?_) (e:=?_) ?_ ?_ ?_);rotate_left 2;exact rfl;exact rfl)|(with_reducible first|refine J1 ?_|refine J2 ?_|refine J6 ?_|refine J7 ?_|refine J8 ?_|refine Jb ?_)|((with_reducible refine Yy (d:=?_) (s:=?_) ?_ ?_);rotate_left 2;exact rfl)|((with_reducible refine Xb (a:=?_) ?_ ?_);rotate_left 1;exact rfl))
        refine hf _ _ _ ht3 (by omega) (by omega) fun c t4 hc ht4 => ?_
        repeat (first|((with_reducible refine Ys (d:=?_) (o:=?_) ?_ ?_ ?_);rotate_left 2;exact rfl;exact rfl)|(with_reducible refine J8 ?_)|((with_reducible refine Yy (d:=?_) (s:=?_) ?_ ?_);rotate_left 2;exact rfl)|((with_reducible refine Xb (a:=?_) ?_ ?_);rotate_left 1;exact rfl)|((with_reducible refine And.intro ?_ ?_);first|exact Nat.le_of_ble_eq_true rfl|exact rfl))
        exact two _ _ _ (.inl rfl) hc ht4
      · repeat (first|((with_reducible first|refine Yb (d:=?_) ?_ ?_|refine Ye (d:=?_) ?_ ?_);rotate_left 1;exact rfl)|((with_reducible refine Yr (d:=?_) (e:=?_) ?_ ?_ ?_);rotate_left 2;exact rfl;exact rfl)|(with_reducible first|refine J1 ?_|refine J2 ?_|refine J6 ?_|refine J7 ?_|refine J8 ?_|refine Jb ?_)|((with_reducible refine Yy (d:=?_) (s:=?_) ?_ ?_);rotate_left 2;exact rfl)|((with_reducible refine Xb (a:=?_) ?_ ?_);rotate_left 1;exact rfl))
        refine hf _ _ _ ht3 (by omega) (by omega) fun c t4 hc ht4 => ?_
        repeat (first|((with_reducible refine Ys (d:=?_) (o:=?_) ?_ ?_ ?_);rotate_left 2;exact rfl;exact rfl)|(with_reducible refine J8 ?_)|((with_reducible refine Yy (d:=?_) (s:=?_) ?_ ?_);rotate_left 2;exact rfl)|((with_reducible refine Xb (a:=?_) ?_ ?_);rotate_left 1;exact rfl)|((with_reducible refine And.intro ?_ ?_);first|exact Nat.le_of_ble_eq_true rfl|exact rfl))
        exact two _ _ _ (.inr rfl) hc ht4
end L2.Zd.Lib

set_option Elab.async false
set_option linter.all false
set_option maxRecDepth 100000
set_option maxHeartbeats 2000000
namespace L2.Zd.Lib
open PySem PySem.Spec PyProof.Rows L2.Zd
theorem size24 : sizeLine = 16777216 := rfl
abbrev ShapeDS (f : FM) (b : Int) : Prop := ∀ (t : D) (z : Int) (Q : Bool → D → List D → Prop), Tp t → 1 ≤ z → z ≤ b → (∀ d t', ShpD z.toNat d → Tp t' → Q false d [t']) → FnP f [t, .int z] Q
theorem shapeD0 (f : FM) : ShapeDS f 0 := fun t z Q _ h1 h2 => by omega
theorem ShpD.leaf {n : Nat} {d : D} (h : ShpL d) : ShpD n d := by cases n with
  | zero => exact h
  | succ n => exact .inl h
theorem ShpD.up {n : Nat} : ∀ {d : D}, ShpD n d → ShpD (n + 1) d := by
  induction n with
  | zero => exact fun h => .inl h
  | succ n ih =>
    rintro d (h | ⟨a, b, e, h1, h2⟩)
    · exact .inl h
    · exact .inr ⟨a, b, e, ih h1, ih h2⟩
theorem ShpD.mono {n : Nat} {d : D} (h : ShpD n d) : ∀ {k : Nat}, n ≤ k → ShpD k d := by
  intro k hk
  induction hk with
  | refl => exact h
  | step _ ih => exact ih.up
theorem shapeDS_data {d p f : FM} {b : Int} (hd : DrawS d) (hp : PickS p) (hf : ShapeDS f b) (hb : b < 2 ^ 40) : ShapeDS (f_l_shape_data d p f) (b + 2) := by
  intro t z Q ht h1 h2 hQ
  refine FnP_mk [.ow t, .fr (.int z), .no, .no] [0] rfl rfl ?_
  unfold b_l_shape_data
  have leaf : ∀ d t', ShpL d → Tp t' → Q false d [t'] := fun d t' h ht => hQ d t' (.leaf h) ht
  repeat (first|((with_reducible first|refine Yb (d:=?_) ?_ ?_|refine Yc (b:=?_) ?_ ?_);rotate_left 1;exact rfl)|((with_reducible refine Yr (d:=?_) (e:=?_) ?_ ?_ ?_);rotate_left 2;exact rfl;exact rfl)|(with_reducible first|refine J0 ?_|refine J1 ?_|refine J2 ?_|refine J4 ?_|refine J9 ?_|refine Jk ?_|refine Ub ?_))
  (with_reducible refine BoolW_dec (fun hz => ?_) (fun hz => ?_))
  · repeat (first|((with_reducible refine Ye (d:=?_) ?_ ?_);rotate_left 1;exact rfl)|(with_reducible first|refine J1 ?_|refine J5 ?_|refine J6 ?_|refine J7 ?_|refine J8 ?_|refine Jb ?_|refine Jd ?_|refine U8 ?_)|((with_reducible refine Yy (d:=?_) (s:=?_) ?_ ?_);rotate_left 2;exact rfl)|((with_reducible refine Xb (a:=?_) ?_ ?_);rotate_left 1;exact rfl)|((with_reducible refine And.intro ?_ ?_);first|exact Nat.le_of_ble_eq_true rfl|exact rfl))
    refine hp _ _ _ ht (List.cons_ne_nil _ _) (by decide) fun x t2 hx ht2 => ?_
    repeat (first|((with_reducible refine Ys (d:=?_) (o:=?_) ?_ ?_ ?_);rotate_left 2;exact rfl;exact rfl))
    exact leaf _ _ (shpL_menu hx) ht2
  · repeat (first|((with_reducible refine Ye (d:=?_) ?_ ?_);rotate_left 1;exact rfl)|(with_reducible first|refine J1 ?_|refine J2 ?_|refine J7 ?_|refine J8 ?_|refine J9 ?_|refine Jb ?_)|((with_reducible refine Xb (a:=?_) ?_ ?_);rotate_left 1;exact rfl))
    refine hd _ _ _ ht (by omega) fun k t1 ht1 k0 k1 => ?_
    repeat (first|((with_reducible refine Yc (b:=?_) ?_ ?_);rotate_left 1;exact rfl)|((with_reducible refine Yr (d:=?_) (e:=?_) ?_ ?_ ?_);rotate_left 2;exact rfl;exact rfl)|(with_reducible first|refine J1 ?_|refine Uh ?_))
    (with_reducible refine BoolW_dec (fun hk => ?_) (fun hk => ?_))
    · repeat (first|((with_reducible refine Ye (d:=?_) ?_ ?_);rotate_left 1;exact rfl)|(with_reducible first|refine J1 ?_|refine J5 ?_|refine J6 ?_|refine J7 ?_|refine J8 ?_|refine Jb ?_|refine Jd ?_)|((with_reducible refine Yy (d:=?_) (s:=?_) ?_ ?_);rotate_left 2;exact rfl)|((with_reducible refine Xb (a:=?_) ?_ ?_);rotate_left 1;exact rfl)|((with_reducible refine And.intro ?_ ?_);first|exact Nat.le_of_ble_eq_true rfl|exact rfl))
      refine hp _ _ _ ht1 (List.cons_ne_nil _ _) (by decide) fun x t2 hx ht2 => ?_
      repeat (first|((with_reducible refine Ys (d:=?_) (o:=?_) ?_ ?_ ?_);rotate_left 2;exact rfl;exact rfl))
      exact leaf _ _ (shpL_menu hx) ht2
    · repeat (first|((with_reducible first|refine Yb (d:=?_) ?_ ?_|refine Ye (d:=?_) ?_ ?_);rotate_left 1;exact rfl)|((with_reducible refine Yr (d:=?_) (e:=?_) ?_ ?_ ?_);rotate_left 2;exact rfl;exact rfl)|(with_reducible first|refine J0 ?_|refine J1 ?_|refine J2 ?_|refine J3 ?_|refine J7 ?_|refine J8 ?_|refine Jb ?_|refine Je ?_)|((with_reducible refine Xb (a:=?_) ?_ ?_);rotate_left 1;exact rfl))
      refine hd _ _ _ ht1 (by omega) fun r t2 ht2 r0 r1 => ?_
      repeat (first|((with_reducible first|refine Yb (d:=?_) ?_ ?_|refine Ye (d:=?_) ?_ ?_);rotate_left 1;exact rfl)|((with_reducible refine Yr (d:=?_) (e:=?_) ?_ ?_ ?_);rotate_left 2;exact rfl;exact rfl)|(with_reducible first|refine J0 ?_|refine J3 ?_|refine J6 ?_|refine J7 ?_|refine J8 ?_|refine Jb ?_)|((with_reducible refine Yy (d:=?_) (s:=?_) ?_ ?_);rotate_left 2;exact rfl)|((with_reducible refine Xb (a:=?_) ?_ ?_);rotate_left 1;exact rfl))
      refine hf _ _ _ ht2 (by omega) (by omega) fun a t3 ha ht3 => ?_
      repeat (first|((with_reducible first|refine Yb (d:=?_) ?_ ?_|refine Ye (d:=?_) ?_ ?_);rotate_left 1;exact rfl)|((with_reducible refine Yr (d:=?_) (e:=?_) ?_ ?_ ?_);rotate_left 2;exact rfl;exact rfl)|(with_reducible first|refine J1 ?_|refine J2 ?_|refine J5 ?_|refine J6 ?_|refine J7 ?_|refine J8 ?_|refine Jb ?_|refine Jc ?_)|((with_reducible refine Yy (d:=?_) (s:=?_) ?_ ?_);rotate_left 2;exact rfl)|((with_reducible refine Xb (a:=?_) ?_ ?_);rotate_left 1;exact rfl))
      refine hf _ _ _ ht3 (by omega) (by omega) fun c t4 hc ht4 => ?_
      repeat (first|((with_reducible refine Ys (d:=?_) (o:=?_) ?_ ?_ ?_);rotate_left 2;exact rfl;exact rfl)|(with_reducible refine J8 ?_)|((with_reducible refine Yy (d:=?_) (s:=?_) ?_ ?_);rotate_left 2;exact rfl)|((with_reducible refine Xb (a:=?_) ?_ ?_);rotate_left 1;exact rfl)|((with_reducible refine And.intro ?_ ?_);first|exact Nat.le_of_ble_eq_true rfl|exact rfl))
      have e : z.toNat = (z.toNat - 1) + 1 := by omega
      refine hQ _ _ ?_ ht4
      rw [e]
      exact .inr ⟨a, c, rfl, ha.mono (by omega), hc.mono (by omega)⟩
/-! ### the same -/
def Plain0 (d : D) : Prop := d = .none ∨ (∃ b, d = .bool b) ∨ (∃ i, d = .int i) ∨ ∃ z, d = .str z ∧ PyData.strOk z = true
def Plain : Nat → D → Prop
  | 0, d => Plain0 d
  | n + 1, d => Plain0 d ∨ ∃ ds : List D, d = .tuple ds ∧ ds.length < 2 ^ 24 ∧ ∀ x ∈ ds, Plain n x
theorem Plain.of0 {n : Nat} {d : D} (h : Plain0 d) : Plain n d := by cases n with
  | zero => exact h
  | succ n => exact .inl h
theorem Plain.up {n : Nat} : ∀ {d : D}, Plain n d → Plain (n + 1) d := by
  induction n with
  | zero => exact fun h => .inl h
  | succ n ih =>
    rintro d (h | ⟨ds, e, hl, h1⟩)
    · exact .inl h
    · exact .inr ⟨ds, e, hl, fun x hx => ih (h1 x hx)⟩
theorem Plain.mono {n : Nat} {d : D} (h : Plain n d) : ∀ {k : Nat}, n ≤ k → Plain k d := by
  intro k hk
  induction hk with
  | refl => exact h
  | step _ ih => exact ih.up
theorem Plain.int {n : Nat} (i : Int) : Plain n (.int i) := .of0 (.inr (.inr (.inl ⟨i, rfl⟩)))
theorem Plain.str {n : Nat} {z : Str} (h : PyData.strOk z = true) : Plain n (.str z) := .of0 (.inr (.inr (.inr ⟨z, rfl, h⟩)))
theorem Plain.bool {n : Nat} (b : Bool) : Plain n (.bool b) := .of0 (.inr (.inl ⟨b, rfl⟩))
theorem Plain.none {n : Nat} : Plain n .none := .of0 (.inl rfl)
theorem Shp.plain {n : Nat} : ∀ {d : D}, Shp n d → Plain n d := by
  induction n with
  | zero => rintro d ⟨i, rfl, _⟩; exact .int i
  | succ n ih =>
    rintro d (⟨i, rfl, _⟩ | ⟨w, a, b, hw, rfl, h1, h2⟩)
    · exact .int i
    · refine .inr ⟨_, rfl, by simp, fun x hx => ?_⟩
      simp only [List.mem_cons, List.not_mem_nil, or_false] at hx
      rcases hx with rfl | rfl | rfl
      · exact .str (by rcases hw with rfl | rfl <;> decide +kernel)
      · exact ih h1
      · exact ih h2
abbrev SameS (f : FM) (n : Nat) : Prop := ∀ (d : D) (Q : Bool → D → List D → Prop), Plain n d → Q false (.bool true) [] → FnP f [d, d] Q
theorem same0 {f : FM} {d : D} {Q : Bool → D → List D → Prop} (h : Plain0 d) (hQ : Q false (.bool true) []) : FnP (f_l_same f) [d, d] Q := by
  refine FnP_mk [.fr d, .fr d, .no] [] rfl rfl ?_
  unfold b_l_same
  rcases h with rfl | ⟨b, rfl⟩ | ⟨i, rfl⟩ | ⟨z, rfl, _⟩
  · repeat (first|((with_reducible first|refine Yb (d:=?_) ?_ ?_|refine Yc (b:=?_) ?_ ?_|refine Yl (a:=?_) ?_ ?_|refine Ym (b:=?_) ?_ ?_);rotate_left 1;exact rfl)|((with_reducible first|refine Yr (d:=?_) (e:=?_) ?_ ?_ ?_|refine Ys (d:=?_) (o:=?_) ?_ ?_ ?_);rotate_left 2;exact rfl;exact rfl)|(with_reducible first|refine J0 ?_|refine J1 ?_|refine J2 ?_|refine J4 ?_|refine J5 ?_|refine J9 ?_|refine Je ?_|refine Jh ?_|refine Jk ?_|refine Jl ?_|refine Jo ?_|refine U8 ?_|refine U9 ?_)|((with_reducible refine X6 ?_ ?_);exact rfl)|((with_reducible refine Xb (a:=?_) ?_ ?_);rotate_left 1;exact rfl))
    exact hQ
  · cases b
    · repeat (first|((with_reducible first|refine Yb (d:=?_) ?_ ?_|refine Yc (b:=?_) ?_ ?_|refine Yl (a:=?_) ?_ ?_|refine Ym (b:=?_) ?_ ?_|refine Yn (b:=?_) ?_ ?_|refine Yo (b:=?_) ?_ ?_|refine Yp (b:=?_) ?_ ?_);rotate_left 1;exact rfl)|((with_reducible first|refine Yr (d:=?_) (e:=?_) ?_ ?_ ?_|refine Ys (d:=?_) (o:=?_) ?_ ?_ ?_);rotate_left 2;exact rfl;exact rfl)|(with_reducible first|refine J0 ?_|refine J1 ?_|refine J2 ?_|refine J4 ?_|refine J5 ?_|refine J9 ?_|refine Je ?_|refine Jh ?_|refine Ji ?_|refine Jk ?_|refine Jo ?_|refine U8 ?_|refine U9 ?_|refine Ua ?_|refine Ul ?_|refine Um ?_)|((with_reducible first|refine X5 ?_ ?_|refine X6 ?_ ?_);exact rfl)|((with_reducible refine X9 ?_ ?_);exact rfl)|((with_reducible refine Xb (a:=?_) ?_ ?_);rotate_left 1;exact rfl))
      exact hQ
    · repeat (first|((with_reducible first|refine Yb (d:=?_) ?_ ?_|refine Yc (b:=?_) ?_ ?_|refine Yl (a:=?_) ?_ ?_|refine Ym (b:=?_) ?_ ?_|refine Yn (b:=?_) ?_ ?_|refine Yo (b:=?_) ?_ ?_|refine Yp (b:=?_) ?_ ?_);rotate_left 1;exact rfl)|((with_reducible first|refine Yr (d:=?_) (e:=?_) ?_ ?_ ?_|refine Ys (d:=?_) (o:=?_) ?_ ?_ ?_);rotate_left 2;exact rfl;exact rfl)|(with_reducible first|refine J0 ?_|refine J1 ?_|refine J2 ?_|refine J4 ?_|refine J5 ?_|refine J9 ?_|refine Je ?_|refine Jh ?_|refine Ji ?_|refine Jk ?_|refine Jo ?_|refine U8 ?_|refine U9 ?_|refine Ua ?_|refine Ul ?_|refine Um ?_)|((with_reducible first|refine X5 ?_ ?_|refine X6 ?_ ?_);exact rfl)|((with_reducible refine X9 ?_ ?_);exact rfl)|((with_reducible refine Xb (a:=?_) ?_ ?_);rotate_left 1;exact rfl))
      exact hQ
  · repeat (first|((with_reducible first|refine Yb (d:=?_) ?_ ?_|refine Yc (b:=?_) ?_ ?_|refine Yl (a:=?_) ?_ ?_|refine Ym (b:=?_) ?_ ?_|refine Yn (b:=?_) ?_ ?_|refine Yo (b:=?_) ?_ ?_|refine Yp (b:=?_) ?_ ?_);rotate_left 1;exact rfl)|((with_reducible first|refine Yr (d:=?_) (e:=?_) ?_ ?_ ?_|refine Ys (d:=?_) (o:=?_) ?_ ?_ ?_);rotate_left 2;exact rfl;exact rfl)|(with_reducible first|refine J0 ?_|refine J1 ?_|refine J2 ?_|refine J4 ?_|refine J5 ?_|refine J9 ?_|refine Je ?_|refine Jh ?_|refine Ji ?_|refine Jk ?_|refine Jo ?_|refine U8 ?_|refine U9 ?_|refine Ua ?_|refine Uh ?_|refine Ul ?_)|((with_reducible first|refine X5 ?_ ?_|refine X6 ?_ ?_);exact rfl)|((with_reducible refine X9 ?_ ?_);exact rfl)|((with_reducible refine Xb (a:=?_) ?_ ?_);rotate_left 1;exact rfl))
    have e : decide (i = i) = true := decide_eq_true rfl
    rw [e]
    exact hQ
  · repeat (first|((with_reducible first|refine Yb (d:=?_) ?_ ?_|refine Yc (b:=?_) ?_ ?_|refine Yl (a:=?_) ?_ ?_|refine Ym (b:=?_) ?_ ?_|refine Yo (b:=?_) ?_ ?_);rotate_left 1;exact rfl)|((with_reducible first|refine Yr (d:=?_) (e:=?_) ?_ ?_ ?_|refine Ys (d:=?_) (o:=?_) ?_ ?_ ?_);rotate_left 2;exact rfl;exact rfl)|(with_reducible first|refine J0 ?_|refine J1 ?_|refine J2 ?_|refine J4 ?_|refine J5 ?_|refine J9 ?_|refine Je ?_|refine Jh ?_|refine Jk ?_|refine Jl ?_|refine Jo ?_|refine U8 ?_|refine U9 ?_|refine Uj ?_)|((with_reducible refine X6 ?_ ?_);exact rfl)|((with_reducible refine X9 ?_ ?_);exact rfl)|((with_reducible refine Xb (a:=?_) ?_ ?_);rotate_left 1;exact rfl))
    have e : decide (z = z) = true := decide_eq_true rfl
    rw [e]
    exact hQ
theorem same_s0 (f : FM) : SameS (f_l_same f) 0 := fun d Q h hQ => same0 h hQ
theorem same_s {f : FM} {n : Nat} (hf : SameS f n) : SameS (f_l_same f) (n + 1) := by
  intro d Q h hQ
  rcases h with h | ⟨ds, rfl, hl, hs⟩
  · exact same0 h hQ
  · refine FnP_mk [.fr (.tuple ds), .fr (.tuple ds), .no] [] rfl rfl ?_
    unfold b_l_same
    repeat (first|((with_reducible first|refine Yb (d:=?_) ?_ ?_|refine Yc (b:=?_) ?_ ?_|refine Yj (n:=?_) ?_ ?_ ?_|refine Yl (a:=?_) ?_ ?_|refine Ym (b:=?_) ?_ ?_);rotate_left 1;exact rfl)|((with_reducible refine Yr (d:=?_) (e:=?_) ?_ ?_ ?_);rotate_left 2;exact rfl;exact rfl)|(with_reducible first|refine J0 ?_|refine J2 ?_|refine J4 ?_|refine J7 ?_|refine J8 ?_|refine J9 ?_|refine Ja ?_|refine Je ?_|refine Jh ?_|refine Ji ?_|refine Jk ?_|refine Jo ?_|refine Jx ?_|refine U7 ?_|refine U8 ?_|refine Ua ?_|refine Ui ?_)|(with_reducible refine Y9 ?_ (by first|omega|assumption))|((with_reducible refine Xb (a:=?_) ?_ ?_);rotate_left 1;exact rfl))
    refine fl_inv (fun rest s => ∃ x : Sl, s = [.fr (.tuple ds), .fr (.tuple ds), x] ∧ Ints ds.length rest) ⟨.no, rfl, ints_rng _⟩ ?_ ?_
    · rintro d rest s ⟨x, rfl, hi⟩
      obtain ⟨k, rfl, h0, h1⟩ := hi d List.mem_cons_self
      repeat (first|((with_reducible refine Yb (d:=?_) ?_ ?_);rotate_left 1;exact rfl)|((with_reducible refine Yr (d:=?_) (e:=?_) ?_ ?_ ?_);rotate_left 2;exact rfl;exact rfl)|(with_reducible first|refine J2 ?_|refine J4 ?_|refine J7 ?_|refine Jb ?_|refine Jh ?_|refine Ji ?_)|((with_reducible refine Xb (a:=?_) ?_ ?_);rotate_left 1;exact rfl))
      refine o_ixt ⟨h0, h1⟩ fun x hx ex => ?_
      repeat (first|((with_reducible refine Yb (d:=?_) ?_ ?_);rotate_left 1;exact rfl)|((with_reducible refine Yr (d:=?_) (e:=?_) ?_ ?_ ?_);rotate_left 2;exact rfl;exact rfl)|(with_reducible first|refine J2 ?_|refine J7 ?_)|((with_reducible refine Xb (a:=?_) ?_ ?_);rotate_left 1;exact rfl))
      refine o_ixt ⟨h0, h1⟩ fun y hy ey => ?_
      rw [ex] at ey; cases ey
      repeat (first|(with_reducible refine J8 ?_)|((with_reducible refine Xb (a:=?_) ?_ ?_);rotate_left 1;exact rfl))
      refine hf _ _ (hs x hx) ?_
      repeat (first|((with_reducible refine Yl (a:=?_) ?_ ?_);rotate_left 1;exact rfl)|(with_reducible first|refine Je ?_|refine U8 ?_|refine Ua ?_)|((with_reducible refine Xb (a:=?_) ?_ ?_);rotate_left 1;exact rfl))
      exact ⟨_, rfl, fun z hz => hi z (List.mem_cons_of_mem _ hz)⟩
    · rintro s ⟨x, rfl, _⟩
      repeat (first|((with_reducible refine Ys (d:=?_) (o:=?_) ?_ ?_ ?_);rotate_left 2;exact rfl;exact rfl)|(with_reducible first|refine J1 ?_|refine J5 ?_))
      exact hQ
    all_goals omega
/-! ### a thing put at its place -/
theorem put_s {ds : List D} {k : Int} {x : D} {Q : Bool → D → List D → Prop} (h : 0 ≤ k ∧ k < ds.length) (hl : ds.length < 2 ^ 20) (hQ : Q false (.tuple (ds.set k.toNat x)) []) : FnP f_l_put [.tuple ds, .int k, x] Q := by
  refine FnP_mk [.fr (.tuple ds), .fr (.int k), .fr x] [] rfl rfl ?_
  unfold b_l_put
  repeat (first|((with_reducible first|refine Yb (d:=?_) ?_ ?_|refine Yg (n:=?_) ?_ ?_|refine Yl (a:=?_) ?_ ?_);rotate_left 1;exact rfl)|((with_reducible first|refine Yr (d:=?_) (e:=?_) ?_ ?_ ?_|refine Ys (d:=?_) (o:=?_) ?_ ?_ ?_);rotate_left 2;exact rfl;exact rfl)|(with_reducible first|refine J1 ?_|refine J2 ?_|refine J5 ?_|refine J6 ?_|refine J7 ?_|refine J8 ?_|refine Jc ?_|refine Jp ?_|refine Jq ?_|refine Jr ?_|refine Uv ?_ ?_|refine Y3 ?_ (by omega)|refine Y4 ?_ (by omega))|((with_reducible refine Yy (d:=?_) (s:=?_) ?_ ?_);rotate_left 2;exact rfl)|((with_reducible refine Xb (a:=?_) ?_ ?_);rotate_left 1;exact rfl)|((with_reducible refine And.intro ?_ ?_);first|exact Nat.le_of_ble_eq_true rfl|exact rfl))
  · have e : ds.take k.toNat ++ [x] ++ ds.drop (k + 1).toNat = ds.set k.toNat x := by
      rw [show (k + 1).toNat = k.toNat + 1 by omega]
      exact set_put ds k.toNat x (by omega)
    rw [e]
    exact hQ
  all_goals (simp only [List.length_append, List.length_take, List.length_drop, List.length_cons, List.length_nil, size24]; omega)
end L2.Zd.Lib

set_option Elab.async false
set_option linter.all false
set_option maxRecDepth 100000
set_option maxHeartbeats 2000000
namespace L2.Zd.Lib
open PySem PySem.Spec PyProof.Rows L2.Zd
def NO (x : Sl) : Prop := ∀ d, x ≠ .ow d
theorem NO.no : NO .no := fun d h => nomatch h
theorem NO.fr {d : D} : NO (.fr d) := fun e h => nomatch h
theorem NO.kp {x : Sl} : NO (kp x) := fun d h => by cases x <;> cases h
theorem noOw1 {s : DS} {i : Nat} {x : Sl} (e : s[i]? = some x) (h : NO x) : noOw s [i] = true := by
  unfold noOw
  rw [List.all_cons, e]
  cases x with
  | ow d => exact absurd rfl (h d)
  | _ => rfl
/-- q0_, q1_, .. -/
def qn (j : Nat) : Str := (("q" : Str) ++ (toString (0 + (j : Int)) : Str)) ++ ("_" : Str)
theorem qn_inj : ∀ i, i < 48 → ∀ j, j < 48 → qn i = qn j → i = j := by decide +kernel
def NmOk (z : Str) : Prop := z.length ≤ 64 ∧ PyData.strOk z = true
theorem strOk_app {x y : Str} (h : PyData.strOk x = true) (k : PyData.strOk y = true) : PyData.strOk (x ++ y) = true := by
  show (x.cps ++ y.cps).all (· < 0x110000) = true
  rw [Array.all_append, Bool.and_eq_true]
  exact ⟨h, k⟩
theorem strOk_one {z : Str} {c : Nat} (h : PyData.strOk z = true) (k : c ∈ z.cps.toList) : PyData.strOk ⟨#[c]⟩ = true := by
  have h' : z.cps.toList.all (· < 0x110000) = true := by rw [Array.all_toList]; exact h
  have := List.all_eq_true.mp h' c k
  show (#[c] : Array Nat).all (· < 0x110000) = true
  simpa using this
theorem qn_len : ∀ i, i < 48 → (qn i).length ≤ 64 ∧ PyData.strOk (qn i) = true := by decide +kernel
theorem ns_len : ∀ i : Nat, i < 48 → (toString (0 + (i : Int)) : Str).length ≤ 4 := by decide +kernel
/-- the numbers' texts -/
def gq (d : D) : D := match d with
  | .int j => .str ((("q" : Str) ++ (toString j : Str)) ++ ("_" : Str))
  | d => d
theorem rng_gq (n : Nat) : (rng 0 n).map gq = ((List.range n).map qn).map .str := by
  unfold rng
  rw [List.map_map, List.map_map]; rfl
theorem fresh_name {zs : List Str} {a0 a1 a2 a3 a4 a6 a7 x8 x9 : Sl} {P : Vt → DS → Prop} (h8 : NO x8) (h9 : NO x9) (hl : zs.length ≤ 40)
    (hP : ∀ z y8 y9, NmOk z → NO y8 → NO y9 → P (.fr (.str z)) [a0, a1, a2, a3, a4, .ow (.list (zs.map .str)), a6, a7, y8, y9]) : Wp (dOp2 pIx (dLc (dIt (fz (dLc (dRng1 (dCons (fz (dOp2 pAdd (dCB pLen (dCons (dVar 5) dNil)) (dC (.int 1)))) dNil)) (.nm 8) dYes (fz (dOp2 pAdd (dOp2 pAdd (dC (.str "q")) (dCB pStrI (dCons (dVar 8) dNil))) (dC (.str "_")))) [8]))) (.nm 9) (dTb (dOp2 pNotIn (dVar 9) (dVar 5))) (fz (dVar 9)) [9]) (dC (.int 0))) [a0, a1, a2, a3, a4, .ow (.list (zs.map .str)), a6, a7, x8, x9] P := by
  have hn : (((zs.map PyData.str).length : Int) + 1).toNat = zs.length + 1 := by rw [List.length_map]; omega
  repeat (first|((with_reducible first|refine Yb (d:=?_) ?_ ?_|refine Yj (n:=?_) ?_ ?_ ?_|refine Yl (a:=?_) ?_ ?_);rotate_left 1;exact rfl)|((with_reducible refine Yr (d:=?_) (e:=?_) ?_ ?_ ?_);rotate_left 2;exact rfl;exact rfl)|(with_reducible first|refine J1 ?_|refine J2 ?_|refine J6 ?_|refine J7 ?_|refine J8 ?_|refine Ja ?_|refine Jw ?_|refine Jx ?_|refine Jz ?_)|((with_reducible refine Yv (d:=?_) ?_ ?_);rotate_left 1;exact rfl)|((with_reducible refine Yy (d:=?_) (s:=?_) ?_ ?_);rotate_left 2;exact rfl)|((with_reducible refine Xb (a:=?_) ?_ ?_);rotate_left 1;exact rfl))
  refine And.intro (noOw1 rfl h8) ?_
  refine lc_pure gq (fun _ => true) ?_ ?_ ?_
  · intro d hd
    obtain ⟨k, rfl, h0, h1⟩ := rng_mem hd
    have hk : k < 41 := by omega
    have hs : (toString k : Str).length ≤ 4 := by
      have := ns_len k.toNat (by omega)
      rwa [show (0 : Int) + (k.toNat : Int) = k by omega] at this
    have hs' : (PySem.Str.ofString (toString k)).length ≤ 4 := hs
    have l1 : (PySem.Str.ofString "q").length = 1 := by decide +kernel
    have l2 : (PySem.Str.ofString "_").length = 1 := by decide +kernel
    repeat (first|((with_reducible first|refine Yb (d:=?_) ?_ ?_|refine Yl (a:=?_) ?_ ?_);rotate_left 1;exact rfl)|((with_reducible refine Yr (d:=?_) (e:=?_) ?_ ?_ ?_);rotate_left 2;exact rfl;exact rfl)|(with_reducible first|refine J1 ?_|refine J2 ?_|refine J6 ?_|refine J7 ?_|refine J8 ?_|refine Ja ?_|refine U0 ?_|refine U8 ?_|refine Ut ?_ ?_|refine Y2 ?_ (by omega))|((with_reducible refine Yy (d:=?_) (s:=?_) ?_ ?_);rotate_left 2;exact rfl)|((with_reducible refine Xb (a:=?_) ?_ ?_);rotate_left 1;exact rfl)|((with_reducible refine And.intro ?_ ?_);first|exact Nat.le_of_ble_eq_true rfl|exact rfl))
    · exact rfl
    · rw [strLen_append, l1, l2, size24]; omega
    · rw [l1, size24]; omega
  · rw [rng_len, hn, size24]; omega
  have e : ((rng 0 (((zs.map PyData.str).length : Int) + 1).toNat).filter fun _ => true).map gq = ((List.range (zs.length + 1)).map qn).map .str := by
    rw [hn, ← rng_gq]; congr 1; simp
  rw [e]
  repeat (first|((with_reducible refine Yd (ds:=?_) ?_ ?_);rotate_left 1;exact rfl)|((with_reducible refine Yy (d:=?_) (s:=?_) ?_ ?_);rotate_left 2;exact rfl))
  refine And.intro (noOw1 (x := x9) rfl h9) ?_
  have cm : ∀ d ∈ ((List.range (zs.length + 1)).map qn).map PyData.str, ∃ z : Str, d = .str z ∧ NmOk z := fun d hd => by
    obtain ⟨z, hz, rfl⟩ := List.mem_map.mp hd
    obtain ⟨i, hi, rfl⟩ := List.mem_map.mp hz
    have := List.mem_range.mp hi
    exact ⟨_, rfl, qn_len i (by omega)⟩
  refine lc_pure id (fun d => match d with | .str z => !decide (z ∈ zs) | _ => false) ?_ ?_ ?_
  · intro d hd
    obtain ⟨z, rfl, hz⟩ := cm d hd
    repeat (first|((with_reducible first|refine Yb (d:=?_) ?_ ?_|refine Yc (b:=?_) ?_ ?_);rotate_left 1;exact rfl)|((with_reducible refine Yr (d:=?_) (e:=?_) ?_ ?_ ?_);rotate_left 2;exact rfl;exact rfl)|(with_reducible first|refine J2 ?_|refine J9 ?_|refine Ua ?_|refine Ur ?_)|((with_reducible refine Yv (d:=?_) ?_ ?_);rotate_left 1;exact rfl)|((with_reducible refine Xb (a:=?_) ?_ ?_);rotate_left 1;exact rfl))
    refine BoolW_dec (fun hm => ?_) (fun hm => ?_)
    · exact ⟨by simp [hm], rfl⟩
    · repeat (first|((with_reducible refine Yb (d:=?_) ?_ ?_);rotate_left 1;exact rfl)|(with_reducible refine J6 ?_)|((with_reducible refine Yy (d:=?_) (s:=?_) ?_ ?_);rotate_left 2;exact rfl)|((with_reducible refine And.intro ?_ ?_);first|exact Nat.le_of_ble_eq_true rfl|exact rfl))
      exact ⟨by simp [hm], rfl⟩
  · rw [List.length_map, List.length_map, List.length_range, size24]; omega
  repeat (first|((with_reducible refine Yr (d:=?_) (e:=?_) ?_ ?_ ?_);rotate_left 2;exact rfl;exact rfl)|(with_reducible refine J1 ?_)|((with_reducible refine Xb (a:=?_) ?_ ?_);rotate_left 1;exact rfl))
  have ex : ∃ z ∈ (List.range (zs.length + 1)).map qn, z ∉ zs := pigeon (nodup_map_range fun i j hi hj e => qn_inj i (by omega) j (by omega) e) (by rw [List.length_map, List.length_range]; omega)
  obtain ⟨z, hz, hnz⟩ := ex
  have hm : PyData.str z ∈ ((((List.range (zs.length + 1)).map qn).map PyData.str).filter fun d => match d with | .str z => !decide (z ∈ zs) | _ => false).map id := by
    rw [List.map_id]
    exact List.mem_filter.mpr ⟨List.mem_map_of_mem hz, by simp [hnz]⟩
  have hpos := List.length_pos_of_mem hm
  refine o_ixl ⟨Int.le_refl 0, Int.ofNat_lt.mpr hpos⟩ fun x hx _ => ?_
  rw [List.map_id] at hx
  obtain ⟨y, rfl, hy⟩ := cm x (List.mem_filter.mp hx).1
  exact hP y _ _ hy NO.kp NO.kp
  all_goals first
    | omega
    | skip
theorem lt62 {n : Nat} (h : Nat.ble n 1000 = true) : n < 2 ^ 62 := by have := Nat.le_of_ble_eq_true h; omega
abbrev NamesS (f : FM) : Prop := ∀ (t : D) (n : Int) (Q : Bool → D → List D → Prop), Tp t → 0 ≤ n → n ≤ 40 → (∀ (zs : List Str) t', Tp t' → zs.length = n.toNat → (∀ z ∈ zs, NmOk z) → Q true (.list (zs.map .str)) [t']) → FnP f [t, .int n] Q
theorem names_s {d p : FM} (hd : DrawS d) (hp : PickS p) : NamesS (f_l_names p d) := by
  intro t n Q ht h0 h1 hQ
  refine FnP_mk [.ow t, .fr (.int n), .no, .no, .no, .no, .no, .no, .no, .no] [0] rfl rfl ?_
  unfold b_l_names
  repeat (first|((with_reducible refine Ye (d:=?_) ?_ ?_);rotate_left 1;exact rfl)|(with_reducible first|refine J0 ?_|refine J1 ?_|refine J3 ?_|refine J6 ?_|refine J7 ?_|refine J8 ?_|refine Jb ?_|refine Jd ?_)|((with_reducible refine Yy (d:=?_) (s:=?_) ?_ ?_);rotate_left 2;exact rfl)|((with_reducible refine Xb (a:=?_) ?_ ?_);rotate_left 1;exact rfl)|((with_reducible refine And.intro ?_ ?_);first|exact Nat.le_of_ble_eq_true rfl|exact rfl))
  refine hp _ _ _ ht (List.cons_ne_nil _ _) (lt62 rfl) fun st t1 hst ht1 => ?_
  have hst' : ∃ z : Str, st = .str z ∧ z.length ≤ 10 ∧ PyData.strOk z = true := by
    simp only [List.mem_cons, List.not_mem_nil, or_false] at hst
    rcases hst with h | h | h | h | h | h | h <;> exact ⟨_, h, by decide +kernel⟩
  obtain ⟨sz, rfl, hsz, hso⟩ := hst'
  repeat (first|((with_reducible first|refine Yb (d:=?_) ?_ ?_|refine Yj (n:=?_) ?_ ?_ ?_);rotate_left 1;exact rfl)|(with_reducible first|refine J0 ?_|refine J3 ?_|refine J6 ?_|refine J7 ?_|refine J8 ?_|refine Jd ?_|refine Jx ?_|refine U7 ?_)|((with_reducible refine Yy (d:=?_) (s:=?_) ?_ ?_);rotate_left 2;exact rfl)|((with_reducible refine Xb (a:=?_) ?_ ?_);rotate_left 1;exact rfl)|((with_reducible refine And.intro ?_ ?_);first|exact Nat.le_of_ble_eq_true rfl|exact rfl))
  refine fl_inv (fun rest s => ∃ (t' : D) (zs : List Str) (x6 x7 x8 x9 : Sl), s = [.ow t', .fr (.int n), .fr (.str "abcdefghijklmnopqrstuvwxyz0123456789_ABCDEFGHIJKLMNOPQRSTUVWXYZ"), .fr (.str "enum import export def fun let in if then else match raise try catch unit bool error false true invalid missing main"), .fr (.str sz), .ow (.list (zs.map .str)), x6, x7, x8, x9] ∧ Tp t' ∧ NO x8 ∧ NO x9 ∧ (∀ z ∈ zs, NmOk z) ∧ zs.length + rest.length = n.toNat)
    ⟨t1, [], _, _, _, _, rfl, ht1, .no, .no, fun z hz => (by cases hz), by rw [rng_len]; simp⟩ ?_ ?_
  · rintro d rest s ⟨t', zs, x6, x7, x8, x9, rfl, ht', h8, h9, hzs, hlen⟩
    rw [List.length_cons] at hlen
    have fin : ∀ (z : Str) (t2 : D) (y6 y8 y9 : Sl), NmOk z → Tp t2 → NO y8 → NO y9 → ∃ (t' : D) (zs' : List Str) (x6 x7 x8 x9 : Sl), [Sl.ow t2, .fr (.int n), .fr (.str "abcdefghijklmnopqrstuvwxyz0123456789_ABCDEFGHIJKLMNOPQRSTUVWXYZ"), .fr (.str "enum import export def fun let in if then else match raise try catch unit bool error false true invalid missing main"), .fr (.str sz), .ow (.list (zs.map .str ++ [.str z])), y6, .fr (.str z), y8, y9] = [.ow t', .fr (.int n), .fr (.str "abcdefghijklmnopqrstuvwxyz0123456789_ABCDEFGHIJKLMNOPQRSTUVWXYZ"), .fr (.str "enum import export def fun let in if then else match raise try catch unit bool error false true invalid missing main"), .fr (.str sz), .ow (.list (zs'.map .str)), x6, x7, x8, x9] ∧ Tp t' ∧ NO x8 ∧ NO x9 ∧ (∀ z ∈ zs', NmOk z) ∧ zs'.length + rest.length = n.toNat := fun z t2 y6 y8 y9 hz ht2 k8 k9 =>
      ⟨t2, zs ++ [z], y6, _, y8, y9, by rw [List.map_append]; rfl, ht2, k8, k9, fun w hw => (by
        rcases List.mem_append.mp hw with q | q
        · exact hzs w q
        · rw [List.mem_singleton.mp q]; exact hz), by rw [List.length_append, List.length_singleton]; omega⟩
    repeat (first|((with_reducible first|refine Yb (d:=?_) ?_ ?_|refine Ye (d:=?_) ?_ ?_|refine Yl (a:=?_) ?_ ?_);rotate_left 1;exact rfl)|((with_reducible refine Yr (d:=?_) (e:=?_) ?_ ?_ ?_);rotate_left 2;exact rfl;exact rfl)|(with_reducible first|refine J0 ?_|refine J1 ?_|refine J2 ?_|refine J3 ?_|refine J6 ?_|refine J7 ?_|refine J8 ?_|refine Ja ?_|refine Jb ?_|refine Jd ?_|refine Jx ?_|refine U7 ?_|refine Uw ?_ ?_)|((with_reducible refine Yy (d:=?_) (s:=?_) ?_ ?_);rotate_left 2;exact rfl)|((with_reducible refine Xb (a:=?_) ?_ ?_);rotate_left 1;exact rfl)|((with_reducible refine And.intro ?_ ?_);first|exact Nat.le_of_ble_eq_true rfl|exact rfl))
    refine hp _ _ _ ht' (List.cons_ne_nil _ _) (lt62 rfl) fun c t2 hc ht2 => ?_
    have hc' : ∃ i : Int, c = .int i ∧ 0 ≤ i ∧ i ≤ 12 := by
      simp only [List.mem_cons, List.not_mem_nil, or_false] at hc
      rcases hc with h | h | h | h | h <;> exact ⟨_, h, by omega, by omega⟩
    obtain ⟨i, rfl, hi0, hi1⟩ := hc'
    repeat (first|((with_reducible refine Yj (n:=?_) ?_ ?_ ?_);rotate_left 1;exact rfl)|(with_reducible refine J8 ?_)|((with_reducible refine Yy (d:=?_) (s:=?_) ?_ ?_);rotate_left 2;exact rfl))
    refine fl_inv (fun _ s => ∃ (t' : D) (z : Str) (x8 : Sl), s = [.ow t', .fr (.int n), .fr (.str "abcdefghijklmnopqrstuvwxyz0123456789_ABCDEFGHIJKLMNOPQRSTUVWXYZ"), .fr (.str "enum import export def fun let in if then else match raise try catch unit bool error false true invalid missing main"), .fr (.str sz), .ow (.list (zs.map .str)), .fr d, .fr (.str z), x8, x9] ∧ Tp t' ∧ z.length ≤ 12 ∧ PyData.strOk z = true ∧ NO x8)
      ⟨t2, sz, x8, rfl, ht2, by omega, hso, h8⟩ ?_ ?_
    · rintro e rest' s ⟨t3, z, y8, rfl, ht3, hz, hzo, k8⟩
      repeat (first|((with_reducible first|refine Yb (d:=?_) ?_ ?_|refine Yc (b:=?_) ?_ ?_|refine Yl (a:=?_) ?_ ?_);rotate_left 1;exact rfl)|((with_reducible refine Yr (d:=?_) (e:=?_) ?_ ?_ ?_);rotate_left 2;exact rfl;exact rfl)|(with_reducible first|refine J1 ?_|refine J2 ?_|refine J4 ?_|refine J7 ?_|refine J8 ?_|refine J9 ?_|refine Ja ?_|refine Ub ?_|refine Uw ?_ ?_)|((with_reducible refine Xb (a:=?_) ?_ ?_);rotate_left 1;exact rfl))
      (with_reducible refine BoolW_dec (fun hq => ?_) (fun hq => ?_))
      · repeat (first|((with_reducible first|refine Yb (d:=?_) ?_ ?_|refine Yc (b:=?_) ?_ ?_|refine Ye (d:=?_) ?_ ?_);rotate_left 1;exact rfl)|((with_reducible refine Yr (d:=?_) (e:=?_) ?_ ?_ ?_);rotate_left 2;exact rfl;exact rfl)|(with_reducible first|refine J1 ?_|refine J2 ?_|refine J3 ?_|refine J6 ?_|refine J7 ?_|refine J9 ?_|refine Jb ?_|refine Jg ?_|refine Ua ?_|refine Uk ?_))
        (with_reducible refine BoolW_dec (fun hq2 => ?_) (fun hq2 => ?_))
        · repeat (first|(with_reducible first|refine J1 ?_|refine J8 ?_)|((with_reducible refine Yy (d:=?_) (s:=?_) ?_ ?_);rotate_left 2;exact rfl)|((with_reducible refine Xb (a:=?_) ?_ ?_);rotate_left 1;exact rfl))
          refine hd _ _ _ ht3 (by omega) fun r t4 ht4 r0 r1 => ?_
          repeat (first|((with_reducible refine Yr (d:=?_) (e:=?_) ?_ ?_ ?_);rotate_left 2;exact rfl;exact rfl)|((with_reducible refine Xb (a:=?_) ?_ ?_);rotate_left 1;exact rfl))
          refine o_ixs ⟨r0, Int.lt_of_lt_of_le r1 (by decide +kernel)⟩ (by decide +kernel) fun c hc => ?_
          repeat (first|((with_reducible refine Yr (d:=?_) (e:=?_) ?_ ?_ ?_);rotate_left 2;exact rfl;exact rfl)|(with_reducible refine Ut ?_ ?_)|((with_reducible refine Xb (a:=?_) ?_ ?_);rotate_left 1;exact rfl))
          · exact ⟨t4, _, _, rfl, ht4, by rw [strLen_append]; show z.length + 1 ≤ 12; omega, strOk_app hzo (strOk_one (by decide +kernel) hc), NO.fr⟩
          · show z.length + 1 ≤ sizeLine
            rw [size24]; omega
        · repeat (first|(with_reducible first|refine J1 ?_|refine J8 ?_)|((with_reducible refine Yy (d:=?_) (s:=?_) ?_ ?_);rotate_left 2;exact rfl)|((with_reducible refine Xb (a:=?_) ?_ ?_);rotate_left 1;exact rfl))
          refine hd _ _ _ ht3 (by omega) fun r t4 ht4 r0 r1 => ?_
          repeat (first|((with_reducible refine Yr (d:=?_) (e:=?_) ?_ ?_ ?_);rotate_left 2;exact rfl;exact rfl)|((with_reducible refine Xb (a:=?_) ?_ ?_);rotate_left 1;exact rfl))
          refine o_ixs ⟨r0, Int.lt_of_lt_of_le r1 (by decide +kernel)⟩ (by decide +kernel) fun c hc => ?_
          repeat (first|((with_reducible refine Yr (d:=?_) (e:=?_) ?_ ?_ ?_);rotate_left 2;exact rfl;exact rfl)|(with_reducible refine Ut ?_ ?_)|((with_reducible refine Xb (a:=?_) ?_ ?_);rotate_left 1;exact rfl))
          · exact ⟨t4, _, _, rfl, ht4, by rw [strLen_append]; show z.length + 1 ≤ 12; omega, strOk_app hzo (strOk_one (by decide +kernel) hc), NO.fr⟩
          · show z.length + 1 ≤ sizeLine
            rw [size24]; omega
      · repeat (first|(with_reducible refine Je ?_))
        exact ⟨t3, z, _, rfl, ht3, hz, hzo, NO.fr⟩
      all_goals (rw [size24]; omega)
    · rintro s ⟨t3, z, y8, rfl, ht3, hz, hzo, k8⟩
      repeat (first|((with_reducible first|refine Yb (d:=?_) ?_ ?_|refine Yc (b:=?_) ?_ ?_);rotate_left 1;exact rfl)|((with_reducible refine Yr (d:=?_) (e:=?_) ?_ ?_ ?_);rotate_left 2;exact rfl;exact rfl)|(with_reducible first|refine J0 ?_|refine J2 ?_|refine J4 ?_|refine J9 ?_|refine Jk ?_|refine Uq ?_)|((with_reducible refine Yv (d:=?_) ?_ ?_);rotate_left 1;exact rfl))
      (with_reducible refine BoolW_dec (fun hq => ?_) (fun hq => ?_))
      · repeat (first|(with_reducible refine fresh_name k8 h9 (by omega) fun w y8' y9' hw n8 n9 => ?_)|((with_reducible first|refine Yb (d:=?_) ?_ ?_|refine Yf (d:=?_) ?_ ?_);rotate_left 1;exact rfl)|((with_reducible refine Yt (as:=?_) (xs:=?_) ?_ ?_ ?_);rotate_left 2;exact rfl;exact rfl)|(with_reducible first|refine J3 ?_|refine J6 ?_|refine J7 ?_|refine J8 ?_|refine Jf ?_|refine Jv ?_|refine U8 ?_|refine Ux ?_ ?_)|((with_reducible refine Yy (d:=?_) (s:=?_) ?_ ?_);rotate_left 2;exact rfl)|((with_reducible refine Xb (a:=?_) ?_ ?_);rotate_left 1;exact rfl))
        · exact fin w _ _ _ _ hw ht3 n8 n9
        · rw [List.length_map, size24]; omega
      · repeat (first|((with_reducible first|refine Yb (d:=?_) ?_ ?_|refine Yc (b:=?_) ?_ ?_|refine Yi (z:=?_) ?_ ?_);rotate_left 1;exact rfl)|((with_reducible refine Yr (d:=?_) (e:=?_) ?_ ?_ ?_);rotate_left 2;exact rfl;exact rfl)|(with_reducible first|refine J1 ?_|refine J2 ?_|refine J9 ?_|refine Ju ?_|refine Uq ?_|refine Uy ?_ ?_))
        (with_reducible refine BoolW_dec (fun hq => ?_) (fun hq => ?_))
        · repeat (first|(with_reducible refine fresh_name k8 h9 (by omega) fun w y8' y9' hw n8 n9 => ?_)|((with_reducible first|refine Yb (d:=?_) ?_ ?_|refine Yf (d:=?_) ?_ ?_);rotate_left 1;exact rfl)|((with_reducible refine Yt (as:=?_) (xs:=?_) ?_ ?_ ?_);rotate_left 2;exact rfl;exact rfl)|(with_reducible first|refine J3 ?_|refine J6 ?_|refine J7 ?_|refine J8 ?_|refine Jf ?_|refine Jv ?_|refine Ux ?_ ?_)|((with_reducible refine Yy (d:=?_) (s:=?_) ?_ ?_);rotate_left 2;exact rfl)|((with_reducible refine Xb (a:=?_) ?_ ?_);rotate_left 1;exact rfl))
          · exact fin w _ _ _ _ hw ht3 n8 n9
          · rw [List.length_map, size24]; omega
        · repeat (first|((with_reducible first|refine Yb (d:=?_) ?_ ?_|refine Yf (d:=?_) ?_ ?_);rotate_left 1;exact rfl)|((with_reducible refine Yt (as:=?_) (xs:=?_) ?_ ?_ ?_);rotate_left 2;exact rfl;exact rfl)|(with_reducible first|refine J6 ?_|refine J7 ?_|refine J8 ?_|refine Je ?_|refine Jf ?_|refine Jv ?_|refine Ux ?_ ?_)|((with_reducible refine Yy (d:=?_) (s:=?_) ?_ ?_);rotate_left 2;exact rfl))
          · exact fin z _ _ _ _ ⟨by omega, hzo⟩ ht3 k8 h9
          · rw [List.length_map, size24]; omega
        · decide +kernel
    all_goals (first | omega | (rw [size24]; omega))
  · rintro s ⟨t', zs, x6, x7, x8, x9, rfl, ht', h8, h9, hzs, hlen⟩
    repeat (first|((with_reducible refine Yb (d:=?_) ?_ ?_);rotate_left 1;exact rfl)|((with_reducible refine Ys (d:=?_) (o:=?_) ?_ ?_ ?_);rotate_left 2;exact rfl;exact rfl)|(with_reducible refine J5 ?_)|((with_reducible refine Yv (d:=?_) ?_ ?_);rotate_left 1;exact rfl)|((with_reducible refine X1 (d:=?_) (o:=?_) ?_ ?_ ?_);rotate_left 2;exact rfl;exact rfl)|((with_reducible refine X2 (i:=?_) (d:=?_) (o:=?_) ?_ ?_ ?_ ?_);rotate_left 3;exact rfl;exact rfl;exact rfl)|((with_reducible refine X3 (i:=?_) (d:=?_) (o:=?_) ?_ ?_ ?_ ?_ ?_);rotate_left 3;exact rfl;exact rfl;exact rfl;exact rfl))
    exact hQ zs t' ht' (by simpa using hlen) hzs
  all_goals (first | omega | (rw [size24]; omega))
end L2.Zd.Lib

set_option Elab.async false
set_option linter.all false
set_option maxRecDepth 100000
set_option maxHeartbeats 2000000
namespace L2.Zd.Lib
open PySem PySem.Spec PyProof.Rows L2.Zd
theorem canAll {xs : List D} (h : ∀ x ∈ xs, PyData.canLay0 x = true) : PyData.canLayAll0 xs = true := by
  induction xs with
  | nil => simp [PyData.canLayAll0]
  | cons x xs ih =>
    simp only [PyData.canLayAll0, Bool.and_eq_true]
    exact ⟨h x List.mem_cons_self, ih fun y hy => h y (List.mem_cons_of_mem _ hy)⟩
theorem depAll {xs : List D} {n : Nat} (h : ∀ x ∈ xs, PyData.depth x ≤ n) : PyData.depthAll xs ≤ n := by
  induction xs with
  | nil => simp [PyData.depthAll]
  | cons x xs ih =>
    simp only [PyData.depthAll]
    exact Nat.max_le.mpr ⟨h x List.mem_cons_self, ih fun y hy => h y (List.mem_cons_of_mem _ hy)⟩
theorem Plain0.lay {d : D} (h : Plain0 d) : PyData.canLay0 d = true ∧ PyData.depth d = 0 := by
  rcases h with rfl | ⟨b, rfl⟩ | ⟨i, rfl⟩ | ⟨z, rfl, h⟩
  · exact ⟨by simp [PyData.canLay0], by simp [PyData.depth]⟩
  · exact ⟨by simp [PyData.canLay0], by simp [PyData.depth]⟩
  · exact ⟨by simp [PyData.canLay0], by simp [PyData.depth]⟩
  · exact ⟨by simp [PyData.canLay0]; exact h, by simp [PyData.depth]⟩
theorem Plain.lay {n : Nat} : ∀ {d : D}, Plain n d → PyData.canLay0 d = true ∧ PyData.depth d ≤ n := by
  induction n with
  | zero => intro d h; have := Plain0.lay h; exact ⟨this.1, by omega⟩
  | succ n ih =>
    rintro d (h | ⟨ds, rfl, _, h⟩)
    · have := Plain0.lay h; exact ⟨this.1, by omega⟩
    · refine ⟨?_, ?_⟩
      · simp only [PyData.canLay0]; exact canAll fun x hx => (ih (h x hx)).1
      · simp only [PyData.depth]
        have := depAll fun x hx => (ih (h x hx)).2
        omega
theorem Plain.shaped {n : Nat} {d : D} (h : Plain n d) (hn : n ≤ 64) : SeqAt.shaped d = true := by
  have := h.lay
  exact Bool.and_eq_true_iff.mpr ⟨this.1, decide_eq_true (by omega)⟩
theorem Plain.tup {n : Nat} {ds : List D} (hl : ds.length < 2 ^ 24) (h : ∀ x ∈ ds, Plain n x) : Plain (n + 1) (.tuple ds) := .inr ⟨ds, rfl, hl, h⟩
theorem eqv_tupnil (xs : List D) : PyData.eqv (.tuple xs) (.tuple []) = xs.isEmpty := by cases xs <;> simp [PyData.eqv, PyData.eqvAll]
theorem eqv_tupint (xs : List D) (i : Int) : PyData.eqv (.tuple xs) (.int i) = false := by simp [PyData.eqv]
/-! ### shapes told apart -/
def dataF : Nat → D → Bool
  | 0, _ => true
  | n + 1, d => (match d with
    | .tuple [.str w, a, b] => decide (w = "pair") && (dataF n a && dataF n b)
    | _ => true)
abbrev IsDataS (f : FM) (n : Nat) : Prop := ∀ (d : D) (Q : Bool → D → List D → Prop), Shp n d → Q false (.bool (dataF n d)) [] → FnP f [d] Q
theorem dataF_int (n : Nat) (i : Int) : dataF n (.int i) = true := by cases n <;> rfl
theorem is_data_s0 (f : FM) : IsDataS (f_is_data f) 0 := by
  rintro d Q ⟨i, rfl, h1, h2⟩ hQ
  refine FnP_mk [.fr (.int i)] [] rfl rfl ?_
  unfold b_is_data
  repeat (first|((with_reducible first|refine Yb (d:=?_) ?_ ?_|refine Yl (a:=?_) ?_ ?_|refine Ym (b:=?_) ?_ ?_);rotate_left 1;exact rfl)|((with_reducible refine Ys (d:=?_) (o:=?_) ?_ ?_ ?_);rotate_left 2;exact rfl;exact rfl)|(with_reducible first|refine J0 ?_|refine J1 ?_|refine J4 ?_|refine J5 ?_|refine Jh ?_|refine Ji ?_|refine Jo ?_|refine U9 ?_|refine Ua ?_)|((with_reducible refine Xb (a:=?_) ?_ ?_);rotate_left 1;exact rfl))
  exact hQ
theorem is_data_s {f : FM} {n : Nat} (hf : IsDataS f n) : IsDataS (f_is_data f) (n + 1) := by
  rintro d Q (⟨i, rfl, h1, h2⟩ | ⟨w, a, b, hw, rfl, ha, hb⟩) hQ
  · refine FnP_mk [.fr (.int i)] [] rfl rfl ?_
    unfold b_is_data
    repeat (first|((with_reducible first|refine Yb (d:=?_) ?_ ?_|refine Yl (a:=?_) ?_ ?_|refine Ym (b:=?_) ?_ ?_);rotate_left 1;exact rfl)|((with_reducible refine Ys (d:=?_) (o:=?_) ?_ ?_ ?_);rotate_left 2;exact rfl;exact rfl)|(with_reducible first|refine J0 ?_|refine J1 ?_|refine J4 ?_|refine J5 ?_|refine Jh ?_|refine Ji ?_|refine Jo ?_|refine U9 ?_|refine Ua ?_)|((with_reducible refine Xb (a:=?_) ?_ ?_);rotate_left 1;exact rfl))
    exact hQ
  · refine FnP_mk [.fr (.tuple [.str w, a, b])] [] rfl rfl ?_
    unfold b_is_data
    rcases hw with rfl | rfl
    · repeat (first|((with_reducible first|refine Yb (d:=?_) ?_ ?_|refine Yl (a:=?_) ?_ ?_|refine Ym (b:=?_) ?_ ?_);rotate_left 1;exact rfl)|((with_reducible refine Yr (d:=?_) (e:=?_) ?_ ?_ ?_);rotate_left 2;exact rfl;exact rfl)|(with_reducible first|refine J0 ?_|refine J1 ?_|refine J2 ?_|refine J4 ?_|refine J5 ?_|refine J7 ?_|refine J8 ?_|refine Jb ?_|refine Je ?_|refine Jh ?_|refine Ji ?_|refine Jl ?_|refine Jo ?_|refine U8 ?_|refine Ua ?_|refine Uj ?_)|((with_reducible refine X7 ?_ ?_);exact rfl)|((with_reducible refine Xb (a:=?_) ?_ ?_);rotate_left 1;exact rfl))
      refine hf _ _ ha ?_
      repeat (first|((with_reducible refine Yl (a:=?_) ?_ ?_);rotate_left 1;exact rfl)|((with_reducible refine Xb (a:=?_) ?_ ?_);rotate_left 1;exact rfl))
      have e : dataF (n + 1) (.tuple [.str "pair", a, b]) = (dataF n a && dataF n b) := by
        show (decide (("pair" : Str) = "pair") && (dataF n a && dataF n b)) = _
        rw [decide_eq_true rfl, Bool.true_and]
      rw [e] at hQ
      refine BoolW_any (fun h => ?_) (fun h => ?_)
      · repeat (first|((with_reducible refine Yb (d:=?_) ?_ ?_);rotate_left 1;exact rfl)|((with_reducible refine Yr (d:=?_) (e:=?_) ?_ ?_ ?_);rotate_left 2;exact rfl;exact rfl)|(with_reducible first|refine J1 ?_|refine J2 ?_|refine J7 ?_|refine J8 ?_|refine Jb ?_)|((with_reducible refine Xb (a:=?_) ?_ ?_);rotate_left 1;exact rfl))
        refine hf _ _ hb ?_
        repeat (first|((with_reducible refine Ys (d:=?_) (o:=?_) ?_ ?_ ?_);rotate_left 2;exact rfl;exact rfl))
        rw [h, Bool.true_and] at hQ
        exact hQ
      · repeat (first|((with_reducible refine Ys (d:=?_) (o:=?_) ?_ ?_ ?_);rotate_left 2;exact rfl;exact rfl))
        rw [h, Bool.false_and] at hQ
        rw [h]
        exact hQ
    · repeat (first|((with_reducible first|refine Yb (d:=?_) ?_ ?_|refine Yl (a:=?_) ?_ ?_|refine Ym (b:=?_) ?_ ?_);rotate_left 1;exact rfl)|((with_reducible first|refine Yr (d:=?_) (e:=?_) ?_ ?_ ?_|refine Ys (d:=?_) (o:=?_) ?_ ?_ ?_);rotate_left 2;exact rfl;exact rfl)|(with_reducible first|refine J0 ?_|refine J1 ?_|refine J2 ?_|refine J4 ?_|refine J5 ?_|refine Je ?_|refine Jh ?_|refine Ji ?_|refine Jl ?_|refine Jo ?_|refine U8 ?_|refine Ua ?_|refine Uj ?_)|((with_reducible refine X7 ?_ ?_);exact rfl)|((with_reducible refine Xa ?_ ?_);exact rfl)|((with_reducible refine Xb (a:=?_) ?_ ?_);rotate_left 1;exact rfl))
      have e : dataF (n + 1) (.tuple [.str "to", a, b]) = false := by
        show (decide (("to" : Str) = "pair") && (dataF n a && dataF n b)) = _
        rw [decide_eq_false (by decide +kernel), Bool.false_and]
      rw [e] at hQ
      exact hQ
theorem shape_is_data_s0 (f : FM) : IsDataS (f_l_shape_is_data f) 0 := by
  rintro d Q ⟨i, rfl, h1, h2⟩ hQ
  refine FnP_mk [.fr (.int i)] [] rfl rfl ?_
  unfold b_l_shape_is_data
  repeat (first|((with_reducible first|refine Yb (d:=?_) ?_ ?_|refine Yl (a:=?_) ?_ ?_|refine Yn (b:=?_) ?_ ?_);rotate_left 1;exact rfl)|((with_reducible refine Ys (d:=?_) (o:=?_) ?_ ?_ ?_);rotate_left 2;exact rfl;exact rfl)|(with_reducible first|refine J0 ?_|refine J1 ?_|refine J4 ?_|refine J5 ?_|refine Jh ?_|refine Jo ?_|refine U8 ?_)|((with_reducible refine Xb (a:=?_) ?_ ?_);rotate_left 1;exact rfl))
  exact hQ
theorem shape_is_data_s {f : FM} {n : Nat} (hf : IsDataS f n) : IsDataS (f_l_shape_is_data f) (n + 1) := by
  rintro d Q (⟨i, rfl, h1, h2⟩ | ⟨w, a, b, hw, rfl, ha, hb⟩) hQ
  · refine FnP_mk [.fr (.int i)] [] rfl rfl ?_
    unfold b_l_shape_is_data
    repeat (first|((with_reducible first|refine Yb (d:=?_) ?_ ?_|refine Yl (a:=?_) ?_ ?_|refine Yn (b:=?_) ?_ ?_);rotate_left 1;exact rfl)|((with_reducible refine Ys (d:=?_) (o:=?_) ?_ ?_ ?_);rotate_left 2;exact rfl;exact rfl)|(with_reducible first|refine J0 ?_|refine J1 ?_|refine J4 ?_|refine J5 ?_|refine Jh ?_|refine Jo ?_|refine U8 ?_)|((with_reducible refine Xb (a:=?_) ?_ ?_);rotate_left 1;exact rfl))
    exact hQ
  · refine FnP_mk [.fr (.tuple [.str w, a, b])] [] rfl rfl ?_
    unfold b_l_shape_is_data
    rcases hw with rfl | rfl
    · repeat (first|((with_reducible first|refine Yb (d:=?_) ?_ ?_|refine Yl (a:=?_) ?_ ?_|refine Yn (b:=?_) ?_ ?_);rotate_left 1;exact rfl)|((with_reducible refine Yr (d:=?_) (e:=?_) ?_ ?_ ?_);rotate_left 2;exact rfl;exact rfl)|(with_reducible first|refine J0 ?_|refine J1 ?_|refine J2 ?_|refine J4 ?_|refine J5 ?_|refine J7 ?_|refine J8 ?_|refine Jb ?_|refine Je ?_|refine Jh ?_|refine Jl ?_|refine Jo ?_|refine U9 ?_|refine Uj ?_)|((with_reducible refine X7 ?_ ?_);exact rfl)|((with_reducible refine Xb (a:=?_) ?_ ?_);rotate_left 1;exact rfl))
      refine hf _ _ ha ?_
      repeat (first|((with_reducible refine Yl (a:=?_) ?_ ?_);rotate_left 1;exact rfl)|((with_reducible refine Xb (a:=?_) ?_ ?_);rotate_left 1;exact rfl))
      have e : dataF (n + 1) (.tuple [.str "pair", a, b]) = (dataF n a && dataF n b) := by
        show (decide (("pair" : Str) = "pair") && (dataF n a && dataF n b)) = _
        rw [decide_eq_true rfl, Bool.true_and]
      rw [e] at hQ
      refine BoolW_any (fun h => ?_) (fun h => ?_)
      · repeat (first|((with_reducible refine Yb (d:=?_) ?_ ?_);rotate_left 1;exact rfl)|((with_reducible refine Yr (d:=?_) (e:=?_) ?_ ?_ ?_);rotate_left 2;exact rfl;exact rfl)|(with_reducible first|refine J1 ?_|refine J2 ?_|refine J7 ?_|refine J8 ?_|refine Jb ?_)|((with_reducible refine Xb (a:=?_) ?_ ?_);rotate_left 1;exact rfl))
        refine hf _ _ hb ?_
        repeat (first|((with_reducible refine Ys (d:=?_) (o:=?_) ?_ ?_ ?_);rotate_left 2;exact rfl;exact rfl))
        rw [h, Bool.true_and] at hQ
        exact hQ
      · repeat (first|((with_reducible refine Ys (d:=?_) (o:=?_) ?_ ?_ ?_);rotate_left 2;exact rfl;exact rfl))
        rw [h, Bool.false_and] at hQ
        rw [h]
        exact hQ
    · repeat (first|((with_reducible first|refine Yb (d:=?_) ?_ ?_|refine Yl (a:=?_) ?_ ?_|refine Yn (b:=?_) ?_ ?_);rotate_left 1;exact rfl)|((with_reducible first|refine Yr (d:=?_) (e:=?_) ?_ ?_ ?_|refine Ys (d:=?_) (o:=?_) ?_ ?_ ?_);rotate_left 2;exact rfl;exact rfl)|(with_reducible first|refine J0 ?_|refine J1 ?_|refine J2 ?_|refine J4 ?_|refine J5 ?_|refine Je ?_|refine Jh ?_|refine Jl ?_|refine Jo ?_|refine U9 ?_|refine Uj ?_)|((with_reducible refine X7 ?_ ?_);exact rfl)|((with_reducible refine Xa ?_ ?_);exact rfl)|((with_reducible refine Xb (a:=?_) ?_ ?_);rotate_left 1;exact rfl))
      have e : dataF (n + 1) (.tuple [.str "to", a, b]) = false := by
        show (decide (("to" : Str) = "pair") && (dataF n a && dataF n b)) = _
        rw [decide_eq_false (by decide +kernel), Bool.false_and]
      rw [e] at hQ
      exact hQ
/-! ### functions, imports, exports, objects -/
def FunOk (d : D) : Prop := ∃ (cap : List D) (s t code : D), d = .tuple [.tuple cap, s, t, code] ∧ cap.length ≤ 16 ∧ (∀ c ∈ cap, Shp 12 c) ∧ Shp 12 s ∧ Shp 12 t
def ImpOk (d : D) : Prop := ∃ (nm : Str) (a b : D), d = .tuple [.str nm, .tuple [.str "to", a, b]] ∧ PyData.strOk nm = true ∧ Shp 12 a ∧ Shp 12 b
def ExpOk (d : D) : Prop := ∃ (nm : Str) (k : Int), d = .tuple [.str nm, .int k] ∧ PyData.strOk nm = true ∧ 0 ≤ k
/-- an export's number is a function's -/
def ExpIn (n : Nat) (d : D) : Prop := ∃ (nm : Str) (k : Int), d = .tuple [.str nm, .int k] ∧ PyData.strOk nm = true ∧ 0 ≤ k ∧ k < n
theorem ExpIn.ok {n : Nat} {d : D} (h : ExpIn n d) : ExpOk d := by
  obtain ⟨nm, k, e, ho, h1, _⟩ := h
  exact ⟨nm, k, e, ho, h1⟩
theorem fun_at {funs : List D} {k : Int} (hf : ∀ f ∈ funs, FunOk f) (h : 0 ≤ k ∧ k < funs.length) : ∃ (cap : List D) (s t code : D), funs[k.toNat]? = some (.tuple [.tuple cap, s, t, code]) ∧ cap.length ≤ 16 ∧ (∀ c ∈ cap, Shp 12 c) ∧ Shp 12 s ∧ Shp 12 t := by
  obtain ⟨x, _, hm, hx⟩ := atI_in h.1 h.2
  obtain ⟨cap, s, t, code, rfl, q⟩ := hf x hm
  exact ⟨cap, s, t, code, hx, q⟩
theorem function_shape_s {a c : D} {funs : List D} {k : Int} {Q : Bool → D → List D → Prop} {cap s t code : D} (h : 0 ≤ k ∧ k < funs.length) (e : funs[k.toNat]? = some (.tuple [cap, s, t, code])) (hQ : Q false (.tuple [.str "to", s, t]) []) : FnP f_function_shape [.tuple [a, .tuple funs, c], .int k] Q := by
  refine FnP_mk [.fr (.tuple [a, .tuple funs, c]), .fr (.int k), .no] [] rfl rfl ?_
  unfold b_function_shape
  repeat (first|((with_reducible refine Yb (d:=?_) ?_ ?_);rotate_left 1;exact rfl)|((with_reducible refine Yr (d:=?_) (e:=?_) ?_ ?_ ?_);rotate_left 2;exact rfl;exact rfl)|(with_reducible first|refine J0 ?_|refine J1 ?_|refine J2 ?_|refine J3 ?_)|((with_reducible refine Xb (a:=?_) ?_ ?_);rotate_left 1;exact rfl))
  refine o_ixt h fun x _ hx => ?_
  rw [e] at hx; cases hx
  repeat (first|((with_reducible refine Yb (d:=?_) ?_ ?_);rotate_left 1;exact rfl)|((with_reducible first|refine Yr (d:=?_) (e:=?_) ?_ ?_ ?_|refine Ys (d:=?_) (o:=?_) ?_ ?_ ?_);rotate_left 2;exact rfl;exact rfl)|(with_reducible first|refine J1 ?_|refine J2 ?_|refine J5 ?_|refine J7 ?_|refine J8 ?_|refine Jc ?_)|((with_reducible refine Xb (a:=?_) ?_ ?_);rotate_left 1;exact rfl)|((with_reducible refine And.intro ?_ ?_);first|exact Nat.le_of_ble_eq_true rfl|exact rfl))
  exact hQ
def faceG (funs : List D) (d : D) : D := match d with
  | .tuple [nm, .int k] => (match funs[k.toNat]? with
    | some (.tuple [_, s, t, _]) => .tuple [nm, .tuple [.str "to", s, t]]
    | _ => .none)
  | _ => .none
theorem faceG_eq {funs : List D} {k : Int} {nm cap s t code : D} (e : funs[k.toNat]? = some (.tuple [cap, s, t, code])) : faceG funs (.tuple [nm, .int k]) = .tuple [nm, .tuple [.str "to", s, t]] := by
  show (match funs[k.toNat]? with | some (.tuple [_, s, t, _]) => _ | _ => _) = _
  rw [e]
theorem face_of_s {imps funs exps : List D} {Q : Bool → D → List D → Prop} (hf : ∀ f ∈ funs, FunOk f) (he : ∀ x ∈ exps, ExpIn funs.length x) (hl : exps.length ≤ 1000) (hQ : Q false (.tuple [.tuple imps, .tuple (exps.map (faceG funs))]) []) : FnP (f_face_of f_function_shape) [.tuple [.tuple imps, .tuple funs, .tuple exps]] Q := by
  refine FnP_mk [.fr (.tuple [.tuple imps, .tuple funs, .tuple exps]), .no, .no] [] rfl rfl ?_
  unfold b_face_of
  repeat (first|((with_reducible first|refine Yb (d:=?_) ?_ ?_|refine Yd (ds:=?_) ?_ ?_);rotate_left 1;exact rfl)|((with_reducible refine Yr (d:=?_) (e:=?_) ?_ ?_ ?_);rotate_left 2;exact rfl;exact rfl)|(with_reducible first|refine J1 ?_|refine J2 ?_|refine J5 ?_|refine J7 ?_|refine Ja ?_|refine Jc ?_|refine Jw ?_|refine Jz ?_)|((with_reducible refine Yw (ds:=?_) ?_ ?_);rotate_left 1;exact rfl)|((with_reducible refine Xb (a:=?_) ?_ ?_);rotate_left 1;exact rfl)|((with_reducible refine And.intro ?_ ?_);first|exact Nat.le_of_ble_eq_true rfl|exact rfl))
  refine lc_pure (faceG funs) (fun _ => true) ?_ ?_ ?_
  · intro d hd
    obtain ⟨nm, k, rfl, ho, h0, h1⟩ := he d hd
    obtain ⟨cap, s, t, code, e, _⟩ := fun_at hf ⟨h0, h1⟩
    repeat (first|((with_reducible refine Yb (d:=?_) ?_ ?_);rotate_left 1;exact rfl)|(with_reducible first|refine J6 ?_|refine J7 ?_|refine J8 ?_|refine Jb ?_|refine Jc ?_|refine U0 ?_|refine U8 ?_)|((with_reducible refine Yy (d:=?_) (s:=?_) ?_ ?_);rotate_left 2;exact rfl)|((with_reducible refine Xb (a:=?_) ?_ ?_);rotate_left 1;exact rfl))
    refine function_shape_s ⟨h0, h1⟩ e ?_
    repeat (first|(with_reducible refine J8 ?_)|((with_reducible refine Yy (d:=?_) (s:=?_) ?_ ?_);rotate_left 2;exact rfl)|((with_reducible refine Xb (a:=?_) ?_ ?_);rotate_left 1;exact rfl)|((with_reducible refine And.intro ?_ ?_);first|exact Nat.le_of_ble_eq_true rfl|exact rfl))
    exact ⟨by rw [faceG_eq e], rfl, rfl⟩
  · rw [size24]; omega
  · have e : (exps.filter fun _ => true) = exps := by simp
    rw [e]
    repeat (first|((with_reducible refine Yl (a:=?_) ?_ ?_);rotate_left 1;exact rfl)|((with_reducible refine Ys (d:=?_) (o:=?_) ?_ ?_ ?_);rotate_left 2;exact rfl;exact rfl)|(with_reducible refine J8 ?_)|((with_reducible refine Xb (a:=?_) ?_ ?_);rotate_left 1;exact rfl)|((with_reducible refine And.intro ?_ ?_);first|exact Nat.le_of_ble_eq_true rfl|exact rfl))
    exact hQ
/-! ### the first export of a name -/
def isMain (d : D) : Bool := match d with
  | .tuple [.str w, _] => decide (w = "main")
  | _ => false
def numOf (d : D) : D := match d with
  | .tuple [_, k] => k
  | _ => .none
def mainsL (exps : List D) : List D := (exps.filter isMain).map numOf
def headN : List D → D
  | [] => .none
  | x :: _ => x
theorem exported_s {a b : D} {exps : List D} {Q : Bool → D → List D → Prop} (he : ∀ x ∈ exps, ExpOk x) (hQ : Q false (headN (mainsL exps)) []) : FnP f_exported_function [.tuple [a, b, .tuple exps], .str "main"] Q := by
  refine FnP_mk [.fr (.tuple [a, b, .tuple exps]), .fr (.str "main"), .no, .no] [] rfl rfl ?_
  unfold b_exported_function
  repeat (first|((with_reducible first|refine Yb (d:=?_) ?_ ?_|refine Yd (ds:=?_) ?_ ?_);rotate_left 1;exact rfl)|((with_reducible refine Yr (d:=?_) (e:=?_) ?_ ?_ ?_);rotate_left 2;exact rfl;exact rfl)|(with_reducible first|refine J0 ?_|refine J1 ?_|refine J2 ?_|refine Jw ?_|refine U7 ?_)|((with_reducible refine Yw (ds:=?_) ?_ ?_);rotate_left 1;exact rfl)|((with_reducible refine Xb (a:=?_) ?_ ?_);rotate_left 1;exact rfl))
  refine fl_inv (fun rest s => ∃ x y : Sl, s = [.fr (.tuple [a, b, .tuple exps]), .fr (.str "main"), x, y] ∧ (∀ x ∈ rest, ExpOk x) ∧ headN (mainsL exps) = headN (mainsL rest)) ⟨.no, .no, rfl, he, rfl⟩ ?_ ?_
  · rintro d rest s ⟨x, y, rfl, h, e⟩
    obtain ⟨nm, k, rfl, ho, h0⟩ := h d List.mem_cons_self
    repeat (first|((with_reducible first|refine Yb (d:=?_) ?_ ?_|refine Yc (b:=?_) ?_ ?_);rotate_left 1;exact rfl)|((with_reducible refine Yr (d:=?_) (e:=?_) ?_ ?_ ?_);rotate_left 2;exact rfl;exact rfl)|(with_reducible first|refine J2 ?_|refine J4 ?_|refine J9 ?_|refine Uj ?_)|((with_reducible refine Xb (a:=?_) ?_ ?_);rotate_left 1;exact rfl))
    refine BoolW_dec (fun hm => ?_) (fun hm => ?_)
    · repeat (first|((with_reducible refine Yb (d:=?_) ?_ ?_);rotate_left 1;exact rfl)|((with_reducible refine Ys (d:=?_) (o:=?_) ?_ ?_ ?_);rotate_left 2;exact rfl;exact rfl)|(with_reducible refine J5 ?_))
      have e2 : headN (mainsL (PyData.tuple [.str nm, .int k] :: rest)) = .int k := by
        have : isMain (PyData.tuple [.str nm, .int k]) = true := decide_eq_true hm
        unfold mainsL
        rw [List.filter_cons_of_pos this]; rfl
      rw [e, e2] at hQ
      exact hQ
    · repeat (first|(with_reducible refine Je ?_))
      refine ⟨_, _, rfl, fun z hz => h z (List.mem_cons_of_mem _ hz), ?_⟩
      have : ¬ isMain (PyData.tuple [.str nm, .int k]) = true := by
        show ¬ decide (nm = ("main" : Str)) = true
        rw [decide_eq_false hm]; exact Bool.false_ne_true
      rw [e]
      unfold mainsL
      rw [List.filter_cons_of_neg this]
  · rintro s ⟨x, y, rfl, h, e⟩
    repeat (first|((with_reducible refine Ys (d:=?_) (o:=?_) ?_ ?_ ?_);rotate_left 2;exact rfl;exact rfl)|(with_reducible first|refine J1 ?_|refine J5 ?_))
    rw [e] at hQ
    exact hQ
end L2.Zd.Lib

set_option Elab.async false
set_option linter.all false
set_option maxRecDepth 100000
set_option maxHeartbeats 2000000
namespace L2.Zd.Lib
open PySem PySem.Spec PyProof.Rows L2.Zd
def isOne (d : D) : Bool := match d with
  | .int i => decide (i = 1)
  | _ => false
def mainB (d : D) : Bool := match d with
  | .tuple [.tuple cap, s, t, _] => cap.isEmpty && (isOne s && dataF 12 t)
  | _ => false
def progB (imps funs exps : List D) : Bool := match headN (mainsL exps) with
  | .int k => imps.isEmpty && (decide (k < funs.length) && (match funs[k.toNat]? with
    | some d => mainB d
    | none => false))
  | _ => false
theorem mains_int {exps : List D} (he : ∀ x ∈ exps, ExpOk x) : ∀ x ∈ mainsL exps, ∃ k : Int, x = .int k ∧ 0 ≤ k := by
  intro x hx
  obtain ⟨y, hy, rfl⟩ := List.mem_map.mp hx
  obtain ⟨nm, k, rfl, _, h0⟩ := he y (List.mem_filter.mp hy).1
  exact ⟨k, rfl, h0⟩
theorem progB_none {imps funs exps : List D} (h : mainsL exps = []) : progB imps funs exps = false := by unfold progB; rw [h]; rfl
theorem progB_int {imps funs exps r : List D} {k : Int} (h : mainsL exps = .int k :: r) : progB imps funs exps = (imps.isEmpty && (decide (k < funs.length) && (match funs[k.toNat]? with | some d => mainB d | none => false))) := by unfold progB; rw [h]; rfl
theorem imps_plain {imps : List D} (h : ∀ x ∈ imps, ImpOk x) : ∀ x ∈ imps, Plain 14 x := by
  intro x hx
  obtain ⟨nm, a, b, rfl, ho, ha, hb⟩ := h x hx
  refine Plain.tup (n := 13) (by simp) fun y hy => ?_
  simp only [List.mem_cons, List.not_mem_nil, or_false] at hy
  rcases hy with rfl | rfl
  · exact .str ho
  · refine Plain.tup (n := 12) (by simp) fun z hz => ?_
    simp only [List.mem_cons, List.not_mem_nil, or_false] at hz
    rcases hz with rfl | rfl | rfl
    · exact .str (by decide +kernel)
    · exact ha.plain
    · exact hb.plain
theorem shaped_tup {n : Nat} {ds : List D} (h : ∀ x ∈ ds, Plain n x) (hl : ds.length < 2 ^ 24) (hn : n ≤ 60) : SeqAt.shaped (.tuple ds) = true := (Plain.tup hl h).shaped (by omega)
/-- a parameter's shape against 1 -/
theorem eq_one {s : D} {n : Nat} {K : Vt → Prop} (h : Shp n s) (hn : n ≤ 60) (hK : K (.fr (.bool (isOne s)))) : OptP (pEq s (.int 1)) K := by
  have hp : Plain n s := h.plain
  cases n with
  | zero =>
    obtain ⟨i, rfl, _⟩ := h
    exact Uh hK
  | succ n =>
    rcases h with ⟨i, rfl, _⟩ | ⟨w, a, b, _, rfl, _⟩
    · exact Uh hK
    · refine o_eqg ?_ ⟨hp.shaped (by omega), by decide +kernel⟩ (fun x e => nomatch e)
      rw [eqv_tupint]; exact hK
theorem is_program_s {fd : FM} (hd : IsDataS fd 12) {imps funs exps : List D} {Q : Bool → D → List D → Prop} (hi : ∀ x ∈ imps, ImpOk x) (hf : ∀ x ∈ funs, FunOk x) (he : ∀ x ∈ exps, ExpOk x) (hl : imps.length < 2 ^ 20)
    (hQ : Q false (.bool (progB imps funs exps)) []) : FnP (f_is_program f_exported_function fd) [.tuple [.tuple imps, .tuple funs, .tuple exps]] Q := by
  refine FnP_mk [.fr (.tuple [.tuple imps, .tuple funs, .tuple exps]), .no, .no, .no, .no, .no] [] rfl rfl ?_
  unfold b_is_program
  have sh : SeqAt.shaped (.tuple imps) = true := shaped_tup (imps_plain hi) (by omega) (by omega)
  have shn : SeqAt.shaped (.tuple ([] : List D)) = true := by decide +kernel
  repeat (first|((with_reducible refine Yb (d:=?_) ?_ ?_);rotate_left 1;exact rfl)|(with_reducible first|refine J0 ?_|refine J1 ?_|refine J3 ?_|refine J6 ?_|refine J7 ?_|refine J8 ?_|refine Jb ?_)|((with_reducible refine Yy (d:=?_) (s:=?_) ?_ ?_);rotate_left 2;exact rfl)|((with_reducible refine Xb (a:=?_) ?_ ?_);rotate_left 1;exact rfl))
  refine exported_s he ?_
  repeat (first|((with_reducible refine Yb (d:=?_) ?_ ?_);rotate_left 1;exact rfl)|((with_reducible refine Yr (d:=?_) (e:=?_) ?_ ?_ ?_);rotate_left 2;exact rfl;exact rfl)|(with_reducible first|refine J0 ?_|refine J1 ?_|refine J2 ?_|refine J4 ?_|refine J8 ?_|refine J9 ?_|refine Jc ?_|refine Jk ?_)|((with_reducible refine Xb (a:=?_) ?_ ?_);rotate_left 1;exact rfl)|((with_reducible refine And.intro ?_ ?_);first|exact Nat.le_of_ble_eq_true rfl|exact rfl))
  refine o_neg ?_ ⟨sh, shn⟩ (fun x e => nomatch e)
  repeat (first|((with_reducible refine Yc (b:=?_) ?_ ?_);rotate_left 1;exact rfl)|(with_reducible refine Ua ?_))
  rw [eqv_tupnil]
  cases hm : mainsL exps with
  | nil =>
    rw [progB_none hm] at hQ
    refine BoolW_any (fun h => ?_) (fun h => ?_)
    · repeat (first|((with_reducible first|refine Yb (d:=?_) ?_ ?_|refine Yc (b:=?_) ?_ ?_);rotate_left 1;exact rfl)|((with_reducible first|refine Yr (d:=?_) (e:=?_) ?_ ?_ ?_|refine Ys (d:=?_) (o:=?_) ?_ ?_ ?_);rotate_left 2;exact rfl;exact rfl)|(with_reducible first|refine J1 ?_|refine J2 ?_|refine J5 ?_|refine J9 ?_|refine Jk ?_|refine U8 ?_)|((with_reducible refine X6 ?_ ?_);exact rfl)|((with_reducible refine Xb (a:=?_) ?_ ?_);rotate_left 1;exact rfl))
      exact hQ
    · repeat (first|((with_reducible refine Ys (d:=?_) (o:=?_) ?_ ?_ ?_);rotate_left 2;exact rfl;exact rfl)|(with_reducible first|refine J1 ?_|refine J5 ?_|refine U8 ?_))
      exact hQ
  | cons x r =>
    obtain ⟨k, rfl, h0⟩ := mains_int he x (by rw [hm]; exact List.mem_cons_self)
    rw [progB_int hm] at hQ
    refine BoolW_any (fun h => ?_) (fun h => ?_)
    · rw [h, Bool.true_and] at hQ
      repeat (first|((with_reducible first|refine Yb (d:=?_) ?_ ?_|refine Yc (b:=?_) ?_ ?_|refine Yl (a:=?_) ?_ ?_);rotate_left 1;exact rfl)|((with_reducible refine Yr (d:=?_) (e:=?_) ?_ ?_ ?_);rotate_left 2;exact rfl;exact rfl)|(with_reducible first|refine J1 ?_|refine J2 ?_|refine J7 ?_|refine J8 ?_|refine J9 ?_|refine Ja ?_|refine Jk ?_)|((with_reducible refine X6 ?_ ?_);exact rfl)|((with_reducible refine X9 ?_ ?_);exact rfl)|((with_reducible refine Xb (a:=?_) ?_ ?_);rotate_left 1;exact rfl))
      (with_reducible refine BoolW_dec (fun hk => ?_) (fun hk => ?_))
      · repeat (first|((with_reducible refine Ys (d:=?_) (o:=?_) ?_ ?_ ?_);rotate_left 2;exact rfl;exact rfl)|(with_reducible first|refine J1 ?_|refine J5 ?_))
        rw [decide_eq_false (show ¬ k < funs.length by omega), Bool.false_and] at hQ
        exact hQ
      · repeat (first|((with_reducible refine Yb (d:=?_) ?_ ?_);rotate_left 1;exact rfl)|((with_reducible refine Yr (d:=?_) (e:=?_) ?_ ?_ ?_);rotate_left 2;exact rfl;exact rfl)|(with_reducible first|refine J0 ?_|refine J1 ?_|refine J2 ?_|refine Je ?_|refine U4 ?_)|((with_reducible refine Xb (a:=?_) ?_ ?_);rotate_left 1;exact rfl))
        have hk' : k < funs.length := by omega
        obtain ⟨cap, s, t, code, e, hc, hcs, hs, ht⟩ := fun_at hf ⟨h0, hk'⟩
        rw [decide_eq_true hk', Bool.true_and, e] at hQ
        have hQ' : Q false (.bool (cap.isEmpty && (isOne s && dataF 12 t))) [] := hQ
        refine o_ixt ⟨h0, hk'⟩ fun x _ hx => ?_
        rw [e] at hx; cases hx
        repeat (first|((with_reducible refine Yb (d:=?_) ?_ ?_);rotate_left 1;exact rfl)|((with_reducible first|refine Yr (d:=?_) (e:=?_) ?_ ?_ ?_|refine Yu (d:=?_) (s':=?_) ?_ ?_ ?_);rotate_left 2;exact rfl;exact rfl)|(with_reducible first|refine J2 ?_|refine J5 ?_|refine J8 ?_|refine Jc ?_|refine Jl ?_)|((with_reducible refine Xb (a:=?_) ?_ ?_);rotate_left 1;exact rfl)|((with_reducible refine And.intro ?_ ?_);first|exact Nat.le_of_ble_eq_true rfl|exact rfl))
        refine o_eqg ?_ ⟨shaped_tup (fun x hx => (hcs x hx).plain) (by omega) (by omega), shn⟩ (fun x e => nomatch e)
        repeat (first|((with_reducible refine Yl (a:=?_) ?_ ?_);rotate_left 1;exact rfl)|((with_reducible refine Xb (a:=?_) ?_ ?_);rotate_left 1;exact rfl))
        rw [eqv_tupnil]
        refine BoolW_any (fun hb => ?_) (fun hb => ?_)
        · rw [hb, Bool.true_and] at hQ'
          repeat (first|((with_reducible refine Yb (d:=?_) ?_ ?_);rotate_left 1;exact rfl)|((with_reducible refine Yr (d:=?_) (e:=?_) ?_ ?_ ?_);rotate_left 2;exact rfl;exact rfl)|(with_reducible first|refine J1 ?_|refine J2 ?_|refine Jl ?_)|((with_reducible refine Xb (a:=?_) ?_ ?_);rotate_left 1;exact rfl))
          refine eq_one hs (by omega) ?_
          repeat (first|((with_reducible refine Yl (a:=?_) ?_ ?_);rotate_left 1;exact rfl)|((with_reducible refine Xb (a:=?_) ?_ ?_);rotate_left 1;exact rfl))
          refine BoolW_any (fun ho => ?_) (fun ho => ?_)
          · rw [ho, Bool.true_and] at hQ'
            repeat (first|((with_reducible refine Yb (d:=?_) ?_ ?_);rotate_left 1;exact rfl)|(with_reducible first|refine J6 ?_|refine J7 ?_|refine J8 ?_|refine Jb ?_)|((with_reducible refine Yy (d:=?_) (s:=?_) ?_ ?_);rotate_left 2;exact rfl)|((with_reducible refine Xb (a:=?_) ?_ ?_);rotate_left 1;exact rfl))
            refine hd _ _ ht ?_
            repeat (first|((with_reducible refine Ys (d:=?_) (o:=?_) ?_ ?_ ?_);rotate_left 2;exact rfl;exact rfl))
            exact hQ'
          · rw [ho, Bool.false_and] at hQ'
            repeat (first|((with_reducible refine Ys (d:=?_) (o:=?_) ?_ ?_ ?_);rotate_left 2;exact rfl;exact rfl))
            rw [ho]
            exact hQ'
        · rw [hb, Bool.false_and] at hQ'
          repeat (first|((with_reducible refine Ys (d:=?_) (o:=?_) ?_ ?_ ?_);rotate_left 2;exact rfl;exact rfl))
          rw [hb]
          exact hQ'
    · rw [h, Bool.false_and] at hQ
      repeat (first|((with_reducible refine Ys (d:=?_) (o:=?_) ?_ ?_ ?_);rotate_left 2;exact rfl;exact rfl)|(with_reducible first|refine J1 ?_|refine J5 ?_|refine U8 ?_))
      exact hQ
/-! ### more rules -/
section
variable {s : DS} {N : DS → Prop} {T : Vt → DS → Prop} {B C : DS → Prop}
theorem Ws_mono {m : MS} {N' : DS → Prop} (h : Ws m s N T B C) (f : ∀ s', N s' → N' s') : Ws m s N' T B C := by
  unfold Ws at h ⊢
  revert h
  cases m s with
  | nx s' => exact fun h => f s' h
  | _ => exact fun h => h
theorem i_if_mid {α : Type} (M : α → DS → Prop) {P : α → DS → Prop} {c : L2.Zd.M Bool} {a b : L2.Zd.M α} (h : Wp c s fun k s1 => BoolW k (Wp a s1 M) (Wp b s1 M)) (f : ∀ x s1, M x s1 → P x s1) : Wp (dIf c a b) s P := by
  rw [w_if]
  refine Wp_mono h fun k s1 q => ?_
  cases k with
  | true => exact Wp_mono q f
  | false => exact Wp_mono q f
theorem i_sif_mid (M : DS → Prop) {c : L2.Zd.M Bool} {a b : MS} (h : Wp c s fun k s1 => BoolW k (Ws a s1 M T B C) (Ws b s1 M T B C)) (f : ∀ s1, M s1 → N s1) : Ws (sIf c a b) s N T B C := by
  rw [s_if]
  refine Wp_mono h fun k s1 q => ?_
  cases k with
  | true => exact Ws_mono q f
  | false => exact Ws_mono q f
end
def inB (a b : Int) (d : D) : Bool := match d with
  | .int i => decide (a ≤ i) && decide (i ≤ b)
  | _ => false
theorem pickI {p : FM} (hp : PickS p) (a b : Int) {t : D} {xs : List D} {Q : Bool → D → List D → Prop} (ht : Tp t) (hx : xs ≠ []) (hl : xs.length < 2 ^ 62) (ha : ∀ x ∈ xs, ∃ i : Int, x = .int i ∧ a ≤ i ∧ i ≤ b) (hQ : ∀ i t', a ≤ i → i ≤ b → Tp t' → Q false (.int i) [t']) : FnP p [t, .list xs] Q :=
  hp _ _ _ ht hx hl fun x t' hm ht' => by
    obtain ⟨i, rfl, h1, h2⟩ := ha x hm
    exact hQ i t' h1 h2 ht'
/-- all of a told list -/
theorem allI {a b : Int} : ∀ {xs : List D}, xs.all (inB a b) = true → ∀ x ∈ xs, ∃ i : Int, x = .int i ∧ a ≤ i ∧ i ≤ b := by
  intro xs h x hx
  have := List.all_eq_true.mp h x hx
  cases x with
  | int i =>
    have h2 := Bool.and_eq_true_iff.mp (show (decide (a ≤ i) && decide (i ≤ b)) = true from this)
    exact ⟨i, rfl, of_decide_eq_true h2.1, of_decide_eq_true h2.2⟩
  | _ => cases this
end L2.Zd.Lib

set_option Elab.async false
set_option linter.all false
set_option maxRecDepth 100000
set_option maxHeartbeats 2000000
namespace L2.Zd.Lib
open PySem PySem.Spec PyProof.Rows L2.Zd
/-! ### shapes as a type -/
inductive Sh where
  | i (n : Nat)
  | p (a b : Sh)
  | f (a b : Sh)
def Sh.d : Sh → D
  | .i n => .int n
  | .p a b => .tuple [.str "pair", a.d, b.d]
  | .f a b => .tuple [.str "to", a.d, b.d]
def Sh.h : Sh → Nat
  | .i _ => 0
  | .p a b => max a.h b.h + 1
  | .f a b => max a.h b.h + 1
/-- no empty enumeration -/
def Sh.ok : Sh → Prop
  | .i n => 1 ≤ n ∧ n ≤ 1000
  | .p a b => a.ok ∧ b.ok
  | .f a b => a.ok ∧ b.ok
theorem Shp.sh {n : Nat} : ∀ {d : D}, Shp n d → ∃ s : Sh, s.d = d ∧ s.h ≤ n ∧ s.ok := by
  have leaf : ∀ (n : Nat) (d : D), ShpL d → ∃ s : Sh, s.d = d ∧ s.h ≤ n ∧ s.ok := fun n d ⟨i, e, h1, h2⟩ => by
    refine ⟨.i i.toNat, ?_, Nat.zero_le _, ?_⟩
    · rw [e]; show PyData.int (i.toNat : Int) = _; rw [Int.toNat_of_nonneg (by omega)]
    · show 1 ≤ i.toNat ∧ i.toNat ≤ 1000; omega
  induction n with
  | zero => exact fun h => leaf 0 _ h
  | succ n ih =>
    rintro d (h | ⟨w, a, b, hw, e, h1, h2⟩)
    · exact leaf _ _ h
    · obtain ⟨sa, ea, ha, oa⟩ := ih h1
      obtain ⟨sb, eb, hb, ob⟩ := ih h2
      rcases hw with rfl | rfl
      · exact ⟨.p sa sb, by rw [e, ← ea, ← eb]; rfl, by show max sa.h sb.h + 1 ≤ _; omega, oa, ob⟩
      · exact ⟨.f sa sb, by rw [e, ← ea, ← eb]; rfl, by show max sa.h sb.h + 1 ≤ _; omega, oa, ob⟩
/-! ### counts -/
def CC : Nat := 1000000000
def cv : Sh → Nat
  | .i n => n
  | .p a b => min (cv a * cv b) CC
  | .f a b => min ((cv b + 2) ^ cv a) CC
theorem cv_pos : ∀ {s : Sh}, s.ok → 1 ≤ cv s
  | .i n, h => h.1
  | .p a b, h => by
    have h1 := cv_pos h.1
    have h2 := cv_pos h.2
    have : 1 ≤ cv a * cv b := Nat.mul_pos h1 h2
    show 1 ≤ min (cv a * cv b) CC
    have : CC = 1000000000 := rfl
    omega
  | .f a b, h => by
    have : 1 ≤ (cv b + 2) ^ cv a := Nat.pow_pos (by omega)
    show 1 ≤ min ((cv b + 2) ^ cv a) CC
    have : CC = 1000000000 := rfl
    omega
theorem cv_le : ∀ {s : Sh}, s.ok → cv s ≤ CC
  | .i n, h => by have := h.2; show n ≤ CC; have : CC = 1000000000 := rfl; omega
  | .p a b, h => Nat.min_le_right _ _
  | .f a b, h => Nat.min_le_right _ _
theorem cut_s {n : Int} {Q : Bool → D → List D → Prop} (hQ : Q false (.int (min n 1000000000)) []) : FnP f_cut [.int n] Q := by
  unfold f_cut
  (with_reducible refine FnP_mk [.fr (.int n)] [] ?_ ?_ ?_)
  · rfl
  · rfl
  unfold b_cut
  repeat (first|((with_reducible first|refine Yb (d:=?_) ?_ ?_|refine Yl (a:=?_) ?_ ?_);rotate_left 1;exact rfl)|((with_reducible refine Ys (d:=?_) (o:=?_) ?_ ?_ ?_);rotate_left 2;exact rfl;exact rfl)|(with_reducible first|refine J1 ?_|refine J5 ?_|refine J7 ?_|refine J8 ?_|refine Ja ?_|refine Uo ?_))
  exact hQ
theorem cut_power_s {b e : Nat} {Q : Bool → D → List D → Prop} (hb : b < 2 ^ 40) (he : e < 2 ^ 40) (hQ : Q false (.int (min (b ^ e) CC : Nat)) []) : FnP f_cut_power [.int b, .int e] Q := by
  unfold f_cut_power
  (with_reducible refine FnP_mk [.fr (.int b), .fr (.int e), .no, .no] [] ?_ ?_ ?_)
  · rfl
  · rfl
  unfold b_cut_power
  repeat (first|((with_reducible first|refine Yb (d:=?_) ?_ ?_|refine Yj (n:=?_) ?_ ?_ ?_);rotate_left 1;exact rfl)|(with_reducible first|refine J0 ?_|refine J1 ?_|refine J3 ?_|refine J6 ?_|refine J7 ?_|refine J8 ?_|refine Jx ?_|refine U7 ?_)|((with_reducible refine Yy (d:=?_) (s:=?_) ?_ ?_);rotate_left 2;exact rfl)|((with_reducible refine Xb (a:=?_) ?_ ?_);rotate_left 1;exact rfl))
  refine fl_inv (fun rest s => ∃ (k : Nat) (x : Sl), s = [.fr (.int b), .fr (.int e), .fr (.int (b ^ k : Nat)), x] ∧ b ^ k < CC ∧ k + rest.length = e) ⟨0, .no, rfl, by rw [Nat.pow_zero]; show 1 < 1000000000; omega, by rw [rng_len]; omega⟩ ?_ ?_
  · intro d rest s hI
    obtain ⟨k, hI⟩ := hI
    obtain ⟨x, hI⟩ := hI
    have hs := hI.1
    have hk := hI.2.1
    have hl := hI.2.2
    clear hI
    subst hs
    rw [List.length_cons] at hl
    repeat (first|((with_reducible first|refine Yb (d:=?_) ?_ ?_|refine Yc (b:=?_) ?_ ?_);rotate_left 1;exact rfl)|((with_reducible refine Yr (d:=?_) (e:=?_) ?_ ?_ ?_);rotate_left 2;exact rfl;exact rfl)|(with_reducible first|refine J0 ?_|refine J1 ?_|refine J2 ?_|refine J3 ?_|refine J4 ?_|refine J9 ?_|refine Ue ?_|refine Uz ?_ (by first|(left;constructor<;>omega)|(right;constructor<;>omega)))|((with_reducible refine Xb (a:=?_) ?_ ?_);rotate_left 1;exact rfl))
    have e1 : ((b ^ k : Nat) : Int) * (b : Int) = ((b ^ (k + 1) : Nat) : Int) := by rw [Nat.pow_succ]; exact (Int.natCast_mul _ _).symm
    rw [e1]
    (with_reducible refine BoolW_dec (fun h => ?_) (fun h => ?_))
    · repeat (first|((with_reducible refine Ys (d:=?_) (o:=?_) ?_ ?_ ?_);rotate_left 2;exact rfl;exact rfl)|(with_reducible first|refine J1 ?_|refine J5 ?_))
      have h2 : CC ≤ b ^ e := by
        have h3 : CC ≤ b ^ (k + 1) := by have : CC = 1000000000 := rfl; omega
        have h4 : 1 ≤ b := by
          rcases Nat.eq_zero_or_pos b with h0 | h0
          · rw [h0, Nat.pow_succ, Nat.mul_zero] at h3; have : CC = 1000000000 := rfl; omega
          · exact h0
        exact Nat.le_trans h3 (Nat.pow_le_pow_right h4 (by omega))
      rw [Nat.min_eq_right h2] at hQ
      exact hQ
    · repeat (first|(with_reducible refine Je ?_))
      exact ⟨k + 1, _, rfl, by have : CC = 1000000000 := rfl; omega, by omega⟩
  · rintro s ⟨k, x, rfl, hk, hl⟩
    have hke : k = e := by simpa using hl
    repeat (first|((with_reducible refine Yb (d:=?_) ?_ ?_);rotate_left 1;exact rfl)|((with_reducible refine Ys (d:=?_) (o:=?_) ?_ ?_ ?_);rotate_left 2;exact rfl;exact rfl)|(with_reducible refine J5 ?_))
    rw [Nat.min_eq_left (by rw [← hke]; omega), ← hke] at hQ
    exact hQ
  all_goals omega
theorem castMin (a b : Nat) : ((min a b : Nat) : Int) = min (a : Int) (b : Int) := by omega
abbrev CountS (f : FM) (n : Nat) : Prop := ∀ (s : Sh) (Q : Bool → D → List D → Prop), s.ok → s.h ≤ n → Q false (.int (cv s)) [] → FnP f [s.d] Q
theorem cv2_lt {s : Sh} (h : s.ok) : cv s + 2 < 2 ^ 40 := by have := cv_le h; have : CC = 1000000000 := rfl; omega
theorem count_leaf {f : FM} {k : Nat} {Q : Bool → D → List D → Prop} (hQ : Q false (.int k) []) : FnP (f_count_values f f_cut f_cut_power) [.int k] Q := by
  unfold f_count_values
  (with_reducible refine FnP_mk [.fr (.int k), .no, .no] [] ?_ ?_ ?_)
  · rfl
  · rfl
  unfold b_count_values
  repeat (first|((with_reducible first|refine Yb (d:=?_) ?_ ?_|refine Yl (a:=?_) ?_ ?_|refine Ym (b:=?_) ?_ ?_);rotate_left 1;exact rfl)|((with_reducible refine Ys (d:=?_) (o:=?_) ?_ ?_ ?_);rotate_left 2;exact rfl;exact rfl)|(with_reducible first|refine J0 ?_|refine J4 ?_|refine J5 ?_|refine Jh ?_|refine Ji ?_|refine Jo ?_|refine U9 ?_|refine Ua ?_)|((with_reducible refine Xb (a:=?_) ?_ ?_);rotate_left 1;exact rfl))
  exact hQ
theorem count_s0 (f : FM) : CountS (f_count_values f f_cut f_cut_power) 0 := by
  intro s Q hs hh hQ
  cases s with
  | i k => exact count_leaf hQ
  | p a b => exact absurd hh (Nat.not_succ_le_zero _)
  | f a b => exact absurd hh (Nat.not_succ_le_zero _)
theorem count_s {f : FM} {n : Nat} (hf : CountS f n) : CountS (f_count_values f f_cut f_cut_power) (n + 1) := by
  intro s Q hs hh hQ
  cases s with
  | i k => exact count_leaf hQ
  | p a b =>
    have h1 : a.h ≤ n := by have : max a.h b.h + 1 ≤ n + 1 := hh; omega
    have h2 : b.h ≤ n := by have : max a.h b.h + 1 ≤ n + 1 := hh; omega
    have hsa : a.ok := hs.1
    have hsb : b.ok := hs.2
    have b1 := cv2_lt hsa
    have b2 := cv2_lt hsb
    unfold f_count_values
    (with_reducible refine FnP_mk [.fr (.tuple [.str "pair", a.d, b.d]), .no, .no] [] ?_ ?_ ?_)
    · rfl
    · rfl
    unfold b_count_values
    repeat (first|((with_reducible first|refine Yb (d:=?_) ?_ ?_|refine Yl (a:=?_) ?_ ?_|refine Ym (b:=?_) ?_ ?_);rotate_left 1;exact rfl)|((with_reducible refine Yr (d:=?_) (e:=?_) ?_ ?_ ?_);rotate_left 2;exact rfl;exact rfl)|(with_reducible first|refine J0 ?_|refine J1 ?_|refine J2 ?_|refine J3 ?_|refine J4 ?_|refine J7 ?_|refine J8 ?_|refine Jb ?_|refine Je ?_|refine Jh ?_|refine Ji ?_|refine Jo ?_|refine U8 ?_|refine Ua ?_)|((with_reducible refine Xb (a:=?_) ?_ ?_);rotate_left 1;exact rfl))
    (with_reducible refine hf _ _ hsa h1 ?_)
    repeat (first|((with_reducible refine Yb (d:=?_) ?_ ?_);rotate_left 1;exact rfl)|((with_reducible refine Yr (d:=?_) (e:=?_) ?_ ?_ ?_);rotate_left 2;exact rfl;exact rfl)|(with_reducible first|refine J0 ?_|refine J1 ?_|refine J2 ?_|refine J3 ?_|refine J7 ?_|refine J8 ?_|refine Jb ?_)|((with_reducible refine Xb (a:=?_) ?_ ?_);rotate_left 1;exact rfl))
    (with_reducible refine hf _ _ hsb h2 ?_)
    repeat (first|((with_reducible first|refine Yb (d:=?_) ?_ ?_|refine Yc (b:=?_) ?_ ?_);rotate_left 1;exact rfl)|((with_reducible refine Yr (d:=?_) (e:=?_) ?_ ?_ ?_);rotate_left 2;exact rfl;exact rfl)|(with_reducible first|refine J0 ?_|refine J1 ?_|refine J2 ?_|refine J4 ?_|refine J5 ?_|refine J7 ?_|refine J8 ?_|refine J9 ?_|refine Jb ?_|refine Uj ?_|refine Uz ?_ (by first|(left;constructor<;>omega)|(right;constructor<;>omega)))|((with_reducible refine X7 ?_ ?_);exact rfl)|((with_reducible refine Xb (a:=?_) ?_ ?_);rotate_left 1;exact rfl))
    · (with_reducible refine cut_s ?_)
      repeat (first|((with_reducible refine Ys (d:=?_) (o:=?_) ?_ ?_ ?_);rotate_left 2;exact rfl;exact rfl))
      have e : ((cv (.p a b) : Nat) : Int) = min ((cv a : Int) * (cv b : Int)) 1000000000 := by
        show ((min (cv a * cv b) CC : Nat) : Int) = _
        rw [castMin, Int.natCast_mul]; rfl
      rw [e] at hQ
      exact hQ
  | f a b =>
    have h1 : a.h ≤ n := by have : max a.h b.h + 1 ≤ n + 1 := hh; omega
    have h2 : b.h ≤ n := by have : max a.h b.h + 1 ≤ n + 1 := hh; omega
    have hsa : a.ok := hs.1
    have hsb : b.ok := hs.2
    have b1 := cv2_lt hsa
    have b2 := cv2_lt hsb
    unfold f_count_values
    (with_reducible refine FnP_mk [.fr (.tuple [.str "to", a.d, b.d]), .no, .no] [] ?_ ?_ ?_)
    · rfl
    · rfl
    unfold b_count_values
    repeat (first|((with_reducible first|refine Yb (d:=?_) ?_ ?_|refine Yl (a:=?_) ?_ ?_|refine Ym (b:=?_) ?_ ?_);rotate_left 1;exact rfl)|((with_reducible refine Yr (d:=?_) (e:=?_) ?_ ?_ ?_);rotate_left 2;exact rfl;exact rfl)|(with_reducible first|refine J0 ?_|refine J1 ?_|refine J2 ?_|refine J3 ?_|refine J4 ?_|refine J7 ?_|refine J8 ?_|refine Jb ?_|refine Je ?_|refine Jh ?_|refine Ji ?_|refine Jo ?_|refine U8 ?_|refine Ua ?_)|((with_reducible refine Xb (a:=?_) ?_ ?_);rotate_left 1;exact rfl))
    (with_reducible refine hf _ _ hsa h1 ?_)
    repeat (first|((with_reducible refine Yb (d:=?_) ?_ ?_);rotate_left 1;exact rfl)|((with_reducible refine Yr (d:=?_) (e:=?_) ?_ ?_ ?_);rotate_left 2;exact rfl;exact rfl)|(with_reducible first|refine J0 ?_|refine J1 ?_|refine J2 ?_|refine J3 ?_|refine J7 ?_|refine J8 ?_|refine Jb ?_)|((with_reducible refine Xb (a:=?_) ?_ ?_);rotate_left 1;exact rfl))
    (with_reducible refine hf _ _ hsb h2 ?_)
    repeat (first|((with_reducible first|refine Yb (d:=?_) ?_ ?_|refine Yc (b:=?_) ?_ ?_);rotate_left 1;exact rfl)|((with_reducible refine Yr (d:=?_) (e:=?_) ?_ ?_ ?_);rotate_left 2;exact rfl;exact rfl)|(with_reducible first|refine J0 ?_|refine J1 ?_|refine J2 ?_|refine J4 ?_|refine J5 ?_|refine J6 ?_|refine J7 ?_|refine J8 ?_|refine J9 ?_|refine Jb ?_|refine Je ?_|refine Uj ?_)|((with_reducible refine Yy (d:=?_) (s:=?_) ?_ ?_);rotate_left 2;exact rfl)|((with_reducible refine X7 ?_ ?_);exact rfl)|((with_reducible refine Xa ?_ ?_);exact rfl)|((with_reducible refine Xb (a:=?_) ?_ ?_);rotate_left 1;exact rfl))
    have e : ((cv b : Int) + 2) = ((cv b + 2 : Nat) : Int) := rfl
    rw [e]
    (with_reducible refine cut_power_s (by omega) (by omega) ?_)
    repeat (first|((with_reducible refine Ys (d:=?_) (o:=?_) ?_ ?_ ?_);rotate_left 2;exact rfl;exact rfl))
    exact hQ
end L2.Zd.Lib

set_option Elab.async false
set_option linter.all false
set_option maxRecDepth 100000
set_option maxHeartbeats 2000000
namespace L2.Zd.Lib
open PySem PySem.Spec PyProof.Rows L2.Zd
theorem min_step {x k : Nat} (hx : 1 ≤ x) : min (min (x ^ k) CC * x) CC = min (x ^ (k + 1)) CC := by
  rw [Nat.pow_succ]
  rcases Nat.le_total (x ^ k) CC with h | h
  · rw [Nat.min_eq_left h]
  · rw [Nat.min_eq_right h, Nat.min_eq_right (Nat.le_mul_of_pos_right CC hx), Nat.min_eq_right (Nat.le_trans h (Nat.le_mul_of_pos_right _ hx))]
theorem pow_cap {x n : Nat} (hx : 3 ≤ x) : min (x ^ (min n 20)) CC = min (x ^ n) CC := by
  rcases Nat.le_total n 20 with h | h
  · rw [Nat.min_eq_left h]
  · rw [Nat.min_eq_right h]
    have h1 : CC ≤ x ^ 20 := Nat.le_trans (show CC ≤ 3 ^ 20 by decide) (Nat.pow_le_pow_left hx 20)
    rw [Nat.min_eq_right h1, Nat.min_eq_right (Nat.le_trans h1 (Nat.pow_le_pow_right (by omega) h))]
theorem lcount_leaf {f : FM} {k : Nat} {Q : Bool → D → List D → Prop} (hQ : Q false (.int k) []) : FnP (f_l_shape_count f) [.int k] Q := by
  unfold f_l_shape_count
  (with_reducible refine FnP_mk [.fr (.int k), .no, .no, .no, .no] [] ?_ ?_ ?_)
  · rfl
  · rfl
  unfold b_l_shape_count
  repeat (first|((with_reducible first|refine Yb (d:=?_) ?_ ?_|refine Yl (a:=?_) ?_ ?_|refine Yn (b:=?_) ?_ ?_);rotate_left 1;exact rfl)|((with_reducible refine Ys (d:=?_) (o:=?_) ?_ ?_ ?_);rotate_left 2;exact rfl;exact rfl)|(with_reducible first|refine J0 ?_|refine J4 ?_|refine J5 ?_|refine Jh ?_|refine Jo ?_|refine U8 ?_)|((with_reducible refine Xb (a:=?_) ?_ ?_);rotate_left 1;exact rfl))
  exact hQ
theorem lcount_s0 (f : FM) : CountS (f_l_shape_count f) 0 := by
  intro s Q hs hh hQ
  cases s with
  | i k => exact lcount_leaf hQ
  | p a b => exact absurd hh (Nat.not_succ_le_zero _)
  | f a b => exact absurd hh (Nat.not_succ_le_zero _)
theorem lcount_s {f : FM} {n : Nat} (hf : CountS f n) : CountS (f_l_shape_count f) (n + 1) := by
  intro s Q hs hh hQ
  cases s with
  | i k => exact lcount_leaf hQ
  | p a b =>
    have h1 : a.h ≤ n := by have : max a.h b.h + 1 ≤ n + 1 := hh; omega
    have h2 : b.h ≤ n := by have : max a.h b.h + 1 ≤ n + 1 := hh; omega
    have hsa : a.ok := hs.1
    have hsb : b.ok := hs.2
    have b1 := cv2_lt hsa
    have b2 := cv2_lt hsb
    unfold f_l_shape_count
    (with_reducible refine FnP_mk [.fr (.tuple [.str "pair", a.d, b.d]), .no, .no, .no, .no] [] ?_ ?_ ?_)
    · rfl
    · rfl
    unfold b_l_shape_count
    repeat (first|((with_reducible first|refine Yb (d:=?_) ?_ ?_|refine Yl (a:=?_) ?_ ?_|refine Yn (b:=?_) ?_ ?_);rotate_left 1;exact rfl)|((with_reducible refine Yr (d:=?_) (e:=?_) ?_ ?_ ?_);rotate_left 2;exact rfl;exact rfl)|(with_reducible first|refine J0 ?_|refine J1 ?_|refine J2 ?_|refine J3 ?_|refine J4 ?_|refine J7 ?_|refine J8 ?_|refine Jb ?_|refine Je ?_|refine Jh ?_|refine Jo ?_|refine U9 ?_)|((with_reducible refine Xb (a:=?_) ?_ ?_);rotate_left 1;exact rfl))
    (with_reducible refine hf _ _ hsa h1 ?_)
    repeat (first|((with_reducible refine Yb (d:=?_) ?_ ?_);rotate_left 1;exact rfl)|((with_reducible refine Yr (d:=?_) (e:=?_) ?_ ?_ ?_);rotate_left 2;exact rfl;exact rfl)|(with_reducible first|refine J0 ?_|refine J1 ?_|refine J2 ?_|refine J3 ?_|refine J7 ?_|refine J8 ?_|refine Jb ?_)|((with_reducible refine Xb (a:=?_) ?_ ?_);rotate_left 1;exact rfl))
    (with_reducible refine hf _ _ hsb h2 ?_)
    repeat (first|((with_reducible first|refine Yb (d:=?_) ?_ ?_|refine Yc (b:=?_) ?_ ?_|refine Yl (a:=?_) ?_ ?_);rotate_left 1;exact rfl)|((with_reducible first|refine Yr (d:=?_) (e:=?_) ?_ ?_ ?_|refine Ys (d:=?_) (o:=?_) ?_ ?_ ?_);rotate_left 2;exact rfl;exact rfl)|(with_reducible first|refine J0 ?_|refine J1 ?_|refine J2 ?_|refine J4 ?_|refine J5 ?_|refine J7 ?_|refine J8 ?_|refine J9 ?_|refine Ja ?_|refine Ug ?_|refine Uj ?_|refine Uo ?_|refine Uz ?_ (by first|(left;constructor<;>omega)|(right;constructor<;>omega)))|((with_reducible refine X7 ?_ ?_);exact rfl)|((with_reducible refine Xb (a:=?_) ?_ ?_);rotate_left 1;exact rfl))
    have e : ((cv (.p a b) : Nat) : Int) = min ((cv a : Int) * (cv b : Int)) 1000000000 := by
      show ((min (cv a * cv b) CC : Nat) : Int) = _
      rw [castMin, Int.natCast_mul]; rfl
    rw [e] at hQ
    exact hQ
  | f a b =>
    have h1 : a.h ≤ n := by have : max a.h b.h + 1 ≤ n + 1 := hh; omega
    have h2 : b.h ≤ n := by have : max a.h b.h + 1 ≤ n + 1 := hh; omega
    have hsa : a.ok := hs.1
    have hsb : b.ok := hs.2
    have b1 := cv2_lt hsa
    have b2 := cv2_lt hsb
    have b3 := cv_pos hsb
    unfold f_l_shape_count
    (with_reducible refine FnP_mk [.fr (.tuple [.str "to", a.d, b.d]), .no, .no, .no, .no] [] ?_ ?_ ?_)
    · rfl
    · rfl
    unfold b_l_shape_count
    repeat (first|((with_reducible first|refine Yb (d:=?_) ?_ ?_|refine Yl (a:=?_) ?_ ?_|refine Yn (b:=?_) ?_ ?_);rotate_left 1;exact rfl)|((with_reducible refine Yr (d:=?_) (e:=?_) ?_ ?_ ?_);rotate_left 2;exact rfl;exact rfl)|(with_reducible first|refine J0 ?_|refine J1 ?_|refine J2 ?_|refine J3 ?_|refine J4 ?_|refine J7 ?_|refine J8 ?_|refine Jb ?_|refine Je ?_|refine Jh ?_|refine Jo ?_|refine U9 ?_)|((with_reducible refine Xb (a:=?_) ?_ ?_);rotate_left 1;exact rfl))
    (with_reducible refine hf _ _ hsa h1 ?_)
    repeat (first|((with_reducible refine Yb (d:=?_) ?_ ?_);rotate_left 1;exact rfl)|((with_reducible refine Yr (d:=?_) (e:=?_) ?_ ?_ ?_);rotate_left 2;exact rfl;exact rfl)|(with_reducible first|refine J0 ?_|refine J1 ?_|refine J2 ?_|refine J3 ?_|refine J7 ?_|refine J8 ?_|refine Jb ?_)|((with_reducible refine Xb (a:=?_) ?_ ?_);rotate_left 1;exact rfl))
    (with_reducible refine hf _ _ hsb h2 ?_)
    repeat (first|((with_reducible first|refine Yb (d:=?_) ?_ ?_|refine Yc (b:=?_) ?_ ?_|refine Yj (n:=?_) ?_ ?_ ?_|refine Yl (a:=?_) ?_ ?_);rotate_left 1;exact rfl)|((with_reducible refine Yr (d:=?_) (e:=?_) ?_ ?_ ?_);rotate_left 2;exact rfl;exact rfl)|(with_reducible first|refine J0 ?_|refine J1 ?_|refine J2 ?_|refine J3 ?_|refine J4 ?_|refine J7 ?_|refine J8 ?_|refine J9 ?_|refine Ja ?_|refine Je ?_|refine Jx ?_|refine U7 ?_|refine Uj ?_|refine Uo ?_)|((with_reducible refine X7 ?_ ?_);exact rfl)|((with_reducible refine Xa ?_ ?_);exact rfl)|((with_reducible refine Xb (a:=?_) ?_ ?_);rotate_left 1;exact rfl))
    refine fl_inv (fun rest s => ∃ (k : Nat) (x : Sl), s = [.fr (.tuple [.str "to", a.d, b.d]), .fr (.int (cv a)), .fr (.int (cv b)), .fr (.int (min ((cv b + 2) ^ k) CC : Nat)), x] ∧ k + rest.length = min (cv a) 20) ⟨0, .no, ?_, ?_⟩ ?_ ?_
    · rfl
    · rw [rng_len]; omega
    · intro d rest s hI
      obtain ⟨k, hI⟩ := hI
      obtain ⟨x, hI⟩ := hI
      have e0 := hI.1
      have hl := hI.2
      clear hI
      subst e0
      rw [List.length_cons] at hl
      have hcap : ((min ((cv b + 2) ^ k) CC : Nat) : Int) ≤ 1000000000 := by
        have h : min ((cv b + 2) ^ k) CC ≤ CC := Nat.min_le_right _ _
        have h2 : CC = 1000000000 := rfl
        omega
      repeat (first|((with_reducible first|refine Yb (d:=?_) ?_ ?_|refine Yl (a:=?_) ?_ ?_);rotate_left 1;exact rfl)|((with_reducible refine Yr (d:=?_) (e:=?_) ?_ ?_ ?_);rotate_left 2;exact rfl;exact rfl)|(with_reducible first|refine J1 ?_|refine J2 ?_|refine J3 ?_|refine J7 ?_|refine J8 ?_|refine Ja ?_|refine Ug ?_|refine Uo ?_|refine Uz ?_ (by first|(left;constructor<;>omega)|(right;constructor<;>omega)))|((with_reducible refine Xb (a:=?_) ?_ ?_);rotate_left 1;exact rfl))
      have e : min (((min ((cv b + 2) ^ k) CC : Nat) : Int) * ((cv b : Int) + 2)) 1000000000 = ((min ((cv b + 2) ^ (k + 1)) CC : Nat) : Int) := by
        rw [← min_step (by omega), castMin (min ((cv b + 2) ^ k) CC * (cv b + 2)), Int.natCast_mul]; rfl
      rw [e]
      exact ⟨k + 1, _, rfl, by omega⟩
    · intro s hI
      obtain ⟨k, hI⟩ := hI
      obtain ⟨x, hI⟩ := hI
      have e0 := hI.1
      have hl : k = min (cv a) 20 := by have := hI.2; simpa using this
      clear hI
      subst e0
      repeat (first|((with_reducible refine Yb (d:=?_) ?_ ?_);rotate_left 1;exact rfl)|((with_reducible refine Ys (d:=?_) (o:=?_) ?_ ?_ ?_);rotate_left 2;exact rfl;exact rfl)|(with_reducible refine J5 ?_))
      have e : min ((cv b + 2) ^ k) CC = cv (.f a b) := by
        rw [hl]; exact pow_cap (by omega)
      rw [e]
      exact hQ
    all_goals omega
end L2.Zd.Lib

set_option Elab.async false
set_option linter.all false
set_option maxRecDepth 100000
set_option maxHeartbeats 2000000
namespace L2.Zd.Lib
open PySem PySem.Spec PyProof.Rows L2.Zd
/-! ### what shows, how many looks there are -/
def shw : Sh → Bool
  | .i n => decide (2 ≤ n)
  | .p a b => shw a || shw b
  | .f _ _ => false
/-- one more look where nothing shows -/
def ns (s : Sh) : Nat := if shw s = true then 0 else 1
def ls : Sh → Nat
  | .i n => if 2 ≤ n then 1 else 0
  | .p a b => min (ls a + ls b) CC
  | .f a b => min (cv a * min (ls b + ns b) CC) CC
def lc (s : Sh) : Nat := min (ls s + ns s) CC
abbrev ShowS (f : FM) (n : Nat) : Prop := ∀ (s : Sh) (Q : Bool → D → List D → Prop), s.h ≤ n → Q false (.bool (shw s)) [] → FnP f [s.d] Q
theorem show_leaf {f : FM} {k : Nat} {Q : Bool → D → List D → Prop} (hQ : Q false (.bool (decide (2 ≤ k))) []) : FnP (f_shows f) [.int k] Q := by
  unfold f_shows
  (with_reducible refine FnP_mk [.fr (.int k)] [] ?_ ?_ ?_)
  · rfl
  · rfl
  unfold b_shows
  repeat (first|((with_reducible first|refine Yb (d:=?_) ?_ ?_|refine Yl (a:=?_) ?_ ?_|refine Ym (b:=?_) ?_ ?_);rotate_left 1;exact rfl)|((with_reducible first|refine Yr (d:=?_) (e:=?_) ?_ ?_ ?_|refine Ys (d:=?_) (o:=?_) ?_ ?_ ?_);rotate_left 2;exact rfl;exact rfl)|(with_reducible first|refine J0 ?_|refine J1 ?_|refine J2 ?_|refine J4 ?_|refine J5 ?_|refine Jh ?_|refine Ji ?_|refine Jo ?_|refine U9 ?_|refine Ua ?_|refine Ue ?_)|((with_reducible refine Xb (a:=?_) ?_ ?_);rotate_left 1;exact rfl))
  have e : decide ((2 : Int) ≤ (k : Int)) = decide (2 ≤ k) := decide_eq_decide.mpr (by omega)
  rw [e]
  exact hQ
theorem show_s0 (f : FM) : ShowS (f_shows f) 0 := by
  intro s Q hh hQ
  cases s with
  | i k => exact show_leaf hQ
  | p a b => exact absurd hh (Nat.not_succ_le_zero _)
  | f a b => exact absurd hh (Nat.not_succ_le_zero _)
theorem show_s {f : FM} {n : Nat} (hf : ShowS f n) : ShowS (f_shows f) (n + 1) := by
  intro s Q hh hQ
  cases s with
  | i k => exact show_leaf hQ
  | p a b =>
    have h1 : a.h ≤ n := by have : max a.h b.h + 1 ≤ n + 1 := hh; omega
    have h2 : b.h ≤ n := by have : max a.h b.h + 1 ≤ n + 1 := hh; omega
    have hQ' : Q false (.bool (shw a || shw b)) [] := hQ
    unfold f_shows
    (with_reducible refine FnP_mk [.fr (.tuple [.str "pair", a.d, b.d])] [] ?_ ?_ ?_)
    · rfl
    · rfl
    unfold b_shows
    repeat (first|((with_reducible first|refine Yb (d:=?_) ?_ ?_|refine Yl (a:=?_) ?_ ?_|refine Ym (b:=?_) ?_ ?_);rotate_left 1;exact rfl)|((with_reducible refine Yr (d:=?_) (e:=?_) ?_ ?_ ?_);rotate_left 2;exact rfl;exact rfl)|(with_reducible first|refine J0 ?_|refine J1 ?_|refine J2 ?_|refine J4 ?_|refine J5 ?_|refine J7 ?_|refine J8 ?_|refine Jb ?_|refine Je ?_|refine Jh ?_|refine Ji ?_|refine Jl ?_|refine Jm ?_|refine Jo ?_|refine U8 ?_|refine Ua ?_|refine Uj ?_)|((with_reducible refine X7 ?_ ?_);exact rfl)|((with_reducible refine Xb (a:=?_) ?_ ?_);rotate_left 1;exact rfl))
    (with_reducible refine hf _ _ h1 ?_)
    repeat (first|((with_reducible refine Yl (a:=?_) ?_ ?_);rotate_left 1;exact rfl)|((with_reducible refine Xb (a:=?_) ?_ ?_);rotate_left 1;exact rfl))
    refine BoolW_any (fun hb => ?_) (fun hb => ?_)
    · repeat (first|((with_reducible refine Ys (d:=?_) (o:=?_) ?_ ?_ ?_);rotate_left 2;exact rfl;exact rfl))
      rw [hb]
      rw [hb, Bool.true_or] at hQ'
      exact hQ'
    · repeat (first|((with_reducible refine Yb (d:=?_) ?_ ?_);rotate_left 1;exact rfl)|((with_reducible refine Yr (d:=?_) (e:=?_) ?_ ?_ ?_);rotate_left 2;exact rfl;exact rfl)|(with_reducible first|refine J1 ?_|refine J2 ?_|refine J7 ?_|refine J8 ?_|refine Jb ?_)|((with_reducible refine Xb (a:=?_) ?_ ?_);rotate_left 1;exact rfl))
      (with_reducible refine hf _ _ h2 ?_)
      repeat (first|((with_reducible refine Ys (d:=?_) (o:=?_) ?_ ?_ ?_);rotate_left 2;exact rfl;exact rfl))
      rw [hb, Bool.false_or] at hQ'
      exact hQ'
  | f a b =>
    unfold f_shows
    (with_reducible refine FnP_mk [.fr (.tuple [.str "to", a.d, b.d])] [] ?_ ?_ ?_)
    · rfl
    · rfl
    unfold b_shows
    repeat (first|((with_reducible first|refine Yb (d:=?_) ?_ ?_|refine Yl (a:=?_) ?_ ?_|refine Ym (b:=?_) ?_ ?_);rotate_left 1;exact rfl)|((with_reducible first|refine Yr (d:=?_) (e:=?_) ?_ ?_ ?_|refine Ys (d:=?_) (o:=?_) ?_ ?_ ?_);rotate_left 2;exact rfl;exact rfl)|(with_reducible first|refine J0 ?_|refine J1 ?_|refine J2 ?_|refine J4 ?_|refine J5 ?_|refine Je ?_|refine Jh ?_|refine Ji ?_|refine Jl ?_|refine Jo ?_|refine U8 ?_|refine Ua ?_|refine Uj ?_)|((with_reducible refine X7 ?_ ?_);exact rfl)|((with_reducible refine Xa ?_ ?_);exact rfl)|((with_reducible refine Xb (a:=?_) ?_ ?_);rotate_left 1;exact rfl))
    exact hQ
theorem lshow_leaf {f : FM} {k : Nat} {Q : Bool → D → List D → Prop} (hQ : Q false (.bool (decide (2 ≤ k))) []) : FnP (f_l_look_shows f) [.int k] Q := by
  unfold f_l_look_shows
  (with_reducible refine FnP_mk [.fr (.int k)] [] ?_ ?_ ?_)
  · rfl
  · rfl
  unfold b_l_look_shows
  repeat (first|((with_reducible first|refine Yb (d:=?_) ?_ ?_|refine Yl (a:=?_) ?_ ?_|refine Yn (b:=?_) ?_ ?_);rotate_left 1;exact rfl)|((with_reducible first|refine Yr (d:=?_) (e:=?_) ?_ ?_ ?_|refine Ys (d:=?_) (o:=?_) ?_ ?_ ?_);rotate_left 2;exact rfl;exact rfl)|(with_reducible first|refine J0 ?_|refine J1 ?_|refine J2 ?_|refine J4 ?_|refine J5 ?_|refine Jh ?_|refine Jo ?_|refine U8 ?_|refine Ue ?_)|((with_reducible refine Xb (a:=?_) ?_ ?_);rotate_left 1;exact rfl))
  have e : decide ((2 : Int) ≤ (k : Int)) = decide (2 ≤ k) := decide_eq_decide.mpr (by omega)
  rw [e]
  exact hQ
theorem lshow_s0 (f : FM) : ShowS (f_l_look_shows f) 0 := by
  intro s Q hh hQ
  cases s with
  | i k => exact lshow_leaf hQ
  | p a b => exact absurd hh (Nat.not_succ_le_zero _)
  | f a b => exact absurd hh (Nat.not_succ_le_zero _)
theorem lshow_s {f : FM} {n : Nat} (hf : ShowS f n) : ShowS (f_l_look_shows f) (n + 1) := by
  intro s Q hh hQ
  cases s with
  | i k => exact lshow_leaf hQ
  | p a b =>
    have h1 : a.h ≤ n := by have : max a.h b.h + 1 ≤ n + 1 := hh; omega
    have h2 : b.h ≤ n := by have : max a.h b.h + 1 ≤ n + 1 := hh; omega
    have hQ' : Q false (.bool (shw a || shw b)) [] := hQ
    unfold f_l_look_shows
    (with_reducible refine FnP_mk [.fr (.tuple [.str "pair", a.d, b.d])] [] ?_ ?_ ?_)
    · rfl
    · rfl
    unfold b_l_look_shows
    repeat (first|((with_reducible first|refine Yb (d:=?_) ?_ ?_|refine Yl (a:=?_) ?_ ?_|refine Yn (b:=?_) ?_ ?_);rotate_left 1;exact rfl)|((with_reducible refine Yr (d:=?_) (e:=?_) ?_ ?_ ?_);rotate_left 2;exact rfl;exact rfl)|(with_reducible first|refine J0 ?_|refine J1 ?_|refine J2 ?_|refine J4 ?_|refine J5 ?_|refine J7 ?_|refine J8 ?_|refine Jb ?_|refine Je ?_|refine Jh ?_|refine Jl ?_|refine Jm ?_|refine Jo ?_|refine U9 ?_|refine Uj ?_)|((with_reducible refine X7 ?_ ?_);exact rfl)|((with_reducible refine Xb (a:=?_) ?_ ?_);rotate_left 1;exact rfl))
    (with_reducible refine hf _ _ h1 ?_)
    repeat (first|((with_reducible refine Yl (a:=?_) ?_ ?_);rotate_left 1;exact rfl)|((with_reducible refine Xb (a:=?_) ?_ ?_);rotate_left 1;exact rfl))
    refine BoolW_any (fun hb => ?_) (fun hb => ?_)
    · repeat (first|((with_reducible refine Ys (d:=?_) (o:=?_) ?_ ?_ ?_);rotate_left 2;exact rfl;exact rfl))
      rw [hb]
      rw [hb, Bool.true_or] at hQ'
      exact hQ'
    · repeat (first|((with_reducible refine Yb (d:=?_) ?_ ?_);rotate_left 1;exact rfl)|((with_reducible refine Yr (d:=?_) (e:=?_) ?_ ?_ ?_);rotate_left 2;exact rfl;exact rfl)|(with_reducible first|refine J1 ?_|refine J2 ?_|refine J7 ?_|refine J8 ?_|refine Jb ?_)|((with_reducible refine Xb (a:=?_) ?_ ?_);rotate_left 1;exact rfl))
      (with_reducible refine hf _ _ h2 ?_)
      repeat (first|((with_reducible refine Ys (d:=?_) (o:=?_) ?_ ?_ ?_);rotate_left 2;exact rfl;exact rfl))
      rw [hb, Bool.false_or] at hQ'
      exact hQ'
  | f a b =>
    unfold f_l_look_shows
    (with_reducible refine FnP_mk [.fr (.tuple [.str "to", a.d, b.d])] [] ?_ ?_ ?_)
    · rfl
    · rfl
    unfold b_l_look_shows
    repeat (first|((with_reducible first|refine Yb (d:=?_) ?_ ?_|refine Yl (a:=?_) ?_ ?_|refine Yn (b:=?_) ?_ ?_);rotate_left 1;exact rfl)|((with_reducible first|refine Yr (d:=?_) (e:=?_) ?_ ?_ ?_|refine Ys (d:=?_) (o:=?_) ?_ ?_ ?_);rotate_left 2;exact rfl;exact rfl)|(with_reducible first|refine J0 ?_|refine J1 ?_|refine J2 ?_|refine J4 ?_|refine J5 ?_|refine Je ?_|refine Jh ?_|refine Jl ?_|refine Jo ?_|refine U9 ?_|refine Uj ?_)|((with_reducible refine X7 ?_ ?_);exact rfl)|((with_reducible refine Xa ?_ ?_);exact rfl)|((with_reducible refine Xb (a:=?_) ?_ ?_);rotate_left 1;exact rfl))
    exact hQ
end L2.Zd.Lib

set_option Elab.async false
set_option linter.all false
set_option maxRecDepth 100000
set_option maxHeartbeats 2000000
/-! Looks, findings, ranks, decoding: plain, without mirrors. -/
namespace L2.Zd.Lib
open PySem PySem.Spec PyProof.Rows L2.Zd
inductive All2 {α β : Type} (R : α → β → Prop) : List α → List β → Prop
  | nil : All2 R [] []
  | cons {x : α} {y : β} {xs : List α} {ys : List β} : R x y → All2 R xs ys → All2 R (x :: xs) (y :: ys)
section
variable {α β γ : Type} {R : α → β → Prop}
theorem All2.len {xs : List α} {ys : List β} (h : All2 R xs ys) : xs.length = ys.length := by
  induction h with
  | nil => rfl
  | cons _ _ ih => simp [ih]
theorem All2.mono {R' : α → β → Prop} {xs : List α} {ys : List β} (h : All2 R xs ys) (f : ∀ x y, R x y → R' x y) : All2 R' xs ys := by
  induction h with
  | nil => exact .nil
  | cons h _ ih => exact .cons (f _ _ h) ih
theorem All2.app {xs xs' : List α} {ys ys' : List β} (h : All2 R xs ys) (h' : All2 R xs' ys') : All2 R (xs ++ xs') (ys ++ ys') := by
  induction h with
  | nil => exact h'
  | cons h _ ih => exact .cons h ih
theorem All2.split : ∀ {xs xs' : List α} {ys : List β}, All2 R (xs ++ xs') ys → All2 R xs (ys.take xs.length) ∧ All2 R xs' (ys.drop xs.length)
  | [], xs', ys, h => ⟨.nil, h⟩
  | x :: xs, xs', _, .cons h t => by
    obtain ⟨h1, h2⟩ := All2.split (xs := xs) t
    exact ⟨.cons h h1, h2⟩
theorem All2.at_ {xs : List α} {ys : List β} (h : All2 R xs ys) : ∀ {i : Nat} {x : α}, xs[i]? = some x → ∃ y, ys[i]? = some y ∧ R x y := by
  induction h with
  | nil => intro i x e; simp at e
  | cons h _ ih =>
    intro i x e
    cases i with
    | zero => simp at e; subst e; exact ⟨_, rfl, h⟩
    | succ i => exact ih (by simpa using e)
theorem All2.set {xs : List α} {ys : List β} (h : All2 R xs ys) : ∀ {i : Nat} {x : α} {y : β}, xs[i]? = some x → R x y → All2 R xs (ys.set i y) := by
  induction h with
  | nil => intro i x y e; simp at e
  | cons h t ih =>
    intro i x y e r
    cases i with
    | zero => simp at e; subst e; exact .cons r t
    | succ i => exact .cons h (ih (by simpa using e) r)
theorem All2.mapL (f : γ → α) {zs : List γ} {ys : List β} (h : All2 (fun z y => R (f z) y) zs ys) : All2 R (zs.map f) ys := by
  induction h with
  | nil => exact .nil
  | cons h _ ih => exact .cons h ih
theorem All2.mapR (f : γ → β) {xs : List α} {zs : List γ} (h : All2 (fun x z => R x (f z)) xs zs) : All2 R xs (zs.map f) := by
  induction h with
  | nil => exact .nil
  | cons h _ ih => exact .cons h ih
theorem All2.swap {xs : List α} {ys : List β} (h : All2 R xs ys) : All2 (fun y x => R x y) ys xs := by
  induction h with
  | nil => exact .nil
  | cons h _ ih => exact .cons h ih
theorem All2.of {S : α → γ → Prop} {T : β → γ → Prop} {xs : List α} {zs : List γ} (h : All2 S xs zs) : ∀ {ys : List β}, All2 T ys zs → (∀ x y z, S x z → T y z → R x y) → All2 R xs ys := by
  induction h with
  | nil => intro ys k f; cases k; exact .nil
  | cons h _ ih => intro ys k f; cases k with | cons k t => exact .cons (f _ _ _ h k) (ih t f)
theorem All2.joinR {S : α → β → Prop} {ps : List (List α)} {qs : List (List β)} (h : All2 (All2 S) ps qs) : All2 S ps.flatten qs.flatten := by
  induction h with
  | nil => exact .nil
  | cons h _ ih => rw [List.flatten_cons, List.flatten_cons]; exact h.app ih
end
/-! ### findings -/
/-- an error or not, the number -/
abbrev Fo := Bool × Nat
abbrev vl (x : D) : D := .tuple [.str "value", x]
abbrev er (k : Nat) : D := .tuple [.str "error", .int k]
def fd : Fo → D
  | (true, k) => er k
  | (false, k) => vl (.int k)
/-- fits a last shape -/
def bnd (n : Nat) : Fo → Prop
  | (true, k) => k < 2
  | (false, k) => k < n
/-! ### the last shapes -/
def preL (s : Sh) : List Nat := if shw s = true then [] else [1]
def lasI : Sh → List Nat
  | .i n => if 2 ≤ n then [n] else []
  | .p a b => lasI a ++ lasI b
  | .f a b => (List.replicate (cv a) (preL b ++ lasI b)).flatten
def lasA (s : Sh) : List Nat := preL s ++ lasI s
theorem preL_len (s : Sh) : (preL s).length = ns s := by
  unfold preL ns; split <;> rfl
theorem CCe : CC = 1000000000 := rfl
theorem flat_len {α : Type} (n : Nat) (l : List α) : (List.replicate n l).flatten.length = n * l.length := by
  induction n with
  | zero => simp
  | succ n ih => rw [List.replicate_succ, List.flatten_cons, List.length_append, ih, Nat.succ_mul]; omega
theorem lasI_len : ∀ {s : Sh}, s.ok → ls s < CC → (lasI s).length = ls s
  | .i n, _, _ => by unfold lasI ls; split <;> rfl
  | .p a b, h, k => by
    have k' : min (ls a + ls b) CC < CC := k
    have h1 := lasI_len h.1 (show ls a < CC by omega)
    have h2 := lasI_len h.2 (show ls b < CC by omega)
    show (lasI a ++ lasI b).length = min (ls a + ls b) CC
    rw [List.length_append, h1, h2]; omega
  | .f a b, h, k => by
    have k' : min (cv a * min (ls b + ns b) CC) CC < CC := k
    have h1 : 1 ≤ cv a := cv_pos h.1
    have h3 : min (ls b + ns b) CC ≤ cv a * min (ls b + ns b) CC := Nat.le_mul_of_pos_left _ h1
    have h2 := lasI_len h.2 (show ls b < CC by omega)
    show (List.replicate (cv a) (preL b ++ lasI b)).flatten.length = min (cv a * min (ls b + ns b) CC) CC
    have e : min (ls b + ns b) CC = ns b + ls b := by omega
    have hm : cv a * min (ls b + ns b) CC < CC := by omega
    rw [flat_len, List.length_append, preL_len, h2]
    rw [e] at hm ⊢
    rw [Nat.min_eq_left (Nat.le_of_lt hm)]
/-- what is asked of a shape -/
def rwk : Sh → Nat
  | .i _ => 0
  | .p a b => max (rwk a) (rwk b)
  | .f a b => max (max (rwk a) (rwk b)) (cv a)
structure Gd (s : Sh) : Prop where
  ok : s.ok
  rw_ : rwk s ≤ 64
  ls_ : ls s ≤ 300
theorem Gd.p1 {a b : Sh} (h : Gd (.p a b)) : Gd a := ⟨h.ok.1, by have := h.rw_; have e : rwk (.p a b) = max (rwk a) (rwk b) := rfl; omega, by have := h.ls_; have e : ls (.p a b) = min (ls a + ls b) CC := rfl; have := CCe; omega⟩
theorem Gd.p2 {a b : Sh} (h : Gd (.p a b)) : Gd b := ⟨h.ok.2, by have := h.rw_; have e : rwk (.p a b) = max (rwk a) (rwk b) := rfl; omega, by have := h.ls_; have e : ls (.p a b) = min (ls a + ls b) CC := rfl; have := CCe; omega⟩
theorem Gd.psum {a b : Sh} (h : Gd (.p a b)) : ls (.p a b) = ls a + ls b := by have := h.ls_; have e : ls (.p a b) = min (ls a + ls b) CC := rfl; have := CCe; omega
theorem Gd.f0 {a b : Sh} (h : Gd (.f a b)) : lc b ≤ 300 ∧ lc b = ns b + ls b ∧ ls (.f a b) = cv a * lc b ∧ cv a ≤ 64 := by
  have h0 := h.ls_
  have e : ls (.f a b) = min (cv a * lc b) CC := rfl
  have e2 : lc b = min (ls b + ns b) CC := rfl
  have e3 : rwk (.f a b) = max (max (rwk a) (rwk b)) (cv a) := rfl
  have h4 := h.rw_
  have h1 : 1 ≤ cv a := cv_pos h.ok.1
  have h3 : lc b ≤ cv a * lc b := Nat.le_mul_of_pos_left _ h1
  have := CCe
  have h5 : lc b ≤ 300 := by omega
  exact ⟨h5, by omega, by omega, by omega⟩
theorem Gd.f2 {a b : Sh} (h : Gd (.f a b)) : Gd b := ⟨h.ok.2, by have := h.rw_; have e : rwk (.f a b) = max (max (rwk a) (rwk b)) (cv a) := rfl; omega, by have := h.f0; omega⟩
theorem Gd.lt {s : Sh} (h : Gd s) : ls s < CC := by have := h.ls_; have := CCe; omega
theorem Gd.lcE {s : Sh} (h : Gd s) : lc s = ns s + ls s := by
  have e2 : lc s = min (ls s + ns s) CC := rfl
  have := h.ls_; have := CCe
  have h1 : ns s ≤ 1 := by unfold ns; split <;> omega
  omega
theorem lasA_len {s : Sh} (h : Gd s) : (lasA s).length = lc s := by
  unfold lasA
  rw [List.length_append, preL_len, lasI_len h.ok h.lt, h.lcE]
theorem shw_ls : ∀ {s : Sh}, shw s = true → ls s < CC → 1 ≤ ls s
  | .i n, h, _ => by
    have h' : 2 ≤ n := of_decide_eq_true h
    show 1 ≤ if 2 ≤ n then 1 else 0
    rw [if_pos h']; omega
  | .p a b, h, k => by
    have k' : min (ls a + ls b) CC < CC := k
    have := CCe
    show 1 ≤ min (ls a + ls b) CC
    rcases Bool.or_eq_true_iff.mp (show (shw a || shw b) = true from h) with h1 | h1
    · have := shw_ls h1 (by omega); omega
    · have := shw_ls h1 (by omega); omega
  | .f a b, h, _ => by cases h
theorem lc_pos {s : Sh} (h : Gd s) : 1 ≤ lc s := by
  rw [h.lcE]
  cases e : shw s with
  | true => have := shw_ls e h.lt; omega
  | false => have : ns s = 1 := by unfold ns; rw [e]; rfl
             omega
/-! ### what all looks find in an outcome -/
def preF (s : Sh) : List Fo := if shw s = true then [] else [(false, 0)]
def FaO (n : Nat) (pre : List Fo) (R : D → List Fo → Prop) (d : D) (fs : List Fo) : Prop := (∃ k : Nat, k < 2 ∧ d = er k ∧ fs = List.replicate n (true, k)) ∨ ∃ x gs, d = vl x ∧ R x gs ∧ fs = pre ++ gs
def Fi : Sh → D → List Fo → Prop
  | .i n, d, fs => ∃ k : Nat, d = .int k ∧ k < n ∧ fs = if 2 ≤ n then [(false, k)] else []
  | .p a b, d, fs => ∃ x y gs hs, d = .tuple [x, y] ∧ Fi a x gs ∧ Fi b y hs ∧ fs = gs ++ hs
  | .f a b, d, fs => ∃ rows gss, d = .tuple rows ∧ rows.length = cv a ∧ All2 (FaO (lc b) (preF b) (Fi b)) rows gss ∧ fs = gss.flatten
abbrev Fa (s : Sh) : D → List Fo → Prop := FaO (lc s) (preF s) (Fi s)
def Okf (s : Sh) (fs : List Fo) : Prop := All2 bnd (lasA s) fs
theorem all2_rep {n : Nat} {R : Nat → Fo → Prop} {o : Fo} : ∀ {l : List Nat}, l.length = n → (∀ x, R x o) → All2 R l (List.replicate n o)
  | [], h, f => by subst h; exact .nil
  | x :: l, h, f => by subst h; exact .cons (f x) (all2_rep rfl f)
theorem pre_ok (s : Sh) : All2 bnd (preL s) (preF s) := by
  unfold preL preF
  split
  · exact .nil
  · exact .cons (show 0 < 1 by omega) .nil
theorem all2_joinL {l : List Nat} {R : Nat → Fo → Prop} : ∀ {gss : List (List Fo)}, (∀ gs ∈ gss, All2 R l gs) → All2 R (List.replicate gss.length l).flatten gss.flatten
  | [], _ => .nil
  | gs :: gss, h => by
    rw [List.length_cons, List.replicate_succ, List.flatten_cons, List.flatten_cons]
    exact (h gs List.mem_cons_self).app (all2_joinL fun g hg => h g (List.mem_cons_of_mem _ hg))
theorem Fi.okf : ∀ {s : Sh} {d : D} {fs : List Fo}, Gd s → Fi s d fs → All2 bnd (lasI s) fs
  | .i n, d, fs, _, ⟨k, _, hk, e⟩ => by
    subst e
    show All2 bnd (if 2 ≤ n then [n] else []) (if 2 ≤ n then [(false, k)] else [])
    split
    · exact .cons hk .nil
    · exact .nil
  | .p a b, d, fs, h, ⟨x, y, gs, hs, _, h1, h2, e⟩ => by
    subst e
    exact (Fi.okf h.p1 h1).app (Fi.okf h.p2 h2)
  | .f a b, d, fs, h, ⟨rows, gss, _, hl, h1, e⟩ => by
    subst e
    have hb := h.f2
    have one : ∀ gs ∈ gss, All2 bnd (preL b ++ lasI b) gs := by
      have : ∀ {rows : List D} {gss : List (List Fo)}, All2 (FaO (lc b) (preF b) (Fi b)) rows gss → ∀ gs ∈ gss, All2 bnd (preL b ++ lasI b) gs := by
        intro rows gss h1
        induction h1 with
        | nil => intro gs h; cases h
        | cons h _ ih =>
          intro gs hg
          rcases List.mem_cons.mp hg with rfl | hg
          · rcases h with ⟨k, hk, _, rfl⟩ | ⟨x, gs, _, h, rfl⟩
            · exact all2_rep (lasA_len hb) fun _ => hk
            · exact (pre_ok b).app (Fi.okf hb h)
          · exact ih gs hg
      exact this h1
    show All2 bnd (List.replicate (cv a) (preL b ++ lasI b)).flatten gss.flatten
    rw [← hl, h1.len]
    exact all2_joinL one
theorem Fa.okf {s : Sh} {d : D} {fs : List Fo} (h : Gd s) (f : Fa s d fs) : Okf s fs := by
  rcases f with ⟨k, hk, _, rfl⟩ | ⟨x, gs, _, f, rfl⟩
  · exact all2_rep (lasA_len h) fun _ => hk
  · exact (pre_ok s).app (Fi.okf h f)
/-! ### decoding -/
def decG (sh : Bool) (g : List Fo → Option D) : List Fo → Option D
  | [] => none
  | o :: fs => if (o.1 && fs.all fun x => decide (x = o)) = true then some (fd o) else if sh = true then (g (o :: fs)).map vl else if o.1 = true then none else (g fs).map vl
def rowsG (g : List Fo → Option D) (m : Nat) : Nat → List Fo → Option (List D)
  | 0, _ => some []
  | k + 1, fs => (g (fs.take m)).bind fun r => (rowsG g m k (fs.drop m)).map (r :: ·)
def decV : Sh → List Fo → Option D
  | .i _, fs => (match fs with
    | [] => some (.int 0)
    | o :: _ => if o.1 = true then none else some (.int o.2))
  | .p a b, fs => (decV a (fs.take (ls a))).bind fun x => (decV b (fs.drop (ls a))).map fun y => .tuple [x, y]
  | .f a b, fs => (rowsG (decG (shw b) (decV b)) (lc b) (cv a) fs).map .tuple
def decO (s : Sh) : List Fo → Option D := decG (shw s) (decV s)
theorem all_rep {o : Fo} : ∀ {fs : List Fo}, (fs.all fun x => decide (x = o)) = true → fs = List.replicate fs.length o
  | [], _ => rfl
  | x :: fs, h => by
    rw [List.all_cons, Bool.and_eq_true] at h
    have h1 : x = o := of_decide_eq_true h.1
    have h2 := all_rep h.2
    rw [List.length_cons, List.replicate_succ, h1, ← h2]
theorem decG_fa {s : Sh} (h : Gd s) (ih : ∀ {fs : List Fo} {d : D}, All2 bnd (lasI s) fs → decV s fs = some d → Fi s d fs) {fs : List Fo} {d : D} (hk : Okf s fs) (e : decO s fs = some d) : Fa s d fs := by
  have hl : fs.length = lc s := by rw [← hk.len, lasA_len h]
  cases fs with
  | nil => cases e
  | cons o fs =>
    have e' : (if (o.1 && fs.all fun x => decide (x = o)) = true then some (fd o) else if shw s = true then (decV s (o :: fs)).map vl else if o.1 = true then none else (decV s fs).map vl) = some d := e
    by_cases c : (o.1 && fs.all fun x => decide (x = o)) = true
    · rw [if_pos c] at e'
      cases e'
      have c' := Bool.and_eq_true_iff.mp c
      obtain ⟨b, k⟩ := o
      have hb : b = true := c'.1
      subst hb
      refine .inl ⟨k, ?_, rfl, ?_⟩
      · obtain ⟨h1, h2⟩ := (show ∃ n l, lasA s = n :: l ∧ bnd n (true, k) from by
          unfold Okf at hk
          cases hq : lasA s with
          | nil => rw [hq] at hk; cases hk
          | cons n l => rw [hq] at hk; cases hk with | cons h _ => exact ⟨n, l, rfl, h⟩)
        obtain ⟨l, _, h3⟩ := h2
        exact h3
      · rw [← hl, List.length_cons, List.replicate_succ]
        congr 1
        exact all_rep c'.2
    · rw [if_neg c] at e'
      by_cases hs : shw s = true
      · rw [if_pos hs] at e'
        obtain ⟨x, hx, rfl⟩ := Option.map_eq_some_iff.mp e'
        refine .inr ⟨x, o :: fs, rfl, ih ?_ hx, ?_⟩
        · have : lasA s = lasI s := by unfold lasA preL; rw [if_pos hs]; rfl
          rw [← this]; exact hk
        · unfold preF; rw [if_pos hs]; rfl
      · rw [if_neg hs] at e'
        by_cases ho : o.1 = true
        · rw [if_pos ho] at e'; cases e'
        · rw [if_neg ho] at e'
          obtain ⟨x, hx, rfl⟩ := Option.map_eq_some_iff.mp e'
          have hA : lasA s = 1 :: lasI s := by unfold lasA preL; rw [if_neg hs]; rfl
          unfold Okf at hk
          rw [hA] at hk
          cases hk with
          | cons hb ht =>
            refine .inr ⟨x, fs, rfl, ih ht hx, ?_⟩
            obtain ⟨b, k⟩ := o
            have hbf : b = false := by cases b <;> first | rfl | exact absurd rfl ho
            subst hbf
            have hk0 : k < 1 := hb
            have : k = 0 := by omega
            subst this
            unfold preF; rw [if_neg hs]; rfl
theorem rows_fa {b : Sh} (h : Gd b) (ih : ∀ {fs : List Fo} {d : D}, Okf b fs → decO b fs = some d → Fa b d fs) : ∀ {n : Nat} {fs : List Fo} {rows : List D}, All2 bnd (List.replicate n (lasA b)).flatten fs → rowsG (decO b) (lc b) n fs = some rows → rows.length = n ∧ ∃ gss, All2 (Fa b) rows gss ∧ fs = gss.flatten
  | 0, fs, rows, hk, e => by
    cases e
    cases hk
    exact ⟨rfl, [], .nil, rfl⟩
  | n + 1, fs, rows, hk, e => by
    rw [List.replicate_succ, List.flatten_cons] at hk
    obtain ⟨h1, h2⟩ := hk.split
    rw [lasA_len h] at h1 h2
    obtain ⟨r, hr, e2⟩ := Option.bind_eq_some_iff.mp (show ((decO b (fs.take (lc b))).bind fun r => (rowsG (decO b) (lc b) n (fs.drop (lc b))).map (r :: ·)) = some rows from e)
    obtain ⟨rs, hrs, rfl⟩ := Option.map_eq_some_iff.mp e2
    obtain ⟨hl, gss, h3, h4⟩ := rows_fa h ih h2 hrs
    refine ⟨by rw [List.length_cons, hl], fs.take (lc b) :: gss, .cons (ih h1 hr) h3, ?_⟩
    rw [List.flatten_cons, ← h4, List.take_append_drop]
theorem decV_fi : ∀ {s : Sh}, Gd s → ∀ {fs : List Fo} {d : D}, All2 bnd (lasI s) fs → decV s fs = some d → Fi s d fs
  | .i n, h, fs, d, hk, e => by
    have hn : 1 ≤ n := h.ok.1
    have hk' : All2 bnd (if 2 ≤ n then [n] else []) fs := hk
    by_cases c : 2 ≤ n
    · rw [if_pos c] at hk'
      cases hk' with
      | cons hb ht =>
        cases ht
        rename_i o
        have e' : (if o.1 = true then none else some (PyData.int o.2)) = some d := e
        obtain ⟨b, k⟩ := o
        cases b with
        | true => cases e'
        | false =>
          cases e'
          exact ⟨k, rfl, hb, by rw [if_pos c]⟩
    · rw [if_neg c] at hk'
      cases hk'
      cases e
      exact ⟨0, rfl, by omega, by rw [if_neg c]⟩
  | .p a b, h, fs, d, hk, e => by
    obtain ⟨h1, h2⟩ := All2.split (xs := lasI a) (xs' := lasI b) hk
    rw [lasI_len h.p1.ok h.p1.lt] at h1 h2
    obtain ⟨x, hx, e2⟩ := Option.bind_eq_some_iff.mp (show ((decV a (fs.take (ls a))).bind fun x => (decV b (fs.drop (ls a))).map fun y => PyData.tuple [x, y]) = some d from e)
    obtain ⟨y, hy, rfl⟩ := Option.map_eq_some_iff.mp e2
    exact ⟨x, y, _, _, rfl, decV_fi h.p1 h1 hx, decV_fi h.p2 h2 hy, (List.take_append_drop _ _).symm⟩
  | .f a b, h, fs, d, hk, e => by
    obtain ⟨rows, hr, rfl⟩ := Option.map_eq_some_iff.mp (show (rowsG (decO b) (lc b) (cv a) fs).map PyData.tuple = some d from e)
    obtain ⟨hl, gss, h1, h2⟩ := rows_fa h.f2 (fun hk e => decG_fa h.f2 (decV_fi h.f2) hk e) hk hr
    exact ⟨rows, gss, rfl, hl, h1, h2⟩
theorem decO_fa {s : Sh} (h : Gd s) {fs : List Fo} {d : D} (hk : Okf s fs) (e : decO s fs = some d) : Fa s d fs := decG_fa h (decV_fi h) hk e
end L2.Zd.Lib

set_option Elab.async false
set_option linter.all false
set_option maxRecDepth 100000
set_option maxHeartbeats 2000000
namespace L2.Zd.Lib
open PySem PySem.Spec PyProof.Rows L2.Zd
/-! ### sums of looks, both -/
abbrev SumS (f : FM) (n : Nat) : Prop := ∀ (s : Sh) (Q : Bool → D → List D → Prop), s.ok → s.h ≤ n → Q false (.int (ls s)) [] → FnP f [s.d] Q
abbrev LcS (f : FM) (n : Nat) : Prop := ∀ (s : Sh) (Q : Bool → D → List D → Prop), s.ok → s.h ≤ n → Q false (.int (lc s)) [] → FnP f [s.d] Q
theorem ls_le : ∀ {s : Sh}, ls s ≤ CC
  | .i n => by show (if 2 ≤ n then 1 else 0) ≤ CC; have := CCe; split <;> omega
  | .p a b => Nat.min_le_right _ _
  | .f a b => Nat.min_le_right _ _
theorem lc_le {s : Sh} : lc s ≤ CC := Nat.min_le_right _ _
theorem ns_int (s : Sh) : (if (!shw s) = true then (1 : Int) else 0) = (ns s : Int) := by
  unfold ns; cases shw s <;> rfl
theorem ge_int (k : Nat) : (if decide ((2 : Int) ≤ (k : Int)) = true then (1 : Int) else 0) = ((ls (.i k) : Nat) : Int) := by
  show _ = (((if 2 ≤ k then 1 else 0 : Nat)) : Int)
  by_cases h : 2 ≤ k
  · rw [if_pos h, if_pos (decide_eq_true (by omega))]; rfl
  · rw [if_neg h, if_neg (by rw [decide_eq_true_eq]; omega)]; rfl
theorem lc_int (s : Sh) : ((lc s : Nat) : Int) = min ((ls s : Int) + (ns s : Int)) 1000000000 := by
  show ((min (ls s + ns s) CC : Nat) : Int) = _
  rw [castMin, Int.natCast_add]; rfl
theorem lsp_int (a b : Sh) : ((ls (.p a b) : Nat) : Int) = min ((ls a : Int) + (ls b : Int)) 1000000000 := by
  show ((min (ls a + ls b) CC : Nat) : Int) = _
  rw [castMin, Int.natCast_add]; rfl
theorem lsf_int (a b : Sh) : ((ls (.f a b) : Nat) : Int) = min ((cv a : Int) * (lc b : Int)) 1000000000 := by
  show ((min (cv a * lc b) CC : Nat) : Int) = _
  rw [castMin, Int.natCast_mul]; rfl
theorem hle {a b : Sh} {n : Nat} (hh : max a.h b.h + 1 ≤ n + 1) : a.h ≤ n ∧ b.h ≤ n := by omega
theorem lcnt_s {f g : FM} {n : Nat} (hf : SumS f n) (hg : ShowS g n) : LcS (f_l_look_count f g) n := by
  intro s Q hs hh hQ
  have b1 : ls s ≤ CC := ls_le
  have b2 := CCe
  rw [lc_int] at hQ
  unfold f_l_look_count
  (with_reducible refine FnP_mk [.fr s.d] [] ?_ ?_ ?_)
  · rfl
  · rfl
  unfold b_l_look_count
  repeat (first|((with_reducible refine Yb (d:=?_) ?_ ?_);rotate_left 1;exact rfl)|(with_reducible first|refine J2 ?_|refine J5 ?_|refine J6 ?_|refine J7 ?_|refine J8 ?_|refine Ja ?_|refine Jb ?_)|((with_reducible refine Yy (d:=?_) (s:=?_) ?_ ?_);rotate_left 2;exact rfl)|((with_reducible refine Xb (a:=?_) ?_ ?_);rotate_left 1;exact rfl))
  (with_reducible refine hf _ _ hs hh ?_)
  repeat (first|((with_reducible refine Yb (d:=?_) ?_ ?_);rotate_left 1;exact rfl)|(with_reducible first|refine J6 ?_|refine J7 ?_|refine J8 ?_|refine Ja ?_|refine Jb ?_|refine Jn ?_)|((with_reducible refine Yy (d:=?_) (s:=?_) ?_ ?_);rotate_left 2;exact rfl)|((with_reducible refine Xb (a:=?_) ?_ ?_);rotate_left 1;exact rfl))
  (with_reducible refine hg _ _ hh ?_)
  repeat (first|((with_reducible refine Yl (a:=?_) ?_ ?_);rotate_left 1;exact rfl)|((with_reducible first|refine Yr (d:=?_) (e:=?_) ?_ ?_ ?_|refine Ys (d:=?_) (o:=?_) ?_ ?_ ?_);rotate_left 2;exact rfl;exact rfl)|(with_reducible first|refine J1 ?_|refine J2 ?_|refine J7 ?_|refine J8 ?_|refine Ug ?_|refine Uo ?_)|((with_reducible refine Xb (a:=?_) ?_ ?_);rotate_left 1;exact rfl))
  rw [ns_int]
  exact hQ
theorem pcnt_s {f g : FM} {n : Nat} (hf : SumS f n) (hg : ShowS g n) : LcS (f_count_observations f_cut f g) n := by
  intro s Q hs hh hQ
  have b1 : ls s ≤ CC := ls_le
  have b2 := CCe
  rw [lc_int] at hQ
  unfold f_count_observations
  (with_reducible refine FnP_mk [.fr s.d] [] ?_ ?_ ?_)
  · rfl
  · rfl
  unfold b_count_observations
  repeat (first|((with_reducible refine Yb (d:=?_) ?_ ?_);rotate_left 1;exact rfl)|(with_reducible first|refine J2 ?_|refine J5 ?_|refine J6 ?_|refine J7 ?_|refine J8 ?_|refine Jb ?_)|((with_reducible refine Yy (d:=?_) (s:=?_) ?_ ?_);rotate_left 2;exact rfl)|((with_reducible refine Xb (a:=?_) ?_ ?_);rotate_left 1;exact rfl))
  (with_reducible refine hf _ _ hs hh ?_)
  repeat (first|((with_reducible refine Yb (d:=?_) ?_ ?_);rotate_left 1;exact rfl)|(with_reducible first|refine J6 ?_|refine J7 ?_|refine J8 ?_|refine Ja ?_|refine Jb ?_|refine Jn ?_)|((with_reducible refine Yy (d:=?_) (s:=?_) ?_ ?_);rotate_left 2;exact rfl)|((with_reducible refine Xb (a:=?_) ?_ ?_);rotate_left 1;exact rfl))
  (with_reducible refine hg _ _ hh ?_)
  repeat (first|((with_reducible refine Yl (a:=?_) ?_ ?_);rotate_left 1;exact rfl)|((with_reducible refine Yr (d:=?_) (e:=?_) ?_ ?_ ?_);rotate_left 2;exact rfl;exact rfl)|(with_reducible refine J8 ?_)|((with_reducible refine Yy (d:=?_) (s:=?_) ?_ ?_);rotate_left 2;exact rfl)|((with_reducible refine Xb (a:=?_) ?_ ?_);rotate_left 1;exact rfl))
  (with_reducible refine cut_s ?_)
  repeat (first|((with_reducible refine Ys (d:=?_) (o:=?_) ?_ ?_ ?_);rotate_left 2;exact rfl;exact rfl))
  rw [ns_int]
  exact hQ
theorem lsum_leaf {f g h : FM} {k : Nat} {Q : Bool → D → List D → Prop} (hQ : Q false (.int (ls (.i k))) []) : FnP (f_l_look_sum f g h) [.int k] Q := by
  rw [← ge_int] at hQ
  unfold f_l_look_sum
  (with_reducible refine FnP_mk [.fr (.int k)] [] ?_ ?_ ?_)
  · rfl
  · rfl
  unfold b_l_look_sum
  repeat (first|((with_reducible first|refine Yb (d:=?_) ?_ ?_|refine Yl (a:=?_) ?_ ?_|refine Yn (b:=?_) ?_ ?_);rotate_left 1;exact rfl)|((with_reducible first|refine Yr (d:=?_) (e:=?_) ?_ ?_ ?_|refine Ys (d:=?_) (o:=?_) ?_ ?_ ?_);rotate_left 2;exact rfl;exact rfl)|(with_reducible first|refine J0 ?_|refine J1 ?_|refine J2 ?_|refine J4 ?_|refine J5 ?_|refine J7 ?_|refine J8 ?_|refine Ja ?_|refine Jh ?_|refine Jo ?_|refine U8 ?_|refine Ue ?_)|((with_reducible refine Xb (a:=?_) ?_ ?_);rotate_left 1;exact rfl))
  exact hQ
theorem lsum_s0 (f g h : FM) : SumS (f_l_look_sum f g h) 0 := by
  intro s Q hs hh hQ
  cases s with
  | i k => exact lsum_leaf hQ
  | p a b => exact absurd hh (Nat.not_succ_le_zero _)
  | f a b => exact absurd hh (Nat.not_succ_le_zero _)
theorem lsum_s {f g h : FM} {n : Nat} (hf : SumS f n) (hg : CountS g n) (hl : LcS h n) : SumS (f_l_look_sum f g h) (n + 1) := by
  intro s Q hs hh hQ
  cases s with
  | i k => exact lsum_leaf hQ
  | p a b =>
    have h1 := hle hh
    have hsa : a.ok := hs.1
    have hsb : b.ok := hs.2
    rw [lsp_int] at hQ
    unfold f_l_look_sum
    (with_reducible refine FnP_mk [.fr (.tuple [.str "pair", a.d, b.d])] [] ?_ ?_ ?_)
    · rfl
    · rfl
    unfold b_l_look_sum
    repeat (first|((with_reducible first|refine Yb (d:=?_) ?_ ?_|refine Yc (b:=?_) ?_ ?_|refine Yl (a:=?_) ?_ ?_|refine Yn (b:=?_) ?_ ?_);rotate_left 1;exact rfl)|((with_reducible refine Yr (d:=?_) (e:=?_) ?_ ?_ ?_);rotate_left 2;exact rfl;exact rfl)|(with_reducible first|refine J0 ?_|refine J1 ?_|refine J2 ?_|refine J4 ?_|refine J5 ?_|refine J7 ?_|refine J8 ?_|refine J9 ?_|refine Ja ?_|refine Jb ?_|refine Je ?_|refine Jh ?_|refine Jo ?_|refine U9 ?_|refine Uj ?_)|((with_reducible refine X7 ?_ ?_);exact rfl)|((with_reducible refine Xb (a:=?_) ?_ ?_);rotate_left 1;exact rfl))
    (with_reducible refine hf _ _ hsa h1.1 ?_)
    repeat (first|((with_reducible refine Yb (d:=?_) ?_ ?_);rotate_left 1;exact rfl)|((with_reducible refine Yr (d:=?_) (e:=?_) ?_ ?_ ?_);rotate_left 2;exact rfl;exact rfl)|(with_reducible first|refine J1 ?_|refine J2 ?_|refine J7 ?_|refine J8 ?_|refine Jb ?_)|((with_reducible refine Xb (a:=?_) ?_ ?_);rotate_left 1;exact rfl))
    (with_reducible refine hf _ _ hsb h1.2 ?_)
    repeat (first|((with_reducible refine Yl (a:=?_) ?_ ?_);rotate_left 1;exact rfl)|((with_reducible first|refine Yr (d:=?_) (e:=?_) ?_ ?_ ?_|refine Ys (d:=?_) (o:=?_) ?_ ?_ ?_);rotate_left 2;exact rfl;exact rfl)|(with_reducible first|refine J1 ?_|refine J2 ?_|refine J7 ?_|refine J8 ?_|refine Ug ?_|refine Uo ?_)|((with_reducible refine Xb (a:=?_) ?_ ?_);rotate_left 1;exact rfl))
    exact hQ
  | f a b =>
    have h1 := hle hh
    have hsa : a.ok := hs.1
    have hsb : b.ok := hs.2
    have b1 := cv2_lt hsa
    have b2 : lc b ≤ CC := lc_le
    have b3 := CCe
    rw [lsf_int] at hQ
    unfold f_l_look_sum
    (with_reducible refine FnP_mk [.fr (.tuple [.str "to", a.d, b.d])] [] ?_ ?_ ?_)
    · rfl
    · rfl
    unfold b_l_look_sum
    repeat (first|((with_reducible first|refine Yb (d:=?_) ?_ ?_|refine Yc (b:=?_) ?_ ?_|refine Yl (a:=?_) ?_ ?_|refine Yn (b:=?_) ?_ ?_);rotate_left 1;exact rfl)|((with_reducible refine Yr (d:=?_) (e:=?_) ?_ ?_ ?_);rotate_left 2;exact rfl;exact rfl)|(with_reducible first|refine J0 ?_|refine J1 ?_|refine J2 ?_|refine J4 ?_|refine J5 ?_|refine J7 ?_|refine J8 ?_|refine J9 ?_|refine Ja ?_|refine Jb ?_|refine Je ?_|refine Jh ?_|refine Jo ?_|refine U9 ?_|refine Uj ?_)|((with_reducible refine X7 ?_ ?_);exact rfl)|((with_reducible refine Xa ?_ ?_);exact rfl)|((with_reducible refine Xb (a:=?_) ?_ ?_);rotate_left 1;exact rfl))
    (with_reducible refine hg _ _ hsa h1.1 ?_)
    repeat (first|((with_reducible refine Yb (d:=?_) ?_ ?_);rotate_left 1;exact rfl)|((with_reducible refine Yr (d:=?_) (e:=?_) ?_ ?_ ?_);rotate_left 2;exact rfl;exact rfl)|(with_reducible first|refine J1 ?_|refine J2 ?_|refine J7 ?_|refine J8 ?_|refine Jb ?_)|((with_reducible refine Xb (a:=?_) ?_ ?_);rotate_left 1;exact rfl))
    (with_reducible refine hl _ _ hsb h1.2 ?_)
    repeat (first|((with_reducible refine Yl (a:=?_) ?_ ?_);rotate_left 1;exact rfl)|((with_reducible first|refine Yr (d:=?_) (e:=?_) ?_ ?_ ?_|refine Ys (d:=?_) (o:=?_) ?_ ?_ ?_);rotate_left 2;exact rfl;exact rfl)|(with_reducible first|refine J1 ?_|refine J2 ?_|refine J7 ?_|refine J8 ?_|refine Ug ?_|refine Uo ?_|refine Uz ?_ (by first|(left;constructor<;>omega)|(right;constructor<;>omega))))
    exact hQ
theorem psum_leaf {f g h : FM} {k : Nat} {Q : Bool → D → List D → Prop} (hQ : Q false (.int (ls (.i k))) []) : FnP (f_count_value_observations f_cut f g h) [.int k] Q := by
  rw [← ge_int] at hQ
  unfold f_count_value_observations
  (with_reducible refine FnP_mk [.fr (.int k)] [] ?_ ?_ ?_)
  · rfl
  · rfl
  unfold b_count_value_observations
  repeat (first|((with_reducible first|refine Yb (d:=?_) ?_ ?_|refine Yl (a:=?_) ?_ ?_|refine Ym (b:=?_) ?_ ?_);rotate_left 1;exact rfl)|((with_reducible first|refine Yr (d:=?_) (e:=?_) ?_ ?_ ?_|refine Ys (d:=?_) (o:=?_) ?_ ?_ ?_);rotate_left 2;exact rfl;exact rfl)|(with_reducible first|refine J0 ?_|refine J1 ?_|refine J2 ?_|refine J4 ?_|refine J5 ?_|refine J7 ?_|refine J8 ?_|refine Ja ?_|refine Jh ?_|refine Ji ?_|refine Jo ?_|refine U9 ?_|refine Ua ?_|refine Ue ?_)|((with_reducible refine Xb (a:=?_) ?_ ?_);rotate_left 1;exact rfl))
  exact hQ
theorem psum_s0 (f g h : FM) : SumS (f_count_value_observations f_cut f g h) 0 := by
  intro s Q hs hh hQ
  cases s with
  | i k => exact psum_leaf hQ
  | p a b => exact absurd hh (Nat.not_succ_le_zero _)
  | f a b => exact absurd hh (Nat.not_succ_le_zero _)
theorem psum_s {f g h : FM} {n : Nat} (hf : SumS f n) (hg : CountS g n) (hl : LcS h n) : SumS (f_count_value_observations f_cut f g h) (n + 1) := by
  intro s Q hs hh hQ
  cases s with
  | i k => exact psum_leaf hQ
  | p a b =>
    have h1 := hle hh
    have hsa : a.ok := hs.1
    have hsb : b.ok := hs.2
    rw [lsp_int] at hQ
    unfold f_count_value_observations
    (with_reducible refine FnP_mk [.fr (.tuple [.str "pair", a.d, b.d])] [] ?_ ?_ ?_)
    · rfl
    · rfl
    unfold b_count_value_observations
    repeat (first|((with_reducible first|refine Yb (d:=?_) ?_ ?_|refine Yc (b:=?_) ?_ ?_|refine Yl (a:=?_) ?_ ?_|refine Ym (b:=?_) ?_ ?_);rotate_left 1;exact rfl)|((with_reducible refine Yr (d:=?_) (e:=?_) ?_ ?_ ?_);rotate_left 2;exact rfl;exact rfl)|(with_reducible first|refine J0 ?_|refine J1 ?_|refine J2 ?_|refine J4 ?_|refine J5 ?_|refine J6 ?_|refine J7 ?_|refine J8 ?_|refine J9 ?_|refine Jb ?_|refine Je ?_|refine Jh ?_|refine Ji ?_|refine Jo ?_|refine U8 ?_|refine Ua ?_|refine Uj ?_)|((with_reducible refine X7 ?_ ?_);exact rfl)|((with_reducible refine Xb (a:=?_) ?_ ?_);rotate_left 1;exact rfl))
    (with_reducible refine hf _ _ hsa h1.1 ?_)
    repeat (first|((with_reducible refine Yb (d:=?_) ?_ ?_);rotate_left 1;exact rfl)|((with_reducible refine Yr (d:=?_) (e:=?_) ?_ ?_ ?_);rotate_left 2;exact rfl;exact rfl)|(with_reducible first|refine J1 ?_|refine J2 ?_|refine J7 ?_|refine J8 ?_|refine Jb ?_)|((with_reducible refine Xb (a:=?_) ?_ ?_);rotate_left 1;exact rfl))
    (with_reducible refine hf _ _ hsb h1.2 ?_)
    repeat (first|((with_reducible refine Yr (d:=?_) (e:=?_) ?_ ?_ ?_);rotate_left 2;exact rfl;exact rfl)|(with_reducible refine J8 ?_)|((with_reducible refine Yy (d:=?_) (s:=?_) ?_ ?_);rotate_left 2;exact rfl)|((with_reducible refine Xb (a:=?_) ?_ ?_);rotate_left 1;exact rfl))
    (with_reducible refine cut_s ?_)
    repeat (first|((with_reducible refine Ys (d:=?_) (o:=?_) ?_ ?_ ?_);rotate_left 2;exact rfl;exact rfl))
    exact hQ
  | f a b =>
    have h1 := hle hh
    have hsa : a.ok := hs.1
    have hsb : b.ok := hs.2
    have b1 := cv2_lt hsa
    have b2 : lc b ≤ CC := lc_le
    have b3 := CCe
    rw [lsf_int] at hQ
    unfold f_count_value_observations
    (with_reducible refine FnP_mk [.fr (.tuple [.str "to", a.d, b.d])] [] ?_ ?_ ?_)
    · rfl
    · rfl
    unfold b_count_value_observations
    repeat (first|((with_reducible first|refine Yb (d:=?_) ?_ ?_|refine Yc (b:=?_) ?_ ?_|refine Yl (a:=?_) ?_ ?_|refine Ym (b:=?_) ?_ ?_);rotate_left 1;exact rfl)|((with_reducible refine Yr (d:=?_) (e:=?_) ?_ ?_ ?_);rotate_left 2;exact rfl;exact rfl)|(with_reducible first|refine J0 ?_|refine J1 ?_|refine J2 ?_|refine J4 ?_|refine J5 ?_|refine J7 ?_|refine J8 ?_|refine J9 ?_|refine Jb ?_|refine Je ?_|refine Jh ?_|refine Ji ?_|refine Jo ?_|refine U8 ?_|refine Ua ?_|refine Uj ?_)|((with_reducible refine X7 ?_ ?_);exact rfl)|((with_reducible refine Xa ?_ ?_);exact rfl)|((with_reducible refine Xb (a:=?_) ?_ ?_);rotate_left 1;exact rfl))
    (with_reducible refine hg _ _ hsa h1.1 ?_)
    repeat (first|((with_reducible refine Yb (d:=?_) ?_ ?_);rotate_left 1;exact rfl)|((with_reducible refine Yr (d:=?_) (e:=?_) ?_ ?_ ?_);rotate_left 2;exact rfl;exact rfl)|(with_reducible first|refine J1 ?_|refine J2 ?_|refine J7 ?_|refine J8 ?_|refine Jb ?_)|((with_reducible refine Xb (a:=?_) ?_ ?_);rotate_left 1;exact rfl))
    (with_reducible refine hl _ _ hsb h1.2 ?_)
    repeat (first|((with_reducible refine Yr (d:=?_) (e:=?_) ?_ ?_ ?_);rotate_left 2;exact rfl;exact rfl)|(with_reducible first|refine J8 ?_|refine Uz ?_ (by first|(left;constructor<;>omega)|(right;constructor<;>omega)))|((with_reducible refine Xb (a:=?_) ?_ ?_);rotate_left 1;exact rfl))
    (with_reducible refine cut_s ?_)
    repeat (first|((with_reducible refine Ys (d:=?_) (o:=?_) ?_ ?_ ?_);rotate_left 2;exact rfl;exact rfl))
    exact hQ
/-! ### the greatest count of a parameter -/
abbrev RowsS (f : FM) (n : Nat) : Prop := ∀ (s : Sh) (Q : Bool → D → List D → Prop), s.ok → s.h ≤ n → Q false (.int (rwk s)) [] → FnP f [s.d] Q
theorem castMax (a b : Nat) : ((max a b : Nat) : Int) = max (a : Int) (b : Int) := by omega
theorem rows_leaf {f g : FM} {k : Nat} {Q : Bool → D → List D → Prop} (hQ : Q false (.int 0) []) : FnP (f_l_shape_rows f g) [.int k] Q := by
  unfold f_l_shape_rows
  (with_reducible refine FnP_mk [.fr (.int k), .no] [] ?_ ?_ ?_)
  · rfl
  · rfl
  unfold b_l_shape_rows
  repeat (first|((with_reducible first|refine Yb (d:=?_) ?_ ?_|refine Yl (a:=?_) ?_ ?_|refine Yn (b:=?_) ?_ ?_);rotate_left 1;exact rfl)|((with_reducible refine Ys (d:=?_) (o:=?_) ?_ ?_ ?_);rotate_left 2;exact rfl;exact rfl)|(with_reducible first|refine J0 ?_|refine J1 ?_|refine J4 ?_|refine J5 ?_|refine Jh ?_|refine Jo ?_|refine U8 ?_)|((with_reducible refine Xb (a:=?_) ?_ ?_);rotate_left 1;exact rfl))
  exact hQ
theorem rows_s0 (f g : FM) : RowsS (f_l_shape_rows f g) 0 := by
  intro s Q hs hh hQ
  cases s with
  | i k => exact rows_leaf hQ
  | p a b => exact absurd hh (Nat.not_succ_le_zero _)
  | f a b => exact absurd hh (Nat.not_succ_le_zero _)
theorem rows_s {f g : FM} {n : Nat} (hf : RowsS f n) (hg : CountS g n) : RowsS (f_l_shape_rows f g) (n + 1) := by
  intro s Q hs hh hQ
  cases s with
  | i k => exact rows_leaf hQ
  | p a b =>
    have h1 := hle hh
    have hsa : a.ok := hs.1
    have hsb : b.ok := hs.2
    unfold f_l_shape_rows
    (with_reducible refine FnP_mk [.fr (.tuple [.str "pair", a.d, b.d]), .no] [] ?_ ?_ ?_)
    · rfl
    · rfl
    unfold b_l_shape_rows
    repeat (first|((with_reducible first|refine Yb (d:=?_) ?_ ?_|refine Yl (a:=?_) ?_ ?_|refine Yn (b:=?_) ?_ ?_);rotate_left 1;exact rfl)|((with_reducible refine Yr (d:=?_) (e:=?_) ?_ ?_ ?_);rotate_left 2;exact rfl;exact rfl)|(with_reducible first|refine J0 ?_|refine J1 ?_|refine J2 ?_|refine J3 ?_|refine J4 ?_|refine J7 ?_|refine J8 ?_|refine Ja ?_|refine Jb ?_|refine Je ?_|refine Jh ?_|refine Jo ?_|refine U9 ?_)|((with_reducible refine Xb (a:=?_) ?_ ?_);rotate_left 1;exact rfl))
    (with_reducible refine hf _ _ hsa h1.1 ?_)
    repeat (first|((with_reducible refine Yb (d:=?_) ?_ ?_);rotate_left 1;exact rfl)|((with_reducible refine Yr (d:=?_) (e:=?_) ?_ ?_ ?_);rotate_left 2;exact rfl;exact rfl)|(with_reducible first|refine J1 ?_|refine J2 ?_|refine J7 ?_|refine J8 ?_|refine Jb ?_)|((with_reducible refine Xb (a:=?_) ?_ ?_);rotate_left 1;exact rfl))
    (with_reducible refine hf _ _ hsb h1.2 ?_)
    repeat (first|((with_reducible first|refine Yb (d:=?_) ?_ ?_|refine Yc (b:=?_) ?_ ?_|refine Yl (a:=?_) ?_ ?_);rotate_left 1;exact rfl)|((with_reducible first|refine Yr (d:=?_) (e:=?_) ?_ ?_ ?_|refine Ys (d:=?_) (o:=?_) ?_ ?_ ?_);rotate_left 2;exact rfl;exact rfl)|(with_reducible first|refine J0 ?_|refine J1 ?_|refine J2 ?_|refine J4 ?_|refine J5 ?_|refine J8 ?_|refine J9 ?_|refine Je ?_|refine Uj ?_|refine Un ?_)|((with_reducible refine X7 ?_ ?_);exact rfl)|((with_reducible refine Xa ?_ ?_);exact rfl)|((with_reducible refine Xb (a:=?_) ?_ ?_);rotate_left 1;exact rfl))
    have e : ((rwk (.p a b) : Nat) : Int) = max (rwk a : Int) (rwk b : Int) := by
      show ((max (rwk a) (rwk b) : Nat) : Int) = _
      rw [castMax]
    rw [e] at hQ
    exact hQ
  | f a b =>
    have h1 := hle hh
    have hsa : a.ok := hs.1
    have hsb : b.ok := hs.2
    unfold f_l_shape_rows
    (with_reducible refine FnP_mk [.fr (.tuple [.str "to", a.d, b.d]), .no] [] ?_ ?_ ?_)
    · rfl
    · rfl
    unfold b_l_shape_rows
    repeat (first|((with_reducible first|refine Yb (d:=?_) ?_ ?_|refine Yl (a:=?_) ?_ ?_|refine Yn (b:=?_) ?_ ?_);rotate_left 1;exact rfl)|((with_reducible refine Yr (d:=?_) (e:=?_) ?_ ?_ ?_);rotate_left 2;exact rfl;exact rfl)|(with_reducible first|refine J0 ?_|refine J1 ?_|refine J2 ?_|refine J3 ?_|refine J4 ?_|refine J7 ?_|refine J8 ?_|refine Ja ?_|refine Jb ?_|refine Je ?_|refine Jh ?_|refine Jo ?_|refine U9 ?_)|((with_reducible refine Xb (a:=?_) ?_ ?_);rotate_left 1;exact rfl))
    (with_reducible refine hf _ _ hsa h1.1 ?_)
    repeat (first|((with_reducible refine Yb (d:=?_) ?_ ?_);rotate_left 1;exact rfl)|((with_reducible refine Yr (d:=?_) (e:=?_) ?_ ?_ ?_);rotate_left 2;exact rfl;exact rfl)|(with_reducible first|refine J1 ?_|refine J2 ?_|refine J7 ?_|refine J8 ?_|refine Jb ?_)|((with_reducible refine Xb (a:=?_) ?_ ?_);rotate_left 1;exact rfl))
    (with_reducible refine hf _ _ hsb h1.2 ?_)
    repeat (first|((with_reducible first|refine Yb (d:=?_) ?_ ?_|refine Yc (b:=?_) ?_ ?_|refine Yl (a:=?_) ?_ ?_);rotate_left 1;exact rfl)|((with_reducible refine Yr (d:=?_) (e:=?_) ?_ ?_ ?_);rotate_left 2;exact rfl;exact rfl)|(with_reducible first|refine J0 ?_|refine J1 ?_|refine J2 ?_|refine J3 ?_|refine J4 ?_|refine J7 ?_|refine J8 ?_|refine J9 ?_|refine Ja ?_|refine Jb ?_|refine Uj ?_|refine Un ?_)|((with_reducible refine X7 ?_ ?_);exact rfl)|((with_reducible refine Xb (a:=?_) ?_ ?_);rotate_left 1;exact rfl))
    (with_reducible refine hg _ _ hsa h1.1 ?_)
    repeat (first|((with_reducible first|refine Yb (d:=?_) ?_ ?_|refine Yl (a:=?_) ?_ ?_);rotate_left 1;exact rfl)|((with_reducible refine Ys (d:=?_) (o:=?_) ?_ ?_ ?_);rotate_left 2;exact rfl;exact rfl)|(with_reducible first|refine J5 ?_|refine J8 ?_|refine Un ?_)|((with_reducible refine Xb (a:=?_) ?_ ?_);rotate_left 1;exact rfl))
    have e : ((rwk (.f a b) : Nat) : Int) = max (max (rwk a : Int) (rwk b : Int)) (cv a : Int) := by
      show ((max (max (rwk a) (rwk b)) (cv a) : Nat) : Int) = _
      rw [castMax, castMax]
    rw [e] at hQ
    exact hQ
end L2.Zd.Lib

set_option Elab.async false
set_option linter.all false
set_option maxRecDepth 100000
set_option maxHeartbeats 2000000
namespace L2.Zd.Lib
open PySem PySem.Spec PyProof.Rows L2.Zd
/-! ### the values of a shape, their ranks -/
def outsL (vs : List D) : List D := vs.map vl ++ [er 0, er 1]
def tabs (rows : List D) : Nat → List (List D)
  | 0 => [[]]
  | n + 1 => (tabs rows n).flatMap fun t => rows.map fun r => t ++ [r]
def vals : Sh → List D
  | .i n => (List.range n).map fun k : Nat => .int k
  | .p a b => (vals a).flatMap fun v => (vals b).map fun w => .tuple [v, w]
  | .f a b => (tabs (outsL (vals b)) (vals a).length).map .tuple
def RkO (n : Nat) (R : D → Nat → Prop) (d : D) (k : Nat) : Prop := (∃ x, d = vl x ∧ R x k) ∨ ∃ e : Nat, d = er e ∧ k = n + e
def rkT (m : Nat) (js : List Nat) : Nat := js.foldl (fun t j => t * m + j) 0
def Rk : Sh → D → Nat → Prop
  | .i _, d, k => d = .int k
  | .p a b, d, k => ∃ x y i j, d = .tuple [x, y] ∧ Rk a x i ∧ Rk b y j ∧ k = i * cv b + j
  | .f _ b, d, k => ∃ rows js, d = .tuple rows ∧ All2 (RkO (cv b) (Rk b)) rows js ∧ k = rkT (cv b + 2) js
/-- items have the numbers of their places -/
def RkL {α : Type} (R : α → Nat → Prop) (st : Nat) (l : List α) : Prop := ∀ (i : Nat) (v : α), l[i]? = some v → R v (st + i)
section
variable {α β : Type} {R : α → Nat → Prop} {R' : β → Nat → Prop}
theorem RkL.nil {st : Nat} : RkL R st [] := fun i v h => by simp at h
theorem RkL.app {st : Nat} {l l' : List α} (h : RkL R st l) (h' : RkL R (st + l.length) l') : RkL R st (l ++ l') := fun i v e => by
  by_cases c : i < l.length
  · rw [List.getElem?_append_left c] at e; exact h i v e
  · rw [List.getElem?_append_right (by omega)] at e
    have := h' _ v e
    rwa [show st + l.length + (i - l.length) = st + i by omega] at this
theorem RkL.tail {st : Nat} {x : α} {l : List α} (h : RkL R st (x :: l)) : RkL R (st + 1) l := fun i v e => by
  have := h (i + 1) v (by simpa using e)
  rwa [show st + (i + 1) = st + 1 + i by omega] at this
theorem RkL.head {st : Nat} {x : α} {l : List α} (h : RkL R st (x :: l)) : R x st := h 0 x rfl
theorem RkL.flat {m : Nat} {f : α → List β} : ∀ {xs : List α} {st : Nat}, RkL R st xs → (∀ x ∈ xs, (f x).length = m) → (∀ x k, R x k → RkL R' (k * m) (f x)) → RkL R' (st * m) (xs.flatMap f)
  | [], st, _, _, _ => RkL.nil
  | x :: xs, st, h, hl, hf => by
    rw [List.flatMap_cons]
    refine (hf x st h.head).app ?_
    rw [hl x List.mem_cons_self, show st * m + m = (st + 1) * m by rw [Nat.add_mul, Nat.one_mul]]
    exact RkL.flat h.tail (fun y hy => hl y (List.mem_cons_of_mem _ hy)) hf
theorem RkL.map {st st' : Nat} {g : α → β} {l : List α} (h : RkL R st l) (f : ∀ x i, R x (st + i) → R' (g x) (st' + i)) : RkL R' st' (l.map g) := fun i v e => by
  rw [List.getElem?_map] at e
  obtain ⟨x, hx, rfl⟩ := Option.map_eq_some_iff.mp e
  exact f x i (h i x hx)
end
theorem flatMap_len {α β : Type} {f : α → List β} {m : Nat} : ∀ {xs : List α}, (∀ x ∈ xs, (f x).length = m) → (xs.flatMap f).length = xs.length * m
  | [], _ => by simp
  | x :: xs, h => by
    rw [List.flatMap_cons, List.length_append, h x List.mem_cons_self, flatMap_len fun y hy => h y (List.mem_cons_of_mem _ hy), List.length_cons, Nat.succ_mul]; omega
theorem tabs_len (rows : List D) : ∀ n, (tabs rows n).length = rows.length ^ n
  | 0 => rfl
  | n + 1 => by
    show ((tabs rows n).flatMap fun t => rows.map fun r => t ++ [r]).length = _
    rw [flatMap_len (m := rows.length) (fun x _ => by simp), tabs_len rows n, Nat.pow_succ]
theorem outsL_len (vs : List D) : (outsL vs).length = vs.length + 2 := by unfold outsL; simp
theorem cv_p {a b : Sh} (h : (Sh.p a b).ok) (c : cv (.p a b) < CC) : cv (.p a b) = cv a * cv b ∧ cv a ≤ cv (.p a b) ∧ cv b ≤ cv (.p a b) := by
  have e : cv (.p a b) = min (cv a * cv b) CC := rfl
  have h1 : cv a ≤ cv a * cv b := Nat.le_mul_of_pos_right _ (cv_pos h.2)
  have h2 : cv b ≤ cv a * cv b := Nat.le_mul_of_pos_left _ (cv_pos h.1)
  omega
theorem cv_f {a b : Sh} (h : (Sh.f a b).ok) (c : cv (.f a b) < CC) : cv (.f a b) = (cv b + 2) ^ cv a ∧ cv a ≤ cv (.f a b) ∧ cv b ≤ cv (.f a b) := by
  have e : cv (.f a b) = min ((cv b + 2) ^ cv a) CC := rfl
  have h1 : cv a < (cv b + 2) ^ cv a := Nat.lt_of_lt_of_le Nat.lt_two_pow_self (Nat.pow_le_pow_left (by omega) _)
  have h2 : cv b + 2 ≤ (cv b + 2) ^ cv a := by
    have := Nat.pow_le_pow_right (show 0 < cv b + 2 by omega) (cv_pos h.1)
    rwa [Nat.pow_one] at this
  omega
theorem vals_len : ∀ {s : Sh}, s.ok → cv s < CC → (vals s).length = cv s
  | .i n, _, _ => by show ((List.range n).map _).length = n; simp
  | .p a b, h, c => by
    have h1 := cv_p h c
    show ((vals a).flatMap fun v => (vals b).map fun w => PyData.tuple [v, w]).length = _
    rw [flatMap_len (m := cv b) (fun x _ => by rw [List.length_map, vals_len h.2 (by omega)]), vals_len h.1 (by omega), h1.1]
  | .f a b, h, c => by
    have h1 := cv_f h c
    show ((tabs (outsL (vals b)) (vals a).length).map PyData.tuple).length = _
    rw [List.length_map, tabs_len, outsL_len, vals_len h.2 (by omega), vals_len h.1 (by omega), h1.1]
theorem rkT_snoc (m : Nat) (js : List Nat) (j : Nat) : rkT m (js ++ [j]) = rkT m js * m + j := by
  unfold rkT; rw [List.foldl_append]; rfl
theorem outs_rk {n : Nat} {R : D → Nat → Prop} {vs : List D} (h : RkL R 0 vs) (hl : vs.length = n) : RkL (RkO n R) 0 (outsL vs) := by
  unfold outsL
  refine RkL.app (h.map fun x i hx => .inl ⟨x, rfl, hx⟩) ?_
  rw [List.length_map, hl]
  intro i v e
  rcases i with _ | _ | i
  · cases e; exact .inr ⟨0, rfl, by omega⟩
  · cases e; exact .inr ⟨1, rfl, by omega⟩
  · simp at e
theorem tabs_rk {R : D → Nat → Prop} {rows : List D} {m : Nat} (h : RkL R 0 rows) (hl : rows.length = m) : ∀ n, RkL (fun t k => ∃ js, All2 R t js ∧ k = rkT m js) 0 (tabs rows n)
  | 0 => fun i v e => by
    rcases i with _ | i
    · cases e; exact ⟨[], .nil, rfl⟩
    · cases e
  | n + 1 => by
    show RkL _ 0 ((tabs rows n).flatMap fun t => rows.map fun r => t ++ [r])
    have e0 : 0 = 0 * m := by omega
    rw [e0]
    refine RkL.flat (tabs_rk h hl n) (fun x _ => by rw [List.length_map, hl]) fun t k ⟨js, h1, hk⟩ => ?_
    refine h.map fun r i hr => ?_
    refine ⟨js ++ [0 + i], h1.app (.cons hr .nil), ?_⟩
    rw [rkT_snoc, ← hk, Nat.zero_add]
theorem vals_rk : ∀ {s : Sh}, s.ok → cv s < CC → RkL (Rk s) 0 (vals s)
  | .i n, _, _ => fun i v e => by
    have e' : ((List.range n).map fun k : Nat => PyData.int k)[i]? = some v := e
    rw [List.getElem?_map] at e'
    obtain ⟨x, hx, rfl⟩ := Option.map_eq_some_iff.mp e'
    have : i = x := by
      have h2 := List.getElem?_eq_some_iff.mp hx
      obtain ⟨h3, h4⟩ := h2
      rw [List.getElem_range] at h4; exact h4
    show PyData.int _ = PyData.int _
    rw [this, Nat.zero_add]
  | .p a b, h, c => by
    have h1 := cv_p h c
    show RkL _ 0 ((vals a).flatMap fun v => (vals b).map fun w => PyData.tuple [v, w])
    have e0 : 0 = 0 * cv b := by omega
    rw [e0]
    refine RkL.flat (vals_rk h.1 (by omega)) (fun x _ => by rw [List.length_map, vals_len h.2 (by omega)]) fun x k hx => ?_
    refine (vals_rk h.2 (by omega)).map fun y j hy => ⟨x, y, k, j, rfl, hx, ?_, rfl⟩
    rwa [Nat.zero_add] at hy
  | .f a b, h, c => by
    have h1 := cv_f h c
    show RkL _ 0 ((tabs (outsL (vals b)) (vals a).length).map PyData.tuple)
    have hb := vals_len h.2 (show cv b < CC by omega)
    refine (tabs_rk (m := cv b + 2) (outs_rk (vals_rk h.2 (by omega)) hb) (by rw [outsL_len, hb]) _).map fun t i ht => ?_
    obtain ⟨js, h2, h3⟩ := ht
    exact ⟨t, js, rfl, h2, h3⟩
/-! ### looks -/
abbrev wh : D := .tuple [.str "whether"]
abbrev fs1 : D := .tuple [.str "first"]
abbrev sc1 : D := .tuple [.str "second"]
abbrev ap (v : D) : D := .tuple [.str "apply", v]
def preK (s : Sh) : List (List D) := if shw s = true then [] else [[wh]]
def lkI : Sh → List (List D)
  | .i n => if 2 ≤ n then [[]] else []
  | .p a b => (lkI a).map (fs1 :: ·) ++ (lkI b).map (sc1 :: ·)
  | .f a b => (vals a).flatMap fun v => (preK b ++ lkI b).map (ap v :: ·)
def lkA (s : Sh) : List (List D) := preK s ++ lkI s
inductive La : Sh → List D → Nat → Prop
  | nil {n : Nat} : La (.i n) [] n
  | wh {s : Sh} {m : List D} : La s (wh :: m) 1
  | fst {a b : Sh} {m : List D} {n : Nat} : La a m n → La (.p a b) (fs1 :: m) n
  | snd {a b : Sh} {m : List D} {n : Nat} : La b m n → La (.p a b) (sc1 :: m) n
  | ap {a b : Sh} {m : List D} {n : Nat} {v : D} : La b m n → La (.f a b) (ap v :: m) n
inductive Fd : Sh → List D → D → Fo → Prop
  | err {s : Sh} {m : List D} {k : Nat} : Fd s m (er k) (true, k)
  | nil {n k : Nat} : Fd (.i n) [] (vl (.int k)) (false, k)
  | wh {s : Sh} {m : List D} {x : D} : Fd s (wh :: m) (vl x) (false, 0)
  | fst {a b : Sh} {m : List D} {x y : D} {o : Fo} : Fd a m (vl x) o → Fd (.p a b) (fs1 :: m) (vl (.tuple [x, y])) o
  | snd {a b : Sh} {m : List D} {x y : D} {o : Fo} : Fd b m (vl y) o → Fd (.p a b) (sc1 :: m) (vl (.tuple [x, y])) o
  | ap {a b : Sh} {m : List D} {v r : D} {rows : List D} {k : Nat} {o : Fo} : Rk a v k → rows[k]? = some r → Fd b m r o → Fd (.f a b) (ap v :: m) (vl (.tuple rows)) o
theorem preK_la (s : Sh) : All2 (La s) (preK s) (preL s) := by
  unfold preK preL
  split
  · exact .nil
  · exact .cons .wh .nil
theorem join_la {a b : Sh} {l : List (List D)} {ns : List Nat} (h : All2 (La b) l ns) : ∀ vs : List D, All2 (La (.f a b)) (vs.flatMap fun v => l.map (ap v :: ·)) (List.replicate vs.length ns).flatten
  | [] => .nil
  | v :: vs => by
    rw [List.flatMap_cons, List.length_cons, List.replicate_succ, List.flatten_cons]
    exact (All2.mapL _ (h.mono fun x y h => .ap h)).app (join_la h vs)
theorem lkI_la : ∀ {s : Sh}, Gd s → All2 (La s) (lkI s) (lasI s)
  | .i n, _ => by
    show All2 _ (if 2 ≤ n then [[]] else []) (if 2 ≤ n then [n] else [])
    split
    · exact .cons .nil .nil
    · exact .nil
  | .p a b, h => (All2.mapL _ ((lkI_la h.p1).mono fun x y h => .fst h)).app (All2.mapL _ ((lkI_la h.p2).mono fun x y h => .snd h))
  | .f a b, h => by
    show All2 _ ((vals a).flatMap fun v => (preK b ++ lkI b).map (ap v :: ·)) (List.replicate (cv a) (preL b ++ lasI b)).flatten
    have e : cv a = (vals a).length := (vals_len h.ok.1 (by have := h.f0; have := CCe; omega)).symm
    rw [e]
    exact join_la ((preK_la b).app (lkI_la h.f2)) _
theorem lkA_la {s : Sh} (h : Gd s) : All2 (La s) (lkA s) (lasA s) := (preK_la s).app (lkI_la h)
theorem rep_fd {s : Sh} {k : Nat} : ∀ {l : List (List D)} {n : Nat}, l.length = n → All2 (fun m f => Fd s m (er k) f) l (List.replicate n (true, k))
  | [], n, h => by subst h; exact .nil
  | x :: l, n, h => by subst h; exact .cons .err (rep_fd rfl)
theorem pre_fd {s : Sh} {x : D} : All2 (fun m f => Fd s m (vl x) f) (preK s) (preF s) := by
  unfold preK preF
  split
  · exact .nil
  · exact .cons .wh .nil
theorem lkA_len {s : Sh} (h : Gd s) : (lkA s).length = lc s := by rw [(lkA_la h).len, lasA_len h]
theorem join_fd {a b : Sh} {rows : List D} {l : List (List D)} {F : D → List Fo → Prop} (hF : ∀ {r : D} {gs : List Fo}, F r gs → All2 (fun m f => Fd b m r f) l gs) :
    ∀ {vs rs : List D} {gss : List (List Fo)} {st : Nat}, RkL (Rk a) st vs → All2 F rs gss → vs.length = rs.length → (∀ (i : Nat) (r : D), rs[i]? = some r → rows[st + i]? = some r) → All2 (fun m f => Fd (.f a b) m (vl (.tuple rows)) f) (vs.flatMap fun v => l.map (ap v :: ·)) gss.flatten
  | [], rs, gss, st, _, hr, hl, _ => by cases hr with
    | nil => exact .nil
    | cons _ _ => cases hl
  | v :: vs, rs, gss, st, hv, hr, hl, hi => by
    cases hr with
    | nil => cases hl
    | cons h t =>
      rw [List.flatMap_cons, List.flatten_cons]
      refine (All2.mapL _ ((hF h).mono fun m f q => .ap hv.head (hi 0 _ rfl) q)).app ?_
      refine join_fd hF hv.tail t (by simpa using hl) fun i r e => ?_
      have := hi (i + 1) r (by simpa using e)
      rwa [show st + (i + 1) = st + 1 + i by omega] at this
theorem fa_fd0 {s : Sh} (h : Gd s) (ih : ∀ {d : D} {fs : List Fo}, Fi s d fs → All2 (fun m f => Fd s m (vl d) f) (lkI s) fs) {d : D} {fs : List Fo} (f : Fa s d fs) : All2 (fun m f => Fd s m d f) (lkA s) fs := by
  rcases f with ⟨k, _, rfl, rfl⟩ | ⟨x, gs, rfl, hx, rfl⟩
  · exact rep_fd (lkA_len h)
  · exact pre_fd.app (ih hx)
theorem fi_fd : ∀ {s : Sh}, Gd s → ∀ {d : D} {fs : List Fo}, Fi s d fs → All2 (fun m f => Fd s m (vl d) f) (lkI s) fs
  | .i n, _, d, fs, ⟨k, e, hk, e2⟩ => by
    subst e e2
    show All2 _ (if 2 ≤ n then [[]] else []) (if 2 ≤ n then [(false, k)] else [])
    split
    · exact .cons .nil .nil
    · exact .nil
  | .p a b, h, d, fs, ⟨x, y, gs, hs, e, h1, h2, e2⟩ => by
    subst e e2
    exact (All2.mapL _ ((fi_fd h.p1 h1).mono fun m f q => .fst q)).app (All2.mapL _ ((fi_fd h.p2 h2).mono fun m f q => .snd q))
  | .f a b, h, d, fs, ⟨rows, gss, e, hl, h1, e2⟩ => by
    subst e e2
    have hc : cv a < CC := by have := h.f0; have := CCe; omega
    exact join_fd (fun q => fa_fd0 h.f2 (fi_fd h.f2) q) (vals_rk h.ok.1 hc) h1 (by rw [vals_len h.ok.1 hc, hl]) fun i r e => by rwa [Nat.zero_add]
theorem fa_fd {s : Sh} (h : Gd s) {d : D} {fs : List Fo} (f : Fa s d fs) : All2 (fun m f => Fd s m d f) (lkA s) fs := fa_fd0 h (fi_fd h) f
end L2.Zd.Lib

set_option Elab.async false
set_option linter.all false
set_option maxRecDepth 100000
set_option maxHeartbeats 2000000
namespace L2.Zd.Lib
open PySem PySem.Spec PyProof.Rows L2.Zd
/-! ### results that may be the def's own or not -/
def mkS (b : Bool) (d : D) : Sl := if b = true then .ow d else .fr d
theorem o_putV {i : Nat} {s : DS} {b : Bool} {d : D} {N : DS → Prop} (h : N (s.set i (mkS b d))) : OptP (putS i s (vtOf b d)) N := by cases b <;> exact h
theorem fzP_vt {b : Bool} {d : D} {s : DS} {P : Vt → DS → Prop} (h : P (.fr d) s) : FzP (frz (vtOf b d) s) P := by cases b <;> exact h
theorem i_fzV {i : Nat} {s : DS} {b : Bool} {d : D} {P : Vt → DS → Prop} (e : s[i]? = some (mkS b d)) (h : P (.fr d) (s.set i (.fr d))) : Wp (fz (dVar i)) s P := by
  rw [w_fz, w_var, e]
  cases b with
  | true =>
    show FzP (frzS i s s[i]?) P
    rw [e]; exact h
  | false =>
    have e2 : s.set i (.fr d) = s := by
      obtain ⟨h1, h2⟩ := List.getElem?_eq_some_iff.mp e
      have h3 : s[i] = .fr d := h2
      rw [← h3, List.set_getElem_self]
    rw [e2] at h; exact h
theorem filtT {α : Type} (l : List α) : l.filter (fun _ => true) = l := List.filter_eq_self.mpr fun _ _ => rfl
theorem rng_vals (n : Nat) : rng 0 n = vals (.i n) := by
  show (List.range n).map _ = (List.range n).map _
  congr 1; funext k
  show PyData.int (0 + (k : Int)) = _
  rw [Int.zero_add]
theorem tabs_mem {rows : List D} : ∀ {n : Nat} {t : List D}, t ∈ tabs rows n → t.length = n
  | 0, t, h => by rw [List.mem_singleton.mp h]; rfl
  | n + 1, t, h => by
    obtain ⟨u, hu, h2⟩ := List.mem_flatMap.mp h
    obtain ⟨r, _, rfl⟩ := List.mem_map.mp h2
    rw [List.length_append, tabs_mem hu]; rfl
/-! ### the values -/
abbrev ValsS (f : FM) (n : Nat) : Prop := ∀ (s : Sh) (Q : Bool → D → List D → Prop), s.ok → s.h ≤ n → cv s ≤ 64 → (∀ b, Q b (.list (vals s)) []) → FnP f [s.d] Q
abbrev OutsS (f : FM) (n : Nat) : Prop := ∀ (s : Sh) (Q : Bool → D → List D → Prop), s.ok → s.h ≤ n → cv s ≤ 64 → Q true (.list (outsL (vals s))) [] → FnP f [s.d] Q
theorem outs_s {f : FM} {n : Nat} (hf : ValsS f n) : OutsS (f_l_shape_outcomes f) n := by
  intro s Q hs hh hc hQ
  have hl : (vals s).length ≤ 64 := by rw [vals_len hs (by have := CCe; omega)]; exact hc
  unfold f_l_shape_outcomes
  (with_reducible refine FnP_mk [.fr s.d, .no] [] ?_ ?_ ?_)
  · rfl
  · rfl
  unfold b_l_shape_outcomes
  repeat (first|((with_reducible refine Yb (d:=?_) ?_ ?_);rotate_left 1;exact rfl)|(with_reducible first|refine J2 ?_|refine J5 ?_|refine J6 ?_|refine J7 ?_|refine J8 ?_|refine Jb ?_|refine Jw ?_|refine Jz ?_)|((with_reducible refine Yy (d:=?_) (s:=?_) ?_ ?_);rotate_left 2;exact rfl)|((with_reducible refine Xb (a:=?_) ?_ ?_);rotate_left 1;exact rfl))
  (with_reducible refine hf _ _ hs hh hc fun b => ?_)
  repeat (first|(((with_reducible refine i_fzV (b:=?_) (d:=?_) ?_ ?_);rotate_left 2;exact rfl))|((with_reducible refine o_putV ?_))|((with_reducible refine fzP_vt ?_))|((with_reducible refine Yd (ds:=?_) ?_ ?_);rotate_left 1;exact rfl)|((with_reducible refine And.intro ?_ ?_);first|exact Nat.le_of_ble_eq_true rfl|exact rfl))
  refine lc_pure vl (fun _ => true) ?_ ?_ ?_
  · intro d hd
    repeat (first|((with_reducible refine Yb (d:=?_) ?_ ?_);rotate_left 1;exact rfl)|(with_reducible first|refine J1 ?_|refine J6 ?_|refine J7 ?_|refine J8 ?_|refine Jc ?_|refine U0 ?_|refine U8 ?_)|((with_reducible refine Yy (d:=?_) (s:=?_) ?_ ?_);rotate_left 2;exact rfl)|((with_reducible refine Xb (a:=?_) ?_ ?_);rotate_left 1;exact rfl)|((with_reducible refine And.intro ?_ ?_);first|exact Nat.le_of_ble_eq_true rfl|exact rfl))
    rfl
  · rw [size24]; omega
  · rw [filtT]
    repeat (first|((with_reducible first|refine Yr (d:=?_) (e:=?_) ?_ ?_ ?_|refine Ys (d:=?_) (o:=?_) ?_ ?_ ?_);rotate_left 2;exact rfl;exact rfl)|(with_reducible first|refine J1 ?_|refine J7 ?_|refine J8 ?_|refine Jc ?_|refine Jd ?_|refine Uu ?_ ?_)|((with_reducible refine X1 (d:=?_) (o:=?_) ?_ ?_ ?_);rotate_left 2;exact rfl;exact rfl)|((with_reducible refine Xb (a:=?_) ?_ ?_);rotate_left 1;exact rfl)|((with_reducible refine And.intro ?_ ?_);first|exact Nat.le_of_ble_eq_true rfl|exact rfl))
    · exact hQ
    · rw [size24, List.length_map]; simp only [List.length_cons, List.length_nil]; omega
theorem vals_leaf {f g : FM} {k : Nat} {Q : Bool → D → List D → Prop} (hc : k ≤ 64) (hQ : ∀ b, Q b (.list (vals (.i k))) []) : FnP (f_l_shape_values f g) [.int k] Q := by
  unfold f_l_shape_values
  (with_reducible refine FnP_mk [.fr (.int k), .no, .no, .no, .no, .no, .no, .no, .no, .no, .no] [] ?_ ?_ ?_)
  · rfl
  · rfl
  unfold b_l_shape_values
  repeat (first|((with_reducible first|refine Yb (d:=?_) ?_ ?_|refine Yh (n:=?_) ?_ ?_ ?_|refine Yl (a:=?_) ?_ ?_|refine Yn (b:=?_) ?_ ?_);rotate_left 1;exact rfl)|((with_reducible refine Ys (d:=?_) (o:=?_) ?_ ?_ ?_);rotate_left 2;exact rfl;exact rfl)|(with_reducible first|refine J0 ?_|refine J4 ?_|refine J5 ?_|refine Jh ?_|refine Jo ?_|refine Jt ?_|refine U8 ?_)|((with_reducible refine X1 (d:=?_) (o:=?_) ?_ ?_ ?_);rotate_left 2;exact rfl;exact rfl)|((with_reducible refine Xb (a:=?_) ?_ ?_);rotate_left 1;exact rfl))
  · have e : ((k : Int)).toNat = k := by omega
    rw [e, rng_vals]
    exact hQ _
  all_goals omega
theorem vals_s0 (f g : FM) : ValsS (f_l_shape_values f g) 0 := by
  intro s Q hs hh hc hQ
  cases s with
  | i k =>
    have hc' : k ≤ 64 := hc
    show FnP _ [.int k] Q
    (with_reducible refine vals_leaf hc' ?_)
    exact hQ
  | p a b => exact absurd hh (Nat.not_succ_le_zero _)
  | f a b => exact absurd hh (Nat.not_succ_le_zero _)
theorem vals_s {f g : FM} {n : Nat} (hf : ValsS f n) (hg : OutsS g n) : ValsS (f_l_shape_values f g) (n + 1) := by
  intro s Q hs hh hc hQ
  cases s with
  | i k =>
    have hc' : k ≤ 64 := hc
    show FnP _ [.int k] Q
    (with_reducible refine vals_leaf hc' ?_)
    exact hQ
  | p a b =>
    have h1 := hle hh
    have hsa : a.ok := hs.1
    have hsb : b.ok := hs.2
    have hcc := CCe
    have hv := cv_p hs (show cv (.p a b) < CC by omega)
    have hla := vals_len hsa (show cv a < CC by omega)
    have hlb := vals_len hsb (show cv b < CC by omega)
    unfold f_l_shape_values
    (with_reducible refine FnP_mk [.fr (.tuple [.str "pair", a.d, b.d]), .no, .no, .no, .no, .no, .no, .no, .no, .no, .no] [] ?_ ?_ ?_)
    · rfl
    · rfl
    unfold b_l_shape_values
    repeat (first|((with_reducible first|refine Yb (d:=?_) ?_ ?_|refine Yl (a:=?_) ?_ ?_|refine Yn (b:=?_) ?_ ?_);rotate_left 1;exact rfl)|((with_reducible refine Yr (d:=?_) (e:=?_) ?_ ?_ ?_);rotate_left 2;exact rfl;exact rfl)|(with_reducible first|refine J0 ?_|refine J1 ?_|refine J2 ?_|refine J3 ?_|refine J4 ?_|refine J7 ?_|refine J8 ?_|refine Jb ?_|refine Je ?_|refine Jh ?_|refine Jo ?_|refine U9 ?_)|((with_reducible refine Xb (a:=?_) ?_ ?_);rotate_left 1;exact rfl))
    (with_reducible refine hf _ _ hsa h1.1 (by omega) fun b1 => ?_)
    repeat (first|(((with_reducible refine i_fzV (b:=?_) (d:=?_) ?_ ?_);rotate_left 2;exact rfl))|((with_reducible refine o_putV ?_))|((with_reducible refine fzP_vt ?_))|((with_reducible first|refine Yb (d:=?_) ?_ ?_|refine Yc (b:=?_) ?_ ?_);rotate_left 1;exact rfl)|((with_reducible refine Yr (d:=?_) (e:=?_) ?_ ?_ ?_);rotate_left 2;exact rfl;exact rfl)|(with_reducible first|refine J0 ?_|refine J1 ?_|refine J2 ?_|refine J3 ?_|refine J4 ?_|refine J7 ?_|refine J8 ?_|refine J9 ?_|refine Jb ?_|refine Uj ?_)|((with_reducible refine X7 ?_ ?_);exact rfl)|((with_reducible refine Xb (a:=?_) ?_ ?_);rotate_left 1;exact rfl))
    (with_reducible refine hf _ _ hsb h1.2 (by omega) fun b2 => ?_)
    repeat (first|(((with_reducible refine i_fzV (b:=?_) (d:=?_) ?_ ?_);rotate_left 2;exact rfl))|((with_reducible refine o_putV ?_))|((with_reducible refine fzP_vt ?_))|((with_reducible refine Yd (ds:=?_) ?_ ?_);rotate_left 1;exact rfl)|(with_reducible first|refine J0 ?_|refine J3 ?_|refine J8 ?_|refine Jd ?_|refine Jw ?_|refine U7 ?_)|((with_reducible refine Xb (a:=?_) ?_ ?_);rotate_left 1;exact rfl)|((with_reducible refine And.intro ?_ ?_);first|exact Nat.le_of_ble_eq_true rfl|exact rfl))
    refine fl_inv (fun rest s => ∃ (pre : List D) (b2 : Bool) (x4 : Sl), pre ++ rest = vals a ∧ s = [.fr (.tuple [.str "pair", a.d, b.d]), .fr (.list (vals a)), mkS b2 (.list (vals b)), .ow (.list (pre.flatMap fun v => (vals b).map fun w => .tuple [v, w])), x4, .no, .no, .no, .no, .no, .no]) ⟨[], b2, _, rfl, rfl⟩ ?_ ?_
    · rintro v rest s ⟨pre, b2, x4, hp, rfl⟩
      have hpl : pre.length ≤ 64 := by
        have := congrArg List.length hp
        rw [List.length_append, List.length_cons] at this; omega
      repeat (first|(((with_reducible refine i_fzV (b:=?_) (d:=?_) ?_ ?_);rotate_left 2;exact rfl))|((with_reducible refine o_putV ?_))|((with_reducible refine fzP_vt ?_))|((with_reducible first|refine Yb (d:=?_) ?_ ?_|refine Yd (ds:=?_) ?_ ?_);rotate_left 1;exact rfl)|(with_reducible first|refine J2 ?_|refine J3 ?_|refine Jw ?_|refine Jz ?_)|((with_reducible refine Yv (d:=?_) ?_ ?_);rotate_left 1;exact rfl)|((with_reducible refine Xb (a:=?_) ?_ ?_);rotate_left 1;exact rfl)|((with_reducible refine And.intro ?_ ?_);first|exact Nat.le_of_ble_eq_true rfl|exact rfl))
      refine lc_pure (fun w => .tuple [v, w]) (fun _ => true) ?_ ?_ ?_
      · intro d hd
        repeat (first|((with_reducible refine Yb (d:=?_) ?_ ?_);rotate_left 1;exact rfl)|(with_reducible first|refine J6 ?_|refine J7 ?_|refine J8 ?_|refine Jc ?_|refine U0 ?_|refine U8 ?_)|((with_reducible refine Yy (d:=?_) (s:=?_) ?_ ?_);rotate_left 2;exact rfl)|((with_reducible refine Xb (a:=?_) ?_ ?_);rotate_left 1;exact rfl)|((with_reducible refine And.intro ?_ ?_);first|exact Nat.le_of_ble_eq_true rfl|exact rfl))
        rfl
      · rw [size24]; omega
      · rw [filtT]
        repeat (first|((with_reducible refine Yr (d:=?_) (e:=?_) ?_ ?_ ?_);rotate_left 2;exact rfl;exact rfl)|(with_reducible refine Uu ?_ ?_)|((with_reducible refine Xb (a:=?_) ?_ ?_);rotate_left 1;exact rfl))
        · refine ⟨pre ++ [v], false, .fr v, by rw [List.append_assoc]; exact hp, ?_⟩
          rw [List.flatMap_append, List.flatMap_singleton]
          rfl
        · rw [flatMap_len (m := cv b) (fun x _ => by rw [List.length_map, hlb]), List.length_map, hlb, size24]
          have := Nat.mul_le_mul hpl (show cv b ≤ 64 by omega)
          omega
    · rintro s ⟨pre, b2, x4, hp, rfl⟩
      rw [List.append_nil] at hp
      subst hp
      repeat (first|((with_reducible refine Yb (d:=?_) ?_ ?_);rotate_left 1;exact rfl)|((with_reducible refine Ys (d:=?_) (o:=?_) ?_ ?_ ?_);rotate_left 2;exact rfl;exact rfl)|(with_reducible refine J5 ?_)|((with_reducible refine Yv (d:=?_) ?_ ?_);rotate_left 1;exact rfl)|((with_reducible refine X1 (d:=?_) (o:=?_) ?_ ?_ ?_);rotate_left 2;exact rfl;exact rfl)|((with_reducible refine X2 (i:=?_) (d:=?_) (o:=?_) ?_ ?_ ?_ ?_);rotate_left 3;exact rfl;exact rfl;exact rfl)|((with_reducible refine X3 (i:=?_) (d:=?_) (o:=?_) ?_ ?_ ?_ ?_ ?_);rotate_left 3;exact rfl;exact rfl;exact rfl;exact rfl))
      exact hQ _
  | f a b =>
    have h1 := hle hh
    have hsa : a.ok := hs.1
    have hsb : b.ok := hs.2
    have hcc := CCe
    have hv := cv_f hs (show cv (.f a b) < CC by omega)
    have hla := vals_len hsa (show cv a < CC by omega)
    have hlb := vals_len hsb (show cv b < CC by omega)
    have hlo : (outsL (vals b)).length = cv b + 2 := by rw [outsL_len, hlb]
    have htl : ∀ k, k ≤ cv a → (tabs (outsL (vals b)) k).length ≤ 64 := fun k hk => by
      rw [tabs_len, hlo]
      exact Nat.le_trans (Nat.pow_le_pow_right (by omega) hk) (by rw [← hv.1]; exact hc)
    have hpa := cv_pos hsa
    unfold f_l_shape_values
    (with_reducible refine FnP_mk [.fr (.tuple [.str "to", a.d, b.d]), .no, .no, .no, .no, .no, .no, .no, .no, .no, .no] [] ?_ ?_ ?_)
    · rfl
    · rfl
    unfold b_l_shape_values
    repeat (first|((with_reducible first|refine Yb (d:=?_) ?_ ?_|refine Yl (a:=?_) ?_ ?_|refine Yn (b:=?_) ?_ ?_);rotate_left 1;exact rfl)|((with_reducible refine Yr (d:=?_) (e:=?_) ?_ ?_ ?_);rotate_left 2;exact rfl;exact rfl)|(with_reducible first|refine J0 ?_|refine J1 ?_|refine J2 ?_|refine J3 ?_|refine J4 ?_|refine J7 ?_|refine J8 ?_|refine Jb ?_|refine Je ?_|refine Jh ?_|refine Jo ?_|refine U9 ?_)|((with_reducible refine Xb (a:=?_) ?_ ?_);rotate_left 1;exact rfl))
    (with_reducible refine hf _ _ hsa h1.1 (by omega) fun b1 => ?_)
    repeat (first|(((with_reducible refine i_fzV (b:=?_) (d:=?_) ?_ ?_);rotate_left 2;exact rfl))|((with_reducible refine o_putV ?_))|((with_reducible refine fzP_vt ?_))|((with_reducible first|refine Yb (d:=?_) ?_ ?_|refine Yc (b:=?_) ?_ ?_);rotate_left 1;exact rfl)|((with_reducible refine Yr (d:=?_) (e:=?_) ?_ ?_ ?_);rotate_left 2;exact rfl;exact rfl)|(with_reducible first|refine J0 ?_|refine J1 ?_|refine J2 ?_|refine J3 ?_|refine J4 ?_|refine J7 ?_|refine J8 ?_|refine J9 ?_|refine Jb ?_|refine Je ?_|refine Uj ?_)|((with_reducible refine X7 ?_ ?_);exact rfl)|((with_reducible refine Xa ?_ ?_);exact rfl)|((with_reducible refine Xb (a:=?_) ?_ ?_);rotate_left 1;exact rfl))
    (with_reducible refine hg _ _ hsb h1.2 (by omega) ?_)
    repeat (first|(((with_reducible refine i_fzV (b:=?_) (d:=?_) ?_ ?_);rotate_left 2;exact rfl))|((with_reducible refine o_putV ?_))|((with_reducible refine fzP_vt ?_))|((with_reducible refine Yd (ds:=?_) ?_ ?_);rotate_left 1;exact rfl)|(with_reducible first|refine J0 ?_|refine J3 ?_|refine J7 ?_|refine J8 ?_|refine Jc ?_|refine Jd ?_|refine Jw ?_|refine U7 ?_)|((with_reducible refine Xb (a:=?_) ?_ ?_);rotate_left 1;exact rfl)|((with_reducible refine And.intro ?_ ?_);first|exact Nat.le_of_ble_eq_true rfl|exact rfl))
    refine fl_inv (fun rest s => ∃ (k : Nat) (b5 b6 : Bool) (x4 x7 x8 : Sl), k + rest.length = cv a ∧ s = [.fr (.tuple [.str "to", a.d, b.d]), .fr (.list (vals a)), .no, .no, x4, mkS b5 (.list (outsL (vals b))), mkS b6 (.list ((tabs (outsL (vals b)) k).map .tuple)), x7, x8, .no, .no]) ⟨0, true, true, _, _, _, by rw [hla]; omega, rfl⟩ ?_ ?_
    · rintro v rest s ⟨k, b5, b6, x4, x7, x8, hk, rfl⟩
      rw [List.length_cons] at hk
      have ht1 := htl k (by omega)
      have ht2 := htl (k + 1) (by omega)
      repeat (first|(((with_reducible refine i_fzV (b:=?_) (d:=?_) ?_ ?_);rotate_left 2;exact rfl))|((with_reducible refine o_putV ?_))|((with_reducible refine fzP_vt ?_))|((with_reducible refine Yd (ds:=?_) ?_ ?_);rotate_left 1;exact rfl)|(with_reducible first|refine J0 ?_|refine J3 ?_|refine J8 ?_|refine Jd ?_|refine Jw ?_|refine U7 ?_)|((with_reducible refine Xb (a:=?_) ?_ ?_);rotate_left 1;exact rfl)|((with_reducible refine And.intro ?_ ?_);first|exact Nat.le_of_ble_eq_true rfl|exact rfl))
      refine fl_inv (fun rest' s => ∃ (pre rs : List (List D)) (b5 : Bool) (x8 : Sl), pre ++ rs = tabs (outsL (vals b)) k ∧ rest' = rs.map .tuple ∧ s = [.fr (.tuple [.str "to", a.d, b.d]), .fr (.list (vals a)), .no, .no, .fr v, mkS b5 (.list (outsL (vals b))), .fr (.list ((tabs (outsL (vals b)) k).map .tuple)), .ow (.list ((pre.flatMap fun t => (outsL (vals b)).map fun r => t ++ [r]).map .tuple)), x8, .no, .no]) ⟨[], _, b5, _, rfl, rfl, rfl⟩ ?_ ?_
      · rintro d rest' s ⟨pre, rs, b5, x8, hp, hr, rfl⟩
        cases rs with
        | nil => cases hr
        | cons t rs =>
          cases hr
          have htm : t.length = k := tabs_mem (by rw [← hp]; exact List.mem_append_right _ List.mem_cons_self)
          have hk2 : cv a ≤ 64 := by omega
          repeat (first|(((with_reducible refine i_fzV (b:=?_) (d:=?_) ?_ ?_);rotate_left 2;exact rfl))|((with_reducible refine o_putV ?_))|((with_reducible refine fzP_vt ?_))|((with_reducible first|refine Yb (d:=?_) ?_ ?_|refine Yd (ds:=?_) ?_ ?_);rotate_left 1;exact rfl)|(with_reducible first|refine J2 ?_|refine J3 ?_|refine Jw ?_|refine Jz ?_)|((with_reducible refine Yv (d:=?_) ?_ ?_);rotate_left 1;exact rfl)|((with_reducible refine Xb (a:=?_) ?_ ?_);rotate_left 1;exact rfl)|((with_reducible refine And.intro ?_ ?_);first|exact Nat.le_of_ble_eq_true rfl|exact rfl))
          refine lc_pure (fun r => match r with | r => .tuple (t ++ [r])) (fun _ => true) ?_ ?_ ?_
          · intro d hd
            repeat (first|((with_reducible refine Yb (d:=?_) ?_ ?_);rotate_left 1;exact rfl)|((with_reducible refine Yr (d:=?_) (e:=?_) ?_ ?_ ?_);rotate_left 2;exact rfl;exact rfl)|(with_reducible first|refine J2 ?_|refine J6 ?_|refine J7 ?_|refine J8 ?_|refine Jc ?_|refine U0 ?_|refine U8 ?_|refine Uv ?_ ?_)|((with_reducible refine Yy (d:=?_) (s:=?_) ?_ ?_);rotate_left 2;exact rfl)|((with_reducible refine Xb (a:=?_) ?_ ?_);rotate_left 1;exact rfl)|((with_reducible refine And.intro ?_ ?_);first|exact Nat.le_of_ble_eq_true rfl|exact rfl))
            · rfl
            · rw [size24, htm]; simp only [List.length_cons, List.length_nil]; omega
          · rw [size24]; omega
          · rw [filtT]
            repeat (first|((with_reducible refine Yr (d:=?_) (e:=?_) ?_ ?_ ?_);rotate_left 2;exact rfl;exact rfl)|(with_reducible refine Uu ?_ ?_)|((with_reducible refine Xb (a:=?_) ?_ ?_);rotate_left 1;exact rfl))
            · refine ⟨pre ++ [t], rs, false, .fr (.tuple t), by rw [List.append_assoc]; exact hp, rfl, ?_⟩
              rw [List.flatMap_append, List.flatMap_singleton, List.map_append, List.map_map]
              rfl
            · have hq := congrArg (fun l => (List.flatMap (fun t => (outsL (vals b)).map fun r => t ++ [r]) l).length) hp
              have hq2 : ((tabs (outsL (vals b)) k).flatMap fun t => (outsL (vals b)).map fun r => t ++ [r]).length = (tabs (outsL (vals b)) (k + 1)).length := rfl
              simp only [List.flatMap_append, List.flatMap_cons, List.length_append, List.length_map] at hq
              rw [hq2] at hq
              rw [size24, List.length_map, List.length_map]
              omega
      · rintro s ⟨pre, rs, b5', x8', hp, hr, rfl⟩
        have hrs : rs = [] := by cases rs with
          | nil => rfl
          | cons _ _ => cases hr
        subst hrs
        rw [List.append_nil] at hp
        subst hp
        repeat (first|((with_reducible refine Yb (d:=?_) ?_ ?_);rotate_left 1;exact rfl)|(with_reducible refine J3 ?_)|((with_reducible refine Yv (d:=?_) ?_ ?_);rotate_left 1;exact rfl)|((with_reducible refine Xb (a:=?_) ?_ ?_);rotate_left 1;exact rfl))
        exact ⟨k + 1, b5', false, _, _, _, by omega, rfl⟩
    · rintro s ⟨k, b5, b6, x4, x7, x8, hk, rfl⟩
      have hk' : k = (vals a).length := by rw [hla]; simpa using hk
      subst hk'
      cases b6
      · repeat (first|((with_reducible refine Yb (d:=?_) ?_ ?_);rotate_left 1;exact rfl)|((with_reducible refine Ys (d:=?_) (o:=?_) ?_ ?_ ?_);rotate_left 2;exact rfl;exact rfl)|(with_reducible refine J5 ?_))
        exact hQ _
      · repeat (first|((with_reducible refine Yb (d:=?_) ?_ ?_);rotate_left 1;exact rfl)|((with_reducible refine Ys (d:=?_) (o:=?_) ?_ ?_ ?_);rotate_left 2;exact rfl;exact rfl)|(with_reducible refine J5 ?_)|((with_reducible refine Yv (d:=?_) ?_ ?_);rotate_left 1;exact rfl)|((with_reducible refine X1 (d:=?_) (o:=?_) ?_ ?_ ?_);rotate_left 2;exact rfl;exact rfl)|((with_reducible refine X2 (i:=?_) (d:=?_) (o:=?_) ?_ ?_ ?_ ?_);rotate_left 3;exact rfl;exact rfl;exact rfl)|((with_reducible refine X3 (i:=?_) (d:=?_) (o:=?_) ?_ ?_ ?_ ?_ ?_);rotate_left 3;exact rfl;exact rfl;exact rfl;exact rfl))
        exact hQ _
end L2.Zd.Lib

set_option Elab.async false
set_option linter.all false
set_option maxRecDepth 100000
set_option maxHeartbeats 2000000
namespace L2.Zd.Lib
open PySem PySem.Spec PyProof.Rows L2.Zd
/-! ### ranks -/
abbrev RankS (f : FM) (n : Nat) : Prop := ∀ (s : Sh) (v : D) (k : Nat) (Q : Bool → D → List D → Prop), s.ok → s.h ≤ n → Rk s v k → Q false (.int k) [] → FnP f [s.d, v] Q
abbrev RankOS (f : FM) (n : Nat) : Prop := ∀ (s : Sh) (v : D) (k : Nat) (Q : Bool → D → List D → Prop), s.ok → s.h ≤ n → RkO (cv s) (Rk s) v k → Q false (.int k) [] → FnP f [s.d, v] Q
theorem rankO_s {f g : FM} {n : Nat} (hf : CountS f n) (hg : RankS g n) : RankOS (f_l_shape_outcome_rank f g) n := by
  intro s v k Q hs hh hk hQ
  rcases hk with ⟨x, rfl, hx⟩ | ⟨e, rfl, hk⟩
  · unfold f_l_shape_outcome_rank
    (with_reducible refine FnP_mk [.fr s.d, .fr (vl x)] [] ?_ ?_ ?_)
    · rfl
    · rfl
    unfold b_l_shape_outcome_rank
    repeat (first|((with_reducible first|refine Yb (d:=?_) ?_ ?_|refine Yc (b:=?_) ?_ ?_);rotate_left 1;exact rfl)|((with_reducible refine Yr (d:=?_) (e:=?_) ?_ ?_ ?_);rotate_left 2;exact rfl;exact rfl)|(with_reducible first|refine J0 ?_|refine J1 ?_|refine J2 ?_|refine J4 ?_|refine J5 ?_|refine J6 ?_|refine J7 ?_|refine J8 ?_|refine J9 ?_|refine Jb ?_|refine Je ?_|refine Uj ?_)|((with_reducible refine Yy (d:=?_) (s:=?_) ?_ ?_);rotate_left 2;exact rfl)|((with_reducible refine X7 ?_ ?_);exact rfl)|((with_reducible refine Xa ?_ ?_);exact rfl)|((with_reducible refine Xb (a:=?_) ?_ ?_);rotate_left 1;exact rfl))
    (with_reducible refine hg _ _ _ _ hs hh hx ?_)
    repeat (first|((with_reducible refine Ys (d:=?_) (o:=?_) ?_ ?_ ?_);rotate_left 2;exact rfl;exact rfl))
    exact hQ
  · subst hk
    unfold f_l_shape_outcome_rank
    (with_reducible refine FnP_mk [.fr s.d, .fr (er e)] [] ?_ ?_ ?_)
    · rfl
    · rfl
    unfold b_l_shape_outcome_rank
    repeat (first|((with_reducible first|refine Yb (d:=?_) ?_ ?_|refine Yc (b:=?_) ?_ ?_);rotate_left 1;exact rfl)|((with_reducible refine Yr (d:=?_) (e:=?_) ?_ ?_ ?_);rotate_left 2;exact rfl;exact rfl)|(with_reducible first|refine J0 ?_|refine J1 ?_|refine J2 ?_|refine J4 ?_|refine J5 ?_|refine J6 ?_|refine J7 ?_|refine J8 ?_|refine J9 ?_|refine Jb ?_|refine Uj ?_)|((with_reducible refine Yy (d:=?_) (s:=?_) ?_ ?_);rotate_left 2;exact rfl)|((with_reducible refine X7 ?_ ?_);exact rfl)|((with_reducible refine Xb (a:=?_) ?_ ?_);rotate_left 1;exact rfl))
    (with_reducible refine hf _ _ hs hh ?_)
    repeat (first|((with_reducible refine Yb (d:=?_) ?_ ?_);rotate_left 1;exact rfl)|((with_reducible first|refine Yr (d:=?_) (e:=?_) ?_ ?_ ?_|refine Ys (d:=?_) (o:=?_) ?_ ?_ ?_);rotate_left 2;exact rfl;exact rfl)|(with_reducible first|refine J1 ?_|refine J2 ?_)|((with_reducible refine Xb (a:=?_) ?_ ?_);rotate_left 1;exact rfl))
    rw [Int.natCast_add] at hQ
    exact hQ
theorem rank_leaf {f g h : FM} {n k : Nat} {Q : Bool → D → List D → Prop} (hQ : Q false (.int k) []) : FnP (f_l_shape_rank f g h) [.int n, .int k] Q := by
  unfold f_l_shape_rank
  (with_reducible refine FnP_mk [.fr (.int n), .fr (.int k), .no, .no, .no] [] ?_ ?_ ?_)
  · rfl
  · rfl
  unfold b_l_shape_rank
  repeat (first|((with_reducible first|refine Yb (d:=?_) ?_ ?_|refine Yl (a:=?_) ?_ ?_|refine Yn (b:=?_) ?_ ?_);rotate_left 1;exact rfl)|((with_reducible refine Ys (d:=?_) (o:=?_) ?_ ?_ ?_);rotate_left 2;exact rfl;exact rfl)|(with_reducible first|refine J0 ?_|refine J4 ?_|refine J5 ?_|refine Jh ?_|refine Jo ?_|refine U8 ?_)|((with_reducible refine Xb (a:=?_) ?_ ?_);rotate_left 1;exact rfl))
  exact hQ
theorem rank_s0 (f g h : FM) : RankS (f_l_shape_rank f g h) 0 := by
  intro s v k Q hs hh hk hQ
  cases s with
  | i n => have e : v = .int k := hk
           subst e
           show FnP _ [.int n, .int k] Q
           (with_reducible refine rank_leaf ?_)
           exact hQ
  | p a b => exact absurd hh (Nat.not_succ_le_zero _)
  | f a b => exact absurd hh (Nat.not_succ_le_zero _)
theorem rank_s {f g h : FM} {n : Nat} (hf : RankS f n) (hg : CountS g n) (hr : RankOS h n) : RankS (f_l_shape_rank f g h) (n + 1) := by
  intro s v k Q hs hh hk hQ
  cases s with
  | i n => have e : v = .int k := hk
           subst e
           show FnP _ [.int n, .int k] Q
           (with_reducible refine rank_leaf ?_)
           exact hQ
  | p a b =>
    have h1 := hle hh
    have hsa : a.ok := hs.1
    have hsb : b.ok := hs.2
    have b1 := cv2_lt hsb
    obtain ⟨x, y, i, j, e, hx, hy, hk2⟩ := (show ∃ x y i j, v = .tuple [x, y] ∧ Rk a x i ∧ Rk b y j ∧ k = i * cv b + j from hk)
    subst e
    subst hk2
    unfold f_l_shape_rank
    (with_reducible refine FnP_mk [.fr (.tuple [.str "pair", a.d, b.d]), .fr (.tuple [x, y]), .no, .no, .no] [] ?_ ?_ ?_)
    · rfl
    · rfl
    unfold b_l_shape_rank
    repeat (first|((with_reducible first|refine Yb (d:=?_) ?_ ?_|refine Yc (b:=?_) ?_ ?_|refine Yl (a:=?_) ?_ ?_|refine Yn (b:=?_) ?_ ?_);rotate_left 1;exact rfl)|((with_reducible refine Yr (d:=?_) (e:=?_) ?_ ?_ ?_);rotate_left 2;exact rfl;exact rfl)|(with_reducible first|refine J0 ?_|refine J1 ?_|refine J2 ?_|refine J4 ?_|refine J5 ?_|refine J7 ?_|refine J8 ?_|refine J9 ?_|refine Jb ?_|refine Je ?_|refine Jh ?_|refine Jo ?_|refine U9 ?_|refine Uj ?_)|((with_reducible refine X7 ?_ ?_);exact rfl)|((with_reducible refine Xb (a:=?_) ?_ ?_);rotate_left 1;exact rfl))
    (with_reducible refine hf _ _ _ _ hsa h1.1 hx ?_)
    repeat (first|((with_reducible refine Yb (d:=?_) ?_ ?_);rotate_left 1;exact rfl)|((with_reducible refine Yr (d:=?_) (e:=?_) ?_ ?_ ?_);rotate_left 2;exact rfl;exact rfl)|(with_reducible first|refine J1 ?_|refine J2 ?_|refine J7 ?_|refine J8 ?_|refine Jb ?_)|((with_reducible refine Xb (a:=?_) ?_ ?_);rotate_left 1;exact rfl))
    (with_reducible refine hg _ _ hsb h1.2 ?_)
    repeat (first|((with_reducible refine Yb (d:=?_) ?_ ?_);rotate_left 1;exact rfl)|((with_reducible refine Yr (d:=?_) (e:=?_) ?_ ?_ ?_);rotate_left 2;exact rfl;exact rfl)|(with_reducible first|refine J1 ?_|refine J2 ?_|refine J7 ?_|refine J8 ?_|refine Jb ?_|refine Uz ?_ (by first|(left;constructor<;>omega)|(right;constructor<;>omega)))|((with_reducible refine Xb (a:=?_) ?_ ?_);rotate_left 1;exact rfl))
    (with_reducible refine hf _ _ _ _ hsb h1.2 hy ?_)
    repeat (first|((with_reducible first|refine Yr (d:=?_) (e:=?_) ?_ ?_ ?_|refine Ys (d:=?_) (o:=?_) ?_ ?_ ?_);rotate_left 2;exact rfl;exact rfl)|((with_reducible refine Xb (a:=?_) ?_ ?_);rotate_left 1;exact rfl))
    rw [Int.natCast_add, Int.natCast_mul] at hQ
    exact hQ
  | f a b =>
    have h1 := hle hh
    have hsa : a.ok := hs.1
    have hsb : b.ok := hs.2
    have b1 := cv2_lt hsb
    obtain ⟨rows, js, e, ha, hk2⟩ := (show ∃ rows js, v = .tuple rows ∧ All2 (RkO (cv b) (Rk b)) rows js ∧ k = rkT (cv b + 2) js from hk)
    subst e
    subst hk2
    unfold f_l_shape_rank
    (with_reducible refine FnP_mk [.fr (.tuple [.str "to", a.d, b.d]), .fr (.tuple rows), .no, .no, .no] [] ?_ ?_ ?_)
    · rfl
    · rfl
    unfold b_l_shape_rank
    repeat (first|((with_reducible first|refine Yb (d:=?_) ?_ ?_|refine Yc (b:=?_) ?_ ?_|refine Yl (a:=?_) ?_ ?_|refine Yn (b:=?_) ?_ ?_);rotate_left 1;exact rfl)|((with_reducible refine Yr (d:=?_) (e:=?_) ?_ ?_ ?_);rotate_left 2;exact rfl;exact rfl)|(with_reducible first|refine J0 ?_|refine J1 ?_|refine J2 ?_|refine J3 ?_|refine J4 ?_|refine J7 ?_|refine J8 ?_|refine J9 ?_|refine Jb ?_|refine Je ?_|refine Jh ?_|refine Jo ?_|refine U9 ?_|refine Uj ?_)|((with_reducible refine X7 ?_ ?_);exact rfl)|((with_reducible refine Xa ?_ ?_);exact rfl)|((with_reducible refine Xb (a:=?_) ?_ ?_);rotate_left 1;exact rfl))
    (with_reducible refine hg _ _ hsb h1.2 ?_)
    repeat (first|((with_reducible first|refine Yb (d:=?_) ?_ ?_|refine Yd (ds:=?_) ?_ ?_);rotate_left 1;exact rfl)|((with_reducible refine Yr (d:=?_) (e:=?_) ?_ ?_ ?_);rotate_left 2;exact rfl;exact rfl)|(with_reducible first|refine J0 ?_|refine J1 ?_|refine J6 ?_|refine Jw ?_|refine U7 ?_)|((with_reducible refine Yw (ds:=?_) ?_ ?_);rotate_left 1;exact rfl)|((with_reducible refine Yy (d:=?_) (s:=?_) ?_ ?_);rotate_left 2;exact rfl)|((with_reducible refine Xb (a:=?_) ?_ ?_);rotate_left 1;exact rfl))
    refine fl_inv (fun rest s => ∃ (j2 : List Nat) (t : Nat) (x : Sl), s = [.fr (.tuple [.str "to", a.d, b.d]), .fr (.tuple rows), .fr (.int t), .fr (.int ((cv b : Int) + 2)), x] ∧ All2 (RkO (cv b) (Rk b)) rest j2 ∧ j2.foldl (fun t j => t * (cv b + 2) + j) t = rkT (cv b + 2) js) ⟨js, 0, .no, rfl, ha, rfl⟩ ?_ ?_
    · intro d rest s hI
      obtain ⟨j2, t, x, hI⟩ := hI
      have e0 := hI.1
      have h2 := hI.2.1
      have h3 := hI.2.2
      clear hI
      subst e0
      cases h2 with
      | cons hd ht =>
        rename_i j j2
        repeat (first|((with_reducible refine Yb (d:=?_) ?_ ?_);rotate_left 1;exact rfl)|((with_reducible refine Yr (d:=?_) (e:=?_) ?_ ?_ ?_);rotate_left 2;exact rfl;exact rfl)|(with_reducible first|refine J1 ?_|refine J2 ?_|refine J3 ?_|refine J6 ?_|refine J7 ?_|refine J8 ?_|refine Jb ?_|refine Uz ?_ (by first|(left;constructor<;>omega)|(right;constructor<;>omega)))|((with_reducible refine Yy (d:=?_) (s:=?_) ?_ ?_);rotate_left 2;exact rfl)|((with_reducible refine Xb (a:=?_) ?_ ?_);rotate_left 1;exact rfl))
        (with_reducible refine hr _ _ _ _ hsb h1.2 hd ?_)
        repeat (first|((with_reducible refine Yr (d:=?_) (e:=?_) ?_ ?_ ?_);rotate_left 2;exact rfl;exact rfl)|((with_reducible refine Xb (a:=?_) ?_ ?_);rotate_left 1;exact rfl))
        refine ⟨j2, t * (cv b + 2) + j, .fr d, ?_, ht, h3⟩
        have e : ((t * (cv b + 2) + j : Nat) : Int) = (t : Int) * ((cv b : Int) + 2) + (j : Int) := by
          rw [Int.natCast_add, Int.natCast_mul]; rfl
        rw [e]
        rfl
    · intro s hI
      obtain ⟨j2, t, x, hI⟩ := hI
      have e0 := hI.1
      have h2 := hI.2.1
      have h3 := hI.2.2
      clear hI
      subst e0
      cases h2
      have h4 : t = rkT (cv b + 2) js := h3
      rw [← h4] at hQ
      repeat (first|((with_reducible refine Yb (d:=?_) ?_ ?_);rotate_left 1;exact rfl)|((with_reducible refine Ys (d:=?_) (o:=?_) ?_ ?_ ?_);rotate_left 2;exact rfl;exact rfl)|(with_reducible refine J5 ?_))
      exact hQ
abbrev RowS (f : FM) (n : Nat) : Prop := ∀ (a b : Sh) (rows : List D) (v r : D) (k : Nat) (Q : Bool → D → List D → Prop), a.ok → a.h ≤ n → Rk a v k → rows[k]? = some r → Q false r [] → FnP f [.tuple [.str "to", a.d, b.d], .tuple rows, v] Q
theorem row_s {f : FM} {n : Nat} (hf : RankS f n) : RowS (f_l_shape_row f) n := by
  intro a b rows v r k Q hs hh hk hr hQ
  have hl : k < rows.length := (List.getElem?_eq_some_iff.mp hr).1
  unfold f_l_shape_row
  (with_reducible refine FnP_mk [.fr (.tuple [.str "to", a.d, b.d]), .fr (.tuple rows), .fr v] [] ?_ ?_ ?_)
  · rfl
  · rfl
  unfold b_l_shape_row
  repeat (first|((with_reducible refine Yb (d:=?_) ?_ ?_);rotate_left 1;exact rfl)|((with_reducible refine Yr (d:=?_) (e:=?_) ?_ ?_ ?_);rotate_left 2;exact rfl;exact rfl)|(with_reducible first|refine J1 ?_|refine J2 ?_|refine J5 ?_|refine J6 ?_|refine J7 ?_|refine J8 ?_|refine Jb ?_)|((with_reducible refine Yy (d:=?_) (s:=?_) ?_ ?_);rotate_left 2;exact rfl)|((with_reducible refine Xb (a:=?_) ?_ ?_);rotate_left 1;exact rfl))
  (with_reducible refine hf _ _ _ _ hs hh hk ?_)
  repeat (first|((with_reducible refine Yr (d:=?_) (e:=?_) ?_ ?_ ?_);rotate_left 2;exact rfl;exact rfl)|((with_reducible refine Xb (a:=?_) ?_ ?_);rotate_left 1;exact rfl))
  refine o_ixt ⟨by omega, by omega⟩ fun x _ hx => ?_
  rw [Int.toNat_natCast, hr] at hx
  cases hx
  repeat (first|((with_reducible refine Ys (d:=?_) (o:=?_) ?_ ?_ ?_);rotate_left 2;exact rfl;exact rfl))
  exact hQ
/-! ### outcomes of numbers, by their rank -/
abbrev OutAtS (f : FM) : Prop := ∀ (n : Nat) (r : Int) (Q : Bool → D → List D → Prop), 1 ≤ n → n ≤ 1000 → 0 ≤ r → r < n + 2 → (∀ o, bnd n o → Q false (fd o) []) → FnP f [.int n, .int r] Q
abbrev AtS (f : FM) : Prop := ∀ (n r : Int) (Q : Bool → D → List D → Prop), Q false (.int r) [] → FnP f [.int n, .int r] Q
theorem at_s (f g h : FM) : AtS (f_l_shape_at f g h) := by
  intro n r Q hQ
  unfold f_l_shape_at
  (with_reducible refine FnP_mk [.fr (.int n), .fr (.int r), .no, .no, .no] [] ?_ ?_ ?_)
  · rfl
  · rfl
  unfold b_l_shape_at
  repeat (first|((with_reducible first|refine Yb (d:=?_) ?_ ?_|refine Yl (a:=?_) ?_ ?_|refine Yn (b:=?_) ?_ ?_);rotate_left 1;exact rfl)|((with_reducible refine Ys (d:=?_) (o:=?_) ?_ ?_ ?_);rotate_left 2;exact rfl;exact rfl)|(with_reducible first|refine J0 ?_|refine J4 ?_|refine J5 ?_|refine Jh ?_|refine Jo ?_|refine U8 ?_)|((with_reducible refine Xb (a:=?_) ?_ ?_);rotate_left 1;exact rfl))
  exact hQ
theorem outAt_s {f g : FM} {m : Nat} (hf : CountS f m) (hg : AtS g) : OutAtS (f_l_shape_outcome_at f g) := by
  intro n r Q h0 h9 h1 h2 hQ
  have hc : ∀ (Q : Bool → D → List D → Prop), Q false (.int n) [] → FnP f [.int n] Q := fun Q h => hf (.i n) Q ⟨h0, h9⟩ (Nat.zero_le _) h
  unfold f_l_shape_outcome_at
  (with_reducible refine FnP_mk [.fr (.int n), .fr (.int r)] [] ?_ ?_ ?_)
  · rfl
  · rfl
  unfold b_l_shape_outcome_at
  repeat (first|((with_reducible refine Yb (d:=?_) ?_ ?_);rotate_left 1;exact rfl)|(with_reducible first|refine J0 ?_|refine J2 ?_|refine J4 ?_|refine J6 ?_|refine J7 ?_|refine J8 ?_|refine J9 ?_|refine Jb ?_)|((with_reducible refine Yy (d:=?_) (s:=?_) ?_ ?_);rotate_left 2;exact rfl)|((with_reducible refine Xb (a:=?_) ?_ ?_);rotate_left 1;exact rfl))
  (with_reducible refine hc _ ?_)
  repeat (first|((with_reducible refine Yc (b:=?_) ?_ ?_);rotate_left 1;exact rfl)|((with_reducible refine Yr (d:=?_) (e:=?_) ?_ ?_ ?_);rotate_left 2;exact rfl;exact rfl)|(with_reducible refine Ub ?_))
  (with_reducible refine BoolW_dec (fun h3 => ?_) (fun h3 => ?_))
  · repeat (first|((with_reducible refine Yb (d:=?_) ?_ ?_);rotate_left 1;exact rfl)|(with_reducible first|refine J1 ?_|refine J5 ?_|refine J6 ?_|refine J7 ?_|refine J8 ?_|refine Jb ?_|refine Jc ?_)|((with_reducible refine Yy (d:=?_) (s:=?_) ?_ ?_);rotate_left 2;exact rfl)|((with_reducible refine Xb (a:=?_) ?_ ?_);rotate_left 1;exact rfl))
    (with_reducible refine hg _ _ _ ?_)
    repeat (first|((with_reducible refine Ys (d:=?_) (o:=?_) ?_ ?_ ?_);rotate_left 2;exact rfl;exact rfl)|(with_reducible refine J8 ?_)|((with_reducible refine Yy (d:=?_) (s:=?_) ?_ ?_);rotate_left 2;exact rfl)|((with_reducible refine Xb (a:=?_) ?_ ?_);rotate_left 1;exact rfl)|((with_reducible refine And.intro ?_ ?_);first|exact Nat.le_of_ble_eq_true rfl|exact rfl))
    have e : r = ((r.toNat : Nat) : Int) := by omega
    have := hQ (false, r.toNat) (show r.toNat < n by omega)
    rw [e]
    exact this
  · repeat (first|((with_reducible refine Yb (d:=?_) ?_ ?_);rotate_left 1;exact rfl)|(with_reducible first|refine J1 ?_|refine J2 ?_|refine J5 ?_|refine J6 ?_|refine J7 ?_|refine J8 ?_|refine Jb ?_|refine Jc ?_|refine Je ?_)|((with_reducible refine Yy (d:=?_) (s:=?_) ?_ ?_);rotate_left 2;exact rfl)|((with_reducible refine Xb (a:=?_) ?_ ?_);rotate_left 1;exact rfl))
    (with_reducible refine hc _ ?_)
    repeat (first|((with_reducible first|refine Yr (d:=?_) (e:=?_) ?_ ?_ ?_|refine Ys (d:=?_) (o:=?_) ?_ ?_ ?_);rotate_left 2;exact rfl;exact rfl)|(with_reducible refine J8 ?_)|((with_reducible refine Xb (a:=?_) ?_ ?_);rotate_left 1;exact rfl)|((with_reducible refine And.intro ?_ ?_);first|exact Nat.le_of_ble_eq_true rfl|exact rfl))
    have e : r - (n : Int) = (((r - n).toNat : Nat) : Int) := by omega
    have := hQ (true, (r - n).toNat) (show (r - n).toNat < 2 by omega)
    rw [e]
    exact this
/-! ### drawn values -/
abbrev DrawVS (f : FM) (n : Nat) : Prop := ∀ (t : D) (s : Sh) (Q : Bool → D → List D → Prop), Tp t → s.ok → rwk s ≤ 64 → s.h ≤ n → (∀ d t', (∃ fs, Fi s d fs) → Tp t' → Q false d [t']) → FnP f [t, s.d] Q
abbrev DrawOS (f : FM) (n : Nat) : Prop := ∀ (t : D) (s : Sh) (Q : Bool → D → List D → Prop), Tp t → s.ok → rwk s ≤ 64 → s.h ≤ n → (∀ d t', (∃ fs, Fa s d fs) → Tp t' → Q false d [t']) → FnP f [t, s.d] Q
theorem drawO_s {f g : FM} {n : Nat} (hd : DrawS f) (hg : DrawVS g n) : DrawOS (f_l_shape_outcome f g) n := by
  intro t s Q ht hs hr hh hQ
  unfold f_l_shape_outcome
  (with_reducible refine FnP_mk [.ow t, .fr s.d, .no] [0] ?_ ?_ ?_)
  · rfl
  · rfl
  unfold b_l_shape_outcome
  repeat (first|((with_reducible refine Ye (d:=?_) ?_ ?_);rotate_left 1;exact rfl)|(with_reducible first|refine J0 ?_|refine J1 ?_|refine J3 ?_|refine J7 ?_|refine J8 ?_|refine Jb ?_)|((with_reducible refine Xb (a:=?_) ?_ ?_);rotate_left 1;exact rfl))
  (with_reducible refine hd _ _ _ ht (by omega) fun k t1 ht1 k0 k1 => ?_)
  repeat (first|((with_reducible first|refine Yb (d:=?_) ?_ ?_|refine Yc (b:=?_) ?_ ?_);rotate_left 1;exact rfl)|((with_reducible refine Yr (d:=?_) (e:=?_) ?_ ?_ ?_);rotate_left 2;exact rfl;exact rfl)|(with_reducible first|refine J0 ?_|refine J1 ?_|refine J2 ?_|refine J4 ?_|refine J9 ?_|refine Ub ?_)|((with_reducible refine Xb (a:=?_) ?_ ?_);rotate_left 1;exact rfl))
  (with_reducible refine BoolW_dec (fun h3 => ?_) (fun h3 => ?_))
  · repeat (first|((with_reducible first|refine Yb (d:=?_) ?_ ?_|refine Ye (d:=?_) ?_ ?_);rotate_left 1;exact rfl)|(with_reducible first|refine J1 ?_|refine J5 ?_|refine J6 ?_|refine J7 ?_|refine J8 ?_|refine Jb ?_|refine Jc ?_)|((with_reducible refine Yy (d:=?_) (s:=?_) ?_ ?_);rotate_left 2;exact rfl)|((with_reducible refine Xb (a:=?_) ?_ ?_);rotate_left 1;exact rfl))
    (with_reducible refine hg _ _ _ ht1 hs hr hh fun d t2 hd2 ht2 => ?_)
    repeat (first|((with_reducible refine Ys (d:=?_) (o:=?_) ?_ ?_ ?_);rotate_left 2;exact rfl;exact rfl)|(with_reducible refine J8 ?_)|((with_reducible refine Yy (d:=?_) (s:=?_) ?_ ?_);rotate_left 2;exact rfl)|((with_reducible refine Xb (a:=?_) ?_ ?_);rotate_left 1;exact rfl)|((with_reducible refine And.intro ?_ ?_);first|exact Nat.le_of_ble_eq_true rfl|exact rfl))
    obtain ⟨fs, hf⟩ := hd2
    exact hQ _ _ ⟨_, .inr ⟨d, fs, rfl, hf, rfl⟩⟩ ht2
  · repeat (first|((with_reducible refine Yb (d:=?_) ?_ ?_);rotate_left 1;exact rfl)|((with_reducible first|refine Yr (d:=?_) (e:=?_) ?_ ?_ ?_|refine Ys (d:=?_) (o:=?_) ?_ ?_ ?_);rotate_left 2;exact rfl;exact rfl)|(with_reducible first|refine J1 ?_|refine J2 ?_|refine J5 ?_|refine J7 ?_|refine J8 ?_|refine Jc ?_|refine Je ?_)|((with_reducible refine Xb (a:=?_) ?_ ?_);rotate_left 1;exact rfl)|((with_reducible refine And.intro ?_ ?_);first|exact Nat.le_of_ble_eq_true rfl|exact rfl))
    have e : k - 4 = (((k - 4).toNat : Nat) : Int) := by omega
    rw [e]
    exact hQ _ _ ⟨_, .inl ⟨(k - 4).toNat, by omega, rfl, rfl⟩⟩ ht1
theorem drawV_leaf {f g h i : FM} {n : Nat} {t : D} {Q : Bool → D → List D → Prop} (hd : DrawS f) (ht : Tp t) (h0 : 1 ≤ n) (h1 : n ≤ 1000) (hQ : ∀ d t', (∃ fs, Fi (.i n) d fs) → Tp t' → Q false d [t']) : FnP (f_l_shape_value f g h i) [t, .int n] Q := by
  unfold f_l_shape_value
  (with_reducible refine FnP_mk [.ow t, .fr (.int n), .no, .no] [0] ?_ ?_ ?_)
  · rfl
  · rfl
  unfold b_l_shape_value
  repeat (first|((with_reducible first|refine Yb (d:=?_) ?_ ?_|refine Ye (d:=?_) ?_ ?_|refine Yl (a:=?_) ?_ ?_|refine Yn (b:=?_) ?_ ?_);rotate_left 1;exact rfl)|(with_reducible first|refine J0 ?_|refine J4 ?_|refine J5 ?_|refine J6 ?_|refine J7 ?_|refine J8 ?_|refine Jb ?_|refine Jh ?_|refine Jo ?_|refine U8 ?_)|((with_reducible refine Yy (d:=?_) (s:=?_) ?_ ?_);rotate_left 2;exact rfl)|((with_reducible refine Xb (a:=?_) ?_ ?_);rotate_left 1;exact rfl))
  (with_reducible refine hd _ _ _ ht (by omega) fun k t1 ht1 k0 k1 => ?_)
  repeat (first|((with_reducible refine Ys (d:=?_) (o:=?_) ?_ ?_ ?_);rotate_left 2;exact rfl;exact rfl))
  have e : k = ((k.toNat : Nat) : Int) := by omega
  rw [e]
  exact hQ _ _ ⟨_, k.toNat, rfl, by omega, rfl⟩ ht1
theorem drawV_s0 {f g h i : FM} (hd : DrawS f) : DrawVS (f_l_shape_value f g h i) 0 := by
  intro t s Q ht hs hr hh hQ
  cases s with
  | i n =>
    have h0 : 1 ≤ n := hs.1
    have h1 : n ≤ 1000 := hs.2
    show FnP _ [t, .int n] Q
    (with_reducible refine drawV_leaf hd ht h0 h1 ?_)
    exact hQ
  | p a b => exact absurd hh (Nat.not_succ_le_zero _)
  | f a b => exact absurd hh (Nat.not_succ_le_zero _)
theorem drawV_s {f g h i : FM} {n : Nat} (hd : DrawS f) (hg : DrawVS g n) (hc : CountS h n) (hi : DrawOS i n) : DrawVS (f_l_shape_value f g h i) (n + 1) := by
  intro t s Q ht hs hr hh hQ
  cases s with
  | i n =>
    have h0 : 1 ≤ n := hs.1
    have h1 : n ≤ 1000 := hs.2
    show FnP _ [t, .int n] Q
    (with_reducible refine drawV_leaf hd ht h0 h1 ?_)
    exact hQ
  | p a b =>
    have h1 := hle hh
    have hsa : a.ok := hs.1
    have hsb : b.ok := hs.2
    have hr' : max (rwk a) (rwk b) ≤ 64 := hr
    have hra : rwk a ≤ 64 := by omega
    have hrb : rwk b ≤ 64 := by omega
    unfold f_l_shape_value
    (with_reducible refine FnP_mk [.ow t, .fr (.tuple [.str "pair", a.d, b.d]), .no, .no] [0] ?_ ?_ ?_)
    · rfl
    · rfl
    unfold b_l_shape_value
    repeat (first|((with_reducible first|refine Yb (d:=?_) ?_ ?_|refine Yc (b:=?_) ?_ ?_|refine Ye (d:=?_) ?_ ?_|refine Yl (a:=?_) ?_ ?_|refine Yn (b:=?_) ?_ ?_);rotate_left 1;exact rfl)|((with_reducible refine Yr (d:=?_) (e:=?_) ?_ ?_ ?_);rotate_left 2;exact rfl;exact rfl)|(with_reducible first|refine J0 ?_|refine J1 ?_|refine J2 ?_|refine J3 ?_|refine J4 ?_|refine J7 ?_|refine J8 ?_|refine J9 ?_|refine Jb ?_|refine Je ?_|refine Jh ?_|refine Jo ?_|refine U9 ?_|refine Uj ?_)|((with_reducible refine X7 ?_ ?_);exact rfl)|((with_reducible refine Xb (a:=?_) ?_ ?_);rotate_left 1;exact rfl))
    (with_reducible refine hg _ _ _ ht hsa hra h1.1 fun x t1 hx ht1 => ?_)
    repeat (first|((with_reducible first|refine Yb (d:=?_) ?_ ?_|refine Ye (d:=?_) ?_ ?_);rotate_left 1;exact rfl)|((with_reducible refine Yr (d:=?_) (e:=?_) ?_ ?_ ?_);rotate_left 2;exact rfl;exact rfl)|(with_reducible first|refine J1 ?_|refine J2 ?_|refine J5 ?_|refine J6 ?_|refine J7 ?_|refine J8 ?_|refine Jb ?_|refine Jc ?_)|((with_reducible refine Yy (d:=?_) (s:=?_) ?_ ?_);rotate_left 2;exact rfl)|((with_reducible refine Xb (a:=?_) ?_ ?_);rotate_left 1;exact rfl))
    (with_reducible refine hg _ _ _ ht1 hsb hrb h1.2 fun y t2 hy ht2 => ?_)
    repeat (first|((with_reducible refine Ys (d:=?_) (o:=?_) ?_ ?_ ?_);rotate_left 2;exact rfl;exact rfl)|(with_reducible refine J8 ?_)|((with_reducible refine Yy (d:=?_) (s:=?_) ?_ ?_);rotate_left 2;exact rfl)|((with_reducible refine Xb (a:=?_) ?_ ?_);rotate_left 1;exact rfl)|((with_reducible refine And.intro ?_ ?_);first|exact Nat.le_of_ble_eq_true rfl|exact rfl))
    obtain ⟨fs, hfx⟩ := hx
    obtain ⟨gs, hfy⟩ := hy
    exact hQ _ _ ⟨_, x, y, fs, gs, rfl, hfx, hfy, rfl⟩ ht2
  | f a b =>
    have h1 := hle hh
    have hsa : a.ok := hs.1
    have hsb : b.ok := hs.2
    have hr' : max (max (rwk a) (rwk b)) (cv a) ≤ 64 := hr
    have hrb : rwk b ≤ 64 := by omega
    have hca : cv a ≤ 64 := by omega
    unfold f_l_shape_value
    (with_reducible refine FnP_mk [.ow t, .fr (.tuple [.str "to", a.d, b.d]), .no, .no] [0] ?_ ?_ ?_)
    · rfl
    · rfl
    unfold b_l_shape_value
    repeat (first|((with_reducible first|refine Yb (d:=?_) ?_ ?_|refine Yc (b:=?_) ?_ ?_|refine Yl (a:=?_) ?_ ?_|refine Yn (b:=?_) ?_ ?_);rotate_left 1;exact rfl)|((with_reducible refine Yr (d:=?_) (e:=?_) ?_ ?_ ?_);rotate_left 2;exact rfl;exact rfl)|(with_reducible first|refine J0 ?_|refine J1 ?_|refine J2 ?_|refine J4 ?_|refine J5 ?_|refine J6 ?_|refine J7 ?_|refine J8 ?_|refine J9 ?_|refine Ja ?_|refine Jb ?_|refine Je ?_|refine Jh ?_|refine Jo ?_|refine Jx ?_|refine Jz ?_|refine U9 ?_|refine Uj ?_)|((with_reducible refine X7 ?_ ?_);exact rfl)|((with_reducible refine Xa ?_ ?_);exact rfl)|((with_reducible refine Xb (a:=?_) ?_ ?_);rotate_left 1;exact rfl))
    (with_reducible refine hc _ _ hsa h1.1 ?_)
    repeat (first|((with_reducible refine Yj (n:=?_) ?_ ?_ ?_);rotate_left 1;exact rfl)|(with_reducible refine J8 ?_)|((with_reducible refine Yy (d:=?_) (s:=?_) ?_ ?_);rotate_left 2;exact rfl)|((with_reducible refine And.intro ?_ ?_);first|exact Nat.le_of_ble_eq_true rfl|exact rfl))
    refine lc_inv (fun rest acc s => ∃ (t' : D) (gss : List (List Fo)), s = [.ow t', .fr (.tuple [.str "to", a.d, b.d]), .no, .no] ∧ Tp t' ∧ All2 (FaO (lc b) (preF b) (Fi b)) acc gss ∧ acc.length + rest.length = cv a) ⟨t, [], rfl, ht, .nil, ?_⟩ ?_ ?_
    · rw [rng_len, List.length_nil]; omega
    · rintro d rest acc s ⟨t', gss, rfl, ht', hg', hl⟩
      rw [List.length_cons] at hl
      repeat (first|((with_reducible first|refine Yb (d:=?_) ?_ ?_|refine Ye (d:=?_) ?_ ?_);rotate_left 1;exact rfl)|((with_reducible refine Yr (d:=?_) (e:=?_) ?_ ?_ ?_);rotate_left 2;exact rfl;exact rfl)|(with_reducible first|refine J1 ?_|refine J2 ?_|refine J6 ?_|refine J7 ?_|refine J8 ?_|refine Jb ?_|refine U0 ?_|refine U8 ?_)|((with_reducible refine Xb (a:=?_) ?_ ?_);rotate_left 1;exact rfl))
      (with_reducible refine hi _ _ _ ht' hsb hrb h1.2 fun x t1 hx ht1 => ?_)
      repeat (first|((with_reducible refine Yk (y:=?_) ?_ ?_ ?_);rotate_left 1;exact rfl)|((with_reducible refine Yy (d:=?_) (s:=?_) ?_ ?_);rotate_left 2;exact rfl))
      · obtain ⟨fs, hfx⟩ := hx
        exact ⟨t1, gss ++ [fs], rfl, ht1, hg'.app (.cons hfx .nil), by rw [List.length_append, List.length_singleton]; omega⟩
      · rw [size24]; omega
    · rintro acc s ⟨t', gss, rfl, ht', hg', hl⟩
      have hl' : acc.length = cv a := by simpa using hl
      repeat (first|((with_reducible refine Yl (a:=?_) ?_ ?_);rotate_left 1;exact rfl)|((with_reducible refine Ys (d:=?_) (o:=?_) ?_ ?_ ?_);rotate_left 2;exact rfl;exact rfl)|(with_reducible refine J8 ?_)|((with_reducible refine Xb (a:=?_) ?_ ?_);rotate_left 1;exact rfl))
      exact hQ _ _ ⟨_, acc, gss, rfl, hl', hg', rfl⟩ ht'
    all_goals omega
theorem fa_int {n : Nat} {d : D} {fs : List Fo} (h : Fa (.i n) d fs) : ∃ o, bnd n o ∧ d = fd o := by
  rcases h with ⟨k, hk, rfl, _⟩ | ⟨x, gs, rfl, ⟨k, rfl, hk, _⟩, _⟩
  · exact ⟨(true, k), hk, rfl⟩
  · exact ⟨(false, k), hk, rfl⟩
theorem las_bnd : ∀ {s : Sh}, s.ok → ∀ n ∈ lasI s, 1 ≤ n ∧ n ≤ 1000
  | .i k, h, n, hn => by
    have hn' : n ∈ (if 2 ≤ k then [k] else []) := hn
    split at hn'
    · rw [List.mem_singleton.mp hn']; exact h
    · cases hn'
  | .p a b, h, n, hn => by
    rcases List.mem_append.mp (show n ∈ lasI a ++ lasI b from hn) with h1 | h1
    · exact las_bnd h.1 n h1
    · exact las_bnd h.2 n h1
  | .f a b, h, n, hn => by
    obtain ⟨l, hl, h2⟩ := List.mem_flatten.mp (show n ∈ (List.replicate (cv a) (preL b ++ lasI b)).flatten from hn)
    rw [(List.mem_replicate.mp hl).2] at h2
    rcases List.mem_append.mp h2 with h1 | h1
    · unfold preL at h1
      split at h1
      · cases h1
      · rw [List.mem_singleton.mp h1]; omega
    · exact las_bnd h.2 n h1
theorem lasA_bnd {s : Sh} (h : s.ok) : ∀ n ∈ lasA s, 1 ≤ n ∧ n ≤ 1000 := fun n hn => by
  rcases List.mem_append.mp (show n ∈ preL s ++ lasI s from hn) with h1 | h1
  · unfold preL at h1
    split at h1
    · cases h1
    · rw [List.mem_singleton.mp h1]; omega
  · exact las_bnd h n h1
end L2.Zd.Lib

set_option Elab.async false
set_option linter.all false
set_option maxRecDepth 100000
set_option maxHeartbeats 2000000
namespace L2.Zd.Lib
open PySem PySem.Spec PyProof.Rows L2.Zd
/-! ### extend -/
def ExtW (i : Nat) (as : List Vt) (o : Option Sl) (s : DS) (P : Vt → DS → Prop) : Prop := match as, o with
  | [.ow (.list ys)], some (.ow (.list xs)) => xs.length + ys.length ≤ sizeLine ∧ P (.fr .none) (s.set i (.ow (.list (xs ++ ys))))
  | _, _ => False
theorem i_ext {i : Nat} {m : M (List Vt)} {s : DS} {P : Vt → DS → Prop} (h : OwnW i s s[i]? fun _ s0 => Wp m s0 fun as s1 => ExtW i as s1[i]? s1 P) : Wp (dExt i m) s P := by
  rw [← w_own] at h
  unfold Wp dExt
  rw [Wp_bindR]
  unfold Wp at h
  revert h
  cases dOwn i s with
  | ok x s0 =>
    intro h
    show WpR ((m s0).bind fun xs s1 => extS i xs s1) P
    rw [Wp_bindR]
    have h' : WpR (m s0) fun as s1 => ExtW i as s1[i]? s1 P := h
    revert h'
    cases m s0 with
    | ok as s1 =>
      intro h
      have h' : ExtW i as s1[i]? s1 P := h
      show WpR (extS i as s1) P
      unfold ExtW at h'
      split at h'
      · rename_i o ys xs e
        obtain ⟨h1, h2⟩ := h'
        show WpR (match s1[i]? with
          | some (.ow (.list xs)) => if xs.length + ys.length ≤ sizeLine then R.ok (.fr .none) (s1.set i (.ow (.list (xs ++ ys)))) else .no
          | _ => .no) P
        rw [e]
        show WpR (if xs.length + ys.length ≤ sizeLine then R.ok (.fr .none) (s1.set i (.ow (.list (xs ++ ys)))) else .no) P
        rw [if_pos h1]
        exact h2
      · exact h'.elim
    | er e s1 => exact fun h => h
    | no => exact fun h => h
  | er e s1 => exact fun h => h
  | no => exact fun h => h
theorem i_extw {i : Nat} {as : List Vt} {o : Option Sl} {s : DS} {P : Vt → DS → Prop} {ys xs : List D} (e1 : as = [.ow (.list ys)]) (e2 : o = some (.ow (.list xs))) (h : P (.fr .none) (s.set i (.ow (.list (xs ++ ys))))) (c : xs.length + ys.length ≤ sizeLine) : ExtW i as o s P := by subst e1 e2; exact ⟨c, h⟩
/-! ### all looks -/
theorem lkI_mlen : ∀ {s : Sh}, ∀ m ∈ lkI s, m.length ≤ s.h + 1
  | .i n, m, h => by
    have h' : m ∈ (if 2 ≤ n then [[]] else []) := h
    split at h'
    · rw [List.mem_singleton.mp h']; exact Nat.zero_le _
    · cases h'
  | .p a b, m, h => by
    show _ ≤ max a.h b.h + 1 + 1
    rcases List.mem_append.mp (show m ∈ (lkI a).map (fs1 :: ·) ++ (lkI b).map (sc1 :: ·) from h) with h1 | h1
    · obtain ⟨x, hx, rfl⟩ := List.mem_map.mp h1
      have := lkI_mlen x hx
      rw [List.length_cons]; omega
    · obtain ⟨x, hx, rfl⟩ := List.mem_map.mp h1
      have := lkI_mlen x hx
      rw [List.length_cons]; omega
  | .f a b, m, h => by
    show _ ≤ max a.h b.h + 1 + 1
    obtain ⟨v, _, h1⟩ := List.mem_flatMap.mp (show m ∈ (vals a).flatMap fun v => (preK b ++ lkI b).map (ap v :: ·) from h)
    obtain ⟨x, hx, rfl⟩ := List.mem_map.mp h1
    rw [List.length_cons]
    rcases List.mem_append.mp hx with h2 | h2
    · unfold preK at h2
      split at h2
      · cases h2
      · rw [List.mem_singleton.mp h2]; simp only [List.length_cons, List.length_nil]; omega
    · have := lkI_mlen x h2
      omega
theorem lkA_mlen {s : Sh} : ∀ m ∈ lkA s, m.length ≤ s.h + 1 := fun m h => by
  rcases List.mem_append.mp h with h2 | h2
  · unfold preK at h2
    split at h2
    · cases h2
    · rw [List.mem_singleton.mp h2]; simp only [List.length_cons, List.length_nil]; omega
  · exact lkI_mlen m h2
abbrev LkIS (f : FM) (n : Nat) : Prop := ∀ (s : Sh) (Q : Bool → D → List D → Prop), Gd s → s.h ≤ n → Q true (.list ((lkI s).map .tuple)) [] → FnP f [s.d] Q
abbrev LkAS (f : FM) (n : Nat) : Prop := ∀ (s : Sh) (Q : Bool → D → List D → Prop), Gd s → s.h ≤ n → Q true (.list ((lkA s).map .tuple)) [] → FnP f [s.d] Q
theorem lkI_len {s : Sh} (h : Gd s) : (lkI s).length = ls s := by rw [(lkI_la h).len, lasI_len h.ok h.lt]
theorem lkA_s {f g : FM} {n : Nat} (hf : ShowS f n) (hg : LkIS g n) : LkAS (f_l_look_all f g) n := by
  intro s Q hs hh hQ
  have hl := lkI_len hs
  have h3 := hs.ls_
  unfold f_l_look_all
  (with_reducible refine FnP_mk [.fr s.d] [] ?_ ?_ ?_)
  · rfl
  · rfl
  unfold b_l_look_all
  repeat (first|((with_reducible refine Yb (d:=?_) ?_ ?_);rotate_left 1;exact rfl)|(with_reducible first|refine J0 ?_|refine J4 ?_|refine J6 ?_|refine J7 ?_|refine J8 ?_|refine Jb ?_|refine Jh ?_)|((with_reducible refine Yy (d:=?_) (s:=?_) ?_ ?_);rotate_left 2;exact rfl)|((with_reducible refine Xb (a:=?_) ?_ ?_);rotate_left 1;exact rfl))
  (with_reducible refine hf _ _ hh ?_)
  repeat (first|((with_reducible refine Yl (a:=?_) ?_ ?_);rotate_left 1;exact rfl)|((with_reducible refine Xb (a:=?_) ?_ ?_);rotate_left 1;exact rfl))
  refine BoolW_any (fun hb => ?_) (fun hb => ?_)
  · repeat (first|((with_reducible refine Yb (d:=?_) ?_ ?_);rotate_left 1;exact rfl)|(with_reducible first|refine J5 ?_|refine J6 ?_|refine J7 ?_|refine J8 ?_|refine Jb ?_)|((with_reducible refine Yy (d:=?_) (s:=?_) ?_ ?_);rotate_left 2;exact rfl)|((with_reducible refine Xb (a:=?_) ?_ ?_);rotate_left 1;exact rfl))
    (with_reducible refine hg _ _ hs hh ?_)
    repeat (first|((with_reducible refine Ys (d:=?_) (o:=?_) ?_ ?_ ?_);rotate_left 2;exact rfl;exact rfl)|((with_reducible refine X1 (d:=?_) (o:=?_) ?_ ?_ ?_);rotate_left 2;exact rfl;exact rfl))
    have e : lkA s = lkI s := by unfold lkA preK; rw [if_pos hb]; rfl
    rw [e] at hQ
    exact hQ
  · repeat (first|((with_reducible refine Yb (d:=?_) ?_ ?_);rotate_left 1;exact rfl)|(with_reducible first|refine J1 ?_|refine J2 ?_|refine J5 ?_|refine J6 ?_|refine J7 ?_|refine J8 ?_|refine Jb ?_|refine Jc ?_|refine Jd ?_|refine Je ?_)|((with_reducible refine Yy (d:=?_) (s:=?_) ?_ ?_);rotate_left 2;exact rfl)|((with_reducible refine Xb (a:=?_) ?_ ?_);rotate_left 1;exact rfl)|((with_reducible refine And.intro ?_ ?_);first|exact Nat.le_of_ble_eq_true rfl|exact rfl))
    (with_reducible refine hg _ _ hs hh ?_)
    repeat (first|((with_reducible first|refine Yr (d:=?_) (e:=?_) ?_ ?_ ?_|refine Ys (d:=?_) (o:=?_) ?_ ?_ ?_);rotate_left 2;exact rfl;exact rfl)|(with_reducible refine Uu ?_ ?_)|((with_reducible refine X1 (d:=?_) (o:=?_) ?_ ?_ ?_);rotate_left 2;exact rfl;exact rfl))
    · have e : lkA s = [wh] :: lkI s := by unfold lkA preK; rw [if_neg (by rw [hb]; exact Bool.false_ne_true)]; rfl
      rw [e] at hQ
      exact hQ
    · rw [size24, List.length_map]; simp only [List.length_cons, List.length_nil]; omega
theorem lkI_leaf {f g h : FM} {k : Nat} {Q : Bool → D → List D → Prop} (hQ : Q true (.list ((lkI (.i k)).map .tuple)) []) : FnP (f_l_look_inner f g h) [.int k] Q := by
  unfold f_l_look_inner
  (with_reducible refine FnP_mk [.fr (.int k), .no, .no, .no, .no] [] ?_ ?_ ?_)
  · rfl
  · rfl
  unfold b_l_look_inner
  repeat (first|((with_reducible first|refine Yb (d:=?_) ?_ ?_|refine Yc (b:=?_) ?_ ?_|refine Yl (a:=?_) ?_ ?_|refine Yn (b:=?_) ?_ ?_);rotate_left 1;exact rfl)|((with_reducible refine Yr (d:=?_) (e:=?_) ?_ ?_ ?_);rotate_left 2;exact rfl;exact rfl)|(with_reducible first|refine J0 ?_|refine J1 ?_|refine J2 ?_|refine J4 ?_|refine J5 ?_|refine J9 ?_|refine Jg ?_|refine Jh ?_|refine Jo ?_|refine U8 ?_|refine Ue ?_)|((with_reducible refine Xb (a:=?_) ?_ ?_);rotate_left 1;exact rfl))
  (with_reducible refine BoolW_dec (fun hb => ?_) (fun hb => ?_))
  · repeat (first|((with_reducible refine Ys (d:=?_) (o:=?_) ?_ ?_ ?_);rotate_left 2;exact rfl;exact rfl)|(with_reducible first|refine J7 ?_|refine J8 ?_|refine Jc ?_|refine Jd ?_)|((with_reducible refine X1 (d:=?_) (o:=?_) ?_ ?_ ?_);rotate_left 2;exact rfl;exact rfl)|((with_reducible refine Xb (a:=?_) ?_ ?_);rotate_left 1;exact rfl)|((with_reducible refine And.intro ?_ ?_);first|exact Nat.le_of_ble_eq_true rfl|exact rfl))
    have e : lkI (.i k) = [[]] := by show (if 2 ≤ k then [[]] else []) = _; rw [if_pos (by omega)]
    rw [e] at hQ
    exact hQ
  · repeat (first|((with_reducible refine Ys (d:=?_) (o:=?_) ?_ ?_ ?_);rotate_left 2;exact rfl;exact rfl)|(with_reducible first|refine J8 ?_|refine Jd ?_)|((with_reducible refine X1 (d:=?_) (o:=?_) ?_ ?_ ?_);rotate_left 2;exact rfl;exact rfl)|((with_reducible refine Xb (a:=?_) ?_ ?_);rotate_left 1;exact rfl)|((with_reducible refine And.intro ?_ ?_);first|exact Nat.le_of_ble_eq_true rfl|exact rfl))
    have e : lkI (.i k) = [] := by show (if 2 ≤ k then [[]] else []) = _; rw [if_neg (by omega)]
    rw [e] at hQ
    exact hQ
theorem lkI_s0 (f g h : FM) : LkIS (f_l_look_inner f g h) 0 := by
  intro s Q hs hh hQ
  cases s with
  | i k =>
    show FnP _ [.int k] Q
    (with_reducible refine lkI_leaf ?_)
    exact hQ
  | p a b => exact absurd hh (Nat.not_succ_le_zero _)
  | f a b => exact absurd hh (Nat.not_succ_le_zero _)
def cns (x : D) : D → D
  | .tuple m => .tuple (x :: m)
  | d => d
theorem map_cns (x : D) (l : List (List D)) : (l.map PyData.tuple).map (cns x) = (l.map (x :: ·)).map PyData.tuple := by
  rw [List.map_map, List.map_map]; rfl
theorem lkI_s {f g h : FM} {n : Nat} (hn : n ≤ 100) (hf : LkIS f n) (hg : LkAS g n) (hv : ValsS h n) : LkIS (f_l_look_inner f g h) (n + 1) := by
  intro s Q hs hh hQ
  cases s with
  | i k =>
    show FnP _ [.int k] Q
    (with_reducible refine lkI_leaf ?_)
    exact hQ
  | p a b =>
    have h1 := hle hh
    have hga := hs.p1
    have hgb := hs.p2
    have la := lkI_len hga
    have lb := lkI_len hgb
    have l2 := hs.ls_
    have l1 := hs.psum
    unfold f_l_look_inner
    (with_reducible refine FnP_mk [.fr (.tuple [.str "pair", a.d, b.d]), .no, .no, .no, .no] [] ?_ ?_ ?_)
    · rfl
    · rfl
    unfold b_l_look_inner
    repeat (first|((with_reducible first|refine Yb (d:=?_) ?_ ?_|refine Yc (b:=?_) ?_ ?_|refine Yl (a:=?_) ?_ ?_|refine Yn (b:=?_) ?_ ?_);rotate_left 1;exact rfl)|((with_reducible refine Yr (d:=?_) (e:=?_) ?_ ?_ ?_);rotate_left 2;exact rfl;exact rfl)|(with_reducible first|refine J0 ?_|refine J1 ?_|refine J2 ?_|refine J3 ?_|refine J4 ?_|refine J6 ?_|refine J7 ?_|refine J8 ?_|refine J9 ?_|refine Jb ?_|refine Je ?_|refine Jh ?_|refine Jo ?_|refine Jw ?_|refine Jz ?_|refine U9 ?_|refine Uj ?_)|((with_reducible refine X7 ?_ ?_);exact rfl)|((with_reducible refine Xb (a:=?_) ?_ ?_);rotate_left 1;exact rfl))
    (with_reducible refine hf _ _ hga h1.1 ?_)
    repeat (first|(((with_reducible refine i_fzV (b:=?_) (d:=?_) ?_ ?_);rotate_left 2;exact rfl))|((with_reducible refine o_putV ?_))|((with_reducible refine fzP_vt ?_))|((with_reducible refine i_ext ?_))|(((with_reducible refine i_extw (ys:=?_) (xs:=?_) ?_ ?_ ?_ ?_);rotate_left 2;exact rfl;exact rfl))|((with_reducible refine Yd (ds:=?_) ?_ ?_);rotate_left 1;exact rfl)|((with_reducible refine And.intro ?_ ?_);first|exact Nat.le_of_ble_eq_true rfl|exact rfl))
    refine lc_pure (cns fs1) (fun _ => true) ?_ ?_ ?_
    · intro d hd
      obtain ⟨m, hm, rfl⟩ := List.mem_map.mp hd
      have := lkI_mlen m hm
      repeat (first|((with_reducible refine Yb (d:=?_) ?_ ?_);rotate_left 1;exact rfl)|((with_reducible refine Yr (d:=?_) (e:=?_) ?_ ?_ ?_);rotate_left 2;exact rfl;exact rfl)|(with_reducible first|refine J1 ?_|refine J2 ?_|refine J6 ?_|refine J7 ?_|refine J8 ?_|refine Jc ?_|refine U0 ?_|refine U8 ?_|refine Uv ?_ ?_)|((with_reducible refine Yy (d:=?_) (s:=?_) ?_ ?_);rotate_left 2;exact rfl)|((with_reducible refine Xb (a:=?_) ?_ ?_);rotate_left 1;exact rfl)|((with_reducible refine And.intro ?_ ?_);first|exact Nat.le_of_ble_eq_true rfl|exact rfl))
      · rfl
      · rw [size24]; simp only [List.length_cons, List.length_nil]; omega
    · rw [size24, List.length_map]; omega
    rw [filtT, map_cns]
    repeat (first|(((with_reducible refine i_fzV (b:=?_) (d:=?_) ?_ ?_);rotate_left 2;exact rfl))|((with_reducible refine o_putV ?_))|((with_reducible refine fzP_vt ?_))|((with_reducible refine i_ext ?_))|(((with_reducible refine i_extw (ys:=?_) (xs:=?_) ?_ ?_ ?_ ?_);rotate_left 2;exact rfl;exact rfl))|((with_reducible refine Yb (d:=?_) ?_ ?_);rotate_left 1;exact rfl)|((with_reducible refine Yr (d:=?_) (e:=?_) ?_ ?_ ?_);rotate_left 2;exact rfl;exact rfl)|(with_reducible first|refine J1 ?_|refine J2 ?_|refine J5 ?_|refine J6 ?_|refine J7 ?_|refine J8 ?_|refine Jb ?_|refine Jw ?_|refine Jz ?_)|((with_reducible refine Yv (d:=?_) ?_ ?_);rotate_left 1;exact rfl)|((with_reducible refine Xb (a:=?_) ?_ ?_);rotate_left 1;exact rfl))
    (with_reducible refine hf _ _ hgb h1.2 ?_)
    repeat (first|(((with_reducible refine i_fzV (b:=?_) (d:=?_) ?_ ?_);rotate_left 2;exact rfl))|((with_reducible refine o_putV ?_))|((with_reducible refine fzP_vt ?_))|((with_reducible refine i_ext ?_))|(((with_reducible refine i_extw (ys:=?_) (xs:=?_) ?_ ?_ ?_ ?_);rotate_left 2;exact rfl;exact rfl))|((with_reducible refine Yd (ds:=?_) ?_ ?_);rotate_left 1;exact rfl)|((with_reducible refine And.intro ?_ ?_);first|exact Nat.le_of_ble_eq_true rfl|exact rfl))
    refine lc_pure (cns sc1) (fun _ => true) ?_ ?_ ?_
    · intro d hd
      obtain ⟨m, hm, rfl⟩ := List.mem_map.mp hd
      have := lkI_mlen m hm
      repeat (first|((with_reducible refine Yb (d:=?_) ?_ ?_);rotate_left 1;exact rfl)|((with_reducible refine Yr (d:=?_) (e:=?_) ?_ ?_ ?_);rotate_left 2;exact rfl;exact rfl)|(with_reducible first|refine J1 ?_|refine J2 ?_|refine J6 ?_|refine J7 ?_|refine J8 ?_|refine Jc ?_|refine U0 ?_|refine U8 ?_|refine Uv ?_ ?_)|((with_reducible refine Yy (d:=?_) (s:=?_) ?_ ?_);rotate_left 2;exact rfl)|((with_reducible refine Xb (a:=?_) ?_ ?_);rotate_left 1;exact rfl)|((with_reducible refine And.intro ?_ ?_);first|exact Nat.le_of_ble_eq_true rfl|exact rfl))
      · rfl
      · rw [size24]; simp only [List.length_cons, List.length_nil]; omega
    · rw [size24, List.length_map]; omega
    rw [filtT, map_cns]
    repeat (first|(((with_reducible refine i_fzV (b:=?_) (d:=?_) ?_ ?_);rotate_left 2;exact rfl))|((with_reducible refine o_putV ?_))|((with_reducible refine fzP_vt ?_))|((with_reducible refine i_ext ?_))|(((with_reducible refine i_extw (ys:=?_) (xs:=?_) ?_ ?_ ?_ ?_);rotate_left 2;exact rfl;exact rfl))|((with_reducible first|refine Yr (d:=?_) (e:=?_) ?_ ?_ ?_|refine Ys (d:=?_) (o:=?_) ?_ ?_ ?_);rotate_left 2;exact rfl;exact rfl)|(with_reducible refine Uu ?_ ?_)|((with_reducible refine X1 (d:=?_) (o:=?_) ?_ ?_ ?_);rotate_left 2;exact rfl;exact rfl))
    · have e : lkI (.p a b) = (lkI a).map (fs1 :: ·) ++ (lkI b).map (sc1 :: ·) := rfl
      rw [e, List.map_append] at hQ
      exact hQ
    · rw [size24]; simp only [List.length_map]; omega
  | f a b =>
    have h1 := hle hh
    have hsa : a.ok := hs.ok.1
    have hgb := hs.f2
    have lb := lkA_len hgb
    have hf0 := hs.f0
    have l2 := hs.ls_
    have lv := vals_len hsa (show cv a < CC by have := CCe; omega)
    unfold f_l_look_inner
    (with_reducible refine FnP_mk [.fr (.tuple [.str "to", a.d, b.d]), .no, .no, .no, .no] [] ?_ ?_ ?_)
    · rfl
    · rfl
    unfold b_l_look_inner
    repeat (first|((with_reducible first|refine Yb (d:=?_) ?_ ?_|refine Yc (b:=?_) ?_ ?_|refine Yl (a:=?_) ?_ ?_|refine Yn (b:=?_) ?_ ?_);rotate_left 1;exact rfl)|((with_reducible refine Yr (d:=?_) (e:=?_) ?_ ?_ ?_);rotate_left 2;exact rfl;exact rfl)|(with_reducible first|refine J0 ?_|refine J1 ?_|refine J2 ?_|refine J3 ?_|refine J4 ?_|refine J7 ?_|refine J8 ?_|refine J9 ?_|refine Jb ?_|refine Jd ?_|refine Je ?_|refine Jh ?_|refine Jo ?_|refine U9 ?_|refine Uj ?_)|((with_reducible refine X7 ?_ ?_);exact rfl)|((with_reducible refine Xa ?_ ?_);exact rfl)|((with_reducible refine Xb (a:=?_) ?_ ?_);rotate_left 1;exact rfl)|((with_reducible refine And.intro ?_ ?_);first|exact Nat.le_of_ble_eq_true rfl|exact rfl))
    (with_reducible refine hg _ _ hgb h1.2 ?_)
    repeat (first|(((with_reducible refine i_fzV (b:=?_) (d:=?_) ?_ ?_);rotate_left 2;exact rfl))|((with_reducible refine o_putV ?_))|((with_reducible refine fzP_vt ?_))|((with_reducible refine i_ext ?_))|(((with_reducible refine i_extw (ys:=?_) (xs:=?_) ?_ ?_ ?_ ?_);rotate_left 2;exact rfl;exact rfl))|((with_reducible refine Yb (d:=?_) ?_ ?_);rotate_left 1;exact rfl)|((with_reducible refine Yr (d:=?_) (e:=?_) ?_ ?_ ?_);rotate_left 2;exact rfl;exact rfl)|(with_reducible first|refine J0 ?_|refine J1 ?_|refine J2 ?_|refine J6 ?_|refine J7 ?_|refine J8 ?_|refine Jb ?_|refine Jw ?_|refine U7 ?_)|((with_reducible refine Xb (a:=?_) ?_ ?_);rotate_left 1;exact rfl))
    (with_reducible refine hv _ _ hsa h1.1 (by omega) fun b1 => ?_)
    repeat (first|(((with_reducible refine i_fzV (b:=?_) (d:=?_) ?_ ?_);rotate_left 2;exact rfl))|((with_reducible refine o_putV ?_))|((with_reducible refine fzP_vt ?_))|((with_reducible refine i_ext ?_))|(((with_reducible refine i_extw (ys:=?_) (xs:=?_) ?_ ?_ ?_ ?_);rotate_left 2;exact rfl;exact rfl))|((with_reducible refine Yd (ds:=?_) ?_ ?_);rotate_left 1;exact rfl))
    refine fl_inv (fun rest s => ∃ (pre : List D) (b2 : Bool) (x3 : Sl), pre ++ rest = vals a ∧ s = [.fr (.tuple [.str "to", a.d, b.d]), .ow (.list ((pre.flatMap fun v => (lkA b).map (ap v :: ·)).map .tuple)), mkS b2 (.list ((lkA b).map .tuple)), x3, .no]) ⟨[], true, .no, rfl, rfl⟩ ?_ ?_
    · rintro v rest s ⟨pre, b2, x3, hp, rfl⟩
      have hpl : pre.length + 1 ≤ cv a := by
        have := congrArg List.length hp
        rw [List.length_append, List.length_cons] at this; omega
      have hml := Nat.mul_le_mul_right (lc b) hpl
      rw [Nat.add_mul, Nat.one_mul] at hml
      repeat (first|(((with_reducible refine i_fzV (b:=?_) (d:=?_) ?_ ?_);rotate_left 2;exact rfl))|((with_reducible refine o_putV ?_))|((with_reducible refine fzP_vt ?_))|((with_reducible refine i_ext ?_))|(((with_reducible refine i_extw (ys:=?_) (xs:=?_) ?_ ?_ ?_ ?_);rotate_left 2;exact rfl;exact rfl))|((with_reducible first|refine Yd (ds:=?_) ?_ ?_|refine Yf (d:=?_) ?_ ?_);rotate_left 1;exact rfl)|(with_reducible first|refine J7 ?_|refine Jf ?_|refine Jw ?_|refine Jz ?_)|((with_reducible refine Xb (a:=?_) ?_ ?_);rotate_left 1;exact rfl)|((with_reducible refine And.intro ?_ ?_);first|exact Nat.le_of_ble_eq_true rfl|exact rfl))
      refine lc_pure (cns (ap v)) (fun _ => true) ?_ ?_ ?_
      · intro d hd
        obtain ⟨m, hm, rfl⟩ := List.mem_map.mp hd
        have := lkA_mlen m hm
        repeat (first|((with_reducible refine Yb (d:=?_) ?_ ?_);rotate_left 1;exact rfl)|((with_reducible refine Yr (d:=?_) (e:=?_) ?_ ?_ ?_);rotate_left 2;exact rfl;exact rfl)|(with_reducible first|refine J1 ?_|refine J2 ?_|refine J6 ?_|refine J7 ?_|refine J8 ?_|refine Jc ?_|refine U0 ?_|refine U8 ?_|refine Uv ?_ ?_)|((with_reducible refine Yy (d:=?_) (s:=?_) ?_ ?_);rotate_left 2;exact rfl)|((with_reducible refine Xb (a:=?_) ?_ ?_);rotate_left 1;exact rfl)|((with_reducible refine And.intro ?_ ?_);first|exact Nat.le_of_ble_eq_true rfl|exact rfl))
        · rfl
        · rw [size24]; simp only [List.length_cons, List.length_nil]; omega
      · rw [size24, List.length_map]; omega
      rw [filtT, map_cns]
      repeat (first|(((with_reducible refine i_fzV (b:=?_) (d:=?_) ?_ ?_);rotate_left 2;exact rfl))|((with_reducible refine o_putV ?_))|((with_reducible refine fzP_vt ?_))|((with_reducible refine i_ext ?_))|(((with_reducible refine i_extw (ys:=?_) (xs:=?_) ?_ ?_ ?_ ?_);rotate_left 2;exact rfl;exact rfl))|(with_reducible refine J8 ?_))
      · refine ⟨pre ++ [v], false, .fr v, by rw [List.append_assoc]; exact hp, ?_⟩
        rw [List.flatMap_append, List.flatMap_singleton, List.map_append]
        rfl
      · rw [size24]
        simp only [List.length_map]
        rw [flatMap_len (m := lc b) (fun x _ => by rw [List.length_map, lb])]
        omega
    · rintro s ⟨pre, b2, x3, hp, rfl⟩
      rw [List.append_nil] at hp
      subst hp
      repeat (first|((with_reducible refine Yb (d:=?_) ?_ ?_);rotate_left 1;exact rfl)|((with_reducible refine Ys (d:=?_) (o:=?_) ?_ ?_ ?_);rotate_left 2;exact rfl;exact rfl)|(with_reducible refine J5 ?_)|((with_reducible refine Yv (d:=?_) ?_ ?_);rotate_left 1;exact rfl)|((with_reducible refine X1 (d:=?_) (o:=?_) ?_ ?_ ?_);rotate_left 2;exact rfl;exact rfl)|((with_reducible refine X2 (i:=?_) (d:=?_) (o:=?_) ?_ ?_ ?_ ?_);rotate_left 3;exact rfl;exact rfl;exact rfl)|((with_reducible refine X3 (i:=?_) (d:=?_) (o:=?_) ?_ ?_ ?_ ?_ ?_);rotate_left 3;exact rfl;exact rfl;exact rfl;exact rfl))
      exact hQ
/-! ### the last shape of a look -/
abbrev LastS (f : FM) : Prop := ∀ (s : Sh) (m : List D) (n : Nat) (Q : Bool → D → List D → Prop), La s m n → Q false (.int n) [] → FnP f [s.d, .tuple m] Q
theorem last_s : LastS f_l_look_last := by
  intro s m n Q h hQ
  unfold f_l_look_last
  (with_reducible refine FnP_mk [.fr s.d, .fr (.tuple m), .no] [] ?_ ?_ ?_)
  · rfl
  · rfl
  unfold b_l_look_last
  repeat (first|((with_reducible first|refine Yb (d:=?_) ?_ ?_|refine Yd (ds:=?_) ?_ ?_);rotate_left 1;exact rfl)|(with_reducible first|refine J0 ?_|refine J6 ?_|refine Jw ?_|refine U7 ?_)|((with_reducible refine Yw (ds:=?_) ?_ ?_);rotate_left 1;exact rfl)|((with_reducible refine Yy (d:=?_) (s:=?_) ?_ ?_);rotate_left 2;exact rfl))
  refine fl_inv (fun rest st => ∃ (s' : Sh) (x : Sl), st = [.fr s'.d, .fr (.tuple m), x] ∧ La s' rest n) ⟨s, .no, rfl, h⟩ ?_ ?_
  · intro d rest st hI
    obtain ⟨s', x, hI⟩ := hI
    have e0 := hI.1
    have h2 := hI.2
    clear hI
    subst e0
    cases h2 with
    | wh =>
      repeat (first|((with_reducible first|refine Yb (d:=?_) ?_ ?_|refine Yc (b:=?_) ?_ ?_);rotate_left 1;exact rfl)|((with_reducible first|refine Yr (d:=?_) (e:=?_) ?_ ?_ ?_|refine Ys (d:=?_) (o:=?_) ?_ ?_ ?_);rotate_left 2;exact rfl;exact rfl)|(with_reducible first|refine J0 ?_|refine J1 ?_|refine J2 ?_|refine J4 ?_|refine J5 ?_|refine J9 ?_|refine Uj ?_)|((with_reducible refine X7 ?_ ?_);exact rfl)|((with_reducible refine Xb (a:=?_) ?_ ?_);rotate_left 1;exact rfl))
      exact hQ
    | fst h3 =>
      rename_i a b
      show OptP (asg (.nm 2) fs1 [.fr (.tuple [.str "pair", a.d, b.d]), .fr (.tuple m), x]) _
      repeat (first|((with_reducible first|refine Yb (d:=?_) ?_ ?_|refine Yc (b:=?_) ?_ ?_);rotate_left 1;exact rfl)|((with_reducible refine Yr (d:=?_) (e:=?_) ?_ ?_ ?_);rotate_left 2;exact rfl;exact rfl)|(with_reducible first|refine J0 ?_|refine J1 ?_|refine J2 ?_|refine J3 ?_|refine J4 ?_|refine J9 ?_|refine Je ?_|refine Jg ?_|refine Uj ?_)|((with_reducible refine X7 ?_ ?_);exact rfl)|((with_reducible refine Xa ?_ ?_);exact rfl)|((with_reducible refine Xb (a:=?_) ?_ ?_);rotate_left 1;exact rfl))
      exact ⟨a, _, rfl, h3⟩
    | snd h3 =>
      rename_i a b
      show OptP (asg (.nm 2) sc1 [.fr (.tuple [.str "pair", a.d, b.d]), .fr (.tuple m), x]) _
      repeat (first|((with_reducible first|refine Yb (d:=?_) ?_ ?_|refine Yc (b:=?_) ?_ ?_);rotate_left 1;exact rfl)|((with_reducible refine Yr (d:=?_) (e:=?_) ?_ ?_ ?_);rotate_left 2;exact rfl;exact rfl)|(with_reducible first|refine J0 ?_|refine J1 ?_|refine J2 ?_|refine J3 ?_|refine J4 ?_|refine J9 ?_|refine Je ?_|refine Jg ?_|refine Uj ?_)|((with_reducible refine X7 ?_ ?_);exact rfl)|((with_reducible refine Xa ?_ ?_);exact rfl)|((with_reducible refine Xb (a:=?_) ?_ ?_);rotate_left 1;exact rfl))
      exact ⟨b, _, rfl, h3⟩
    | ap h3 =>
      rename_i a b v
      show OptP (asg (.nm 2) (ap v) [.fr (.tuple [.str "to", a.d, b.d]), .fr (.tuple m), x]) _
      repeat (first|((with_reducible first|refine Yb (d:=?_) ?_ ?_|refine Yc (b:=?_) ?_ ?_);rotate_left 1;exact rfl)|((with_reducible refine Yr (d:=?_) (e:=?_) ?_ ?_ ?_);rotate_left 2;exact rfl;exact rfl)|(with_reducible first|refine J0 ?_|refine J1 ?_|refine J2 ?_|refine J3 ?_|refine J4 ?_|refine J9 ?_|refine Je ?_|refine Jg ?_|refine Uj ?_)|((with_reducible refine X7 ?_ ?_);exact rfl)|((with_reducible refine Xa ?_ ?_);exact rfl)|((with_reducible refine Xb (a:=?_) ?_ ?_);rotate_left 1;exact rfl))
      exact ⟨b, _, rfl, h3⟩
  · intro st hI
    obtain ⟨s', x, hI⟩ := hI
    have e0 := hI.1
    have h2 := hI.2
    clear hI
    subst e0
    cases h2
    show Ws _ [.fr (.int n), .fr (.tuple m), x] _ _ _ _
    repeat (first|((with_reducible refine Yb (d:=?_) ?_ ?_);rotate_left 1;exact rfl)|((with_reducible refine Ys (d:=?_) (o:=?_) ?_ ?_ ?_);rotate_left 2;exact rfl;exact rfl)|(with_reducible refine J5 ?_))
    exact hQ
/-! ### what a look finds -/
abbrev FindS (f : FM) (n : Nat) : Prop := ∀ (s : Sh) (m : List D) (d : D) (o : Fo) (Q : Bool → D → List D → Prop), s.ok → s.h ≤ n → Fd s m d o → Q false (fd o) [] → FnP f [s.d, .tuple m, d] Q
theorem find_s {f : FM} {n : Nat} (hf : RowS f n) : FindS (f_l_look_finds f) n := by
  intro s m d o Q hs hh h hQ
  unfold f_l_look_finds
  (with_reducible refine FnP_mk [.fr s.d, .fr (.tuple m), .fr d, .no] [] ?_ ?_ ?_)
  · rfl
  · rfl
  unfold b_l_look_finds
  repeat (first|((with_reducible first|refine Yb (d:=?_) ?_ ?_|refine Yd (ds:=?_) ?_ ?_);rotate_left 1;exact rfl)|(with_reducible first|refine J0 ?_|refine J6 ?_|refine Jw ?_|refine U7 ?_)|((with_reducible refine Yw (ds:=?_) ?_ ?_);rotate_left 1;exact rfl)|((with_reducible refine Yy (d:=?_) (s:=?_) ?_ ?_);rotate_left 2;exact rfl))
  refine fl_inv (fun rest st => ∃ (s' : Sh) (d' : D) (x : Sl), st = [.fr s'.d, .fr (.tuple m), .fr d', x] ∧ s'.ok ∧ s'.h ≤ n ∧ Fd s' rest d' o) ⟨s, d, .no, rfl, hs, hh, h⟩ ?_ ?_
  · intro mv rest st hI
    obtain ⟨s', d', x, hI⟩ := hI
    have e0 := hI.1
    have ho := hI.2.1
    have hn := hI.2.2.1
    have h2 := hI.2.2.2
    clear hI
    subst e0
    cases h2 with
    | err =>
      repeat (first|((with_reducible first|refine Yb (d:=?_) ?_ ?_|refine Yc (b:=?_) ?_ ?_);rotate_left 1;exact rfl)|((with_reducible first|refine Yr (d:=?_) (e:=?_) ?_ ?_ ?_|refine Ys (d:=?_) (o:=?_) ?_ ?_ ?_);rotate_left 2;exact rfl;exact rfl)|(with_reducible first|refine J0 ?_|refine J1 ?_|refine J2 ?_|refine J4 ?_|refine J5 ?_|refine J9 ?_|refine Uj ?_)|((with_reducible refine X7 ?_ ?_);exact rfl)|((with_reducible refine Xb (a:=?_) ?_ ?_);rotate_left 1;exact rfl))
      exact hQ
    | wh =>
      repeat (first|((with_reducible first|refine Yb (d:=?_) ?_ ?_|refine Yc (b:=?_) ?_ ?_);rotate_left 1;exact rfl)|((with_reducible first|refine Yr (d:=?_) (e:=?_) ?_ ?_ ?_|refine Ys (d:=?_) (o:=?_) ?_ ?_ ?_);rotate_left 2;exact rfl;exact rfl)|(with_reducible first|refine J0 ?_|refine J1 ?_|refine J2 ?_|refine J4 ?_|refine J5 ?_|refine J7 ?_|refine J8 ?_|refine J9 ?_|refine Jc ?_|refine Je ?_|refine Uj ?_)|((with_reducible refine X7 ?_ ?_);exact rfl)|((with_reducible refine Xa ?_ ?_);exact rfl)|((with_reducible refine Xb (a:=?_) ?_ ?_);rotate_left 1;exact rfl)|((with_reducible refine And.intro ?_ ?_);first|exact Nat.le_of_ble_eq_true rfl|exact rfl))
      exact hQ
    | fst h3 =>
      rename_i a b x' y'
      have hn' : max a.h b.h + 1 ≤ n := hn
      have h1 : a.h ≤ n := by omega
      have h4 : a.ok := ho.1
      show OptP (asg (.nm 3) fs1 [.fr (.tuple [.str "pair", a.d, b.d]), .fr (.tuple m), .fr (vl (.tuple [x', y'])), x]) _
      repeat (first|((with_reducible first|refine Yb (d:=?_) ?_ ?_|refine Yc (b:=?_) ?_ ?_);rotate_left 1;exact rfl)|((with_reducible refine Yr (d:=?_) (e:=?_) ?_ ?_ ?_);rotate_left 2;exact rfl;exact rfl)|(with_reducible first|refine J0 ?_|refine J1 ?_|refine J2 ?_|refine J3 ?_|refine J4 ?_|refine J7 ?_|refine J8 ?_|refine J9 ?_|refine Jc ?_|refine Je ?_|refine Uj ?_)|((with_reducible refine X7 ?_ ?_);exact rfl)|((with_reducible refine Xa ?_ ?_);exact rfl)|((with_reducible refine Xb (a:=?_) ?_ ?_);rotate_left 1;exact rfl)|((with_reducible refine And.intro ?_ ?_);first|exact Nat.le_of_ble_eq_true rfl|exact rfl))
      exact ⟨a, _, _, rfl, h4, h1, h3⟩
    | snd h3 =>
      rename_i a b x' y'
      have hn' : max a.h b.h + 1 ≤ n := hn
      have h1 : b.h ≤ n := by omega
      have h4 : b.ok := ho.2
      show OptP (asg (.nm 3) sc1 [.fr (.tuple [.str "pair", a.d, b.d]), .fr (.tuple m), .fr (vl (.tuple [x', y'])), x]) _
      repeat (first|((with_reducible first|refine Yb (d:=?_) ?_ ?_|refine Yc (b:=?_) ?_ ?_);rotate_left 1;exact rfl)|((with_reducible refine Yr (d:=?_) (e:=?_) ?_ ?_ ?_);rotate_left 2;exact rfl;exact rfl)|(with_reducible first|refine J0 ?_|refine J1 ?_|refine J2 ?_|refine J3 ?_|refine J4 ?_|refine J7 ?_|refine J8 ?_|refine J9 ?_|refine Jc ?_|refine Je ?_|refine Uj ?_)|((with_reducible refine X7 ?_ ?_);exact rfl)|((with_reducible refine Xa ?_ ?_);exact rfl)|((with_reducible refine Xb (a:=?_) ?_ ?_);rotate_left 1;exact rfl)|((with_reducible refine And.intro ?_ ?_);first|exact Nat.le_of_ble_eq_true rfl|exact rfl))
      exact ⟨b, _, _, rfl, h4, h1, h3⟩
    | ap hk hr h3 =>
      rename_i a b v r rows k
      have hn' : max a.h b.h + 1 ≤ n := hn
      have h1 : a.h ≤ n := by omega
      have h5 : b.h ≤ n := by omega
      have h4 : a.ok := ho.1
      have h6 : b.ok := ho.2
      show OptP (asg (.nm 3) (ap v) [.fr (.tuple [.str "to", a.d, b.d]), .fr (.tuple m), .fr (vl (.tuple rows)), x]) _
      repeat (first|((with_reducible first|refine Yb (d:=?_) ?_ ?_|refine Yc (b:=?_) ?_ ?_);rotate_left 1;exact rfl)|((with_reducible refine Yr (d:=?_) (e:=?_) ?_ ?_ ?_);rotate_left 2;exact rfl;exact rfl)|(with_reducible first|refine J0 ?_|refine J1 ?_|refine J2 ?_|refine J3 ?_|refine J4 ?_|refine J6 ?_|refine J7 ?_|refine J8 ?_|refine J9 ?_|refine Jb ?_|refine Je ?_|refine Uj ?_)|((with_reducible refine Yy (d:=?_) (s:=?_) ?_ ?_);rotate_left 2;exact rfl)|((with_reducible refine X7 ?_ ?_);exact rfl)|((with_reducible refine Xa ?_ ?_);exact rfl)|((with_reducible refine Xb (a:=?_) ?_ ?_);rotate_left 1;exact rfl))
      (with_reducible refine hf a b _ _ _ _ _ h4 h1 hk hr ?_)
      repeat (first|((with_reducible refine Yb (d:=?_) ?_ ?_);rotate_left 1;exact rfl)|((with_reducible refine Yr (d:=?_) (e:=?_) ?_ ?_ ?_);rotate_left 2;exact rfl;exact rfl)|(with_reducible first|refine J1 ?_|refine J2 ?_|refine J3 ?_)|((with_reducible refine Xb (a:=?_) ?_ ?_);rotate_left 1;exact rfl))
      exact ⟨b, _, _, rfl, h6, h5, h3⟩
  · intro st hI
    obtain ⟨s', d', x, hI⟩ := hI
    have e0 := hI.1
    have h2 := hI.2.2.2
    clear hI
    subst e0
    cases h2 with
    | err =>
      repeat (first|((with_reducible refine Yb (d:=?_) ?_ ?_);rotate_left 1;exact rfl)|((with_reducible refine Ys (d:=?_) (o:=?_) ?_ ?_ ?_);rotate_left 2;exact rfl;exact rfl)|(with_reducible refine J5 ?_))
      exact hQ
    | nil =>
      repeat (first|((with_reducible refine Yb (d:=?_) ?_ ?_);rotate_left 1;exact rfl)|((with_reducible refine Ys (d:=?_) (o:=?_) ?_ ?_ ?_);rotate_left 2;exact rfl;exact rfl)|(with_reducible refine J5 ?_))
      exact hQ
end L2.Zd.Lib

set_option Elab.async false
set_option linter.all false
set_option maxRecDepth 100000
set_option maxHeartbeats 2000000
namespace L2.Zd.Lib
open PySem PySem.Spec PyProof.Rows L2.Zd
/-! ### equality of findings -/
theorem eqv_tup (xs ys : List D) : PyData.eqv (.tuple xs) (.tuple ys) = PyData.eqvAll xs ys := by simp [PyData.eqv]
theorem eqvAll_nil : PyData.eqvAll [] [] = true := by simp [PyData.eqvAll]
theorem eqvAll_cons (x y : D) (xs ys : List D) : PyData.eqvAll (x :: xs) (y :: ys) = (PyData.eqv x y && PyData.eqvAll xs ys) := by simp [PyData.eqvAll]
theorem eqv_pair (a b : Str) (i j : Int) : PyData.eqv (.tuple [.str a, .int i]) (.tuple [.str b, .int j]) = (decide (a = b) && decide (i = j)) := by
  rw [eqv_tup, eqvAll_cons, eqvAll_cons, eqvAll_nil, eqv_str, eqv_int, Bool.and_true]
theorem eqv_fd (x o : Fo) : PyData.eqv (fd x) (fd o) = decide (x = o) := by
  obtain ⟨b, i⟩ := x
  obtain ⟨c, j⟩ := o
  cases b <;> cases c
  · show PyData.eqv (.tuple [.str "value", .int i]) (.tuple [.str "value", .int j]) = _
    rw [eqv_pair, decide_eq_true rfl, Bool.true_and]
    exact decide_eq_decide.mpr ⟨fun h => by rw [Int.ofNat_inj.mp h], fun h => by cases h; rfl⟩
  · show PyData.eqv (.tuple [.str "value", .int i]) (.tuple [.str "error", .int j]) = _
    rw [eqv_pair, decide_eq_false (by decide +kernel), Bool.false_and]
    exact (decide_eq_false fun h => by cases h).symm
  · show PyData.eqv (.tuple [.str "error", .int i]) (.tuple [.str "value", .int j]) = _
    rw [eqv_pair, decide_eq_false (by decide +kernel), Bool.false_and]
    exact (decide_eq_false fun h => by cases h).symm
  · show PyData.eqv (.tuple [.str "error", .int i]) (.tuple [.str "error", .int j]) = _
    rw [eqv_pair, decide_eq_true rfl, Bool.true_and]
    exact decide_eq_decide.mpr ⟨fun h => by rw [Int.ofNat_inj.mp h], fun h => by cases h; rfl⟩
theorem eqv_fds : ∀ fs : List Fo, PyData.eqvAll (fs.map fd) (fs.map fd) = true
  | [] => eqvAll_nil
  | o :: fs => by rw [List.map_cons, eqvAll_cons, eqv_fd, decide_eq_true rfl, Bool.true_and]; exact eqv_fds fs
theorem fd_plain {n : Nat} (o : Fo) : Plain (n + 1) (fd o) := by
  obtain ⟨b, i⟩ := o
  cases b
  · refine Plain.tup (n := n) (by simp) fun z hz => ?_
    simp only [List.mem_cons, List.not_mem_nil, or_false] at hz
    rcases hz with rfl | rfl
    · exact .str (by decide +kernel)
    · exact .int _
  · refine Plain.tup (n := n) (by simp) fun z hz => ?_
    simp only [List.mem_cons, List.not_mem_nil, or_false] at hz
    rcases hz with rfl | rfl
    · exact .str (by decide +kernel)
    · exact .int _
theorem fd_shaped (o : Fo) : SeqAt.shaped (fd o) = true := (fd_plain (n := 0) o).shaped (by omega)
theorem fd_nstr (o : Fo) (x : Str) : fd o ≠ .str x := by
  obtain ⟨b, i⟩ := o
  cases b <;> exact fun h => nomatch h
theorem fds_plain {n : Nat} (fs : List Fo) : ∀ x ∈ fs.map fd, Plain (n + 1) x := fun x hx => by
  obtain ⟨o, _, rfl⟩ := List.mem_map.mp hx
  exact fd_plain o
theorem o_ne_fd {K : Vt → Prop} {x o : Fo} {d : D} (e : fd o = d) (h : K (.fr (.bool (!decide (x = o))))) : OptP (pNe (fd x) d) K := by
  subst e
  refine o_neg ?_ ⟨fd_shaped x, fd_shaped o⟩ (fd_nstr x)
  rw [eqv_fd]; exact h
theorem o_eq_fd {K : Vt → Prop} {x o : Fo} {d : D} (e : fd o = d) (h : K (.fr (.bool (decide (x = o))))) : OptP (pEq (fd x) d) K := by
  subst e
  refine o_eqg ?_ ⟨fd_shaped x, fd_shaped o⟩ (fd_nstr x)
  rw [eqv_fd]; exact h
theorem shaped_lst {n : Nat} {ds : List D} (h : ∀ x ∈ ds, Plain n x) (hn : n ≤ 60) : SeqAt.shaped (.list ds) = true := by
  refine Bool.and_eq_true_iff.mpr ⟨?_, decide_eq_true ?_⟩
  · simp only [PyData.canLay0]; exact canAll fun x hx => (h x hx).lay.1
  · simp only [PyData.depth]
    have := depAll fun x hx => (h x hx).lay.2
    omega
theorem eqv_lstnil (xs : List D) : PyData.eqv (.list xs) (.list []) = xs.isEmpty := by cases xs <;> simp [PyData.eqv, PyData.eqvAll]
theorem eqv_nn : PyData.eqv .none .none = true := by simp [PyData.eqv]
theorem eqv_tn (ds : List D) : PyData.eqv (.tuple ds) .none = false := by simp [PyData.eqv]
/-! ### what decoding gives -/
def optD : Option D → D
  | none => .none
  | some d => d
theorem decO_tup {sh : Bool} {g : List Fo → Option D} {fs : List Fo} {d : D} (e : decG sh g fs = some d) : ∃ ds, d = .tuple ds := by
  cases fs with
  | nil => cases e
  | cons o fs =>
    have e' : (if (o.1 && fs.all fun x => decide (x = o)) = true then some (fd o) else if sh = true then (g (o :: fs)).map vl else if o.1 = true then none else (g fs).map vl) = some d := e
    split at e'
    · cases e'; obtain ⟨b, k⟩ := o; cases b <;> exact ⟨_, rfl⟩
    · split at e'
      · obtain ⟨x, _, rfl⟩ := Option.map_eq_some_iff.mp e'; exact ⟨_, rfl⟩
      · split at e'
        · cases e'
        · obtain ⟨x, _, rfl⟩ := Option.map_eq_some_iff.mp e'; exact ⟨_, rfl⟩
theorem decV_nn : ∀ {s : Sh} {fs : List Fo} {d : D}, decV s fs = some d → isNoneD d = false
  | .i n, [], d, e => by cases e; rfl
  | .i n, o :: fs, d, e => by
    have e' : (if o.1 = true then none else some (PyData.int o.2)) = some d := e
    split at e'
    · cases e'
    · cases e'; rfl
  | .p a b, fs, d, e => by
    obtain ⟨x, hx, e2⟩ := Option.bind_eq_some_iff.mp (show ((decV a (fs.take (ls a))).bind fun x => (decV b (fs.drop (ls a))).map fun y => PyData.tuple [x, y]) = some d from e)
    obtain ⟨y, hy, rfl⟩ := Option.map_eq_some_iff.mp e2
    rfl
  | .f a b, fs, d, e => by
    obtain ⟨rows, hr, rfl⟩ := Option.map_eq_some_iff.mp (show (rowsG (decO b) (lc b) (cv a) fs).map PyData.tuple = some d from e)
    rfl
theorem rowsG_mem {g : List Fo → Option D} {m : Nat} : ∀ {n : Nat} {fs : List Fo} {rows : List D}, rowsG g m n fs = some rows → rows.length = n ∧ ∀ r ∈ rows, ∃ gs, g gs = some r
  | 0, fs, rows, e => by cases e; exact ⟨rfl, fun _ h => nomatch h⟩
  | n + 1, fs, rows, e => by
    obtain ⟨r, hr, e2⟩ := Option.bind_eq_some_iff.mp (show ((g (fs.take m)).bind fun r => (rowsG g m n (fs.drop m)).map (r :: ·)) = some rows from e)
    obtain ⟨rs, hrs, rfl⟩ := Option.map_eq_some_iff.mp e2
    have ih := rowsG_mem hrs
    refine ⟨by rw [List.length_cons, ih.1], fun x hx => ?_⟩
    rcases List.mem_cons.mp hx with rfl | hx
    · exact ⟨_, hr⟩
    · exact ih.2 x hx
theorem vl_plain {n : Nat} {x : D} (h : Plain n x) : Plain (n + 1) (vl x) := by
  refine Plain.tup (n := n) (by simp) fun z hz => ?_
  simp only [List.mem_cons, List.not_mem_nil, or_false] at hz
  rcases hz with rfl | rfl
  · exact .str (by decide +kernel)
  · exact h
theorem decG_plain {sh : Bool} {g : List Fo → Option D} {n : Nat} (h : ∀ fs d, g fs = some d → Plain n d) {fs : List Fo} {d : D} (e : decG sh g fs = some d) : Plain (n + 1) d := by
  cases fs with
  | nil => cases e
  | cons o fs =>
    have e' : (if (o.1 && fs.all fun x => decide (x = o)) = true then some (fd o) else if sh = true then (g (o :: fs)).map vl else if o.1 = true then none else (g fs).map vl) = some d := e
    split at e'
    · cases e'; exact fd_plain o
    · split at e'
      · obtain ⟨x, hx, rfl⟩ := Option.map_eq_some_iff.mp e'; exact vl_plain (h _ _ hx)
      · split at e'
        · cases e'
        · obtain ⟨x, hx, rfl⟩ := Option.map_eq_some_iff.mp e'; exact vl_plain (h _ _ hx)
theorem decV_plain : ∀ {s : Sh}, Gd s → ∀ {fs : List Fo} {d : D}, decV s fs = some d → Plain (2 * s.h) d
  | .i n, _, [], d, e => by cases e; exact .int _
  | .i n, _, o :: fs, d, e => by
    have e' : (if o.1 = true then none else some (PyData.int o.2)) = some d := e
    split at e'
    · cases e'
    · cases e'; exact .int _
  | .p a b, hs, fs, d, e => by
    obtain ⟨x, hx, e2⟩ := Option.bind_eq_some_iff.mp (show ((decV a (fs.take (ls a))).bind fun x => (decV b (fs.drop (ls a))).map fun y => PyData.tuple [x, y]) = some d from e)
    obtain ⟨y, hy, rfl⟩ := Option.map_eq_some_iff.mp e2
    have h1 := decV_plain hs.p1 hx
    have h2 := decV_plain hs.p2 hy
    have e3 : 2 * (Sh.p a b).h = (2 * max a.h b.h + 1) + 1 := by show 2 * (max a.h b.h + 1) = _; omega
    rw [e3]
    refine Plain.tup (by simp) fun z hz => ?_
    simp only [List.mem_cons, List.not_mem_nil, or_false] at hz
    rcases hz with rfl | rfl
    · exact h1.mono (by omega)
    · exact h2.mono (by omega)
  | .f a b, hs, fs, d, e => by
    obtain ⟨rows, hr, rfl⟩ := Option.map_eq_some_iff.mp (show (rowsG (decO b) (lc b) (cv a) fs).map PyData.tuple = some d from e)
    have h1 := rowsG_mem hr
    have h2 := hs.f0
    have e3 : 2 * (Sh.f a b).h = (2 * max a.h b.h + 1) + 1 := by show 2 * (max a.h b.h + 1) = _; omega
    rw [e3]
    refine Plain.tup (by rw [h1.1]; omega) fun z hz => ?_
    obtain ⟨gs, hg⟩ := h1.2 z hz
    exact (decG_plain (fun fs d e => decV_plain hs.f2 e) hg).mono (by omega)
theorem decO_plain {s : Sh} (h : Gd s) {fs : List Fo} {d : D} (e : decO s fs = some d) : Plain (2 * s.h + 1) d := decG_plain (fun _ _ e => decV_plain h e) e
theorem optO_plain {s : Sh} (h : Gd s) (fs : List Fo) : Plain (2 * s.h + 1) (optD (decO s fs)) := by
  cases e : decO s fs with
  | none => exact .none
  | some d => exact decO_plain h e
/-! ### blocks -/
def chl (g : List Fo → Option D) (m : Nat) : Nat → List Fo → List (Option D)
  | 0, _ => []
  | k + 1, fs => g (fs.take m) :: chl g m k (fs.drop m)
theorem chl_map (g : List Fo → Option D) (m : Nat) : ∀ (n : Nat) (fs : List Fo), (List.range n).map (fun k => g ((fs.drop (k * m)).take m)) = chl g m n fs
  | 0, _ => rfl
  | n + 1, fs => by
    rw [List.range_succ_eq_map, List.map_cons, List.map_map]
    show _ = g (fs.take m) :: chl g m n (fs.drop m)
    rw [← chl_map g m n (fs.drop m), Nat.zero_mul, List.drop_zero]
    congr 1
    apply List.map_congr_left
    intro k _
    show g ((fs.drop ((k + 1) * m)).take m) = g (((fs.drop m).drop (k * m)).take m)
    rw [List.drop_drop, Nat.add_mul, Nat.one_mul, Nat.add_comm]
theorem rowsG_chl {g : List Fo → Option D} {m : Nat} : ∀ (n : Nat) (fs : List Fo), (∃ rows, rowsG g m n fs = some rows ∧ chl g m n fs = rows.map some) ∨ (rowsG g m n fs = none ∧ none ∈ chl g m n fs)
  | 0, _ => .inl ⟨[], rfl, rfl⟩
  | n + 1, fs => by
    have e : rowsG g m (n + 1) fs = (g (fs.take m)).bind fun r => (rowsG g m n (fs.drop m)).map (r :: ·) := rfl
    have e2 : chl g m (n + 1) fs = g (fs.take m) :: chl g m n (fs.drop m) := rfl
    rw [e, e2]
    cases h : g (fs.take m) with
    | none => exact .inr ⟨rfl, List.mem_cons_self⟩
    | some r =>
      rcases rowsG_chl n (fs.drop m) with ⟨rows, h1, h2⟩ | ⟨h1, h2⟩
      · exact .inl ⟨r :: rows, by rw [h1]; rfl, by rw [h2]; rfl⟩
      · exact .inr ⟨by rw [h1]; rfl, List.mem_cons_of_mem _ h2⟩
theorem optD_somes (rows : List D) : (rows.map some).map optD = rows := by rw [List.map_map]; exact List.map_id' rows
/-- the test for None among the rows -/
theorem any_none {s : Sh} {m n : Nat} {fs : List Fo} : ((chl (decO s) m n fs).map optD).any (fun y => PyData.eqv y .none) = (rowsG (decO s) m n fs).isNone := by
  rcases rowsG_chl (g := decO s) (m := m) n fs with ⟨rows, h1, h2⟩ | ⟨h1, h2⟩
  · rw [h1, h2, optD_somes]
    show _ = false
    rw [List.any_eq_false]
    intro r hr
    obtain ⟨gs, hg⟩ := (rowsG_mem h1).2 r hr
    obtain ⟨ds, rfl⟩ := decO_tup hg
    rw [eqv_tn]; exact Bool.false_ne_true
  · rw [h1]
    show _ = true
    rw [List.any_eq_true]
    exact ⟨.none, List.mem_map.mpr ⟨none, h2, rfl⟩, eqv_nn⟩
theorem rsize {n m : Nat} (hn : 1 ≤ n) (hm : 1 ≤ m) : Builtin.Range.rangeSize 0 ((n * m : Nat) : Int) (m : Int) = n := by
  unfold Builtin.Range.rangeSize
  have h1 : 1 ≤ n * m := Nat.mul_pos hn hm
  rw [if_pos (by omega), if_pos (by omega)]
  have e : ((n * m : Nat) : Int) - 0 - 1 = ((m : Int) - 1) + ((n : Int) - 1) * (m : Int) := by
    rw [Int.natCast_mul, Int.sub_mul, Int.one_mul]; omega
  rw [e, Int.add_mul_ediv_right _ _ (by omega), Int.ediv_eq_zero_of_lt (by omega) (by omega)]
  omega
theorem rsmall {n m : Nat} (hn : 1 ≤ n) (hm : 1 ≤ m) (h : n * m ≤ 300) : Builtin.Range.small 0 ((n * m : Nat) : Int) (m : Int) = true := by
  have h1 : m ≤ n * m := Nat.le_mul_of_pos_left _ hn
  have h2 : n ≤ n * m := Nat.le_mul_of_pos_right _ hm
  have fit : ∀ i : Int, 0 ≤ i → i ≤ 1000 → Builtin.Range.rangeFitsLong i = true := fun i h0 h1 => by
    unfold Builtin.Range.rangeFitsLong
    rw [decide_eq_true (show -(2 ^ 63) ≤ i by omega), decide_eq_true (show i < 2 ^ 63 by omega)]; rfl
  unfold Builtin.Range.small
  rw [rsize hn hm, fit 0 (by omega) (by omega), fit _ (by omega) (by omega), fit m (by omega) (by omega), fit n (by omega) (by omega), if_pos (by omega), fit _ (by omega) (by omega), Bool.or_true]
  rfl
theorem filt_empty (o : Fo) : ∀ fs : List Fo, (((fs.map fd).filter fun d => !PyData.eqv d (fd o)).isEmpty) = fs.all fun x => decide (x = o)
  | [] => rfl
  | x :: fs => by
    rw [List.map_cons, List.all_cons, ← filt_empty o fs]
    by_cases h : x = o
    · rw [List.filter_cons_of_neg (by rw [eqv_fd, decide_eq_true h]; exact Bool.false_ne_true), decide_eq_true h, Bool.true_and]
    · rw [List.filter_cons_of_pos (by rw [eqv_fd, decide_eq_false h]; rfl), decide_eq_false h]; rfl
def bools (o : Fo) (fs : List Fo) : List Bool := fs.map fun x => decide (x = o)
theorem boolsD_map : ∀ bs : List Bool, boolsD (bs.map .bool) = some bs
  | [] => rfl
  | b :: bs => by
    show (boolsD (bs.map .bool)).map (b :: ·) = _
    rw [boolsD_map bs]; rfl
theorem o_all {K : Vt → Prop} {ds : List D} {bs : List Bool} (e : boolsD ds = some bs) (h : K (.fr (.bool (bs.all id)))) : OptP (pAll [.list ds]) K := by
  show OptP ((boolsD ds).map fun bs => Vt.fr (.bool (bs.all id))) K
  rw [e]; exact h
end L2.Zd.Lib

set_option Elab.async false
set_option linter.all false
set_option maxRecDepth 100000
set_option maxHeartbeats 2000000
namespace L2.Zd.Lib
open PySem PySem.Spec PyProof.Rows L2.Zd
theorem o_it0 {x : D} {r : List D} {K : Vt → Prop} (h : K (.fr x)) : OptP (pIx (.tuple (x :: r)) (.int 0)) K := by
  have e : atI (x :: r) 0 = some x := by
    unfold atI; rw [ixN_in (by omega) (by rw [List.length_cons]; omega)]; rfl
  show OptP ((atI (x :: r) 0).map Vt.fr) K
  rw [e]; exact h
abbrev DecS (f : FM) (n : Nat) : Prop := ∀ (s : Sh) (fs : List Fo) (Q : Bool → D → List D → Prop), Gd s → s.h ≤ n → fs.length = lc s → Q false (optD (decO s fs)) [] → FnP f [s.d, .tuple (fs.map fd)] Q
abbrev WorS (f : FM) (n : Nat) : Prop := ∀ (s : Sh) (fs : List Fo) (Q : Bool → D → List D → Prop), Gd s → s.h ≤ n → fs.length = ls s → Q false (optD (decV s fs)) [] → FnP f [s.d, .tuple (fs.map fd)] Q
theorem lcs {s : Sh} (h : Gd s) (e : shw s = true) : lc s = ls s := by rw [h.lcE]; unfold ns; rw [if_pos e]; omega
theorem lcn {s : Sh} (h : Gd s) (e : shw s = false) : lc s = ls s + 1 := by rw [h.lcE]; unfold ns; rw [if_neg (by rw [e]; exact Bool.false_ne_true)]; omega
theorem i_isF {d : D} {A A' : Prop} (e : isNoneD d = false) (h : A') : BoolW (isNoneD d) A A' := by rw [e]; exact h
/-! ### the law's decoding -/
theorem ldec_s {f g : FM} {n : Nat} (hf : ShowS f n) (hg : WorS g n) : DecS (f_l_look_decoded f g) n := by
  intro s fs Q hs hh hl hQ
  have hp := lc_pos hs
  have h3 := hs.ls_
  have h4 : lc s ≤ 301 := by rw [hs.lcE]; unfold ns; split <;> omega
  cases fs with
  | nil => rw [← hl] at hp; cases hp
  | cons o fs =>
    rw [List.length_cons] at hl
    have eD : decO s (o :: fs) = if (o.1 && fs.all fun x => decide (x = o)) = true then some (fd o) else if shw s = true then (decV s (o :: fs)).map vl else if o.1 = true then none else (decV s fs).map vl := rfl
    have tailS : ∀ (o : Fo), shw s = true → fs.length + 1 = lc s → ∀ (Q : Bool → D → List D → Prop), Q false (optD ((decV s (o :: fs)).map vl)) [] → FnP g [s.d, .tuple (fd o :: fs.map fd)] (fun b d outs => (b = false ∧ outs = [] ∧ (d = .none ∧ Q false .none [] ∨ isNoneD d = false ∧ Q false (vl d) []))) := fun o hb hl Q hQ => by
      have hl' : (o :: fs).length = ls s := by rw [List.length_cons, hl]; exact lcs hs hb
      refine hg s (o :: fs) _ hs hh hl' ⟨rfl, rfl, ?_⟩
      cases e : decV s (o :: fs) with
      | none => rw [e] at hQ; exact .inl ⟨rfl, hQ⟩
      | some x => rw [e] at hQ; exact .inr ⟨decV_nn e, hQ⟩
    have tailN : shw s = false → ∀ (Q : Bool → D → List D → Prop), Q false (optD ((decV s fs).map vl)) [] → FnP g [s.d, .tuple (fs.map fd)] (fun b d outs => (b = false ∧ outs = [] ∧ (d = .none ∧ Q false .none [] ∨ isNoneD d = false ∧ Q false (vl d) []))) := fun hb Q hQ => by
      have hl' : fs.length = ls s := by have := lcn hs hb; omega
      refine hg s fs _ hs hh hl' ⟨rfl, rfl, ?_⟩
      cases e : decV s fs with
      | none => rw [e] at hQ; exact .inl ⟨rfl, hQ⟩
      | some x => rw [e] at hQ; exact .inr ⟨decV_nn e, hQ⟩
    rw [eD] at hQ
    obtain ⟨bb, k⟩ := o
    cases bb with
    | false =>
      rw [if_neg (by exact Bool.false_ne_true)] at hQ
      unfold f_l_look_decoded
      (with_reducible refine FnP_mk [.fr s.d, .fr (.tuple (vl (.int k) :: fs.map fd)), .no, .no, .no] [] ?_ ?_ ?_)
      · rfl
      · rfl
      unfold b_l_look_decoded
      repeat (first|((with_reducible refine o_it0 ?_))|((with_reducible first|refine Yb (d:=?_) ?_ ?_|refine Yc (b:=?_) ?_ ?_);rotate_left 1;exact rfl)|((with_reducible refine Yr (d:=?_) (e:=?_) ?_ ?_ ?_);rotate_left 2;exact rfl;exact rfl)|(with_reducible first|refine J0 ?_|refine J1 ?_|refine J2 ?_|refine J3 ?_|refine J4 ?_|refine J6 ?_|refine J7 ?_|refine J8 ?_|refine J9 ?_|refine Jb ?_|refine Je ?_|refine Jh ?_|refine Ji ?_|refine Jj ?_|refine U9 ?_|refine Uj ?_)|((with_reducible refine Yy (d:=?_) (s:=?_) ?_ ?_);rotate_left 2;exact rfl)|((with_reducible refine X7 ?_ ?_);exact rfl)|((with_reducible refine Xa ?_ ?_);exact rfl)|((with_reducible refine Xb (a:=?_) ?_ ?_);rotate_left 1;exact rfl))
      (with_reducible refine hf _ _ hh ?_)
      repeat (first|((with_reducible refine o_it0 ?_))|((with_reducible refine Yl (a:=?_) ?_ ?_);rotate_left 1;exact rfl)|(with_reducible refine Ua ?_)|((with_reducible refine Xb (a:=?_) ?_ ?_);rotate_left 1;exact rfl))
      refine BoolW_any (fun hb => ?_) (fun hb => ?_)
      · rw [if_pos hb] at hQ
        repeat (first|((with_reducible refine o_it0 ?_))|((with_reducible refine Yb (d:=?_) ?_ ?_);rotate_left 1;exact rfl)|(with_reducible first|refine J0 ?_|refine J3 ?_|refine J6 ?_|refine J7 ?_|refine J8 ?_|refine Jb ?_|refine Je ?_)|((with_reducible refine Yy (d:=?_) (s:=?_) ?_ ?_);rotate_left 2;exact rfl)|((with_reducible refine Xb (a:=?_) ?_ ?_);rotate_left 1;exact rfl))
        refine FnP_mono (tailS (false, k) hb hl _ hQ) fun b d outs hbd => ?_
        have e1 := hbd.1
        have e2 := hbd.2.1
        have e3 := hbd.2.2
        clear hbd
        subst e1 e2
        rcases e3 with ⟨e4, hq⟩ | ⟨hnn, hq⟩
        · subst e4
          repeat (first|((with_reducible refine o_it0 ?_))|((with_reducible first|refine Yb (d:=?_) ?_ ?_|refine Yc (b:=?_) ?_ ?_);rotate_left 1;exact rfl)|((with_reducible first|refine Yr (d:=?_) (e:=?_) ?_ ?_ ?_|refine Ys (d:=?_) (o:=?_) ?_ ?_ ?_);rotate_left 2;exact rfl;exact rfl)|(with_reducible first|refine J1 ?_|refine J2 ?_|refine J5 ?_|refine J9 ?_|refine Jg ?_)|((with_reducible refine X6 ?_ ?_);exact rfl)|((with_reducible refine Xb (a:=?_) ?_ ?_);rotate_left 1;exact rfl))
          exact hq
        · repeat (first|((with_reducible refine i_isF hnn ?_))|((with_reducible refine o_it0 ?_))|((with_reducible first|refine Yb (d:=?_) ?_ ?_|refine Yc (b:=?_) ?_ ?_);rotate_left 1;exact rfl)|((with_reducible first|refine Yr (d:=?_) (e:=?_) ?_ ?_ ?_|refine Ys (d:=?_) (o:=?_) ?_ ?_ ?_);rotate_left 2;exact rfl;exact rfl)|(with_reducible first|refine J1 ?_|refine J2 ?_|refine J5 ?_|refine J6 ?_|refine J7 ?_|refine J8 ?_|refine J9 ?_|refine Jc ?_|refine Jg ?_)|((with_reducible refine Yy (d:=?_) (s:=?_) ?_ ?_);rotate_left 2;exact rfl)|((with_reducible refine Xb (a:=?_) ?_ ?_);rotate_left 1;exact rfl)|((with_reducible refine And.intro ?_ ?_);first|exact Nat.le_of_ble_eq_true rfl|exact rfl))
          exact hq
      · rw [if_neg (by rw [hb]; exact Bool.false_ne_true), if_neg Bool.false_ne_true] at hQ
        repeat (first|((with_reducible refine o_it0 ?_))|((with_reducible first|refine Yb (d:=?_) ?_ ?_|refine Yc (b:=?_) ?_ ?_|refine Yg (n:=?_) ?_ ?_|refine Yl (a:=?_) ?_ ?_);rotate_left 1;exact rfl)|((with_reducible refine Yr (d:=?_) (e:=?_) ?_ ?_ ?_);rotate_left 2;exact rfl;exact rfl)|(with_reducible first|refine J0 ?_|refine J1 ?_|refine J2 ?_|refine J3 ?_|refine J4 ?_|refine J6 ?_|refine J7 ?_|refine J8 ?_|refine J9 ?_|refine Jb ?_|refine Je ?_|refine Jp ?_|refine Jq ?_|refine Jr ?_|refine Uj ?_|refine Y4 ?_ (by omega))|((with_reducible refine Yy (d:=?_) (s:=?_) ?_ ?_);rotate_left 2;exact rfl)|((with_reducible refine X7 ?_ ?_);exact rfl)|((with_reducible refine Xa ?_ ?_);exact rfl)|((with_reducible refine Xb (a:=?_) ?_ ?_);rotate_left 1;exact rfl))
        refine FnP_mono (tailN hb _ hQ) fun b d outs hbd => ?_
        have e1 := hbd.1
        have e2 := hbd.2.1
        have e3 := hbd.2.2
        clear hbd
        subst e1 e2
        rcases e3 with ⟨e4, hq⟩ | ⟨hnn, hq⟩
        · subst e4
          repeat (first|((with_reducible refine o_it0 ?_))|((with_reducible first|refine Yb (d:=?_) ?_ ?_|refine Yc (b:=?_) ?_ ?_);rotate_left 1;exact rfl)|((with_reducible first|refine Yr (d:=?_) (e:=?_) ?_ ?_ ?_|refine Ys (d:=?_) (o:=?_) ?_ ?_ ?_);rotate_left 2;exact rfl;exact rfl)|(with_reducible first|refine J1 ?_|refine J2 ?_|refine J5 ?_|refine J9 ?_|refine Jg ?_)|((with_reducible refine X6 ?_ ?_);exact rfl)|((with_reducible refine Xb (a:=?_) ?_ ?_);rotate_left 1;exact rfl))
          exact hq
        · repeat (first|((with_reducible refine i_isF hnn ?_))|((with_reducible refine o_it0 ?_))|((with_reducible first|refine Yb (d:=?_) ?_ ?_|refine Yc (b:=?_) ?_ ?_);rotate_left 1;exact rfl)|((with_reducible first|refine Yr (d:=?_) (e:=?_) ?_ ?_ ?_|refine Ys (d:=?_) (o:=?_) ?_ ?_ ?_);rotate_left 2;exact rfl;exact rfl)|(with_reducible first|refine J1 ?_|refine J2 ?_|refine J5 ?_|refine J6 ?_|refine J7 ?_|refine J8 ?_|refine J9 ?_|refine Jc ?_|refine Jg ?_)|((with_reducible refine Yy (d:=?_) (s:=?_) ?_ ?_);rotate_left 2;exact rfl)|((with_reducible refine Xb (a:=?_) ?_ ?_);rotate_left 1;exact rfl)|((with_reducible refine And.intro ?_ ?_);first|exact Nat.le_of_ble_eq_true rfl|exact rfl))
          exact hq
    | true =>
      unfold f_l_look_decoded
      (with_reducible refine FnP_mk [.fr s.d, .fr (.tuple (er k :: fs.map fd)), .no, .no, .no] [] ?_ ?_ ?_)
      · rfl
      · rfl
      unfold b_l_look_decoded
      repeat (first|((with_reducible refine o_it0 ?_))|((with_reducible first|refine Yb (d:=?_) ?_ ?_|refine Yc (b:=?_) ?_ ?_|refine Yd (ds:=?_) ?_ ?_);rotate_left 1;exact rfl)|((with_reducible refine Yr (d:=?_) (e:=?_) ?_ ?_ ?_);rotate_left 2;exact rfl;exact rfl)|(with_reducible first|refine J0 ?_|refine J1 ?_|refine J2 ?_|refine J4 ?_|refine J6 ?_|refine J9 ?_|refine Jj ?_|refine Jw ?_|refine Jz ?_|refine Uj ?_)|((with_reducible refine Yw (ds:=?_) ?_ ?_);rotate_left 1;exact rfl)|((with_reducible refine Yy (d:=?_) (s:=?_) ?_ ?_);rotate_left 2;exact rfl)|((with_reducible refine X7 ?_ ?_);exact rfl)|((with_reducible refine And.intro ?_ ?_);first|exact Nat.le_of_ble_eq_true rfl|exact rfl))
      refine lc_pure id (fun d => !PyData.eqv d (fd (true, k))) ?_ ?_ ?_
      · intro d hd
        obtain ⟨x, hx, rfl⟩ := List.mem_map.mp (show d ∈ ((true, k) :: fs).map fd from hd)
        repeat (first|((with_reducible refine o_it0 ?_))|((with_reducible refine Yb (d:=?_) ?_ ?_);rotate_left 1;exact rfl)|((with_reducible refine Yr (d:=?_) (e:=?_) ?_ ?_ ?_);rotate_left 2;exact rfl;exact rfl)|(with_reducible first|refine J1 ?_|refine J2 ?_|refine J9 ?_)|((with_reducible refine Xb (a:=?_) ?_ ?_);rotate_left 1;exact rfl))
        refine o_ne_fd (o := (true, k)) rfl ?_
        repeat (first|((with_reducible refine o_it0 ?_))|((with_reducible refine Yc (b:=?_) ?_ ?_);rotate_left 1;exact rfl)|(with_reducible refine Ua ?_))
        rw [← eqv_fd]
        refine BoolW_any (fun h => ?_) (fun h => ?_)
        · exact ⟨by rw [h]; rfl, rfl⟩
        · repeat (first|((with_reducible refine o_it0 ?_))|((with_reducible refine Yb (d:=?_) ?_ ?_);rotate_left 1;exact rfl)|(with_reducible refine J6 ?_)|((with_reducible refine Yy (d:=?_) (s:=?_) ?_ ?_);rotate_left 2;exact rfl)|((with_reducible refine And.intro ?_ ?_);first|exact Nat.le_of_ble_eq_true rfl|exact rfl))
          exact ⟨by rw [h]; rfl, rfl⟩
      · rw [size24]; simp only [List.length_cons, List.length_map]; omega
      have eF := filt_empty (true, k) fs
      have eF2 : ((er k :: fs.map fd).filter fun d => !PyData.eqv d (fd (true, k))) = (fs.map fd).filter fun d => !PyData.eqv d (fd (true, k)) :=
        List.filter_cons_of_neg (by show ¬ (!PyData.eqv (fd (true, k)) (fd (true, k))) = true; rw [eqv_fd, decide_eq_true rfl]; exact Bool.false_ne_true)
      rw [List.map_id, eF2]
      have hsh : SeqAt.shaped (.list ((fs.map fd).filter fun d => !PyData.eqv d (fd (true, k)))) = true := shaped_lst (n := 1) (fun x hx => fds_plain (n := 0) fs x (List.mem_filter.mp hx).1) (by omega)
      repeat (first|((with_reducible refine o_it0 ?_))|((with_reducible refine Yr (d:=?_) (e:=?_) ?_ ?_ ?_);rotate_left 2;exact rfl;exact rfl)|(with_reducible first|refine J8 ?_|refine Jd ?_)|((with_reducible refine Xb (a:=?_) ?_ ?_);rotate_left 1;exact rfl)|((with_reducible refine And.intro ?_ ?_);first|exact Nat.le_of_ble_eq_true rfl|exact rfl))
      refine o_eqg ?_ ⟨hsh, by decide +kernel⟩ (fun x e => nomatch e)
      rw [eqv_lstnil, eF]
      repeat (first|((with_reducible refine o_it0 ?_))|((with_reducible refine Yc (b:=?_) ?_ ?_);rotate_left 1;exact rfl))
      refine BoolW_any (fun hc => ?_) (fun hc => ?_)
      · rw [if_pos (by rw [hc]; rfl)] at hQ
        repeat (first|((with_reducible refine o_it0 ?_))|((with_reducible refine Yb (d:=?_) ?_ ?_);rotate_left 1;exact rfl)|((with_reducible first|refine Yr (d:=?_) (e:=?_) ?_ ?_ ?_|refine Ys (d:=?_) (o:=?_) ?_ ?_ ?_);rotate_left 2;exact rfl;exact rfl)|(with_reducible first|refine J1 ?_|refine J2 ?_|refine J5 ?_))
        exact hQ
      · rw [if_neg (by rw [hc]; exact Bool.false_ne_true)] at hQ
        repeat (first|((with_reducible refine o_it0 ?_))|((with_reducible refine Yb (d:=?_) ?_ ?_);rotate_left 1;exact rfl)|(with_reducible first|refine J0 ?_|refine J3 ?_|refine J4 ?_|refine J6 ?_|refine J7 ?_|refine J8 ?_|refine Jb ?_|refine Je ?_|refine Jh ?_|refine Ji ?_)|((with_reducible refine Yy (d:=?_) (s:=?_) ?_ ?_);rotate_left 2;exact rfl)|((with_reducible refine Xb (a:=?_) ?_ ?_);rotate_left 1;exact rfl))
        (with_reducible refine hf _ _ hh ?_)
        repeat (first|((with_reducible refine o_it0 ?_))|((with_reducible refine Yl (a:=?_) ?_ ?_);rotate_left 1;exact rfl)|(with_reducible refine Ua ?_)|((with_reducible refine Xb (a:=?_) ?_ ?_);rotate_left 1;exact rfl))
        refine BoolW_any (fun hb => ?_) (fun hb => ?_)
        · rw [if_pos hb] at hQ
          repeat (first|((with_reducible refine o_it0 ?_))|((with_reducible refine Yb (d:=?_) ?_ ?_);rotate_left 1;exact rfl)|(with_reducible first|refine J0 ?_|refine J3 ?_|refine J6 ?_|refine J7 ?_|refine J8 ?_|refine Jb ?_|refine Je ?_)|((with_reducible refine Yy (d:=?_) (s:=?_) ?_ ?_);rotate_left 2;exact rfl)|((with_reducible refine Xb (a:=?_) ?_ ?_);rotate_left 1;exact rfl))
          refine FnP_mono (tailS (true, k) hb hl _ hQ) fun b d outs hbd => ?_
          have e1 := hbd.1
          have e2 := hbd.2.1
          have e3 := hbd.2.2
          clear hbd
          subst e1 e2
          rcases e3 with ⟨e4, hq⟩ | ⟨hnn, hq⟩
          · subst e4
            repeat (first|((with_reducible refine o_it0 ?_))|((with_reducible first|refine Yb (d:=?_) ?_ ?_|refine Yc (b:=?_) ?_ ?_);rotate_left 1;exact rfl)|((with_reducible first|refine Yr (d:=?_) (e:=?_) ?_ ?_ ?_|refine Ys (d:=?_) (o:=?_) ?_ ?_ ?_);rotate_left 2;exact rfl;exact rfl)|(with_reducible first|refine J1 ?_|refine J2 ?_|refine J5 ?_|refine J9 ?_|refine Jg ?_)|((with_reducible refine X6 ?_ ?_);exact rfl)|((with_reducible refine Xb (a:=?_) ?_ ?_);rotate_left 1;exact rfl))
            exact hq
          · repeat (first|((with_reducible refine i_isF hnn ?_))|((with_reducible refine o_it0 ?_))|((with_reducible first|refine Yb (d:=?_) ?_ ?_|refine Yc (b:=?_) ?_ ?_);rotate_left 1;exact rfl)|((with_reducible first|refine Yr (d:=?_) (e:=?_) ?_ ?_ ?_|refine Ys (d:=?_) (o:=?_) ?_ ?_ ?_);rotate_left 2;exact rfl;exact rfl)|(with_reducible first|refine J1 ?_|refine J2 ?_|refine J5 ?_|refine J6 ?_|refine J7 ?_|refine J8 ?_|refine J9 ?_|refine Jc ?_|refine Jg ?_)|((with_reducible refine Yy (d:=?_) (s:=?_) ?_ ?_);rotate_left 2;exact rfl)|((with_reducible refine Xb (a:=?_) ?_ ?_);rotate_left 1;exact rfl)|((with_reducible refine And.intro ?_ ?_);first|exact Nat.le_of_ble_eq_true rfl|exact rfl))
            exact hq
        · rw [if_neg (by rw [hb]; exact Bool.false_ne_true), if_pos rfl] at hQ
          repeat (first|((with_reducible refine o_it0 ?_))|((with_reducible first|refine Yb (d:=?_) ?_ ?_|refine Yc (b:=?_) ?_ ?_);rotate_left 1;exact rfl)|((with_reducible first|refine Yr (d:=?_) (e:=?_) ?_ ?_ ?_|refine Ys (d:=?_) (o:=?_) ?_ ?_ ?_);rotate_left 2;exact rfl;exact rfl)|(with_reducible first|refine J0 ?_|refine J1 ?_|refine J2 ?_|refine J4 ?_|refine J5 ?_|refine J9 ?_|refine Uj ?_)|((with_reducible refine X7 ?_ ?_);exact rfl))
          exact hQ
end L2.Zd.Lib

set_option Elab.async false
set_option linter.all false
set_option maxRecDepth 100000
set_option maxHeartbeats 2000000
namespace L2.Zd.Lib
open PySem PySem.Spec PyProof.Rows L2.Zd
def WorR (s : Sh) (fs : List Fo) (b : Bool) (d : D) (outs : List D) : Prop := b = false ∧ outs = [] ∧ ((d = .none ∧ decV s fs = none) ∨ (isNoneD d = false ∧ decV s fs = some d))
theorem wor_r {g : FM} {n : Nat} (hg : WorS g n) {s : Sh} {fs : List Fo} (hs : Gd s) (hh : s.h ≤ n) (hl : fs.length = ls s) : FnP g [s.d, .tuple (fs.map fd)] (WorR s fs) := by
  refine hg s fs _ hs hh hl ⟨rfl, rfl, ?_⟩
  cases e : decV s fs with
  | none => exact .inl ⟨rfl, rfl⟩
  | some x => exact .inr ⟨decV_nn e, rfl⟩
theorem o_in_none {K : Vt → Prop} {l : List D} (sh : SeqAt.shaped (.list l) = true) (h : K (.fr (.bool (l.any fun y => PyData.eqv y .none)))) : OptP (pIn .none (.list l)) K := by
  have e : inD .none (.list l) = some (l.any fun y => PyData.eqv y .none) := by
    show anyD .none l = _
    unfold anyD
    split
    · rfl
    · rw [if_pos ⟨by decide +kernel, sh⟩]
  unfold pIn; rw [e]; exact h
theorem lwor_leaf {f g h i j : FM} {n : Nat} {fs : List Fo} {Q : Bool → D → List D → Prop} (h0 : 1 ≤ n) (hl : fs.length = ls (.i n)) (hQ : Q false (optD (decV (.i n) fs)) []) : FnP (f_l_look_worth f g h i j) [.int n, .tuple (fs.map fd)] Q := by
  have hl' : fs.length = if 2 ≤ n then 1 else 0 := hl
  by_cases c : 2 ≤ n
  · rw [if_pos c] at hl'
    match fs, hl' with
    | [(b, k)], _ =>
      cases b with
      | false =>
        unfold f_l_look_worth
        (with_reducible refine FnP_mk [.fr (.int n), .fr (.tuple [vl (.int k)]), .no, .no, .no, .no, .no, .no] [] ?_ ?_ ?_)
        · rfl
        · rfl
        unfold b_l_look_worth
        repeat (first|((with_reducible refine o_it0 ?_))|((with_reducible first|refine Yb (d:=?_) ?_ ?_|refine Yc (b:=?_) ?_ ?_|refine Yl (a:=?_) ?_ ?_|refine Yn (b:=?_) ?_ ?_);rotate_left 1;exact rfl)|((with_reducible first|refine Yr (d:=?_) (e:=?_) ?_ ?_ ?_|refine Ys (d:=?_) (o:=?_) ?_ ?_ ?_);rotate_left 2;exact rfl;exact rfl)|(with_reducible first|refine J0 ?_|refine J1 ?_|refine J2 ?_|refine J4 ?_|refine J5 ?_|refine J9 ?_|refine Je ?_|refine Jg ?_|refine Jh ?_|refine Jo ?_|refine U8 ?_|refine Uh ?_|refine Uj ?_)|((with_reducible refine X7 ?_ ?_);exact rfl)|(with_reducible refine Ya ?_ (by first|omega|assumption))|((with_reducible refine Xb (a:=?_) ?_ ?_);rotate_left 1;exact rfl))
        exact hQ
      | true =>
        unfold f_l_look_worth
        (with_reducible refine FnP_mk [.fr (.int n), .fr (.tuple [er k]), .no, .no, .no, .no, .no, .no] [] ?_ ?_ ?_)
        · rfl
        · rfl
        unfold b_l_look_worth
        repeat (first|((with_reducible refine o_it0 ?_))|((with_reducible first|refine Yb (d:=?_) ?_ ?_|refine Yc (b:=?_) ?_ ?_|refine Yl (a:=?_) ?_ ?_|refine Yn (b:=?_) ?_ ?_);rotate_left 1;exact rfl)|((with_reducible first|refine Yr (d:=?_) (e:=?_) ?_ ?_ ?_|refine Ys (d:=?_) (o:=?_) ?_ ?_ ?_);rotate_left 2;exact rfl;exact rfl)|(with_reducible first|refine J0 ?_|refine J1 ?_|refine J2 ?_|refine J4 ?_|refine J5 ?_|refine J9 ?_|refine Je ?_|refine Jg ?_|refine Jh ?_|refine Jo ?_|refine U8 ?_|refine Uh ?_|refine Uj ?_)|((with_reducible refine X7 ?_ ?_);exact rfl)|((with_reducible refine Xa ?_ ?_);exact rfl)|(with_reducible refine Ya ?_ (by first|omega|assumption))|((with_reducible refine Xb (a:=?_) ?_ ?_);rotate_left 1;exact rfl))
        exact hQ
  · rw [if_neg c] at hl'
    match fs, hl' with
    | [], _ =>
      unfold f_l_look_worth
      (with_reducible refine FnP_mk [.fr (.int n), .fr (.tuple []), .no, .no, .no, .no, .no, .no] [] ?_ ?_ ?_)
      · rfl
      · rfl
      unfold b_l_look_worth
      repeat (first|((with_reducible refine o_it0 ?_))|((with_reducible first|refine Yb (d:=?_) ?_ ?_|refine Yc (b:=?_) ?_ ?_|refine Yl (a:=?_) ?_ ?_|refine Yn (b:=?_) ?_ ?_);rotate_left 1;exact rfl)|((with_reducible first|refine Yr (d:=?_) (e:=?_) ?_ ?_ ?_|refine Ys (d:=?_) (o:=?_) ?_ ?_ ?_);rotate_left 2;exact rfl;exact rfl)|(with_reducible first|refine J0 ?_|refine J1 ?_|refine J2 ?_|refine J4 ?_|refine J5 ?_|refine J9 ?_|refine Jh ?_|refine Jo ?_|refine U8 ?_|refine Uh ?_)|(with_reducible refine Y9 ?_ (by first|omega|assumption))|((with_reducible refine Xb (a:=?_) ?_ ?_);rotate_left 1;exact rfl))
      exact hQ
theorem lwor_s0 (f g h i j : FM) : WorS (f_l_look_worth f g h i j) 0 := by
  intro s fs Q hs hh hl hQ
  cases s with
  | i n =>
    have h0 : 1 ≤ n := hs.ok.1
    show FnP _ [.int n, .tuple (fs.map fd)] Q
    (with_reducible refine lwor_leaf h0 hl ?_)
    exact hQ
  | p a b => exact absurd hh (Nat.not_succ_le_zero _)
  | f a b => exact absurd hh (Nat.not_succ_le_zero _)
theorem chunk_len {fs : List Fo} {n m k : Nat} (hl : fs.length = n * m) (hk : k < n) : ((fs.drop (k * m)).take m).length = m := by
  rw [List.length_take, List.length_drop, hl]
  have := Nat.mul_le_mul_right m (show k + 1 ≤ n from hk)
  rw [Nat.add_mul, Nat.one_mul] at this
  omega
theorem chunk_d {fs : List Fo} {m k : Nat} : (((fs.map fd).take ((k : Int) * (m : Int) + (m : Int)).toNat).drop ((k : Int) * (m : Int)).toNat) = ((fs.drop (k * m)).take m).map fd := by
  have e1 : (k : Int) * (m : Int) = ((k * m : Nat) : Int) := (Int.natCast_mul _ _).symm
  have e2 : ((k * m : Nat) : Int) + (m : Int) = ((k * m + m : Nat) : Int) := (Int.natCast_add _ _).symm
  rw [e1, e2, Int.toNat_natCast, Int.toNat_natCast, List.drop_take, List.map_take, List.map_drop]
  congr 1
  omega
def ckg (b : Sh) (fs : List Fo) : D → D
  | .int k => optD (decO b ((fs.drop (k.toNat * lc b)).take (lc b)))
  | _ => .none
theorem lwor_s {f g h i j : FM} {n : Nat} (hn : n ≤ 20) (hf : SumS f n) (hg : WorS g n) (hh' : LcS h n) (hi : CountS i n) (hj : DecS j n) : WorS (f_l_look_worth f g h i j) (n + 1) := by
  intro s fs Q hs hh hl hQ
  cases s with
  | i n =>
    have h0 : 1 ≤ n := hs.ok.1
    show FnP _ [.int n, .tuple (fs.map fd)] Q
    (with_reducible refine lwor_leaf h0 hl ?_)
    exact hQ
  | p a b =>
    have h1 := hle hh
    have ga := hs.p1
    have gb := hs.p2
    have hsum := hs.psum
    have hl1 : (fs.take (ls a)).length = ls a := by rw [List.length_take]; omega
    have hl2 : (fs.drop (ls a)).length = ls b := by rw [List.length_drop]; omega
    have eD : decV (.p a b) fs = (decV a (fs.take (ls a))).bind fun x => (decV b (fs.drop (ls a))).map fun y => .tuple [x, y] := rfl
    rw [eD] at hQ
    unfold f_l_look_worth
    (with_reducible refine FnP_mk [.fr (.tuple [.str "pair", a.d, b.d]), .fr (.tuple (fs.map fd)), .no, .no, .no, .no, .no, .no] [] ?_ ?_ ?_)
    · rfl
    · rfl
    unfold b_l_look_worth
    repeat (first|((with_reducible first|refine Yb (d:=?_) ?_ ?_|refine Yc (b:=?_) ?_ ?_|refine Yl (a:=?_) ?_ ?_|refine Yn (b:=?_) ?_ ?_);rotate_left 1;exact rfl)|((with_reducible refine Yr (d:=?_) (e:=?_) ?_ ?_ ?_);rotate_left 2;exact rfl;exact rfl)|(with_reducible first|refine J0 ?_|refine J1 ?_|refine J2 ?_|refine J3 ?_|refine J4 ?_|refine J7 ?_|refine J8 ?_|refine J9 ?_|refine Jb ?_|refine Je ?_|refine Jh ?_|refine Jo ?_|refine U9 ?_|refine Uj ?_)|((with_reducible refine X7 ?_ ?_);exact rfl)|((with_reducible refine Xb (a:=?_) ?_ ?_);rotate_left 1;exact rfl))
    (with_reducible refine hf _ _ ga.ok h1.1 ?_)
    repeat (first|((with_reducible first|refine Yb (d:=?_) ?_ ?_|refine Yg (n:=?_) ?_ ?_|refine Yl (a:=?_) ?_ ?_);rotate_left 1;exact rfl)|((with_reducible refine Yr (d:=?_) (e:=?_) ?_ ?_ ?_);rotate_left 2;exact rfl;exact rfl)|(with_reducible first|refine J0 ?_|refine J1 ?_|refine J2 ?_|refine J3 ?_|refine J6 ?_|refine J7 ?_|refine J8 ?_|refine Jb ?_|refine Jp ?_|refine Jq ?_|refine Jr ?_|refine Y3 ?_ (by omega))|((with_reducible refine Yy (d:=?_) (s:=?_) ?_ ?_);rotate_left 2;exact rfl)|((with_reducible refine Xb (a:=?_) ?_ ?_);rotate_left 1;exact rfl))
    rw [Int.toNat_natCast, ← List.map_take]
    refine FnP_mono (wor_r hg ga h1.1 hl1) fun b d outs hbd => ?_
    have e1 := hbd.1
    have e2 := hbd.2.1
    have e3 := hbd.2.2
    clear hbd
    subst e1 e2
    repeat (first|((with_reducible first|refine Yb (d:=?_) ?_ ?_|refine Yg (n:=?_) ?_ ?_|refine Yl (a:=?_) ?_ ?_);rotate_left 1;exact rfl)|((with_reducible refine Yr (d:=?_) (e:=?_) ?_ ?_ ?_);rotate_left 2;exact rfl;exact rfl)|(with_reducible first|refine J0 ?_|refine J1 ?_|refine J2 ?_|refine J3 ?_|refine J6 ?_|refine J7 ?_|refine J8 ?_|refine Jb ?_|refine Jp ?_|refine Jq ?_|refine Jr ?_|refine Y4 ?_ (by omega))|((with_reducible refine Yy (d:=?_) (s:=?_) ?_ ?_);rotate_left 2;exact rfl)|((with_reducible refine Xb (a:=?_) ?_ ?_);rotate_left 1;exact rfl))
    rw [Int.toNat_natCast, ← List.map_drop]
    refine FnP_mono (wor_r hg gb h1.2 hl2) fun b d2 outs hbd => ?_
    have e1 := hbd.1
    have e2 := hbd.2.1
    have e4 := hbd.2.2
    clear hbd
    subst e1 e2
    rcases e3 with ⟨e5, hq⟩ | ⟨hnn, hq⟩
    · rw [hq] at hQ
      subst e5
      repeat (first|((with_reducible first|refine Yb (d:=?_) ?_ ?_|refine Yc (b:=?_) ?_ ?_);rotate_left 1;exact rfl)|((with_reducible first|refine Yr (d:=?_) (e:=?_) ?_ ?_ ?_|refine Ys (d:=?_) (o:=?_) ?_ ?_ ?_);rotate_left 2;exact rfl;exact rfl)|(with_reducible first|refine J1 ?_|refine J2 ?_|refine J5 ?_|refine J9 ?_|refine Jg ?_|refine Jk ?_|refine U8 ?_)|((with_reducible refine X6 ?_ ?_);exact rfl)|((with_reducible refine Xb (a:=?_) ?_ ?_);rotate_left 1;exact rfl))
      exact hQ
    · rw [hq] at hQ
      rcases e4 with ⟨e5, hq2⟩ | ⟨hnn2, hq2⟩
      · rw [hq2] at hQ
        subst e5
        repeat (first|((with_reducible refine i_isF hnn ?_))|((with_reducible refine o_it0 ?_))|((with_reducible first|refine Yb (d:=?_) ?_ ?_|refine Yc (b:=?_) ?_ ?_);rotate_left 1;exact rfl)|((with_reducible first|refine Yr (d:=?_) (e:=?_) ?_ ?_ ?_|refine Ys (d:=?_) (o:=?_) ?_ ?_ ?_);rotate_left 2;exact rfl;exact rfl)|(with_reducible first|refine J1 ?_|refine J2 ?_|refine J5 ?_|refine J9 ?_|refine Jg ?_|refine Jk ?_)|((with_reducible refine X6 ?_ ?_);exact rfl)|((with_reducible refine Xb (a:=?_) ?_ ?_);rotate_left 1;exact rfl))
        exact hQ
      · rw [hq2] at hQ
        repeat (first|((with_reducible refine i_isF hnn ?_))|((with_reducible refine i_isF hnn2 ?_))|((with_reducible refine o_it0 ?_))|((with_reducible first|refine Yb (d:=?_) ?_ ?_|refine Yc (b:=?_) ?_ ?_);rotate_left 1;exact rfl)|((with_reducible first|refine Yr (d:=?_) (e:=?_) ?_ ?_ ?_|refine Ys (d:=?_) (o:=?_) ?_ ?_ ?_);rotate_left 2;exact rfl;exact rfl)|(with_reducible first|refine J1 ?_|refine J2 ?_|refine J5 ?_|refine J6 ?_|refine J7 ?_|refine J8 ?_|refine J9 ?_|refine Jc ?_|refine Jg ?_|refine Jk ?_)|((with_reducible refine Yy (d:=?_) (s:=?_) ?_ ?_);rotate_left 2;exact rfl)|((with_reducible refine Xb (a:=?_) ?_ ?_);rotate_left 1;exact rfl)|((with_reducible refine And.intro ?_ ?_);first|exact Nat.le_of_ble_eq_true rfl|exact rfl))
        exact hQ
  | f a b =>
    have h1 := hle hh
    have gb := hs.f2
    have hsa : a.ok := hs.ok.1
    have hf0 := hs.f0
    have h3 := hs.ls_
    have hm := lc_pos gb
    have hl' : fs.length = cv a * lc b := by rw [hl, hf0.2.2.1]
    have eD : decV (.f a b) fs = (rowsG (decO b) (lc b) (cv a) fs).map .tuple := rfl
    rw [eD] at hQ
    unfold f_l_look_worth
    (with_reducible refine FnP_mk [.fr (.tuple [.str "to", a.d, b.d]), .fr (.tuple (fs.map fd)), .no, .no, .no, .no, .no, .no] [] ?_ ?_ ?_)
    · rfl
    · rfl
    unfold b_l_look_worth
    repeat (first|((with_reducible first|refine Yb (d:=?_) ?_ ?_|refine Yc (b:=?_) ?_ ?_|refine Yl (a:=?_) ?_ ?_|refine Yn (b:=?_) ?_ ?_);rotate_left 1;exact rfl)|((with_reducible refine Yr (d:=?_) (e:=?_) ?_ ?_ ?_);rotate_left 2;exact rfl;exact rfl)|(with_reducible first|refine J0 ?_|refine J1 ?_|refine J2 ?_|refine J3 ?_|refine J4 ?_|refine J7 ?_|refine J8 ?_|refine J9 ?_|refine Jb ?_|refine Je ?_|refine Jh ?_|refine Jo ?_|refine U9 ?_|refine Uj ?_)|((with_reducible refine X7 ?_ ?_);exact rfl)|((with_reducible refine Xa ?_ ?_);exact rfl)|((with_reducible refine Xb (a:=?_) ?_ ?_);rotate_left 1;exact rfl))
    (with_reducible refine hh' _ _ gb.ok h1.2 ?_)
    repeat (first|((with_reducible refine Yb (d:=?_) ?_ ?_);rotate_left 1;exact rfl)|((with_reducible refine Yr (d:=?_) (e:=?_) ?_ ?_ ?_);rotate_left 2;exact rfl;exact rfl)|(with_reducible first|refine J0 ?_|refine J1 ?_|refine J2 ?_|refine J3 ?_|refine J6 ?_|refine J7 ?_|refine J8 ?_|refine Jb ?_|refine Jx ?_|refine Jz ?_)|((with_reducible refine Xb (a:=?_) ?_ ?_);rotate_left 1;exact rfl))
    (with_reducible refine hi _ _ hsa h1.1 ?_)
    repeat (first|((with_reducible refine Yj (n:=?_) ?_ ?_ ?_);rotate_left 1;exact rfl)|(with_reducible refine J8 ?_)|((with_reducible refine Yy (d:=?_) (s:=?_) ?_ ?_);rotate_left 2;exact rfl)|((with_reducible refine And.intro ?_ ?_);first|exact Nat.le_of_ble_eq_true rfl|exact rfl))
    · rw [show rng 0 ((cv a : Int)).toNat = (List.range (cv a)).map (fun k : Nat => .int k) from by rw [Int.toNat_natCast]; exact rng_vals _]
      refine lc_pure (ckg b fs) (fun _ => true) ?_ ?_ ?_
      · intro d hd
        obtain ⟨k, hk, rfl⟩ := List.mem_map.mp hd
        have hk' := List.mem_range.mp hk
        have hkm : 0 ≤ (k : Int) * (lc b : Int) := Int.mul_nonneg (by omega) (by omega)
        repeat (first|((with_reducible first|refine Yb (d:=?_) ?_ ?_|refine Yg (n:=?_) ?_ ?_|refine Yl (a:=?_) ?_ ?_);rotate_left 1;exact rfl)|((with_reducible refine Yr (d:=?_) (e:=?_) ?_ ?_ ?_);rotate_left 2;exact rfl;exact rfl)|(with_reducible first|refine J1 ?_|refine J2 ?_|refine J6 ?_|refine J7 ?_|refine J8 ?_|refine Jb ?_|refine Jp ?_|refine Jr ?_|refine U0 ?_|refine U8 ?_|refine Uz ?_ (by first|(left;constructor<;>omega)|(right;constructor<;>omega))|refine Y7 ?_ (by omega) (by omega))|((with_reducible refine Yy (d:=?_) (s:=?_) ?_ ?_);rotate_left 2;exact rfl)|((with_reducible refine Xb (a:=?_) ?_ ?_);rotate_left 1;exact rfl))
        rw [chunk_d]
        (with_reducible refine hj _ _ _ gb h1.2 (chunk_len hl' hk') ?_)
        repeat (first|((with_reducible refine Yy (d:=?_) (s:=?_) ?_ ?_);rotate_left 2;exact rfl)|((with_reducible refine And.intro ?_ ?_);first|exact Nat.le_of_ble_eq_true rfl|exact rfl))
        rfl
      · rw [size24, List.length_map, List.length_range]; omega
      rw [filtT, List.map_map]
      have eM : (List.range (cv a)).map (ckg b fs ∘ fun k : Nat => PyData.int k) = (chl (decO b) (lc b) (cv a) fs).map optD := by
        rw [← chl_map, List.map_map]; rfl
      rw [eM]
      have hsh : SeqAt.shaped (.list ((chl (decO b) (lc b) (cv a) fs).map optD)) = true := by
        refine shaped_lst (n := 2 * b.h + 1) (fun x hx => ?_) (by omega)
        rw [← chl_map, List.map_map] at hx
        obtain ⟨k, _, rfl⟩ := List.mem_map.mp hx
        exact optO_plain gb _
      repeat (first|((with_reducible refine Yb (d:=?_) ?_ ?_);rotate_left 1;exact rfl)|((with_reducible refine Yr (d:=?_) (e:=?_) ?_ ?_ ?_);rotate_left 2;exact rfl;exact rfl)|(with_reducible first|refine J1 ?_|refine J2 ?_|refine J5 ?_|refine J9 ?_|refine Jg ?_)|((with_reducible refine Yv (d:=?_) ?_ ?_);rotate_left 1;exact rfl)|((with_reducible refine Xb (a:=?_) ?_ ?_);rotate_left 1;exact rfl))
      refine o_in_none hsh ?_
      rw [any_none]
      repeat (first|((with_reducible refine Yc (b:=?_) ?_ ?_);rotate_left 1;exact rfl))
      rcases rowsG_chl (g := decO b) (m := lc b) (cv a) fs with ⟨rows, e1, e2⟩ | ⟨e1, e2⟩
      · rw [e1] at hQ
        rw [e1, e2, optD_somes]
        skip
        exact hQ
      · rw [e1] at hQ
        rw [e1]
        skip
        exact hQ
    all_goals omega
end L2.Zd.Lib

set_option Elab.async false
set_option linter.all false
set_option maxRecDepth 100000
set_option maxHeartbeats 2000000
namespace L2.Zd.Lib
open PySem PySem.Spec PyProof.Rows L2.Zd
/-! ### the program's decoding -/
theorem all_bools (o : Fo) (fs : List Fo) : ((fs.map fun x => decide (x = o)).all id) = fs.all fun x => decide (x = o) := by
  induction fs with
  | nil => rfl
  | cons x fs ih => rw [List.map_cons, List.all_cons, List.all_cons, ih]; rfl
def eqo (o : Fo) (d : D) : D := .bool (PyData.eqv d (fd o))
theorem eqo_map (o : Fo) (fs : List Fo) : (fs.map fd).map (eqo o) = (fs.map fun x => decide (x = o)).map .bool := by
  rw [List.map_map, List.map_map]
  apply List.map_congr_left
  intro x _
  show PyData.bool (PyData.eqv (fd x) (fd o)) = _
  rw [eqv_fd]; rfl
theorem pdec_s {f g : FM} {n : Nat} (hf : ShowS f n) (hg : WorS g n) : DecS (f_outcome_found f g) n := by
  intro s fs Q hs hh hl hQ
  have hp := lc_pos hs
  have h3 := hs.ls_
  have h4 : lc s ≤ 301 := by rw [hs.lcE]; unfold ns; split <;> omega
  cases fs with
  | nil => rw [← hl] at hp; cases hp
  | cons o fs =>
    rw [List.length_cons] at hl
    have eD : decO s (o :: fs) = if (o.1 && fs.all fun x => decide (x = o)) = true then some (fd o) else if shw s = true then (decV s (o :: fs)).map vl else if o.1 = true then none else (decV s fs).map vl := rfl
    have tailS : ∀ (o : Fo), shw s = true → fs.length + 1 = lc s → ∀ (Q : Bool → D → List D → Prop), Q false (optD ((decV s (o :: fs)).map vl)) [] → FnP g [s.d, .tuple (fd o :: fs.map fd)] (fun b d outs => (b = false ∧ outs = [] ∧ (d = .none ∧ Q false .none [] ∨ isNoneD d = false ∧ Q false (vl d) []))) := fun o hb hl Q hQ => by
      have hl' : (o :: fs).length = ls s := by rw [List.length_cons, hl]; exact lcs hs hb
      refine hg s (o :: fs) _ hs hh hl' ⟨rfl, rfl, ?_⟩
      cases e : decV s (o :: fs) with
      | none => rw [e] at hQ; exact .inl ⟨rfl, hQ⟩
      | some x => rw [e] at hQ; exact .inr ⟨decV_nn e, hQ⟩
    have tailN : shw s = false → ∀ (Q : Bool → D → List D → Prop), Q false (optD ((decV s fs).map vl)) [] → FnP g [s.d, .tuple (fs.map fd)] (fun b d outs => (b = false ∧ outs = [] ∧ (d = .none ∧ Q false .none [] ∨ isNoneD d = false ∧ Q false (vl d) []))) := fun hb Q hQ => by
      have hl' : fs.length = ls s := by have := lcn hs hb; omega
      refine hg s fs _ hs hh hl' ⟨rfl, rfl, ?_⟩
      cases e : decV s fs with
      | none => rw [e] at hQ; exact .inl ⟨rfl, hQ⟩
      | some x => rw [e] at hQ; exact .inr ⟨decV_nn e, hQ⟩
    rw [eD] at hQ
    obtain ⟨bb, k⟩ := o
    cases bb with
    | false =>
      rw [if_neg (by exact Bool.false_ne_true)] at hQ
      unfold f_outcome_found
      (with_reducible refine FnP_mk [.fr s.d, .fr (.tuple (vl (.int k) :: fs.map fd)), .no, .no, .no] [] ?_ ?_ ?_)
      · rfl
      · rfl
      unfold b_outcome_found
      repeat (first|((with_reducible refine o_it0 ?_))|((with_reducible first|refine Yb (d:=?_) ?_ ?_|refine Yc (b:=?_) ?_ ?_);rotate_left 1;exact rfl)|((with_reducible refine Yr (d:=?_) (e:=?_) ?_ ?_ ?_);rotate_left 2;exact rfl;exact rfl)|(with_reducible first|refine J0 ?_|refine J1 ?_|refine J2 ?_|refine J3 ?_|refine J4 ?_|refine J6 ?_|refine J7 ?_|refine J8 ?_|refine J9 ?_|refine Jb ?_|refine Je ?_|refine Jh ?_|refine Ji ?_|refine Jj ?_|refine U9 ?_|refine Uj ?_)|((with_reducible refine Yy (d:=?_) (s:=?_) ?_ ?_);rotate_left 2;exact rfl)|((with_reducible refine X7 ?_ ?_);exact rfl)|((with_reducible refine Xa ?_ ?_);exact rfl)|((with_reducible refine Xb (a:=?_) ?_ ?_);rotate_left 1;exact rfl))
      (with_reducible refine hf _ _ hh ?_)
      repeat (first|((with_reducible refine o_it0 ?_))|((with_reducible refine Yl (a:=?_) ?_ ?_);rotate_left 1;exact rfl)|(with_reducible refine Ua ?_)|((with_reducible refine Xb (a:=?_) ?_ ?_);rotate_left 1;exact rfl))
      refine BoolW_any (fun hb => ?_) (fun hb => ?_)
      · rw [if_pos hb] at hQ
        repeat (first|((with_reducible refine o_it0 ?_))|((with_reducible refine Yb (d:=?_) ?_ ?_);rotate_left 1;exact rfl)|(with_reducible first|refine J0 ?_|refine J3 ?_|refine J6 ?_|refine J7 ?_|refine J8 ?_|refine Jb ?_|refine Je ?_)|((with_reducible refine Yy (d:=?_) (s:=?_) ?_ ?_);rotate_left 2;exact rfl)|((with_reducible refine Xb (a:=?_) ?_ ?_);rotate_left 1;exact rfl))
        refine FnP_mono (tailS (false, k) hb hl _ hQ) fun b d outs hbd => ?_
        have e1 := hbd.1
        have e2 := hbd.2.1
        have e3 := hbd.2.2
        clear hbd
        subst e1 e2
        rcases e3 with ⟨e4, hq⟩ | ⟨hnn, hq⟩
        · subst e4
          repeat (first|((with_reducible refine o_it0 ?_))|((with_reducible first|refine Yb (d:=?_) ?_ ?_|refine Yc (b:=?_) ?_ ?_);rotate_left 1;exact rfl)|((with_reducible first|refine Yr (d:=?_) (e:=?_) ?_ ?_ ?_|refine Ys (d:=?_) (o:=?_) ?_ ?_ ?_);rotate_left 2;exact rfl;exact rfl)|(with_reducible first|refine J0 ?_|refine J1 ?_|refine J2 ?_|refine J4 ?_|refine J5 ?_|refine J9 ?_)|((with_reducible refine X6 ?_ ?_);exact rfl)|((with_reducible refine Xb (a:=?_) ?_ ?_);rotate_left 1;exact rfl))
          exact hq
        · repeat (first|((with_reducible refine i_isF hnn ?_))|((with_reducible refine o_it0 ?_))|((with_reducible first|refine Yb (d:=?_) ?_ ?_|refine Yc (b:=?_) ?_ ?_);rotate_left 1;exact rfl)|((with_reducible first|refine Yr (d:=?_) (e:=?_) ?_ ?_ ?_|refine Ys (d:=?_) (o:=?_) ?_ ?_ ?_);rotate_left 2;exact rfl;exact rfl)|(with_reducible first|refine J0 ?_|refine J1 ?_|refine J2 ?_|refine J4 ?_|refine J5 ?_|refine J6 ?_|refine J7 ?_|refine J8 ?_|refine J9 ?_|refine Jc ?_|refine Je ?_)|((with_reducible refine Yy (d:=?_) (s:=?_) ?_ ?_);rotate_left 2;exact rfl)|((with_reducible refine Xb (a:=?_) ?_ ?_);rotate_left 1;exact rfl)|((with_reducible refine And.intro ?_ ?_);first|exact Nat.le_of_ble_eq_true rfl|exact rfl))
          exact hq
      · rw [if_neg (by rw [hb]; exact Bool.false_ne_true), if_neg Bool.false_ne_true] at hQ
        repeat (first|((with_reducible refine o_it0 ?_))|((with_reducible first|refine Yb (d:=?_) ?_ ?_|refine Yc (b:=?_) ?_ ?_|refine Yg (n:=?_) ?_ ?_|refine Yl (a:=?_) ?_ ?_);rotate_left 1;exact rfl)|((with_reducible refine Yr (d:=?_) (e:=?_) ?_ ?_ ?_);rotate_left 2;exact rfl;exact rfl)|(with_reducible first|refine J0 ?_|refine J1 ?_|refine J2 ?_|refine J3 ?_|refine J4 ?_|refine J6 ?_|refine J7 ?_|refine J8 ?_|refine J9 ?_|refine Jb ?_|refine Je ?_|refine Jp ?_|refine Jq ?_|refine Jr ?_|refine Uj ?_|refine Y4 ?_ (by omega))|((with_reducible refine Yy (d:=?_) (s:=?_) ?_ ?_);rotate_left 2;exact rfl)|((with_reducible refine X7 ?_ ?_);exact rfl)|((with_reducible refine Xa ?_ ?_);exact rfl)|((with_reducible refine Xb (a:=?_) ?_ ?_);rotate_left 1;exact rfl))
        refine FnP_mono (tailN hb _ hQ) fun b d outs hbd => ?_
        have e1 := hbd.1
        have e2 := hbd.2.1
        have e3 := hbd.2.2
        clear hbd
        subst e1 e2
        rcases e3 with ⟨e4, hq⟩ | ⟨hnn, hq⟩
        · subst e4
          repeat (first|((with_reducible refine o_it0 ?_))|((with_reducible first|refine Yb (d:=?_) ?_ ?_|refine Yc (b:=?_) ?_ ?_);rotate_left 1;exact rfl)|((with_reducible first|refine Yr (d:=?_) (e:=?_) ?_ ?_ ?_|refine Ys (d:=?_) (o:=?_) ?_ ?_ ?_);rotate_left 2;exact rfl;exact rfl)|(with_reducible first|refine J0 ?_|refine J1 ?_|refine J2 ?_|refine J4 ?_|refine J5 ?_|refine J9 ?_)|((with_reducible refine X6 ?_ ?_);exact rfl)|((with_reducible refine Xb (a:=?_) ?_ ?_);rotate_left 1;exact rfl))
          exact hq
        · repeat (first|((with_reducible refine i_isF hnn ?_))|((with_reducible refine o_it0 ?_))|((with_reducible first|refine Yb (d:=?_) ?_ ?_|refine Yc (b:=?_) ?_ ?_);rotate_left 1;exact rfl)|((with_reducible first|refine Yr (d:=?_) (e:=?_) ?_ ?_ ?_|refine Ys (d:=?_) (o:=?_) ?_ ?_ ?_);rotate_left 2;exact rfl;exact rfl)|(with_reducible first|refine J0 ?_|refine J1 ?_|refine J2 ?_|refine J4 ?_|refine J5 ?_|refine J6 ?_|refine J7 ?_|refine J8 ?_|refine J9 ?_|refine Jc ?_|refine Je ?_)|((with_reducible refine Yy (d:=?_) (s:=?_) ?_ ?_);rotate_left 2;exact rfl)|((with_reducible refine Xb (a:=?_) ?_ ?_);rotate_left 1;exact rfl)|((with_reducible refine And.intro ?_ ?_);first|exact Nat.le_of_ble_eq_true rfl|exact rfl))
          exact hq
    | true =>
      unfold f_outcome_found
      (with_reducible refine FnP_mk [.fr s.d, .fr (.tuple (er k :: fs.map fd)), .no, .no, .no] [] ?_ ?_ ?_)
      · rfl
      · rfl
      unfold b_outcome_found
      repeat (first|((with_reducible refine o_it0 ?_))|((with_reducible first|refine Yb (d:=?_) ?_ ?_|refine Yc (b:=?_) ?_ ?_|refine Yd (ds:=?_) ?_ ?_);rotate_left 1;exact rfl)|((with_reducible refine Yr (d:=?_) (e:=?_) ?_ ?_ ?_);rotate_left 2;exact rfl;exact rfl)|(with_reducible first|refine J0 ?_|refine J1 ?_|refine J2 ?_|refine J3 ?_|refine J4 ?_|refine J6 ?_|refine J7 ?_|refine J9 ?_|refine Ja ?_|refine Jh ?_|refine Jj ?_|refine Jw ?_|refine Jz ?_|refine Uj ?_)|((with_reducible refine Yw (ds:=?_) ?_ ?_);rotate_left 1;exact rfl)|((with_reducible refine Yy (d:=?_) (s:=?_) ?_ ?_);rotate_left 2;exact rfl)|((with_reducible refine X7 ?_ ?_);exact rfl)|((with_reducible refine Xb (a:=?_) ?_ ?_);rotate_left 1;exact rfl)|((with_reducible refine And.intro ?_ ?_);first|exact Nat.le_of_ble_eq_true rfl|exact rfl))
      refine lc_pure (eqo (true, k)) (fun _ => true) ?_ ?_ ?_
      · intro d hd
        obtain ⟨x, hx, rfl⟩ := List.mem_map.mp (show d ∈ ((true, k) :: fs).map fd from hd)
        repeat (first|((with_reducible refine o_it0 ?_))|((with_reducible refine Yb (d:=?_) ?_ ?_);rotate_left 1;exact rfl)|((with_reducible refine Yr (d:=?_) (e:=?_) ?_ ?_ ?_);rotate_left 2;exact rfl;exact rfl)|(with_reducible first|refine J2 ?_|refine U0 ?_|refine U8 ?_)|((with_reducible refine Xb (a:=?_) ?_ ?_);rotate_left 1;exact rfl))
        refine o_eq_fd (o := (true, k)) rfl ?_
        repeat (first|((with_reducible refine o_it0 ?_)))
        rw [← eqv_fd]
        exact ⟨rfl, rfl, rfl⟩
      · rw [size24]; simp only [List.length_cons, List.length_map]; omega
      rw [filtT]
      have eB : (er k :: fs.map fd).map (eqo (true, k)) = (((true, k) :: fs).map fun x => decide (x = (true, k))).map .bool := eqo_map (true, k) ((true, k) :: fs)
      rw [eB]
      repeat (first|((with_reducible refine o_it0 ?_))|((with_reducible refine Yl (a:=?_) ?_ ?_);rotate_left 1;exact rfl)|(with_reducible refine J8 ?_)|((with_reducible refine Xb (a:=?_) ?_ ?_);rotate_left 1;exact rfl))
      refine o_all (boolsD_map _) ?_
      rw [all_bools, List.all_cons, decide_eq_true (show (true, k) = (true, k) from rfl), Bool.true_and]
      repeat (first|((with_reducible refine o_it0 ?_))|((with_reducible refine Yl (a:=?_) ?_ ?_);rotate_left 1;exact rfl)|((with_reducible refine Xb (a:=?_) ?_ ?_);rotate_left 1;exact rfl))
      refine BoolW_any (fun hc => ?_) (fun hc => ?_)
      · rw [if_pos (by rw [hc]; rfl)] at hQ
        repeat (first|((with_reducible refine o_it0 ?_))|((with_reducible refine Yb (d:=?_) ?_ ?_);rotate_left 1;exact rfl)|((with_reducible refine Ys (d:=?_) (o:=?_) ?_ ?_ ?_);rotate_left 2;exact rfl;exact rfl)|(with_reducible refine J5 ?_))
        exact hQ
      · rw [if_neg (by rw [hc]; exact Bool.false_ne_true)] at hQ
        repeat (first|((with_reducible refine o_it0 ?_))|((with_reducible refine Yb (d:=?_) ?_ ?_);rotate_left 1;exact rfl)|(with_reducible first|refine J0 ?_|refine J4 ?_|refine J6 ?_|refine J7 ?_|refine J8 ?_|refine Jb ?_|refine Je ?_|refine Jh ?_|refine Ji ?_)|((with_reducible refine Yy (d:=?_) (s:=?_) ?_ ?_);rotate_left 2;exact rfl)|((with_reducible refine Xb (a:=?_) ?_ ?_);rotate_left 1;exact rfl))
        (with_reducible refine hf _ _ hh ?_)
        repeat (first|((with_reducible refine o_it0 ?_))|((with_reducible refine Yl (a:=?_) ?_ ?_);rotate_left 1;exact rfl)|(with_reducible refine Ua ?_)|((with_reducible refine Xb (a:=?_) ?_ ?_);rotate_left 1;exact rfl))
        refine BoolW_any (fun hb => ?_) (fun hb => ?_)
        · rw [if_pos hb] at hQ
          repeat (first|((with_reducible refine o_it0 ?_))|((with_reducible refine Yb (d:=?_) ?_ ?_);rotate_left 1;exact rfl)|(with_reducible first|refine J0 ?_|refine J3 ?_|refine J6 ?_|refine J7 ?_|refine J8 ?_|refine Jb ?_|refine Je ?_)|((with_reducible refine Yy (d:=?_) (s:=?_) ?_ ?_);rotate_left 2;exact rfl)|((with_reducible refine Xb (a:=?_) ?_ ?_);rotate_left 1;exact rfl))
          refine FnP_mono (tailS (true, k) hb hl _ hQ) fun b d outs hbd => ?_
          have e1 := hbd.1
          have e2 := hbd.2.1
          have e3 := hbd.2.2
          clear hbd
          subst e1 e2
          rcases e3 with ⟨e4, hq⟩ | ⟨hnn, hq⟩
          · subst e4
            repeat (first|((with_reducible refine o_it0 ?_))|((with_reducible first|refine Yb (d:=?_) ?_ ?_|refine Yc (b:=?_) ?_ ?_);rotate_left 1;exact rfl)|((with_reducible first|refine Yr (d:=?_) (e:=?_) ?_ ?_ ?_|refine Ys (d:=?_) (o:=?_) ?_ ?_ ?_);rotate_left 2;exact rfl;exact rfl)|(with_reducible first|refine J0 ?_|refine J1 ?_|refine J2 ?_|refine J4 ?_|refine J5 ?_|refine J9 ?_)|((with_reducible refine X6 ?_ ?_);exact rfl)|((with_reducible refine Xb (a:=?_) ?_ ?_);rotate_left 1;exact rfl))
            exact hq
          · repeat (first|((with_reducible refine i_isF hnn ?_))|((with_reducible refine o_it0 ?_))|((with_reducible first|refine Yb (d:=?_) ?_ ?_|refine Yc (b:=?_) ?_ ?_);rotate_left 1;exact rfl)|((with_reducible first|refine Yr (d:=?_) (e:=?_) ?_ ?_ ?_|refine Ys (d:=?_) (o:=?_) ?_ ?_ ?_);rotate_left 2;exact rfl;exact rfl)|(with_reducible first|refine J0 ?_|refine J1 ?_|refine J2 ?_|refine J4 ?_|refine J5 ?_|refine J6 ?_|refine J7 ?_|refine J8 ?_|refine J9 ?_|refine Jc ?_|refine Je ?_)|((with_reducible refine Yy (d:=?_) (s:=?_) ?_ ?_);rotate_left 2;exact rfl)|((with_reducible refine Xb (a:=?_) ?_ ?_);rotate_left 1;exact rfl)|((with_reducible refine And.intro ?_ ?_);first|exact Nat.le_of_ble_eq_true rfl|exact rfl))
            exact hq
        · rw [if_neg (by rw [hb]; exact Bool.false_ne_true), if_pos rfl] at hQ
          repeat (first|((with_reducible refine o_it0 ?_))|((with_reducible first|refine Yb (d:=?_) ?_ ?_|refine Yc (b:=?_) ?_ ?_);rotate_left 1;exact rfl)|((with_reducible first|refine Yr (d:=?_) (e:=?_) ?_ ?_ ?_|refine Ys (d:=?_) (o:=?_) ?_ ?_ ?_);rotate_left 2;exact rfl;exact rfl)|(with_reducible first|refine J0 ?_|refine J1 ?_|refine J2 ?_|refine J4 ?_|refine J5 ?_|refine J9 ?_|refine Uj ?_)|((with_reducible refine X7 ?_ ?_);exact rfl))
          exact hQ
abbrev ConS (f : FM) : Prop := ∀ (n : Nat) (fs : List Fo) (Q : Bool → D → List D → Prop), fs.length ≤ 300 → Q false (optD (decV (.i n) fs)) [] → FnP f [.tuple (fs.map fd)] Q
theorem con_s : ConS f_constructor_found := by
  intro n fs Q hl hQ
  have hsh : SeqAt.shaped (.tuple (fs.map fd)) = true := shaped_tup (n := 1) (fds_plain (n := 0) fs) (by rw [List.length_map]; omega) (by omega)
  cases fs with
  | nil =>
    unfold f_constructor_found
    (with_reducible refine FnP_mk [.fr (.tuple [])] [] ?_ ?_ ?_)
    · rfl
    · rfl
    unfold b_constructor_found
    repeat (first|((with_reducible refine o_it0 ?_))|((with_reducible first|refine Yb (d:=?_) ?_ ?_|refine Yc (b:=?_) ?_ ?_);rotate_left 1;exact rfl)|((with_reducible refine Yr (d:=?_) (e:=?_) ?_ ?_ ?_);rotate_left 2;exact rfl;exact rfl)|(with_reducible first|refine J0 ?_|refine J2 ?_|refine J4 ?_|refine J8 ?_|refine J9 ?_|refine Jc ?_)|((with_reducible refine Xb (a:=?_) ?_ ?_);rotate_left 1;exact rfl)|((with_reducible refine And.intro ?_ ?_);first|exact Nat.le_of_ble_eq_true rfl|exact rfl))
    exact hQ
  | cons o fs =>
    obtain ⟨b, k⟩ := o
    cases b with
    | false =>
      unfold f_constructor_found
      (with_reducible refine FnP_mk [.fr (.tuple (vl (.int k) :: fs.map fd))] [] ?_ ?_ ?_)
      · rfl
      · rfl
      unfold b_constructor_found
      repeat (first|((with_reducible refine o_it0 ?_))|((with_reducible refine Yb (d:=?_) ?_ ?_);rotate_left 1;exact rfl)|((with_reducible refine Yr (d:=?_) (e:=?_) ?_ ?_ ?_);rotate_left 2;exact rfl;exact rfl)|(with_reducible first|refine J0 ?_|refine J2 ?_|refine J4 ?_|refine J8 ?_|refine J9 ?_|refine Jc ?_)|((with_reducible refine Xb (a:=?_) ?_ ?_);rotate_left 1;exact rfl)|((with_reducible refine And.intro ?_ ?_);first|exact Nat.le_of_ble_eq_true rfl|exact rfl))
      refine o_eqg ?_ ⟨hsh, by decide +kernel⟩ (fun x e => nomatch e)
      rw [eqv_tupnil]
      show TbW (.fr (.bool false)) _
      repeat (first|((with_reducible refine o_it0 ?_))|((with_reducible first|refine Yb (d:=?_) ?_ ?_|refine Yc (b:=?_) ?_ ?_);rotate_left 1;exact rfl)|((with_reducible first|refine Yr (d:=?_) (e:=?_) ?_ ?_ ?_|refine Ys (d:=?_) (o:=?_) ?_ ?_ ?_);rotate_left 2;exact rfl;exact rfl)|(with_reducible first|refine J0 ?_|refine J1 ?_|refine J2 ?_|refine J4 ?_|refine J5 ?_|refine J9 ?_|refine Je ?_|refine U9 ?_|refine Uj ?_)|((with_reducible refine X7 ?_ ?_);exact rfl)|((with_reducible refine Xa ?_ ?_);exact rfl)|((with_reducible refine Xb (a:=?_) ?_ ?_);rotate_left 1;exact rfl))
      exact hQ
    | true =>
      unfold f_constructor_found
      (with_reducible refine FnP_mk [.fr (.tuple (er k :: fs.map fd))] [] ?_ ?_ ?_)
      · rfl
      · rfl
      unfold b_constructor_found
      repeat (first|((with_reducible refine o_it0 ?_))|((with_reducible refine Yb (d:=?_) ?_ ?_);rotate_left 1;exact rfl)|((with_reducible refine Yr (d:=?_) (e:=?_) ?_ ?_ ?_);rotate_left 2;exact rfl;exact rfl)|(with_reducible first|refine J0 ?_|refine J2 ?_|refine J4 ?_|refine J8 ?_|refine J9 ?_|refine Jc ?_)|((with_reducible refine Xb (a:=?_) ?_ ?_);rotate_left 1;exact rfl)|((with_reducible refine And.intro ?_ ?_);first|exact Nat.le_of_ble_eq_true rfl|exact rfl))
      refine o_eqg ?_ ⟨hsh, by decide +kernel⟩ (fun x e => nomatch e)
      rw [eqv_tupnil]
      show TbW (.fr (.bool false)) _
      repeat (first|((with_reducible refine o_it0 ?_))|((with_reducible first|refine Yb (d:=?_) ?_ ?_|refine Yc (b:=?_) ?_ ?_);rotate_left 1;exact rfl)|((with_reducible first|refine Yr (d:=?_) (e:=?_) ?_ ?_ ?_|refine Ys (d:=?_) (o:=?_) ?_ ?_ ?_);rotate_left 2;exact rfl;exact rfl)|(with_reducible first|refine J0 ?_|refine J1 ?_|refine J2 ?_|refine J4 ?_|refine J5 ?_|refine J9 ?_|refine Je ?_|refine U9 ?_|refine Uj ?_)|((with_reducible refine X7 ?_ ?_);exact rfl))
      exact hQ
abbrev TabS (f : FM) (n : Nat) : Prop := ∀ (a b : Sh) (fs : List Fo) (Q : Bool → D → List D → Prop), Gd (.f a b) → b.h ≤ n → fs.length = ls (.f a b) → Q false (optD (decV (.f a b) fs)) [] → FnP f [.tuple [.str "to", a.d, b.d], .tuple (fs.map fd)] Q
theorem rngC_get {m : Int} {n k : Nat} {d : D} {rest : List D} (h : d :: rest = (rngC 0 m n).drop k) : k < n ∧ d = .int ((k : Int) * m) ∧ rest = (rngC 0 m n).drop (k + 1) := by
  have hl : (rngC 0 m n).length = n := by unfold rngC; rw [List.length_map, List.length_range]
  have hk : k < n := by
    have := congrArg List.length h
    rw [List.length_cons, List.length_drop, hl] at this; omega
  rw [List.drop_eq_getElem_cons (by rw [hl]; exact hk)] at h
  cases h
  refine ⟨hk, ?_, rfl⟩
  unfold rngC
  rw [List.getElem_map, List.getElem_range, Int.zero_add]
theorem tab_s {f g : FM} {n : Nat} (hf : LcS f n) (hg : DecS g n) : TabS (f_table_found f g) n := by
  intro a b fs Q hs hh hl hQ
  have gb := hs.f2
  have hsa : a.ok := hs.ok.1
  have hf0 := hs.f0
  have h3 := hs.ls_
  have hm := lc_pos gb
  have hca := cv_pos hsa
  have hl' : fs.length = cv a * lc b := by rw [hl, hf0.2.2.1]
  have hle : cv a * lc b ≤ 300 := by rw [← hl', hl]; exact h3
  have eD : decV (.f a b) fs = (rowsG (decO b) (lc b) (cv a) fs).map .tuple := rfl
  rw [eD] at hQ
  unfold f_table_found
  (with_reducible refine FnP_mk [.fr (.tuple [.str "to", a.d, b.d]), .fr (.tuple (fs.map fd)), .no, .no, .no, .no] [] ?_ ?_ ?_)
  · rfl
  · rfl
  unfold b_table_found
  repeat (first|((with_reducible refine Yb (d:=?_) ?_ ?_);rotate_left 1;exact rfl)|((with_reducible refine Yr (d:=?_) (e:=?_) ?_ ?_ ?_);rotate_left 2;exact rfl;exact rfl)|(with_reducible first|refine J0 ?_|refine J1 ?_|refine J2 ?_|refine J3 ?_|refine J7 ?_|refine J8 ?_|refine Jb ?_)|((with_reducible refine Xb (a:=?_) ?_ ?_);rotate_left 1;exact rfl))
  (with_reducible refine hf _ _ gb.ok hh ?_)
  repeat (first|((with_reducible refine i_rng3 ?_))|(((with_reducible refine i_rg3w (i:=?_) (j:=?_) (c:=?_) ?_ ?_ ?_);rotate_left 3;exact rfl))|((with_reducible first|refine Yb (d:=?_) ?_ ?_|refine Yl (a:=?_) ?_ ?_);rotate_left 1;exact rfl)|(with_reducible first|refine J0 ?_|refine J1 ?_|refine J3 ?_|refine J6 ?_|refine J7 ?_|refine J8 ?_|refine Ja ?_|refine Jd ?_|refine U7 ?_)|((with_reducible refine Yy (d:=?_) (s:=?_) ?_ ?_);rotate_left 2;exact rfl)|((with_reducible refine Xb (a:=?_) ?_ ?_);rotate_left 1;exact rfl)|((with_reducible refine And.intro ?_ ?_);first|exact Nat.le_of_ble_eq_true rfl|exact rfl))
  · have e0 : (((fs.map fd).length : Nat) : Int) = ((cv a * lc b : Nat) : Int) := by rw [List.length_map, hl']
    have eN : rg3N 0 (((fs.map fd).length : Nat) : Int) (lc b : Int) = cv a := by
      unfold rg3N
      rw [e0, rsize hca hm]; rfl
    rw [eN]
    refine fl_inv (fun rest s => ∃ (k : Nat) (acc : List D) (x4 x5 : Sl), rest = (rngC 0 (lc b : Int) (cv a)).drop k ∧ k ≤ cv a ∧ s = [.fr (.tuple [.str "to", a.d, b.d]), .fr (.tuple (fs.map fd)), .fr (.int (lc b)), .ow (.list acc), x4, x5] ∧ rowsG (decO b) (lc b) (cv a) fs = (rowsG (decO b) (lc b) (cv a - k) (fs.drop (k * lc b))).map (acc ++ ·) ∧ acc.length = k) ⟨0, [], .no, .no, rfl, Nat.zero_le _, rfl, ?_, rfl⟩ ?_ ?_
    · rw [Nat.zero_mul, List.drop_zero, Nat.sub_zero]
      show _ = (rowsG (decO b) (lc b) (cv a) fs).map id
      rw [Option.map_id]; rfl
    · intro d rest s hI
      obtain ⟨k, hI⟩ := hI
      obtain ⟨acc, hI⟩ := hI
      obtain ⟨x4, hI⟩ := hI
      obtain ⟨x5, hI⟩ := hI
      have e1 := hI.1
      have e2 := hI.2.2.1
      have e3 := hI.2.2.2.1
      have e4 := hI.2.2.2.2
      clear hI
      obtain ⟨hk, e5, e6⟩ := rngC_get e1
      subst e2 e5
      have hkm : 0 ≤ (k : Int) * (lc b : Int) := Int.mul_nonneg (by omega) (by omega)
      have e7 : cv a - k = (cv a - (k + 1)) + 1 := by omega
      have e8 : rowsG (decO b) (lc b) (cv a - k) (fs.drop (k * lc b)) = (decO b ((fs.drop (k * lc b)).take (lc b))).bind fun r => (rowsG (decO b) (lc b) (cv a - (k + 1)) ((fs.drop (k * lc b)).drop (lc b))).map (r :: ·) := by rw [e7]; rfl
      rw [e8] at e3
      repeat (first|((with_reducible first|refine Yb (d:=?_) ?_ ?_|refine Yg (n:=?_) ?_ ?_|refine Yl (a:=?_) ?_ ?_);rotate_left 1;exact rfl)|((with_reducible refine Yr (d:=?_) (e:=?_) ?_ ?_ ?_);rotate_left 2;exact rfl;exact rfl)|(with_reducible first|refine J0 ?_|refine J1 ?_|refine J2 ?_|refine J3 ?_|refine J6 ?_|refine J7 ?_|refine J8 ?_|refine Jb ?_|refine Jp ?_|refine Jr ?_|refine Y7 ?_ (by omega) (by omega))|((with_reducible refine Yy (d:=?_) (s:=?_) ?_ ?_);rotate_left 2;exact rfl)|((with_reducible refine Xb (a:=?_) ?_ ?_);rotate_left 1;exact rfl))
      rw [chunk_d]
      (with_reducible refine hg _ _ _ gb hh (chunk_len hl' hk) ?_)
      repeat (first|((with_reducible first|refine Yb (d:=?_) ?_ ?_|refine Yc (b:=?_) ?_ ?_);rotate_left 1;exact rfl)|((with_reducible refine Yr (d:=?_) (e:=?_) ?_ ?_ ?_);rotate_left 2;exact rfl;exact rfl)|(with_reducible first|refine J0 ?_|refine J1 ?_|refine J2 ?_|refine J4 ?_|refine J9 ?_)|((with_reducible refine X6 ?_ ?_);exact rfl)|((with_reducible refine X9 ?_ ?_);exact rfl)|((with_reducible refine Xb (a:=?_) ?_ ?_);rotate_left 1;exact rfl))
      cases e9 : decO b ((fs.drop (k * lc b)).take (lc b)) with
      | none =>
        rw [e9] at e3
        have e10 : rowsG (decO b) (lc b) (cv a) fs = none := e3
        rw [e10] at hQ
        repeat (first|((with_reducible refine Ys (d:=?_) (o:=?_) ?_ ?_ ?_);rotate_left 2;exact rfl;exact rfl)|(with_reducible first|refine J1 ?_|refine J5 ?_)|((with_reducible refine X6 ?_ ?_);exact rfl))
        exact hQ
      | some r =>
        rw [e9] at e3
        obtain ⟨ds, hds⟩ := decO_tup e9
        subst hds
        show BoolW (isNoneD (.tuple ds)) _ _
        repeat (first|((with_reducible first|refine Yb (d:=?_) ?_ ?_|refine Yf (d:=?_) ?_ ?_);rotate_left 1;exact rfl)|((with_reducible refine Yt (as:=?_) (xs:=?_) ?_ ?_ ?_);rotate_left 2;exact rfl;exact rfl)|(with_reducible first|refine J6 ?_|refine J7 ?_|refine J8 ?_|refine Je ?_|refine Jf ?_|refine Jv ?_|refine Ux ?_ ?_)|((with_reducible refine Yy (d:=?_) (s:=?_) ?_ ?_);rotate_left 2;exact rfl)|((with_reducible refine X6 ?_ ?_);exact rfl)|((with_reducible refine X9 ?_ ?_);exact rfl))
        · refine ⟨k + 1, acc ++ [.tuple ds], _, _, e6, hk, rfl, ?_, by rw [List.length_append, e4]; rfl⟩
          rw [e3]
          show ((rowsG (decO b) (lc b) (cv a - (k + 1)) ((fs.drop (k * lc b)).drop (lc b))).map (PyData.tuple ds :: ·)).map (acc ++ ·) = _
          rw [List.drop_drop, Nat.add_mul, Nat.one_mul, Option.map_map]
          congr 1
          funext l
          show acc ++ (PyData.tuple ds :: l) = (acc ++ [PyData.tuple ds]) ++ l
          rw [List.append_assoc]; rfl
        · rw [size24, e4]; omega
    · intro s hI
      obtain ⟨k, hI⟩ := hI
      obtain ⟨acc, hI⟩ := hI
      obtain ⟨x4, hI⟩ := hI
      obtain ⟨x5, hI⟩ := hI
      have e1 := hI.1
      have e2 := hI.2.2.1
      have e3 := hI.2.2.2.1
      have e4 := hI.2.1
      clear hI
      have hk : k = cv a := by
        have := congrArg List.length e1
        rw [List.length_drop] at this
        unfold rngC at this
        rw [List.length_map, List.length_range, List.length_nil] at this; omega
      subst e2
      rw [hk, Nat.sub_self] at e3
      have e5 : rowsG (decO b) (lc b) (cv a) fs = some (acc ++ []) := e3
      rw [e5, List.append_nil] at hQ
      repeat (first|((with_reducible first|refine Yb (d:=?_) ?_ ?_|refine Yl (a:=?_) ?_ ?_);rotate_left 1;exact rfl)|((with_reducible refine Ys (d:=?_) (o:=?_) ?_ ?_ ?_);rotate_left 2;exact rfl;exact rfl)|(with_reducible first|refine J5 ?_|refine J7 ?_|refine J8 ?_|refine Ja ?_)|((with_reducible refine Yv (d:=?_) ?_ ?_);rotate_left 1;exact rfl)|((with_reducible refine Xb (a:=?_) ?_ ?_);rotate_left 1;exact rfl))
      exact hQ
  · rw [show (((fs.map fd).length : Nat) : Int) = ((cv a * lc b : Nat) : Int) from by rw [List.length_map, hl']]
    exact ⟨by omega, by omega, rsmall hca hm hle, by rw [rsize hca hm]; omega⟩
theorem pwor_leaf {f g h i : FM} {n : Nat} {fs : List Fo} {Q : Bool → D → List D → Prop} (hf : ConS f) (hl : fs.length ≤ 300) (hQ : Q false (optD (decV (.i n) fs)) []) : FnP (f_value_found f g h i) [.int n, .tuple (fs.map fd)] Q := by
  unfold f_value_found
  (with_reducible refine FnP_mk [.fr (.int n), .fr (.tuple (fs.map fd)), .no, .no, .no] [] ?_ ?_ ?_)
  · rfl
  · rfl
  unfold b_value_found
  repeat (first|((with_reducible first|refine Yb (d:=?_) ?_ ?_|refine Yl (a:=?_) ?_ ?_|refine Ym (b:=?_) ?_ ?_);rotate_left 1;exact rfl)|(with_reducible first|refine J0 ?_|refine J4 ?_|refine J5 ?_|refine J6 ?_|refine J7 ?_|refine J8 ?_|refine Jb ?_|refine Jh ?_|refine Ji ?_|refine Jo ?_|refine U9 ?_|refine Ua ?_)|((with_reducible refine Yy (d:=?_) (s:=?_) ?_ ?_);rotate_left 2;exact rfl)|((with_reducible refine Xb (a:=?_) ?_ ?_);rotate_left 1;exact rfl))
  (with_reducible refine hf n _ _ hl ?_)
  repeat (first|((with_reducible refine Ys (d:=?_) (o:=?_) ?_ ?_ ?_);rotate_left 2;exact rfl;exact rfl))
  exact hQ
theorem pwor_s0 {f g h i : FM} (hf : ConS f) : WorS (f_value_found f g h i) 0 := by
  intro s fs Q hs hh hl hQ
  have h3 := hs.ls_
  rw [← hl] at h3
  cases s with
  | i n =>
    show FnP _ [.int n, .tuple (fs.map fd)] Q
    (with_reducible refine pwor_leaf hf h3 ?_)
    exact hQ
  | p a b => exact absurd hh (Nat.not_succ_le_zero _)
  | f a b => exact absurd hh (Nat.not_succ_le_zero _)
theorem pwor_s {f g h i : FM} {n : Nat} (hf : ConS f) (hg : TabS g n) (hh' : SumS h n) (hi : WorS i n) : WorS (f_value_found f g h i) (n + 1) := by
  intro s fs Q hs hh hl hQ
  have h3 := hs.ls_
  rw [← hl] at h3
  cases s with
  | i n =>
    show FnP _ [.int n, .tuple (fs.map fd)] Q
    (with_reducible refine pwor_leaf hf h3 ?_)
    exact hQ
  | p a b =>
    have h1 := hle hh
    have ga := hs.p1
    have gb := hs.p2
    have hsum := hs.psum
    have hl1 : (fs.take (ls a)).length = ls a := by rw [List.length_take]; omega
    have hl2 : (fs.drop (ls a)).length = ls b := by rw [List.length_drop]; omega
    have eD : decV (.p a b) fs = (decV a (fs.take (ls a))).bind fun x => (decV b (fs.drop (ls a))).map fun y => .tuple [x, y] := rfl
    rw [eD] at hQ
    unfold f_value_found
    (with_reducible refine FnP_mk [.fr (.tuple [.str "pair", a.d, b.d]), .fr (.tuple (fs.map fd)), .no, .no, .no] [] ?_ ?_ ?_)
    · rfl
    · rfl
    unfold b_value_found
    repeat (first|((with_reducible first|refine Yb (d:=?_) ?_ ?_|refine Yc (b:=?_) ?_ ?_|refine Yl (a:=?_) ?_ ?_|refine Ym (b:=?_) ?_ ?_);rotate_left 1;exact rfl)|((with_reducible refine Yr (d:=?_) (e:=?_) ?_ ?_ ?_);rotate_left 2;exact rfl;exact rfl)|(with_reducible first|refine J0 ?_|refine J1 ?_|refine J2 ?_|refine J3 ?_|refine J4 ?_|refine J7 ?_|refine J8 ?_|refine J9 ?_|refine Jb ?_|refine Je ?_|refine Jh ?_|refine Ji ?_|refine Jo ?_|refine U8 ?_|refine Ua ?_|refine Uj ?_)|((with_reducible refine X7 ?_ ?_);exact rfl)|((with_reducible refine Xa ?_ ?_);exact rfl)|((with_reducible refine Xb (a:=?_) ?_ ?_);rotate_left 1;exact rfl))
    (with_reducible refine hh' _ _ ga.ok h1.1 ?_)
    repeat (first|((with_reducible first|refine Yb (d:=?_) ?_ ?_|refine Yg (n:=?_) ?_ ?_|refine Yl (a:=?_) ?_ ?_);rotate_left 1;exact rfl)|((with_reducible refine Yr (d:=?_) (e:=?_) ?_ ?_ ?_);rotate_left 2;exact rfl;exact rfl)|(with_reducible first|refine J0 ?_|refine J1 ?_|refine J2 ?_|refine J3 ?_|refine J6 ?_|refine J7 ?_|refine J8 ?_|refine Jb ?_|refine Jp ?_|refine Jq ?_|refine Jr ?_|refine Y3 ?_ (by omega))|((with_reducible refine Yy (d:=?_) (s:=?_) ?_ ?_);rotate_left 2;exact rfl)|((with_reducible refine Xb (a:=?_) ?_ ?_);rotate_left 1;exact rfl))
    rw [Int.toNat_natCast, ← List.map_take]
    refine FnP_mono (wor_r hi ga h1.1 hl1) fun b d outs hbd => ?_
    have e1 := hbd.1
    have e2 := hbd.2.1
    have e3 := hbd.2.2
    clear hbd
    subst e1 e2
    repeat (first|((with_reducible first|refine Yb (d:=?_) ?_ ?_|refine Yg (n:=?_) ?_ ?_|refine Yl (a:=?_) ?_ ?_);rotate_left 1;exact rfl)|((with_reducible refine Yr (d:=?_) (e:=?_) ?_ ?_ ?_);rotate_left 2;exact rfl;exact rfl)|(with_reducible first|refine J0 ?_|refine J1 ?_|refine J2 ?_|refine J3 ?_|refine J6 ?_|refine J7 ?_|refine J8 ?_|refine Jb ?_|refine Jp ?_|refine Jq ?_|refine Jr ?_|refine Y4 ?_ (by omega))|((with_reducible refine Yy (d:=?_) (s:=?_) ?_ ?_);rotate_left 2;exact rfl)|((with_reducible refine Xb (a:=?_) ?_ ?_);rotate_left 1;exact rfl))
    rw [Int.toNat_natCast, ← List.map_drop]
    refine FnP_mono (wor_r hi gb h1.2 hl2) fun b d2 outs hbd => ?_
    have e1 := hbd.1
    have e2 := hbd.2.1
    have e4 := hbd.2.2
    clear hbd
    subst e1 e2
    rcases e3 with ⟨e5, hq⟩ | ⟨hnn, hq⟩
    · rw [hq] at hQ
      subst e5
      repeat (first|((with_reducible first|refine Yb (d:=?_) ?_ ?_|refine Yc (b:=?_) ?_ ?_);rotate_left 1;exact rfl)|((with_reducible first|refine Yr (d:=?_) (e:=?_) ?_ ?_ ?_|refine Ys (d:=?_) (o:=?_) ?_ ?_ ?_);rotate_left 2;exact rfl;exact rfl)|(with_reducible first|refine J0 ?_|refine J1 ?_|refine J2 ?_|refine J4 ?_|refine J5 ?_|refine J9 ?_|refine Jk ?_|refine U8 ?_)|((with_reducible refine X6 ?_ ?_);exact rfl)|((with_reducible refine Xb (a:=?_) ?_ ?_);rotate_left 1;exact rfl))
      exact hQ
    · rw [hq] at hQ
      rcases e4 with ⟨e5, hq2⟩ | ⟨hnn2, hq2⟩
      · rw [hq2] at hQ
        subst e5
        repeat (first|((with_reducible refine i_isF hnn ?_))|((with_reducible refine o_it0 ?_))|((with_reducible first|refine Yb (d:=?_) ?_ ?_|refine Yc (b:=?_) ?_ ?_);rotate_left 1;exact rfl)|((with_reducible first|refine Yr (d:=?_) (e:=?_) ?_ ?_ ?_|refine Ys (d:=?_) (o:=?_) ?_ ?_ ?_);rotate_left 2;exact rfl;exact rfl)|(with_reducible first|refine J0 ?_|refine J1 ?_|refine J2 ?_|refine J4 ?_|refine J5 ?_|refine J9 ?_|refine Jk ?_)|((with_reducible refine X6 ?_ ?_);exact rfl)|((with_reducible refine Xb (a:=?_) ?_ ?_);rotate_left 1;exact rfl))
        exact hQ
      · rw [hq2] at hQ
        repeat (first|((with_reducible refine i_isF hnn ?_))|((with_reducible refine i_isF hnn2 ?_))|((with_reducible refine o_it0 ?_))|((with_reducible first|refine Yb (d:=?_) ?_ ?_|refine Yc (b:=?_) ?_ ?_);rotate_left 1;exact rfl)|((with_reducible first|refine Yr (d:=?_) (e:=?_) ?_ ?_ ?_|refine Ys (d:=?_) (o:=?_) ?_ ?_ ?_);rotate_left 2;exact rfl;exact rfl)|(with_reducible first|refine J0 ?_|refine J1 ?_|refine J2 ?_|refine J4 ?_|refine J5 ?_|refine J6 ?_|refine J7 ?_|refine J8 ?_|refine J9 ?_|refine Jc ?_|refine Je ?_|refine Jk ?_)|((with_reducible refine Yy (d:=?_) (s:=?_) ?_ ?_);rotate_left 2;exact rfl)|((with_reducible refine Xb (a:=?_) ?_ ?_);rotate_left 1;exact rfl)|((with_reducible refine And.intro ?_ ?_);first|exact Nat.le_of_ble_eq_true rfl|exact rfl))
        exact hQ
  | f a b =>
    have h1 := hle hh
    unfold f_value_found
    (with_reducible refine FnP_mk [.fr (.tuple [.str "to", a.d, b.d]), .fr (.tuple (fs.map fd)), .no, .no, .no] [] ?_ ?_ ?_)
    · rfl
    · rfl
    unfold b_value_found
    repeat (first|((with_reducible first|refine Yb (d:=?_) ?_ ?_|refine Yc (b:=?_) ?_ ?_|refine Yl (a:=?_) ?_ ?_|refine Ym (b:=?_) ?_ ?_);rotate_left 1;exact rfl)|((with_reducible refine Yr (d:=?_) (e:=?_) ?_ ?_ ?_);rotate_left 2;exact rfl;exact rfl)|(with_reducible first|refine J0 ?_|refine J1 ?_|refine J2 ?_|refine J4 ?_|refine J5 ?_|refine J6 ?_|refine J7 ?_|refine J8 ?_|refine J9 ?_|refine Jb ?_|refine Je ?_|refine Jh ?_|refine Ji ?_|refine Jo ?_|refine U8 ?_|refine Ua ?_|refine Uj ?_)|((with_reducible refine Yy (d:=?_) (s:=?_) ?_ ?_);rotate_left 2;exact rfl)|((with_reducible refine X7 ?_ ?_);exact rfl)|((with_reducible refine Xb (a:=?_) ?_ ?_);rotate_left 1;exact rfl))
    (with_reducible refine hg _ _ _ _ hs h1.2 hl ?_)
    repeat (first|((with_reducible refine Ys (d:=?_) (o:=?_) ?_ ?_ ?_);rotate_left 2;exact rfl;exact rfl))
    exact hQ
end L2.Zd.Lib

set_option Elab.async false
set_option linter.all false
set_option maxRecDepth 100000
set_option maxHeartbeats 2000000
namespace G36
open PySem PySem.Spec PyProof.Rows L2 L2.Zd L2.Zd.Lib
def top (i : Nat) : Stmt := PySem.Challenge.pw_totalc_k36_findings_are_decoded.main.body.getD i (.Pass ⟨0, 0, 0, 0⟩)
abbrev FnDef (K : PySem.W.Frag) (x : Str) (st : Stmt) (f : Addr) (fd : FuncData) : Prop := FunD K x x (defArgs st) (defBody st) (defScope st) [] [] f fd
/-! ### names, scopes, mirrors -/
abbrev s_cut : Stmt := top 2
abbrev N_cut : List Str := ["number"]
abbrev ps_cut : List Str := ["number"]
theorem sc_cut : FnScope N_cut ps_cut (defScope s_cut) := ⟨rfl, rfl, rfl, by decide +kernel, rfl, by decide +kernel, by decide +kernel⟩
abbrev s_cut_power : Stmt := top 3
abbrev N_cut_power : List Str := ["base", "exponent", "power", "_"]
abbrev ps_cut_power : List Str := ["base", "exponent"]
theorem sc_cut_power : FnScope N_cut_power ps_cut_power (defScope s_cut_power) := ⟨rfl, rfl, rfl, by decide +kernel, rfl, by decide +kernel, by decide +kernel⟩
abbrev s_count_values : Stmt := top 4
abbrev N_count_values : List Str := ["shape", "first", "second"]
abbrev ps_count_values : List Str := ["shape"]
theorem sc_count_values : FnScope N_count_values ps_count_values (defScope s_count_values) := ⟨rfl, rfl, rfl, by decide +kernel, rfl, by decide +kernel, by decide +kernel⟩
abbrev s_shows : Stmt := top 6
abbrev N_shows : List Str := ["shape"]
abbrev ps_shows : List Str := ["shape"]
theorem sc_shows : FnScope N_shows ps_shows (defScope s_shows) := ⟨rfl, rfl, rfl, by decide +kernel, rfl, by decide +kernel, by decide +kernel⟩
abbrev s_count_value_observations : Stmt := top 7
abbrev N_count_value_observations : List Str := ["shape"]
abbrev ps_count_value_observations : List Str := ["shape"]
theorem sc_count_value_observations : FnScope N_count_value_observations ps_count_value_observations (defScope s_count_value_observations) := ⟨rfl, rfl, rfl, by decide +kernel, rfl, by decide +kernel, by decide +kernel⟩
abbrev s_count_observations : Stmt := top 8
abbrev N_count_observations : List Str := ["shape"]
abbrev ps_count_observations : List Str := ["shape"]
theorem sc_count_observations : FnScope N_count_observations ps_count_observations (defScope s_count_observations) := ⟨rfl, rfl, rfl, by decide +kernel, rfl, by decide +kernel, by decide +kernel⟩
abbrev s_outcome_found : Stmt := top 9
abbrev N_outcome_found : List Str := ["shape", "found", "first", "value", "outcome"]
abbrev ps_outcome_found : List Str := ["shape", "found"]
theorem sc_outcome_found : FnScope N_outcome_found ps_outcome_found (defScope s_outcome_found) := ⟨rfl, rfl, rfl, by decide +kernel, rfl, by decide +kernel, by decide +kernel⟩
abbrev s_value_found : Stmt := top 10
abbrev N_value_found : List Str := ["shape", "found", "place", "first", "second"]
abbrev ps_value_found : List Str := ["shape", "found"]
theorem sc_value_found : FnScope N_value_found ps_value_found (defScope s_value_found) := ⟨rfl, rfl, rfl, by decide +kernel, rfl, by decide +kernel, by decide +kernel⟩
abbrev s_constructor_found : Stmt := top 11
abbrev N_constructor_found : List Str := ["found"]
abbrev ps_constructor_found : List Str := ["found"]
theorem sc_constructor_found : FnScope N_constructor_found ps_constructor_found (defScope s_constructor_found) := ⟨rfl, rfl, rfl, by decide +kernel, rfl, by decide +kernel, by decide +kernel⟩
abbrev s_table_found : Stmt := top 12
abbrev N_table_found : List Str := ["shape", "found", "many", "rows", "place", "row"]
abbrev ps_table_found : List Str := ["shape", "found"]
theorem sc_table_found : FnScope N_table_found ps_table_found (defScope s_table_found) := ⟨rfl, rfl, rfl, by decide +kernel, rfl, by decide +kernel, by decide +kernel⟩
abbrev s_l_tape : Stmt := top 14
abbrev N_l_tape : List Str := ["script", "mixed", "cell"]
abbrev ps_l_tape : List Str := ["script"]
theorem sc_l_tape : FnScope N_l_tape ps_l_tape (defScope s_l_tape) := ⟨rfl, rfl, rfl, by decide +kernel, rfl, by decide +kernel, by decide +kernel⟩
abbrev s_l_draw : Stmt := top 15
abbrev N_l_draw : List Str := ["tape", "wide", "place", "number"]
abbrev ps_l_draw : List Str := ["tape", "wide"]
theorem sc_l_draw : FnScope N_l_draw ps_l_draw (defScope s_l_draw) := ⟨rfl, rfl, rfl, by decide +kernel, rfl, by decide +kernel, by decide +kernel⟩
abbrev s_l_pick : Stmt := top 16
abbrev N_l_pick : List Str := ["tape", "menu"]
abbrev ps_l_pick : List Str := ["tape", "menu"]
theorem sc_l_pick : FnScope N_l_pick ps_l_pick (defScope s_l_pick) := ⟨rfl, rfl, rfl, by decide +kernel, rfl, by decide +kernel, by decide +kernel⟩
abbrev s_l_turns : Stmt := top 17
abbrev N_l_turns : List Str := ["tape", "total", "left", "turns", "k"]
abbrev ps_l_turns : List Str := ["tape", "total"]
theorem sc_l_turns : FnScope N_l_turns ps_l_turns (defScope s_l_turns) := ⟨rfl, rfl, rfl, by decide +kernel, rfl, by decide +kernel, by decide +kernel⟩
abbrev s_l_put : Stmt := top 18
abbrev N_l_put : List Str := ["told", "place", "thing"]
abbrev ps_l_put : List Str := ["told", "place", "thing"]
theorem sc_l_put : FnScope N_l_put ps_l_put (defScope s_l_put) := ⟨rfl, rfl, rfl, by decide +kernel, rfl, by decide +kernel, by decide +kernel⟩
abbrev s_l_same : Stmt := top 19
abbrev N_l_same : List Str := ["told", "wanted", "k"]
abbrev ps_l_same : List Str := ["told", "wanted"]
theorem sc_l_same : FnScope N_l_same ps_l_same (defScope s_l_same) := ⟨rfl, rfl, rfl, by decide +kernel, rfl, by decide +kernel, by decide +kernel⟩
abbrev s_l_shape_count : Stmt := top 20
abbrev N_l_shape_count : List Str := ["shape", "one", "other", "total", "k"]
abbrev ps_l_shape_count : List Str := ["shape"]
theorem sc_l_shape_count : FnScope N_l_shape_count ps_l_shape_count (defScope s_l_shape_count) := ⟨rfl, rfl, rfl, by decide +kernel, rfl, by decide +kernel, by decide +kernel⟩
abbrev s_l_shape_rows : Stmt := top 21
abbrev N_l_shape_rows : List Str := ["shape", "rows"]
abbrev ps_l_shape_rows : List Str := ["shape"]
theorem sc_l_shape_rows : FnScope N_l_shape_rows ps_l_shape_rows (defScope s_l_shape_rows) := ⟨rfl, rfl, rfl, by decide +kernel, rfl, by decide +kernel, by decide +kernel⟩
abbrev s_l_shape_values : Stmt := top 22
abbrev N_l_shape_values : List Str := ["shape", "one", "other", "pairs", "v", "rows", "told", "wider", "table", "w", "row"]
abbrev ps_l_shape_values : List Str := ["shape"]
theorem sc_l_shape_values : FnScope N_l_shape_values ps_l_shape_values (defScope s_l_shape_values) := ⟨rfl, rfl, rfl, by decide +kernel, rfl, by decide +kernel, by decide +kernel⟩
abbrev s_l_shape_outcomes : Stmt := top 23
abbrev N_l_shape_outcomes : List Str := ["shape", "v"]
abbrev ps_l_shape_outcomes : List Str := ["shape"]
theorem sc_l_shape_outcomes : FnScope N_l_shape_outcomes ps_l_shape_outcomes (defScope s_l_shape_outcomes) := ⟨rfl, rfl, rfl, by decide +kernel, rfl, by decide +kernel, by decide +kernel⟩
abbrev s_l_shape_rank : Stmt := top 24
abbrev N_l_shape_rank : List Str := ["shape", "value", "rank", "base", "row"]
abbrev ps_l_shape_rank : List Str := ["shape", "value"]
theorem sc_l_shape_rank : FnScope N_l_shape_rank ps_l_shape_rank (defScope s_l_shape_rank) := ⟨rfl, rfl, rfl, by decide +kernel, rfl, by decide +kernel, by decide +kernel⟩
abbrev s_l_shape_outcome_rank : Stmt := top 25
abbrev N_l_shape_outcome_rank : List Str := ["shape", "outcome"]
abbrev ps_l_shape_outcome_rank : List Str := ["shape", "outcome"]
theorem sc_l_shape_outcome_rank : FnScope N_l_shape_outcome_rank ps_l_shape_outcome_rank (defScope s_l_shape_outcome_rank) := ⟨rfl, rfl, rfl, by decide +kernel, rfl, by decide +kernel, by decide +kernel⟩
abbrev s_l_shape_at : Stmt := top 26
abbrev N_l_shape_at : List Str := ["shape", "rank", "base", "table", "k"]
abbrev ps_l_shape_at : List Str := ["shape", "rank"]
theorem sc_l_shape_at : FnScope N_l_shape_at ps_l_shape_at (defScope s_l_shape_at) := ⟨rfl, rfl, rfl, by decide +kernel, rfl, by decide +kernel, by decide +kernel⟩
abbrev s_l_shape_outcome_at : Stmt := top 27
abbrev N_l_shape_outcome_at : List Str := ["shape", "rank"]
abbrev ps_l_shape_outcome_at : List Str := ["shape", "rank"]
theorem sc_l_shape_outcome_at : FnScope N_l_shape_outcome_at ps_l_shape_outcome_at (defScope s_l_shape_outcome_at) := ⟨rfl, rfl, rfl, by decide +kernel, rfl, by decide +kernel, by decide +kernel⟩
abbrev s_l_shape_row : Stmt := top 28
abbrev N_l_shape_row : List Str := ["shape", "table", "argument"]
abbrev ps_l_shape_row : List Str := ["shape", "table", "argument"]
theorem sc_l_shape_row : FnScope N_l_shape_row ps_l_shape_row (defScope s_l_shape_row) := ⟨rfl, rfl, rfl, by decide +kernel, rfl, by decide +kernel, by decide +kernel⟩
abbrev s_l_shape_any : Stmt := top 29
abbrev N_l_shape_any : List Str := ["tape", "size", "kind", "left", "first"]
abbrev ps_l_shape_any : List Str := ["tape", "size"]
theorem sc_l_shape_any : FnScope N_l_shape_any ps_l_shape_any (defScope s_l_shape_any) := ⟨rfl, rfl, rfl, by decide +kernel, rfl, by decide +kernel, by decide +kernel⟩
abbrev s_l_shape_value : Stmt := top 30
abbrev N_l_shape_value : List Str := ["tape", "shape", "first", "k"]
abbrev ps_l_shape_value : List Str := ["tape", "shape"]
theorem sc_l_shape_value : FnScope N_l_shape_value ps_l_shape_value (defScope s_l_shape_value) := ⟨rfl, rfl, rfl, by decide +kernel, rfl, by decide +kernel, by decide +kernel⟩
abbrev s_l_shape_outcome : Stmt := top 31
abbrev N_l_shape_outcome : List Str := ["tape", "shape", "kind"]
abbrev ps_l_shape_outcome : List Str := ["tape", "shape"]
theorem sc_l_shape_outcome : FnScope N_l_shape_outcome ps_l_shape_outcome (defScope s_l_shape_outcome) := ⟨rfl, rfl, rfl, by decide +kernel, rfl, by decide +kernel, by decide +kernel⟩
abbrev s_l_look_shows : Stmt := top 32
abbrev N_l_look_shows : List Str := ["shape"]
abbrev ps_l_look_shows : List Str := ["shape"]
theorem sc_l_look_shows : FnScope N_l_look_shows ps_l_look_shows (defScope s_l_look_shows) := ⟨rfl, rfl, rfl, by decide +kernel, rfl, by decide +kernel, by decide +kernel⟩
abbrev s_l_look_inner : Stmt := top 33
abbrev N_l_look_inner : List Str := ["shape", "told", "below", "value", "rest"]
abbrev ps_l_look_inner : List Str := ["shape"]
theorem sc_l_look_inner : FnScope N_l_look_inner ps_l_look_inner (defScope s_l_look_inner) := ⟨rfl, rfl, rfl, by decide +kernel, rfl, by decide +kernel, by decide +kernel⟩
abbrev s_l_look_all : Stmt := top 34
abbrev N_l_look_all : List Str := ["shape"]
abbrev ps_l_look_all : List Str := ["shape"]
theorem sc_l_look_all : FnScope N_l_look_all ps_l_look_all (defScope s_l_look_all) := ⟨rfl, rfl, rfl, by decide +kernel, rfl, by decide +kernel, by decide +kernel⟩
abbrev s_l_look_sum : Stmt := top 35
abbrev N_l_look_sum : List Str := ["shape"]
abbrev ps_l_look_sum : List Str := ["shape"]
theorem sc_l_look_sum : FnScope N_l_look_sum ps_l_look_sum (defScope s_l_look_sum) := ⟨rfl, rfl, rfl, by decide +kernel, rfl, by decide +kernel, by decide +kernel⟩
abbrev s_l_look_count : Stmt := top 36
abbrev N_l_look_count : List Str := ["shape"]
abbrev ps_l_look_count : List Str := ["shape"]
theorem sc_l_look_count : FnScope N_l_look_count ps_l_look_count (defScope s_l_look_count) := ⟨rfl, rfl, rfl, by decide +kernel, rfl, by decide +kernel, by decide +kernel⟩
abbrev s_l_look_last : Stmt := top 37
abbrev N_l_look_last : List Str := ["shape", "moves", "move"]
abbrev ps_l_look_last : List Str := ["shape", "moves"]
theorem sc_l_look_last : FnScope N_l_look_last ps_l_look_last (defScope s_l_look_last) := ⟨rfl, rfl, rfl, by decide +kernel, rfl, by decide +kernel, by decide +kernel⟩
abbrev s_l_look_finds : Stmt := top 38
abbrev N_l_look_finds : List Str := ["shape", "moves", "outcome", "move"]
abbrev ps_l_look_finds : List Str := ["shape", "moves", "outcome"]
theorem sc_l_look_finds : FnScope N_l_look_finds ps_l_look_finds (defScope s_l_look_finds) := ⟨rfl, rfl, rfl, by decide +kernel, rfl, by decide +kernel, by decide +kernel⟩
abbrev s_l_look_decoded : Stmt := top 39
abbrev N_l_look_decoded : List Str := ["shape", "found", "rest", "worth", "one"]
abbrev ps_l_look_decoded : List Str := ["shape", "found"]
theorem sc_l_look_decoded : FnScope N_l_look_decoded ps_l_look_decoded (defScope s_l_look_decoded) := ⟨rfl, rfl, rfl, by decide +kernel, rfl, by decide +kernel, by decide +kernel⟩
abbrev s_l_look_worth : Stmt := top 40
abbrev N_l_look_worth : List Str := ["shape", "found", "left", "one", "two", "block", "rows", "k"]
abbrev ps_l_look_worth : List Str := ["shape", "found"]
theorem sc_l_look_worth : FnScope N_l_look_worth ps_l_look_worth (defScope s_l_look_worth) := ⟨rfl, rfl, rfl, by decide +kernel, rfl, by decide +kernel, by decide +kernel⟩
abbrev s_l_k36_shape : Stmt := top 41
abbrev N_l_k36_shape : List Str := ["tape", "most", "menu", "turn", "shape"]
abbrev ps_l_k36_shape : List Str := ["tape"]
abbrev io_l_k36_shape : List Bool := [true]
theorem sc_l_k36_shape : FnScope N_l_k36_shape ps_l_k36_shape (defScope s_l_k36_shape) := ⟨rfl, rfl, rfl, by decide +kernel, rfl, by decide +kernel, by decide +kernel⟩
abbrev s_l_k36_bent : Stmt := top 42
abbrev N_l_k36_bent : List Str := ["tape", "shape", "looks", "found", "turn", "place", "last"]
abbrev ps_l_k36_bent : List Str := ["tape", "shape", "looks", "found"]
abbrev io_l_k36_bent : List Bool := [true, false, false, false]
theorem sc_l_k36_bent : FnScope N_l_k36_bent ps_l_k36_bent (defScope s_l_k36_bent) := ⟨rfl, rfl, rfl, by decide +kernel, rfl, by decide +kernel, by decide +kernel⟩
abbrev s_l_k36_drawn : Stmt := top 43
abbrev N_l_k36_drawn : List Str := ["tape", "shape", "looks", "kind", "error", "moves"]
abbrev ps_l_k36_drawn : List Str := ["tape", "shape", "looks"]
abbrev io_l_k36_drawn : List Bool := [true, false, false]
theorem sc_l_k36_drawn : FnScope N_l_k36_drawn ps_l_k36_drawn (defScope s_l_k36_drawn) := ⟨rfl, rfl, rfl, by decide +kernel, rfl, by decide +kernel, by decide +kernel⟩
abbrev s_l_k36_asked : Stmt := top 44
abbrev N_l_k36_asked : List Str := ["shape", "looks", "found", "told", "due", "moves"]
abbrev ps_l_k36_asked : List Str := ["shape", "looks", "found"]
abbrev io_l_k36_asked : List Bool := [false, false, false]
theorem sc_l_k36_asked : FnScope N_l_k36_asked ps_l_k36_asked (defScope s_l_k36_asked) := ⟨rfl, rfl, rfl, by decide +kernel, rfl, by decide +kernel, by decide +kernel⟩
abbrev s_law : Stmt := top 45
abbrev N_law : List Str := ["script", "tape", "shape", "looks", "one", "right", "rows", "turn", "found", "moves"]
abbrev ps_law : List Str := ["script"]
abbrev io_law : List Bool := [false]
theorem sc_law : FnScope N_law ps_law (defScope s_law) := ⟨rfl, rfl, rfl, by decide +kernel, rfl, by decide +kernel, by decide +kernel⟩
/-- slots: 0 tape, 1 most, 2 menu, 3 turn, 4 shape -/
def b_l_k36_shape (l_draw : FM) (l_shape_any : FM) (l_look_count : FM) (l_shape_rows : FM) (l_pick : FM) : MS :=
 (sCons (sSet 1 (dIf (dTb (dOp2 pEq (dCall l_draw io_l_draw (dCons (dOwn 0) (dCons (dC (.int 16)) dNil))) (dC (.int 0)))) (dC (.int 300)) (dC (.int 40))))
 (sCons (sSet 2 (dLst (dCons (dC (.int 1)) (dCons (dC (.int 2)) (dCons (dTup (dCons (dC (.str "pair")) (dCons (dC (.int 2)) (dCons (dC (.int 1)) dNil)))) (dCons (dTup (dCons (dC (.str "pair")) (dCons (dC (.int 1)) (dCons (dTup (dCons (dC (.str "to")) (dCons (dC (.int 1)) (dCons (dC (.int 1)) dNil)))) dNil)))) (dCons (dTup (dCons (dC (.str "to")) (dCons (dC (.int 1)) (dCons (dC (.int 2)) dNil)))) (dCons (dTup (dCons (dC (.str "to")) (dCons (dC (.int 2)) (dCons (dTup (dCons (dC (.str "pair")) (dCons (dC (.int 2)) (dCons (dTup (dCons (dC (.str "to")) (dCons (dC (.int 1)) (dCons (dC (.int 3)) dNil)))) dNil)))) dNil)))) (dCons (dTup (dCons (dC (.str "pair")) (dCons (dTup (dCons (dC (.str "to")) (dCons (dC (.int 2)) (dCons (dC (.int 2)) dNil)))) (dCons (dTup (dCons (dC (.str "to")) (dCons (dC (.int 1)) (dCons (dC (.int 1)) dNil)))) dNil)))) dNil)))))))))
 (sCons (sSet 2 (dOp2 pAdd (dVar 2) (dLst (dCons (dTup (dCons (dC (.str "to")) (dCons (dTup (dCons (dC (.str "to")) (dCons (dC (.int 1)) (dCons (dC (.int 1)) dNil)))) (dCons (dTup (dCons (dC (.str "to")) (dCons (dC (.int 2)) (dCons (dC (.int 1)) dNil)))) dNil)))) (dCons (dTup (dCons (dC (.str "pair")) (dCons (dC (.int 3)) (dCons (dTup (dCons (dC (.str "to")) (dCons (dC (.int 2)) (dCons (dTup (dCons (dC (.str "pair")) (dCons (dC (.int 2)) (dCons (dC (.int 1)) dNil)))) dNil)))) dNil)))) (dCons (dTup (dCons (dC (.str "to")) (dCons (dTup (dCons (dC (.str "pair")) (dCons (dC (.int 2)) (dCons (dC (.int 2)) dNil)))) (dCons (dTup (dCons (dC (.str "pair")) (dCons (dC (.int 2)) (dCons (dC (.int 2)) dNil)))) dNil)))) dNil))))))
 (sCons (sFor (dRng1 (dCons (dC (.int 4)) dNil)) (.nm 3)
 (sCons (sSet 4 (dCall l_shape_any io_l_shape_any (dCons (dOwn 0) (dCons (fz (dIf (dTb (dOp2 pGt (dVar 1) (dC (.int 40)))) (dC (.int 9)) (dC (.int 7)))) dNil))))
 (sIf (dAndB (dTb (dOp2 pLe (dCall l_look_count io_l_look_count (dCons (fz (dVar 4)) dNil)) (dVar 1))) (dAndB (dTb (dOp2 pLe (dCall l_shape_rows io_l_shape_rows (dCons (fz (dVar 4)) dNil)) (dC (.int 64)))) (dNotB (dTru (dIsi "int" (dVar 4))))))
 (sRet (dVar 4))
 sNil)))
 (sRet (dCall l_pick io_l_pick (dCons (dOwn 0) (dCons (fz (dVar 2)) dNil))))))))
/-- slots: 0 tape, 1 shape, 2 looks, 3 found, 4 turn, 5 place, 6 last -/
def b_l_k36_bent (l_draw : FM) (l_look_last : FM) (l_put : FM) (l_shape_outcome_at : FM) : MS :=
 (sCons (sFor (dRng1 (dCons (fz (dOp2 pAdd (dC (.int 1)) (dCall l_draw io_l_draw (dCons (dOwn 0) (dCons (dC (.int 3)) dNil))))) dNil)) (.nm 4)
 (sCons (sSet 5 (dCall l_draw io_l_draw (dCons (dOwn 0) (dCons (dCB pLen (dCons (dVar 2) dNil)) dNil))))
 (sCons (sSet 6 (dCall l_look_last io_l_look_last (dCons (fz (dVar 1)) (dCons (dOp2 pIx (dVar 2) (dVar 5)) dNil))))
 (sSet 3 (dCall l_put io_l_put (dCons (fz (dVar 3)) (dCons (fz (dVar 5)) (dCons (fz (dCall l_shape_outcome_at io_l_shape_outcome_at (dCons (fz (dVar 6)) (dCons (fz (dCall l_draw io_l_draw (dCons (dOwn 0) (dCons (fz (dOp2 pAdd (dVar 6) (dC (.int 2)))) dNil)))) dNil)))) dNil))))))))
 (sRet (dVar 3)))
/-- slots: 0 tape, 1 shape, 2 looks, 3 kind, 4 error, 5 moves -/
def b_l_k36_drawn (l_draw : FM) (l_k36_bent : FM) (l_shape_outcome : FM) (l_look_last : FM) : MS :=
 (sCons (sSet 3 (dCall l_draw io_l_draw (dCons (dOwn 0) (dCons (dC (.int 3)) dNil))))
 (sCons (sSet 4 (dTup (dCons (dC (.str "error")) (dCons (fz (dCall l_draw io_l_draw (dCons (dOwn 0) (dCons (dC (.int 2)) dNil)))) dNil))))
 (sCons (sIf (dTb (dOp2 pEq (dVar 3) (dC (.int 0))))
 (sRet (dCB pTuple (dCons (dLc (dIt (fz (dVar 2))) (.nm 5) dYes (fz (dVar 4)) [5]) dNil)))
 sNil)
 (sCons (sIf (dTb (dOp2 pEq (dVar 3) (dC (.int 1))))
 (sRet (dCall l_k36_bent io_l_k36_bent (dCons (dOwn 0) (dCons (fz (dVar 1)) (dCons (fz (dVar 2)) (dCons (dCB pTuple (dCons (dLc (dIt (fz (dVar 2))) (.nm 5) dYes (fz (dVar 4)) [5]) dNil)) dNil))))))
 sNil)
 (sRet (dCB pTuple (dCons (dLc (dIt (fz (dVar 2))) (.nm 5) dYes (fz (dCall l_shape_outcome io_l_shape_outcome (dCons (dOwn 0) (dCons (fz (dCall l_look_last io_l_look_last (dCons (fz (dVar 1)) (dCons (fz (dVar 5)) dNil)))) dNil)))) [5]) dNil)))))))
/-- slots: 0 shape, 1 looks, 2 found, 3 told, 4 due, 5 moves -/
def b_l_k36_asked (outcome_found : FM) (l_look_decoded : FM) (l_same : FM) (l_look_finds : FM) : MS :=
 (sCons (sSet 3 (dCall outcome_found io_outcome_found (dCons (fz (dVar 0)) (dCons (fz (dVar 2)) dNil))))
 (sCons (sSet 4 (dCall l_look_decoded io_l_look_decoded (dCons (fz (dVar 0)) (dCons (fz (dVar 2)) dNil))))
 (sCons (sIf (dNotB (dTru (dCall l_same io_l_same (dCons (fz (dVar 3)) (dCons (fz (dVar 4)) dNil)))))
 (sRet (dC (.bool false)))
 sNil)
 (sCons (sIf (dTb (dOp2 pIsN (dVar 4) (dC .none)))
 (sRet (dC (.bool true)))
 sNil)
 (sRet (dOp2 pEq (dCB pTuple (dCons (dLc (dIt (fz (dVar 1))) (.nm 5) dYes (fz (dCall l_look_finds io_l_look_finds (dCons (fz (dVar 0)) (dCons (fz (dVar 5)) (dCons (fz (dVar 4)) dNil))))) [5]) dNil)) (dVar 2)))))))
/-- slots: 0 script, 1 tape, 2 shape, 3 looks, 4 one, 5 right, 6 rows, 7 turn, 8 found, 9 moves -/
def b_law (l_tape : FM) (l_k36_shape : FM) (l_look_all : FM) (l_shape_outcome : FM) (l_look_finds : FM) (l_k36_bent : FM) (l_draw : FM) (l_k36_drawn : FM) (l_turns : FM) (l_k36_asked : FM) : MS :=
 (sCons (sSet 1 (dCall l_tape io_l_tape (dCons (fz (dVar 0)) dNil)))
 (sCons (sSet 2 (dCall l_k36_shape io_l_k36_shape (dCons (dOwn 1) dNil)))
 (sCons (sSet 3 (dCall l_look_all io_l_look_all (dCons (fz (dVar 2)) dNil)))
 (sCons (sSet 4 (dCall l_shape_outcome io_l_shape_outcome (dCons (dOwn 1) (dCons (fz (dVar 2)) dNil))))
 (sCons (sSet 5 (dCB pTuple (dCons (dLc (dIt (fz (dVar 3))) (.nm 9) dYes (fz (dCall l_look_finds io_l_look_finds (dCons (fz (dVar 2)) (dCons (fz (dVar 9)) (dCons (fz (dVar 4)) dNil))))) [9]) dNil)))
 (sCons (sSet 6 (dLst (dCons (fz (dVar 5)) (dCons (fz (dCall l_k36_bent io_l_k36_bent (dCons (dOwn 1) (dCons (fz (dVar 2)) (dCons (fz (dVar 3)) (dCons (fz (dVar 5)) dNil)))))) (dCons (fz (dCall l_k36_bent io_l_k36_bent (dCons (dOwn 1) (dCons (fz (dVar 2)) (dCons (fz (dVar 3)) (dCons (fz (dVar 5)) dNil)))))) dNil)))))
 (sCons (sIf (dTb (dOp2 pEq (dCall l_draw io_l_draw (dCons (dOwn 1) (dCons (dC (.int 3)) dNil))) (dC (.int 0))))
 (sSto 6 (fz (dCall l_k36_drawn io_l_k36_drawn (dCons (dOwn 1) (dCons (fz (dVar 2)) (dCons (fz (dVar 3)) dNil))))) (dC (.int 2)))
 sNil)
 (sCons (sFor (dIt (fz (dCall l_turns io_l_turns (dCons (dOwn 1) (dCons (dC (.int 3)) dNil))))) (.nm 7)
 (sIf (dNotB (dTru (dCall l_k36_asked io_l_k36_asked (dCons (fz (dVar 2)) (dCons (fz (dVar 3)) (dCons (dOp2 pIx (dVar 6) (dVar 7)) dNil))))))
 (sRet (dC (.bool false)))
 sNil))
 (sCons (sFor (dIt (fz (dOp2 pAdd (dVar 6) (dLst (dCons (dOp2 pIx (dVar 6) (dC (.int 0))) (dCons (dOp2 pIx (dVar 6) (dC (.int 1))) dNil)))))) (.nm 8)
 (sIf (dNotB (dTru (dCall l_k36_asked io_l_k36_asked (dCons (fz (dVar 2)) (dCons (fz (dVar 3)) (dCons (fz (dVar 8)) dNil))))))
 (sRet (dC (.bool false)))
 sNil))
 (sRet (dC (.bool true))))))))))))
/-! ### levels -/
structure Tb where
  cut : FM
  cut_power : FM
  count_values : FM
  shows : FM
  count_value_observations : FM
  count_observations : FM
  outcome_found : FM
  value_found : FM
  constructor_found : FM
  table_found : FM
  l_tape : FM
  l_draw : FM
  l_pick : FM
  l_turns : FM
  l_put : FM
  l_same : FM
  l_shape_count : FM
  l_shape_rows : FM
  l_shape_values : FM
  l_shape_outcomes : FM
  l_shape_rank : FM
  l_shape_outcome_rank : FM
  l_shape_at : FM
  l_shape_outcome_at : FM
  l_shape_row : FM
  l_shape_any : FM
  l_shape_value : FM
  l_shape_outcome : FM
  l_look_shows : FM
  l_look_inner : FM
  l_look_all : FM
  l_look_sum : FM
  l_look_count : FM
  l_look_last : FM
  l_look_finds : FM
  l_look_decoded : FM
  l_look_worth : FM
  l_k36_shape : FM
  l_k36_bent : FM
  l_k36_drawn : FM
  l_k36_asked : FM
  law : FM
def nxt (t : Tb) : Tb where
  cut := Lib.f_cut 
  cut_power := Lib.f_cut_power 
  count_values := Lib.f_count_values t.count_values t.cut t.cut_power
  shows := Lib.f_shows t.shows
  count_value_observations := Lib.f_count_value_observations t.cut t.count_value_observations t.count_values t.count_observations
  count_observations := Lib.f_count_observations t.cut t.count_value_observations t.shows
  outcome_found := Lib.f_outcome_found t.shows t.value_found
  value_found := Lib.f_value_found t.constructor_found t.table_found t.count_value_observations t.value_found
  constructor_found := Lib.f_constructor_found 
  table_found := Lib.f_table_found t.count_observations t.outcome_found
  l_tape := Lib.f_l_tape 
  l_draw := Lib.f_l_draw 
  l_pick := Lib.f_l_pick t.l_draw
  l_turns := Lib.f_l_turns t.l_draw
  l_put := Lib.f_l_put 
  l_same := Lib.f_l_same t.l_same
  l_shape_count := Lib.f_l_shape_count t.l_shape_count
  l_shape_rows := Lib.f_l_shape_rows t.l_shape_rows t.l_shape_count
  l_shape_values := Lib.f_l_shape_values t.l_shape_values t.l_shape_outcomes
  l_shape_outcomes := Lib.f_l_shape_outcomes t.l_shape_values
  l_shape_rank := Lib.f_l_shape_rank t.l_shape_rank t.l_shape_count t.l_shape_outcome_rank
  l_shape_outcome_rank := Lib.f_l_shape_outcome_rank t.l_shape_count t.l_shape_rank
  l_shape_at := Lib.f_l_shape_at t.l_shape_count t.l_shape_at t.l_shape_outcome_at
  l_shape_outcome_at := Lib.f_l_shape_outcome_at t.l_shape_count t.l_shape_at
  l_shape_row := Lib.f_l_shape_row t.l_shape_rank
  l_shape_any := Lib.f_l_shape_any t.l_draw t.l_pick t.l_shape_any
  l_shape_value := Lib.f_l_shape_value t.l_draw t.l_shape_value t.l_shape_count t.l_shape_outcome
  l_shape_outcome := Lib.f_l_shape_outcome t.l_draw t.l_shape_value
  l_look_shows := Lib.f_l_look_shows t.l_look_shows
  l_look_inner := Lib.f_l_look_inner t.l_look_inner t.l_look_all t.l_shape_values
  l_look_all := Lib.f_l_look_all t.l_look_shows t.l_look_inner
  l_look_sum := Lib.f_l_look_sum t.l_look_sum t.l_shape_count t.l_look_count
  l_look_count := Lib.f_l_look_count t.l_look_sum t.l_look_shows
  l_look_last := Lib.f_l_look_last 
  l_look_finds := Lib.f_l_look_finds t.l_shape_row
  l_look_decoded := Lib.f_l_look_decoded t.l_look_shows t.l_look_worth
  l_look_worth := Lib.f_l_look_worth t.l_look_sum t.l_look_worth t.l_look_count t.l_shape_count t.l_look_decoded
  l_k36_shape := mkF N_l_k36_shape.length io_l_k36_shape (b_l_k36_shape t.l_draw t.l_shape_any t.l_look_count t.l_shape_rows t.l_pick)
  l_k36_bent := mkF N_l_k36_bent.length io_l_k36_bent (b_l_k36_bent t.l_draw t.l_look_last t.l_put t.l_shape_outcome_at)
  l_k36_drawn := mkF N_l_k36_drawn.length io_l_k36_drawn (b_l_k36_drawn t.l_draw t.l_k36_bent t.l_shape_outcome t.l_look_last)
  l_k36_asked := mkF N_l_k36_asked.length io_l_k36_asked (b_l_k36_asked t.outcome_found t.l_look_decoded t.l_same t.l_look_finds)
  law := mkF N_law.length io_law (b_law t.l_tape t.l_k36_shape t.l_look_all t.l_shape_outcome t.l_look_finds t.l_k36_bent t.l_draw t.l_k36_drawn t.l_turns t.l_k36_asked)
def m : Nat → Tb
  | 0 => ⟨fun _ => .no, fun _ => .no, fun _ => .no, fun _ => .no, fun _ => .no, fun _ => .no, fun _ => .no, fun _ => .no, fun _ => .no, fun _ => .no, fun _ => .no, fun _ => .no, fun _ => .no, fun _ => .no, fun _ => .no, fun _ => .no, fun _ => .no, fun _ => .no, fun _ => .no, fun _ => .no, fun _ => .no, fun _ => .no, fun _ => .no, fun _ => .no, fun _ => .no, fun _ => .no, fun _ => .no, fun _ => .no, fun _ => .no, fun _ => .no, fun _ => .no, fun _ => .no, fun _ => .no, fun _ => .no, fun _ => .no, fun _ => .no, fun _ => .no, fun _ => .no, fun _ => .no, fun _ => .no, fun _ => .no, fun _ => .no⟩
  | n + 1 => nxt (m n)
/-! ### what is known of the module -/
structure Txt (K : PySem.W.Frag) (mg : Str → Option Value) where
  f_cut : Addr
  d_cut : FuncData
  F_cut : FnDef K "cut" s_cut f_cut d_cut
  g_cut : mg "cut" = some (.ref f_cut)
  f_cut_power : Addr
  d_cut_power : FuncData
  F_cut_power : FnDef K "cut_power" s_cut_power f_cut_power d_cut_power
  g_cut_power : mg "cut_power" = some (.ref f_cut_power)
  f_count_values : Addr
  d_count_values : FuncData
  F_count_values : FnDef K "count_values" s_count_values f_count_values d_count_values
  g_count_values : mg "count_values" = some (.ref f_count_values)
  f_shows : Addr
  d_shows : FuncData
  F_shows : FnDef K "shows" s_shows f_shows d_shows
  g_shows : mg "shows" = some (.ref f_shows)
  f_count_value_observations : Addr
  d_count_value_observations : FuncData
  F_count_value_observations : FnDef K "count_value_observations" s_count_value_observations f_count_value_observations d_count_value_observations
  g_count_value_observations : mg "count_value_observations" = some (.ref f_count_value_observations)
  f_count_observations : Addr
  d_count_observations : FuncData
  F_count_observations : FnDef K "count_observations" s_count_observations f_count_observations d_count_observations
  g_count_observations : mg "count_observations" = some (.ref f_count_observations)
  f_outcome_found : Addr
  d_outcome_found : FuncData
  F_outcome_found : FnDef K "outcome_found" s_outcome_found f_outcome_found d_outcome_found
  g_outcome_found : mg "outcome_found" = some (.ref f_outcome_found)
  f_value_found : Addr
  d_value_found : FuncData
  F_value_found : FnDef K "value_found" s_value_found f_value_found d_value_found
  g_value_found : mg "value_found" = some (.ref f_value_found)
  f_constructor_found : Addr
  d_constructor_found : FuncData
  F_constructor_found : FnDef K "constructor_found" s_constructor_found f_constructor_found d_constructor_found
  g_constructor_found : mg "constructor_found" = some (.ref f_constructor_found)
  f_table_found : Addr
  d_table_found : FuncData
  F_table_found : FnDef K "table_found" s_table_found f_table_found d_table_found
  g_table_found : mg "table_found" = some (.ref f_table_found)
  f_l_tape : Addr
  d_l_tape : FuncData
  F_l_tape : FnDef K "_law_tape" s_l_tape f_l_tape d_l_tape
  g_l_tape : mg "_law_tape" = some (.ref f_l_tape)
  f_l_draw : Addr
  d_l_draw : FuncData
  F_l_draw : FnDef K "_law_draw" s_l_draw f_l_draw d_l_draw
  g_l_draw : mg "_law_draw" = some (.ref f_l_draw)
  f_l_pick : Addr
  d_l_pick : FuncData
  F_l_pick : FnDef K "_law_pick" s_l_pick f_l_pick d_l_pick
  g_l_pick : mg "_law_pick" = some (.ref f_l_pick)
  f_l_turns : Addr
  d_l_turns : FuncData
  F_l_turns : FnDef K "_law_turns" s_l_turns f_l_turns d_l_turns
  g_l_turns : mg "_law_turns" = some (.ref f_l_turns)
  f_l_put : Addr
  d_l_put : FuncData
  F_l_put : FnDef K "_law_put" s_l_put f_l_put d_l_put
  g_l_put : mg "_law_put" = some (.ref f_l_put)
  f_l_same : Addr
  d_l_same : FuncData
  F_l_same : FnDef K "_law_same" s_l_same f_l_same d_l_same
  g_l_same : mg "_law_same" = some (.ref f_l_same)
  f_l_shape_count : Addr
  d_l_shape_count : FuncData
  F_l_shape_count : FnDef K "_law_shape_count" s_l_shape_count f_l_shape_count d_l_shape_count
  g_l_shape_count : mg "_law_shape_count" = some (.ref f_l_shape_count)
  f_l_shape_rows : Addr
  d_l_shape_rows : FuncData
  F_l_shape_rows : FnDef K "_law_shape_rows" s_l_shape_rows f_l_shape_rows d_l_shape_rows
  g_l_shape_rows : mg "_law_shape_rows" = some (.ref f_l_shape_rows)
  f_l_shape_values : Addr
  d_l_shape_values : FuncData
  F_l_shape_values : FnDef K "_law_shape_values" s_l_shape_values f_l_shape_values d_l_shape_values
  g_l_shape_values : mg "_law_shape_values" = some (.ref f_l_shape_values)
  f_l_shape_outcomes : Addr
  d_l_shape_outcomes : FuncData
  F_l_shape_outcomes : FnDef K "_law_shape_outcomes" s_l_shape_outcomes f_l_shape_outcomes d_l_shape_outcomes
  g_l_shape_outcomes : mg "_law_shape_outcomes" = some (.ref f_l_shape_outcomes)
  f_l_shape_rank : Addr
  d_l_shape_rank : FuncData
  F_l_shape_rank : FnDef K "_law_shape_rank" s_l_shape_rank f_l_shape_rank d_l_shape_rank
  g_l_shape_rank : mg "_law_shape_rank" = some (.ref f_l_shape_rank)
  f_l_shape_outcome_rank : Addr
  d_l_shape_outcome_rank : FuncData
  F_l_shape_outcome_rank : FnDef K "_law_shape_outcome_rank" s_l_shape_outcome_rank f_l_shape_outcome_rank d_l_shape_outcome_rank
  g_l_shape_outcome_rank : mg "_law_shape_outcome_rank" = some (.ref f_l_shape_outcome_rank)
  f_l_shape_at : Addr
  d_l_shape_at : FuncData
  F_l_shape_at : FnDef K "_law_shape_at" s_l_shape_at f_l_shape_at d_l_shape_at
  g_l_shape_at : mg "_law_shape_at" = some (.ref f_l_shape_at)
  f_l_shape_outcome_at : Addr
  d_l_shape_outcome_at : FuncData
  F_l_shape_outcome_at : FnDef K "_law_shape_outcome_at" s_l_shape_outcome_at f_l_shape_outcome_at d_l_shape_outcome_at
  g_l_shape_outcome_at : mg "_law_shape_outcome_at" = some (.ref f_l_shape_outcome_at)
  f_l_shape_row : Addr
  d_l_shape_row : FuncData
  F_l_shape_row : FnDef K "_law_shape_row" s_l_shape_row f_l_shape_row d_l_shape_row
  g_l_shape_row : mg "_law_shape_row" = some (.ref f_l_shape_row)
  f_l_shape_any : Addr
  d_l_shape_any : FuncData
  F_l_shape_any : FnDef K "_law_shape_any" s_l_shape_any f_l_shape_any d_l_shape_any
  g_l_shape_any : mg "_law_shape_any" = some (.ref f_l_shape_any)
  f_l_shape_value : Addr
  d_l_shape_value : FuncData
  F_l_shape_value : FnDef K "_law_shape_value" s_l_shape_value f_l_shape_value d_l_shape_value
  g_l_shape_value : mg "_law_shape_value" = some (.ref f_l_shape_value)
  f_l_shape_outcome : Addr
  d_l_shape_outcome : FuncData
  F_l_shape_outcome : FnDef K "_law_shape_outcome" s_l_shape_outcome f_l_shape_outcome d_l_shape_outcome
  g_l_shape_outcome : mg "_law_shape_outcome" = some (.ref f_l_shape_outcome)
  f_l_look_shows : Addr
  d_l_look_shows : FuncData
  F_l_look_shows : FnDef K "_law_look_shows" s_l_look_shows f_l_look_shows d_l_look_shows
  g_l_look_shows : mg "_law_look_shows" = some (.ref f_l_look_shows)
  f_l_look_inner : Addr
  d_l_look_inner : FuncData
  F_l_look_inner : FnDef K "_law_look_inner" s_l_look_inner f_l_look_inner d_l_look_inner
  g_l_look_inner : mg "_law_look_inner" = some (.ref f_l_look_inner)
  f_l_look_all : Addr
  d_l_look_all : FuncData
  F_l_look_all : FnDef K "_law_look_all" s_l_look_all f_l_look_all d_l_look_all
  g_l_look_all : mg "_law_look_all" = some (.ref f_l_look_all)
  f_l_look_sum : Addr
  d_l_look_sum : FuncData
  F_l_look_sum : FnDef K "_law_look_sum" s_l_look_sum f_l_look_sum d_l_look_sum
  g_l_look_sum : mg "_law_look_sum" = some (.ref f_l_look_sum)
  f_l_look_count : Addr
  d_l_look_count : FuncData
  F_l_look_count : FnDef K "_law_look_count" s_l_look_count f_l_look_count d_l_look_count
  g_l_look_count : mg "_law_look_count" = some (.ref f_l_look_count)
  f_l_look_last : Addr
  d_l_look_last : FuncData
  F_l_look_last : FnDef K "_law_look_last" s_l_look_last f_l_look_last d_l_look_last
  g_l_look_last : mg "_law_look_last" = some (.ref f_l_look_last)
  f_l_look_finds : Addr
  d_l_look_finds : FuncData
  F_l_look_finds : FnDef K "_law_look_finds" s_l_look_finds f_l_look_finds d_l_look_finds
  g_l_look_finds : mg "_law_look_finds" = some (.ref f_l_look_finds)
  f_l_look_decoded : Addr
  d_l_look_decoded : FuncData
  F_l_look_decoded : FnDef K "_law_look_decoded" s_l_look_decoded f_l_look_decoded d_l_look_decoded
  g_l_look_decoded : mg "_law_look_decoded" = some (.ref f_l_look_decoded)
  f_l_look_worth : Addr
  d_l_look_worth : FuncData
  F_l_look_worth : FnDef K "_law_look_worth" s_l_look_worth f_l_look_worth d_l_look_worth
  g_l_look_worth : mg "_law_look_worth" = some (.ref f_l_look_worth)
  f_l_k36_shape : Addr
  d_l_k36_shape : FuncData
  F_l_k36_shape : FnDef K "_law_k36_shape" s_l_k36_shape f_l_k36_shape d_l_k36_shape
  g_l_k36_shape : mg "_law_k36_shape" = some (.ref f_l_k36_shape)
  f_l_k36_bent : Addr
  d_l_k36_bent : FuncData
  F_l_k36_bent : FnDef K "_law_k36_bent" s_l_k36_bent f_l_k36_bent d_l_k36_bent
  g_l_k36_bent : mg "_law_k36_bent" = some (.ref f_l_k36_bent)
  f_l_k36_drawn : Addr
  d_l_k36_drawn : FuncData
  F_l_k36_drawn : FnDef K "_law_k36_drawn" s_l_k36_drawn f_l_k36_drawn d_l_k36_drawn
  g_l_k36_drawn : mg "_law_k36_drawn" = some (.ref f_l_k36_drawn)
  f_l_k36_asked : Addr
  d_l_k36_asked : FuncData
  F_l_k36_asked : FnDef K "_law_k36_asked" s_l_k36_asked f_l_k36_asked d_l_k36_asked
  g_l_k36_asked : mg "_law_k36_asked" = some (.ref f_l_k36_asked)
  f_law : Addr
  d_law : FuncData
  F_law : FnDef K "law" s_law f_law d_law
  g_law : mg "law" = some (.ref f_law)
  n_abs : mg "abs" = none
  n_all : mg "all" = none
  n_bool : mg "bool" = none
  n_int : mg "int" = none
  n_isinstance : mg "isinstance" = none
  n_len : mg "len" = none
  n_list : mg "list" = none
  n_max : mg "max" = none
  n_min : mg "min" = none
  n_range : mg "range" = none
  n_str : mg "str" = none
  n_tuple : mg "tuple" = none
  c_MOST_COUNT : CstOk K mg "MOST_COUNT" (.int 1000000000)
section
variable {P : Program} {w : World} {K : PySem.W.Frag} {mg : Str → Option Value} {base : Heap}
theorem bd_cut {f : Addr} {fd : FuncData} (F : FnDef K "cut" s_cut f fd) : Binds K fd ps_cut [] := F.bindsN fun _ _ _ _ _ _ us hl => match us, hl with | [_], _ => rfl
theorem bd_cut_power {f : Addr} {fd : FuncData} (F : FnDef K "cut_power" s_cut_power f fd) : Binds K fd ps_cut_power [] := F.bindsN fun _ _ _ _ _ _ us hl => match us, hl with | [_, _], _ => rfl
theorem bd_count_values {f : Addr} {fd : FuncData} (F : FnDef K "count_values" s_count_values f fd) : Binds K fd ps_count_values [] := F.bindsN fun _ _ _ _ _ _ us hl => match us, hl with | [_], _ => rfl
theorem bd_shows {f : Addr} {fd : FuncData} (F : FnDef K "shows" s_shows f fd) : Binds K fd ps_shows [] := F.bindsN fun _ _ _ _ _ _ us hl => match us, hl with | [_], _ => rfl
theorem bd_count_value_observations {f : Addr} {fd : FuncData} (F : FnDef K "count_value_observations" s_count_value_observations f fd) : Binds K fd ps_count_value_observations [] := F.bindsN fun _ _ _ _ _ _ us hl => match us, hl with | [_], _ => rfl
theorem bd_count_observations {f : Addr} {fd : FuncData} (F : FnDef K "count_observations" s_count_observations f fd) : Binds K fd ps_count_observations [] := F.bindsN fun _ _ _ _ _ _ us hl => match us, hl with | [_], _ => rfl
theorem bd_outcome_found {f : Addr} {fd : FuncData} (F : FnDef K "outcome_found" s_outcome_found f fd) : Binds K fd ps_outcome_found [] := F.bindsN fun _ _ _ _ _ _ us hl => match us, hl with | [_, _], _ => rfl
theorem bd_value_found {f : Addr} {fd : FuncData} (F : FnDef K "value_found" s_value_found f fd) : Binds K fd ps_value_found [] := F.bindsN fun _ _ _ _ _ _ us hl => match us, hl with | [_, _], _ => rfl
theorem bd_constructor_found {f : Addr} {fd : FuncData} (F : FnDef K "constructor_found" s_constructor_found f fd) : Binds K fd ps_constructor_found [] := F.bindsN fun _ _ _ _ _ _ us hl => match us, hl with | [_], _ => rfl
theorem bd_table_found {f : Addr} {fd : FuncData} (F : FnDef K "table_found" s_table_found f fd) : Binds K fd ps_table_found [] := F.bindsN fun _ _ _ _ _ _ us hl => match us, hl with | [_, _], _ => rfl
theorem bd_l_tape {f : Addr} {fd : FuncData} (F : FnDef K "_law_tape" s_l_tape f fd) : Binds K fd ps_l_tape [] := F.bindsN fun _ _ _ _ _ _ us hl => match us, hl with | [_], _ => rfl
theorem bd_l_draw {f : Addr} {fd : FuncData} (F : FnDef K "_law_draw" s_l_draw f fd) : Binds K fd ps_l_draw [] := F.bindsN fun _ _ _ _ _ _ us hl => match us, hl with | [_, _], _ => rfl
theorem bd_l_pick {f : Addr} {fd : FuncData} (F : FnDef K "_law_pick" s_l_pick f fd) : Binds K fd ps_l_pick [] := F.bindsN fun _ _ _ _ _ _ us hl => match us, hl with | [_, _], _ => rfl
theorem bd_l_turns {f : Addr} {fd : FuncData} (F : FnDef K "_law_turns" s_l_turns f fd) : Binds K fd ps_l_turns [] := F.bindsN fun _ _ _ _ _ _ us hl => match us, hl with | [_, _], _ => rfl
theorem bd_l_put {f : Addr} {fd : FuncData} (F : FnDef K "_law_put" s_l_put f fd) : Binds K fd ps_l_put [] := F.bindsN fun _ _ _ _ _ _ us hl => match us, hl with | [_, _, _], _ => rfl
theorem bd_l_same {f : Addr} {fd : FuncData} (F : FnDef K "_law_same" s_l_same f fd) : Binds K fd ps_l_same [] := F.bindsN fun _ _ _ _ _ _ us hl => match us, hl with | [_, _], _ => rfl
theorem bd_l_shape_count {f : Addr} {fd : FuncData} (F : FnDef K "_law_shape_count" s_l_shape_count f fd) : Binds K fd ps_l_shape_count [] := F.bindsN fun _ _ _ _ _ _ us hl => match us, hl with | [_], _ => rfl
theorem bd_l_shape_rows {f : Addr} {fd : FuncData} (F : FnDef K "_law_shape_rows" s_l_shape_rows f fd) : Binds K fd ps_l_shape_rows [] := F.bindsN fun _ _ _ _ _ _ us hl => match us, hl with | [_], _ => rfl
theorem bd_l_shape_values {f : Addr} {fd : FuncData} (F : FnDef K "_law_shape_values" s_l_shape_values f fd) : Binds K fd ps_l_shape_values [] := F.bindsN fun _ _ _ _ _ _ us hl => match us, hl with | [_], _ => rfl
theorem bd_l_shape_outcomes {f : Addr} {fd : FuncData} (F : FnDef K "_law_shape_outcomes" s_l_shape_outcomes f fd) : Binds K fd ps_l_shape_outcomes [] := F.bindsN fun _ _ _ _ _ _ us hl => match us, hl with | [_], _ => rfl
theorem bd_l_shape_rank {f : Addr} {fd : FuncData} (F : FnDef K "_law_shape_rank" s_l_shape_rank f fd) : Binds K fd ps_l_shape_rank [] := F.bindsN fun _ _ _ _ _ _ us hl => match us, hl with | [_, _], _ => rfl
theorem bd_l_shape_outcome_rank {f : Addr} {fd : FuncData} (F : FnDef K "_law_shape_outcome_rank" s_l_shape_outcome_rank f fd) : Binds K fd ps_l_shape_outcome_rank [] := F.bindsN fun _ _ _ _ _ _ us hl => match us, hl with | [_, _], _ => rfl
theorem bd_l_shape_at {f : Addr} {fd : FuncData} (F : FnDef K "_law_shape_at" s_l_shape_at f fd) : Binds K fd ps_l_shape_at [] := F.bindsN fun _ _ _ _ _ _ us hl => match us, hl with | [_, _], _ => rfl
theorem bd_l_shape_outcome_at {f : Addr} {fd : FuncData} (F : FnDef K "_law_shape_outcome_at" s_l_shape_outcome_at f fd) : Binds K fd ps_l_shape_outcome_at [] := F.bindsN fun _ _ _ _ _ _ us hl => match us, hl with | [_, _], _ => rfl
theorem bd_l_shape_row {f : Addr} {fd : FuncData} (F : FnDef K "_law_shape_row" s_l_shape_row f fd) : Binds K fd ps_l_shape_row [] := F.bindsN fun _ _ _ _ _ _ us hl => match us, hl with | [_, _, _], _ => rfl
theorem bd_l_shape_any {f : Addr} {fd : FuncData} (F : FnDef K "_law_shape_any" s_l_shape_any f fd) : Binds K fd ps_l_shape_any [] := F.bindsN fun _ _ _ _ _ _ us hl => match us, hl with | [_, _], _ => rfl
theorem bd_l_shape_value {f : Addr} {fd : FuncData} (F : FnDef K "_law_shape_value" s_l_shape_value f fd) : Binds K fd ps_l_shape_value [] := F.bindsN fun _ _ _ _ _ _ us hl => match us, hl with | [_, _], _ => rfl
theorem bd_l_shape_outcome {f : Addr} {fd : FuncData} (F : FnDef K "_law_shape_outcome" s_l_shape_outcome f fd) : Binds K fd ps_l_shape_outcome [] := F.bindsN fun _ _ _ _ _ _ us hl => match us, hl with | [_, _], _ => rfl
theorem bd_l_look_shows {f : Addr} {fd : FuncData} (F : FnDef K "_law_look_shows" s_l_look_shows f fd) : Binds K fd ps_l_look_shows [] := F.bindsN fun _ _ _ _ _ _ us hl => match us, hl with | [_], _ => rfl
theorem bd_l_look_inner {f : Addr} {fd : FuncData} (F : FnDef K "_law_look_inner" s_l_look_inner f fd) : Binds K fd ps_l_look_inner [] := F.bindsN fun _ _ _ _ _ _ us hl => match us, hl with | [_], _ => rfl
theorem bd_l_look_all {f : Addr} {fd : FuncData} (F : FnDef K "_law_look_all" s_l_look_all f fd) : Binds K fd ps_l_look_all [] := F.bindsN fun _ _ _ _ _ _ us hl => match us, hl with | [_], _ => rfl
theorem bd_l_look_sum {f : Addr} {fd : FuncData} (F : FnDef K "_law_look_sum" s_l_look_sum f fd) : Binds K fd ps_l_look_sum [] := F.bindsN fun _ _ _ _ _ _ us hl => match us, hl with | [_], _ => rfl
theorem bd_l_look_count {f : Addr} {fd : FuncData} (F : FnDef K "_law_look_count" s_l_look_count f fd) : Binds K fd ps_l_look_count [] := F.bindsN fun _ _ _ _ _ _ us hl => match us, hl with | [_], _ => rfl
theorem bd_l_look_last {f : Addr} {fd : FuncData} (F : FnDef K "_law_look_last" s_l_look_last f fd) : Binds K fd ps_l_look_last [] := F.bindsN fun _ _ _ _ _ _ us hl => match us, hl with | [_, _], _ => rfl
theorem bd_l_look_finds {f : Addr} {fd : FuncData} (F : FnDef K "_law_look_finds" s_l_look_finds f fd) : Binds K fd ps_l_look_finds [] := F.bindsN fun _ _ _ _ _ _ us hl => match us, hl with | [_, _, _], _ => rfl
theorem bd_l_look_decoded {f : Addr} {fd : FuncData} (F : FnDef K "_law_look_decoded" s_l_look_decoded f fd) : Binds K fd ps_l_look_decoded [] := F.bindsN fun _ _ _ _ _ _ us hl => match us, hl with | [_, _], _ => rfl
theorem bd_l_look_worth {f : Addr} {fd : FuncData} (F : FnDef K "_law_look_worth" s_l_look_worth f fd) : Binds K fd ps_l_look_worth [] := F.bindsN fun _ _ _ _ _ _ us hl => match us, hl with | [_, _], _ => rfl
theorem bd_l_k36_shape {f : Addr} {fd : FuncData} (F : FnDef K "_law_k36_shape" s_l_k36_shape f fd) : Binds K fd ps_l_k36_shape [] := F.bindsN fun _ _ _ _ _ _ us hl => match us, hl with | [_], _ => rfl
theorem bd_l_k36_bent {f : Addr} {fd : FuncData} (F : FnDef K "_law_k36_bent" s_l_k36_bent f fd) : Binds K fd ps_l_k36_bent [] := F.bindsN fun _ _ _ _ _ _ us hl => match us, hl with | [_, _, _, _], _ => rfl
theorem bd_l_k36_drawn {f : Addr} {fd : FuncData} (F : FnDef K "_law_k36_drawn" s_l_k36_drawn f fd) : Binds K fd ps_l_k36_drawn [] := F.bindsN fun _ _ _ _ _ _ us hl => match us, hl with | [_, _, _], _ => rfl
theorem bd_l_k36_asked {f : Addr} {fd : FuncData} (F : FnDef K "_law_k36_asked" s_l_k36_asked f fd) : Binds K fd ps_l_k36_asked [] := F.bindsN fun _ _ _ _ _ _ us hl => match us, hl with | [_, _, _], _ => rfl
theorem bd_law {f : Addr} {fd : FuncData} (F : FnDef K "law" s_law f fd) : Binds K fd ps_law [] := F.bindsN fun _ _ _ _ _ _ us hl => match us, hl with | [_], _ => rfl
structure Ok (P : Program) (w : World) (base : Heap) (T : Txt K mg) (n : Nat) : Prop where
  cut : FnOk P w K mg base CX0 n T.f_cut T.d_cut ps_cut (spOf K io_cut (m n).cut)
  cut_power : FnOk P w K mg base CX0 n T.f_cut_power T.d_cut_power ps_cut_power (spOf K io_cut_power (m n).cut_power)
  count_values : FnOk P w K mg base CX0 n T.f_count_values T.d_count_values ps_count_values (spOf K io_count_values (m n).count_values)
  shows : FnOk P w K mg base CX0 n T.f_shows T.d_shows ps_shows (spOf K io_shows (m n).shows)
  count_value_observations : FnOk P w K mg base CX0 n T.f_count_value_observations T.d_count_value_observations ps_count_value_observations (spOf K io_count_value_observations (m n).count_value_observations)
  count_observations : FnOk P w K mg base CX0 n T.f_count_observations T.d_count_observations ps_count_observations (spOf K io_count_observations (m n).count_observations)
  outcome_found : FnOk P w K mg base CX0 n T.f_outcome_found T.d_outcome_found ps_outcome_found (spOf K io_outcome_found (m n).outcome_found)
  value_found : FnOk P w K mg base CX0 n T.f_value_found T.d_value_found ps_value_found (spOf K io_value_found (m n).value_found)
  constructor_found : FnOk P w K mg base CX0 n T.f_constructor_found T.d_constructor_found ps_constructor_found (spOf K io_constructor_found (m n).constructor_found)
  table_found : FnOk P w K mg base CX0 n T.f_table_found T.d_table_found ps_table_found (spOf K io_table_found (m n).table_found)
  l_tape : FnOk P w K mg base CX0 n T.f_l_tape T.d_l_tape ps_l_tape (spOf K io_l_tape (m n).l_tape)
  l_draw : FnOk P w K mg base CX0 n T.f_l_draw T.d_l_draw ps_l_draw (spOf K io_l_draw (m n).l_draw)
  l_pick : FnOk P w K mg base CX0 n T.f_l_pick T.d_l_pick ps_l_pick (spOf K io_l_pick (m n).l_pick)
  l_turns : FnOk P w K mg base CX0 n T.f_l_turns T.d_l_turns ps_l_turns (spOf K io_l_turns (m n).l_turns)
  l_put : FnOk P w K mg base CX0 n T.f_l_put T.d_l_put ps_l_put (spOf K io_l_put (m n).l_put)
  l_same : FnOk P w K mg base CX0 n T.f_l_same T.d_l_same ps_l_same (spOf K io_l_same (m n).l_same)
  l_shape_count : FnOk P w K mg base CX0 n T.f_l_shape_count T.d_l_shape_count ps_l_shape_count (spOf K io_l_shape_count (m n).l_shape_count)
  l_shape_rows : FnOk P w K mg base CX0 n T.f_l_shape_rows T.d_l_shape_rows ps_l_shape_rows (spOf K io_l_shape_rows (m n).l_shape_rows)
  l_shape_values : FnOk P w K mg base CX0 n T.f_l_shape_values T.d_l_shape_values ps_l_shape_values (spOf K io_l_shape_values (m n).l_shape_values)
  l_shape_outcomes : FnOk P w K mg base CX0 n T.f_l_shape_outcomes T.d_l_shape_outcomes ps_l_shape_outcomes (spOf K io_l_shape_outcomes (m n).l_shape_outcomes)
  l_shape_rank : FnOk P w K mg base CX0 n T.f_l_shape_rank T.d_l_shape_rank ps_l_shape_rank (spOf K io_l_shape_rank (m n).l_shape_rank)
  l_shape_outcome_rank : FnOk P w K mg base CX0 n T.f_l_shape_outcome_rank T.d_l_shape_outcome_rank ps_l_shape_outcome_rank (spOf K io_l_shape_outcome_rank (m n).l_shape_outcome_rank)
  l_shape_at : FnOk P w K mg base CX0 n T.f_l_shape_at T.d_l_shape_at ps_l_shape_at (spOf K io_l_shape_at (m n).l_shape_at)
  l_shape_outcome_at : FnOk P w K mg base CX0 n T.f_l_shape_outcome_at T.d_l_shape_outcome_at ps_l_shape_outcome_at (spOf K io_l_shape_outcome_at (m n).l_shape_outcome_at)
  l_shape_row : FnOk P w K mg base CX0 n T.f_l_shape_row T.d_l_shape_row ps_l_shape_row (spOf K io_l_shape_row (m n).l_shape_row)
  l_shape_any : FnOk P w K mg base CX0 n T.f_l_shape_any T.d_l_shape_any ps_l_shape_any (spOf K io_l_shape_any (m n).l_shape_any)
  l_shape_value : FnOk P w K mg base CX0 n T.f_l_shape_value T.d_l_shape_value ps_l_shape_value (spOf K io_l_shape_value (m n).l_shape_value)
  l_shape_outcome : FnOk P w K mg base CX0 n T.f_l_shape_outcome T.d_l_shape_outcome ps_l_shape_outcome (spOf K io_l_shape_outcome (m n).l_shape_outcome)
  l_look_shows : FnOk P w K mg base CX0 n T.f_l_look_shows T.d_l_look_shows ps_l_look_shows (spOf K io_l_look_shows (m n).l_look_shows)
  l_look_inner : FnOk P w K mg base CX0 n T.f_l_look_inner T.d_l_look_inner ps_l_look_inner (spOf K io_l_look_inner (m n).l_look_inner)
  l_look_all : FnOk P w K mg base CX0 n T.f_l_look_all T.d_l_look_all ps_l_look_all (spOf K io_l_look_all (m n).l_look_all)
  l_look_sum : FnOk P w K mg base CX0 n T.f_l_look_sum T.d_l_look_sum ps_l_look_sum (spOf K io_l_look_sum (m n).l_look_sum)
  l_look_count : FnOk P w K mg base CX0 n T.f_l_look_count T.d_l_look_count ps_l_look_count (spOf K io_l_look_count (m n).l_look_count)
  l_look_last : FnOk P w K mg base CX0 n T.f_l_look_last T.d_l_look_last ps_l_look_last (spOf K io_l_look_last (m n).l_look_last)
  l_look_finds : FnOk P w K mg base CX0 n T.f_l_look_finds T.d_l_look_finds ps_l_look_finds (spOf K io_l_look_finds (m n).l_look_finds)
  l_look_decoded : FnOk P w K mg base CX0 n T.f_l_look_decoded T.d_l_look_decoded ps_l_look_decoded (spOf K io_l_look_decoded (m n).l_look_decoded)
  l_look_worth : FnOk P w K mg base CX0 n T.f_l_look_worth T.d_l_look_worth ps_l_look_worth (spOf K io_l_look_worth (m n).l_look_worth)
  l_k36_shape : FnOk P w K mg base CX0 n T.f_l_k36_shape T.d_l_k36_shape ps_l_k36_shape (spOf K io_l_k36_shape (m n).l_k36_shape)
  l_k36_bent : FnOk P w K mg base CX0 n T.f_l_k36_bent T.d_l_k36_bent ps_l_k36_bent (spOf K io_l_k36_bent (m n).l_k36_bent)
  l_k36_drawn : FnOk P w K mg base CX0 n T.f_l_k36_drawn T.d_l_k36_drawn ps_l_k36_drawn (spOf K io_l_k36_drawn (m n).l_k36_drawn)
  l_k36_asked : FnOk P w K mg base CX0 n T.f_l_k36_asked T.d_l_k36_asked ps_l_k36_asked (spOf K io_l_k36_asked (m n).l_k36_asked)
  law : FnOk P w K mg base CX0 n T.f_law T.d_law ps_law (spOf K io_law (m n).law)
theorem ok0 (T : Txt K mg) : Ok P w base T 0 := ⟨fn_zero fun _ => rfl, fn_zero fun _ => rfl, fn_zero fun _ => rfl, fn_zero fun _ => rfl, fn_zero fun _ => rfl, fn_zero fun _ => rfl, fn_zero fun _ => rfl, fn_zero fun _ => rfl, fn_zero fun _ => rfl, fn_zero fun _ => rfl, fn_zero fun _ => rfl, fn_zero fun _ => rfl, fn_zero fun _ => rfl, fn_zero fun _ => rfl, fn_zero fun _ => rfl, fn_zero fun _ => rfl, fn_zero fun _ => rfl, fn_zero fun _ => rfl, fn_zero fun _ => rfl, fn_zero fun _ => rfl, fn_zero fun _ => rfl, fn_zero fun _ => rfl, fn_zero fun _ => rfl, fn_zero fun _ => rfl, fn_zero fun _ => rfl, fn_zero fun _ => rfl, fn_zero fun _ => rfl, fn_zero fun _ => rfl, fn_zero fun _ => rfl, fn_zero fun _ => rfl, fn_zero fun _ => rfl, fn_zero fun _ => rfl, fn_zero fun _ => rfl, fn_zero fun _ => rfl, fn_zero fun _ => rfl, fn_zero fun _ => rfl, fn_zero fun _ => rfl, fn_zero fun _ => rfl, fn_zero fun _ => rfl, fn_zero fun _ => rfl, fn_zero fun _ => rfl, fn_zero fun _ => rfl⟩
theorem st_cut {T : Txt K mg} {n : Nat} (Tb : Ok P w base T n) : FnOk P w K mg base CX0 (n + 1) T.f_cut T.d_cut ps_cut (spOf K io_cut (m (n + 1)).cut) := zfun T.F_cut sc_cut rfl fun cdv A outer s H E B hB hr =>
 (zsone (zret (zcb (call_min2 rfl) p_min2 (by rfl) T.n_min boot_min (zac (zv 0) (zac (zcst T.c_MOST_COUNT) zanil)))))
theorem st_cut_power {T : Txt K mg} {n : Nat} (Tb : Ok P w base T n) : FnOk P w K mg base CX0 (n + 1) T.f_cut_power T.d_cut_power ps_cut_power (spOf K io_cut_power (m (n + 1)).cut_power) := zfun T.F_cut_power sc_cut_power rfl fun cdv A outer s H E B hB hr =>
 (zscons (zset 2 hB sc_cut_power.nd zint)
 (zscons (zfor PassesOwn.never (by rfl) (zrng1 (by rfl) T.n_range (zac (zfz (zv 1)) zanil)) (zgn 3 hB sc_cut_power.nd)
 (zscons (zset 2 hB sc_cut_power.nd (zop2 op_mulD p_mul (zv 2) (zv 0)))
 (zsone (zif (ztc op_ge p_cmp (zv 2) (zcst T.c_MOST_COUNT))
 (zsone (zret (zcst T.c_MOST_COUNT)))
 zsnil))))
 (zsone (zret (zv 2)))))
theorem st_count_values {T : Txt K mg} {n : Nat} (Tb : Ok P w base T n) : FnOk P w K mg base CX0 (n + 1) T.f_count_values T.d_count_values ps_count_values (spOf K io_count_values (m (n + 1)).count_values) := zfun T.F_count_values sc_count_values rfl fun cdv A outer s H E B hB hr =>
 (zscons (zif (znot (zt (zisi T.n_isinstance T.n_tuple boot_tuple (zv 0))))
 (zsone (zret (zv 0)))
 zsnil)
 (zscons (zset 1 hB sc_count_values.nd (zcall Tb.count_values hr T.g_count_values T.F_count_values.kp (bd_count_values T.F_count_values) (zac (zix ix_seq p_ix (zv 0) zint) zanil)))
 (zscons (zset 2 hB sc_count_values.nd (zcall Tb.count_values hr T.g_count_values T.F_count_values.kp (bd_count_values T.F_count_values) (zac (zix ix_seq p_ix (zv 0) zint) zanil)))
 (zscons (zif (ztc (op_eqG hr.units) p_eq (zix ix_seq p_ix (zv 0) zint) zstr)
 (zsone (zret (zcall Tb.cut hr T.g_cut T.F_cut.kp (bd_cut T.F_cut) (zac (zop2 op_mulD p_mul (zv 1) (zv 2)) zanil))))
 zsnil)
 (zsone (zret (zcall Tb.cut_power hr T.g_cut_power T.F_cut_power.kp (bd_cut_power T.F_cut_power) (zac (zfz (zop2 op_addD p_add (zv 2) zint)) (zac (zfz (zv 1)) zanil)))))))))
theorem st_shows {T : Txt K mg} {n : Nat} (Tb : Ok P w base T n) : FnOk P w K mg base CX0 (n + 1) T.f_shows T.d_shows ps_shows (spOf K io_shows (m (n + 1)).shows) := zfun T.F_shows sc_shows rfl fun cdv A outer s H E B hB hr =>
 (zscons (zif (znot (zt (zisi T.n_isinstance T.n_tuple boot_tuple (zv 0))))
 (zsone (zret (zcmp op_ge p_cmp (zv 0) zint)))
 zsnil)
 (zsone (zret (zandV (zcmp (op_eqG hr.units) p_eq (zix ix_seq p_ix (zv 0) zint) zstr) (zone (zorV (zcall Tb.shows hr T.g_shows T.F_shows.kp (bd_shows T.F_shows) (zac (zix ix_seq p_ix (zv 0) zint) zanil)) (zone (zcall Tb.shows hr T.g_shows T.F_shows.kp (bd_shows T.F_shows) (zac (zix ix_seq p_ix (zv 0) zint) zanil)))))))))
theorem st_count_value_observations {T : Txt K mg} {n : Nat} (Tb : Ok P w base T n) : FnOk P w K mg base CX0 (n + 1) T.f_count_value_observations T.d_count_value_observations ps_count_value_observations (spOf K io_count_value_observations (m (n + 1)).count_value_observations) := zfun T.F_count_value_observations sc_count_value_observations rfl fun cdv A outer s H E B hB hr =>
 (zscons (zif (znot (zt (zisi T.n_isinstance T.n_tuple boot_tuple (zv 0))))
 (zsone (zret (zct call_int1 p_int (by rfl) T.n_int boot_int (zac (zcmp op_ge p_cmp (zv 0) zint) zanil))))
 zsnil)
 (zscons (zif (ztc (op_eqG hr.units) p_eq (zix ix_seq p_ix (zv 0) zint) zstr)
 (zsone (zret (zcall Tb.cut hr T.g_cut T.F_cut.kp (bd_cut T.F_cut) (zac (zfz (zop2 op_addD p_add (zcall Tb.count_value_observations hr T.g_count_value_observations T.F_count_value_observations.kp (bd_count_value_observations T.F_count_value_observations) (zac (zix ix_seq p_ix (zv 0) zint) zanil)) (zcall Tb.count_value_observations hr T.g_count_value_observations T.F_count_value_observations.kp (bd_count_value_observations T.F_count_value_observations) (zac (zix ix_seq p_ix (zv 0) zint) zanil)))) zanil))))
 zsnil)
 (zsone (zret (zcall Tb.cut hr T.g_cut T.F_cut.kp (bd_cut T.F_cut) (zac (zop2 op_mulD p_mul (zcall Tb.count_values hr T.g_count_values T.F_count_values.kp (bd_count_values T.F_count_values) (zac (zix ix_seq p_ix (zv 0) zint) zanil)) (zcall Tb.count_observations hr T.g_count_observations T.F_count_observations.kp (bd_count_observations T.F_count_observations) (zac (zix ix_seq p_ix (zv 0) zint) zanil))) zanil))))))
theorem st_count_observations {T : Txt K mg} {n : Nat} (Tb : Ok P w base T n) : FnOk P w K mg base CX0 (n + 1) T.f_count_observations T.d_count_observations ps_count_observations (spOf K io_count_observations (m (n + 1)).count_observations) := zfun T.F_count_observations sc_count_observations rfl fun cdv A outer s H E B hB hr =>
 (zsone (zret (zcall Tb.cut hr T.g_cut T.F_cut.kp (bd_cut T.F_cut) (zac (zfz (zop2 op_addD p_add (zcall Tb.count_value_observations hr T.g_count_value_observations T.F_count_value_observations.kp (bd_count_value_observations T.F_count_value_observations) (zac (zfz (zv 0)) zanil)) (zct call_int1 p_int (by rfl) T.n_int boot_int (zac (znotV (zcall Tb.shows hr T.g_shows T.F_shows.kp (bd_shows T.F_shows) (zac (zfz (zv 0)) zanil))) zanil)))) zanil))))
theorem st_outcome_found {T : Txt K mg} {n : Nat} (Tb : Ok P w base T n) : FnOk P w K mg base CX0 (n + 1) T.f_outcome_found T.d_outcome_found ps_outcome_found (spOf K io_outcome_found (m (n + 1)).outcome_found) := zfun T.F_outcome_found sc_outcome_found rfl fun cdv A outer s H E B hB hr =>
 (zscons (zset 2 hB sc_outcome_found.nd (zix ix_seq p_ix (zv 1) zint))
 (zscons (zif (PW.pt (zand (ztc (op_eqG hr.units) p_eq (zix ix_seq p_ix (zv 2) zint) zstr) (zand1 (zt (zcb (cr_all rfl) p_all (by rfl) T.n_all boot_all (zac (zlc (by rfl) hB sc_outcome_found.nd (zit (zfz (zv 1))) (blkOk_by (own := [("outcome", 4)]) (by rfl)) (fun _ _ _ _ _ => (zgn 4 hB sc_outcome_found.nd)) (fun _ _ _ _ _ => zts0) (fun _ _ _ _ _ => (zcmp (op_eqG hr.units) p_eq (zv 4) (zv 2)))) zanil))))))
 (zsone (zret (zv 2)))
 zsnil)
 (zscons (zif (znot (zt (zcall Tb.shows hr T.g_shows T.F_shows.kp (bd_shows T.F_shows) (zac (zfz (zv 0)) zanil))))
 (zscons (zif (ztc (op_eqG hr.units) p_eq (zix ix_seq p_ix (zv 2) zint) zstr)
 (zsone (zret znon))
 zsnil)
 (zsone (zset 1 hB sc_outcome_found.nd (zsl (zv 1) (zpart zint) znop))))
 zsnil)
 (zscons (zset 3 hB sc_outcome_found.nd (zcall Tb.value_found hr T.g_value_found T.F_value_found.kp (bd_value_found T.F_value_found) (zac (zfz (zv 0)) (zac (zfz (zv 1)) zanil))))
 (zscons (zif (ztc op_isN p_isN (zv 3) znon)
 (zsone (zret znon))
 zsnil)
 (zsone (zret (ztup (zac zstr (zac (zfz (zv 3)) zanil))))))))))
theorem st_value_found {T : Txt K mg} {n : Nat} (Tb : Ok P w base T n) : FnOk P w K mg base CX0 (n + 1) T.f_value_found T.d_value_found ps_value_found (spOf K io_value_found (m (n + 1)).value_found) := zfun T.F_value_found sc_value_found rfl fun cdv A outer s H E B hB hr =>
 (zscons (zif (znot (zt (zisi T.n_isinstance T.n_tuple boot_tuple (zv 0))))
 (zsone (zret (zcall Tb.constructor_found hr T.g_constructor_found T.F_constructor_found.kp (bd_constructor_found T.F_constructor_found) (zac (zfz (zv 1)) zanil))))
 zsnil)
 (zscons (zif (ztc (op_eqG hr.units) p_eq (zix ix_seq p_ix (zv 0) zint) zstr)
 (zsone (zret (zcall Tb.table_found hr T.g_table_found T.F_table_found.kp (bd_table_found T.F_table_found) (zac (zfz (zv 0)) (zac (zfz (zv 1)) zanil)))))
 zsnil)
 (zscons (zset 2 hB sc_value_found.nd (zcall Tb.count_value_observations hr T.g_count_value_observations T.F_count_value_observations.kp (bd_count_value_observations T.F_count_value_observations) (zac (zix ix_seq p_ix (zv 0) zint) zanil)))
 (zscons (zset 3 hB sc_value_found.nd (zcall Tb.value_found hr T.g_value_found T.F_value_found.kp (bd_value_found T.F_value_found) (zac (zix ix_seq p_ix (zv 0) zint) (zac (zfz (zsl (zv 1) znop (zpart (zv 2)))) zanil))))
 (zscons (zset 4 hB sc_value_found.nd (zcall Tb.value_found hr T.g_value_found T.F_value_found.kp (bd_value_found T.F_value_found) (zac (zix ix_seq p_ix (zv 0) zint) (zac (zfz (zsl (zv 1) (zpart (zv 2)) znop)) zanil))))
 (zscons (zif (PW.pt (zor (ztc op_isN p_isN (zv 3) znon) (zor1 (ztc op_isN p_isN (zv 4) znon))))
 (zsone (zret znon))
 zsnil)
 (zsone (zret (ztup (zac (zfz (zv 3)) (zac (zfz (zv 4)) zanil)))))))))))
theorem st_constructor_found {T : Txt K mg} {n : Nat} (Tb : Ok P w base T n) : FnOk P w K mg base CX0 (n + 1) T.f_constructor_found T.d_constructor_found ps_constructor_found (spOf K io_constructor_found (m (n + 1)).constructor_found) := zfun T.F_constructor_found sc_constructor_found rfl fun cdv A outer s H E B hB hr =>
 (zscons (zif (ztc (op_eqG hr.units) p_eq (zv 0) (ztup zanil))
 (zsone (zret zint))
 zsnil)
 (zscons (zif (ztc (op_eqG hr.units) p_eq (zix ix_seq p_ix (zix ix_seq p_ix (zv 0) zint) zint) zstr)
 (zsone (zret znon))
 zsnil)
 (zsone (zret (zix ix_seq p_ix (zix ix_seq p_ix (zv 0) zint) zint)))))
theorem st_table_found {T : Txt K mg} {n : Nat} (Tb : Ok P w base T n) : FnOk P w K mg base CX0 (n + 1) T.f_table_found T.d_table_found ps_table_found (spOf K io_table_found (m (n + 1)).table_found) := zfun T.F_table_found sc_table_found rfl fun cdv A outer s H E B hB hr =>
 (zscons (zset 2 hB sc_table_found.nd (zcall Tb.count_observations hr T.g_count_observations T.F_count_observations.kp (bd_count_observations T.F_count_observations) (zac (zix ix_seq p_ix (zv 0) zint) zanil)))
 (zscons (zset 3 hB sc_table_found.nd (zlst zanil))
 (zscons (zfor PassesOwn.never (by rfl) (zrng3 (by rfl) T.n_range (zac zint (zac (zcb call_len p_len (by rfl) T.n_len boot_len (zac (zv 1) zanil)) (zac (zfz (zv 2)) zanil)))) (zgn 4 hB sc_table_found.nd)
 (zscons (zset 5 hB sc_table_found.nd (zcall Tb.outcome_found hr T.g_outcome_found T.F_outcome_found.kp (bd_outcome_found T.F_outcome_found) (zac (zix ix_seq p_ix (zv 0) zint) (zac (zfz (zsl (zv 1) (zpart (zv 4)) (zpart (zop2 op_addD p_add (zv 4) (zv 2))))) zanil))))
 (zscons (zif (ztc op_isN p_isN (zv 5) znon)
 (zsone (zret znon))
 zsnil)
 (zsone (zexpr (zmut1 m_append PySem.F.slot_list_append PySem.F.type_list_append mt_append (zo 3) (zac (zfz (zv 5)) zanil)))))))
 (zsone (zret (zct call_tuple_of p_tuple (by rfl) T.n_tuple boot_tuple (zac (zv 3) zanil)))))))
theorem st_l_tape {T : Txt K mg} {n : Nat} (Tb : Ok P w base T n) : FnOk P w K mg base CX0 (n + 1) T.f_l_tape T.d_l_tape ps_l_tape (spOf K io_l_tape (m (n + 1)).l_tape) := zfun T.F_l_tape sc_l_tape rfl fun cdv A outer s H E B hB hr =>
 (zscons (zset 1 hB sc_l_tape.nd zint)
 (zscons (zfor PassesOwn.never (by rfl) (zit (zfz (zv 0))) (zgn 2 hB sc_l_tape.nd)
 (zsone (zset 1 hB sc_l_tape.nd (zop2 op_mod p_mod (zct call_int1 p_int (by rfl) T.n_int boot_int (zac (zop2 op_addD p_add (zop2 op_mulD p_mul (zv 1) zint) (zcb call_abs p_abs (by rfl) T.n_abs z_boot_abs (zac (zct call_int1 p_int (by rfl) T.n_int boot_int (zac (zv 2) zanil)) zanil))) zanil)) zint))))
 (zsone (zret (zlst (zac (zfz (zct call_list_of p_list (by rfl) T.n_list boot_list (zac (zv 0) zanil))) (zac zint (zac zint (zac (zfz (zv 1)) zanil)))))))))
theorem st_l_draw {T : Txt K mg} {n : Nat} (Tb : Ok P w base T n) : FnOk P w K mg base CX0 (n + 1) T.f_l_draw T.d_l_draw ps_l_draw (spOf K io_l_draw (m (n + 1)).l_draw) := zfun T.F_l_draw sc_l_draw rfl fun cdv A outer s H E B hB hr =>
 (zscons (zif (ztc (op_eqG hr.units) p_eq (zix ix_seq p_ix (zv 0) zint) zint)
 (zscons (zset 2 hB sc_l_draw.nd (zix ix_seq p_ix (zv 0) zint))
 (zscons (zset 3 hB sc_l_draw.nd zint)
 (zscons (zif (ztc op_lt p_cmp (zv 2) (zcb call_len p_len (by rfl) T.n_len boot_len (zac (zix ix_seq p_ix (zv 0) zint) zanil)))
 (zsone (zset 3 hB sc_l_draw.nd (zcb call_abs p_abs (by rfl) T.n_abs z_boot_abs (zac (zct call_int1 p_int (by rfl) T.n_int boot_int (zac (zix ix_seq p_ix (zix ix_seq p_ix (zv 0) zint) (zv 2)) zanil)) zanil))))
 (zscons (zsto (zo 0) zint (zop2 op_mod p_mod (zct call_int1 p_int (by rfl) T.n_int boot_int (zac (zop2 op_addD p_add (zop2 op_addD p_add (zop2 op_mulD p_mul (zix ix_seq p_ix (zv 0) zint) zint) (zv 2)) zint) zanil)) zint))
 (zsone (zset 3 hB sc_l_draw.nd (zix ix_seq p_ix (zv 0) zint)))))
 (zscons (zsto (zo 0) zint (zfz (zop2 op_addD p_add (zv 2) zint)))
 (zscons (zif (ztc op_lt p_cmp (zv 3) (zop2 op_pow p_pow zint zint))
 (zscons (zset 3 hB sc_l_draw.nd (zop2 op_mod p_mod (zct call_int1 p_int (by rfl) T.n_int boot_int (zac (zop2 op_addD p_add (zop2 op_addD p_add (zop2 op_mulD p_mul (zv 3) zint) (zop2 op_mulD p_mul (zv 2) zint)) zint) zanil)) zint))
 (zscons (zset 3 hB sc_l_draw.nd (zop2 op_mod p_mod (zct call_int1 p_int (by rfl) T.n_int boot_int (zac (zop2 op_mulD p_mul (zv 3) zint) zanil)) zint))
 (zsone (zret (zop2 op_mod p_mod (zct call_int1 p_int (by rfl) T.n_int boot_int (zac (zv 3) zanil)) (zcb (call_max2 rfl) p_max2 (by rfl) T.n_max boot_max (zac (zv 1) (zac zint zanil))))))))
 zsnil)
 (zsone (zsto (zo 0) zint (zfz (zv 3)))))))))
 zsnil)
 (zscons (zset 3 hB sc_l_draw.nd (zix ix_seq p_ix (zv 0) zint))
 (zscons (zsto (zo 0) zint (zop2 op_fdivW p_div (zv 3) (zcb (call_max2 rfl) p_max2 (by rfl) T.n_max boot_max (zac (zv 1) (zac zint zanil)))))
 (zsone (zret (zop2 op_mod p_mod (zct call_int1 p_int (by rfl) T.n_int boot_int (zac (zv 3) zanil)) (zcb (call_max2 rfl) p_max2 (by rfl) T.n_max boot_max (zac (zv 1) (zac zint zanil)))))))))
theorem st_l_pick {T : Txt K mg} {n : Nat} (Tb : Ok P w base T n) : FnOk P w K mg base CX0 (n + 1) T.f_l_pick T.d_l_pick ps_l_pick (spOf K io_l_pick (m (n + 1)).l_pick) := zfun T.F_l_pick sc_l_pick rfl fun cdv A outer s H E B hB hr =>
 (zsone (zret (zix ix_seq p_ix (zv 1) (zcall Tb.l_draw hr T.g_l_draw T.F_l_draw.kp (bd_l_draw T.F_l_draw) (zac (zo 0) (zac (zcb call_len p_len (by rfl) T.n_len boot_len (zac (zv 1) zanil)) zanil))))))
theorem st_l_turns {T : Txt K mg} {n : Nat} (Tb : Ok P w base T n) : FnOk P w K mg base CX0 (n + 1) T.f_l_turns T.d_l_turns ps_l_turns (spOf K io_l_turns (m (n + 1)).l_turns) := zfun T.F_l_turns sc_l_turns rfl fun cdv A outer s H E B hB hr =>
 (zscons (zset 2 hB sc_l_turns.nd (zlrng (by rfl) T.n_list T.n_range (zv 1)))
 (zscons (zset 3 hB sc_l_turns.nd (zlst zanil))
 (zscons (zfor PassesOwn.never (by rfl) (zrng1 (by rfl) T.n_range (zac (zfz (zv 1)) zanil)) (zgn 4 hB sc_l_turns.nd)
 (zsone (zexpr (zmut1 m_append PySem.F.slot_list_append PySem.F.type_list_append mt_append (zo 3) (zac (zfz (zmut1 m_popAt PySem.F.slot_list_pop PySem.F.type_list_pop mt_popAt (zo 2) (zac (zfz (zcall Tb.l_draw hr T.g_l_draw T.F_l_draw.kp (bd_l_draw T.F_l_draw) (zac (zo 0) (zac (zcb call_len p_len (by rfl) T.n_len boot_len (zac (zv 2) zanil)) zanil)))) zanil))) zanil)))))
 (zsone (zret (zsl (zv 3) znop (zpart (zix ix_seq p_ix (zlst (zac (zfz (zv 1)) (zac (zfz (zv 1)) (zac zint zanil)))) (zcall Tb.l_draw hr T.g_l_draw T.F_l_draw.kp (bd_l_draw T.F_l_draw) (zac (zo 0) (zac zint zanil)))))))))))
theorem st_l_put {T : Txt K mg} {n : Nat} (Tb : Ok P w base T n) : FnOk P w K mg base CX0 (n + 1) T.f_l_put T.d_l_put ps_l_put (spOf K io_l_put (m (n + 1)).l_put) := zfun T.F_l_put sc_l_put rfl fun cdv A outer s H E B hB hr =>
 (zsone (zret (zop2 op_addD p_add (zop2 op_addD p_add (zsl (zv 0) znop (zpart (zv 1))) (ztup (zac (zfz (zv 2)) zanil))) (zsl (zv 0) (zpart (zop2 op_addD p_add (zv 1) zint)) znop))))
theorem st_l_same {T : Txt K mg} {n : Nat} (Tb : Ok P w base T n) : FnOk P w K mg base CX0 (n + 1) T.f_l_same T.d_l_same ps_l_same (spOf K io_l_same (m (n + 1)).l_same) := zfun T.F_l_same sc_l_same rfl fun cdv A outer s H E B hB hr =>
 (zscons (zif (zt (zisi T.n_isinstance T.n_tuple boot_tuple (zv 1)))
 (zscons (zif (PW.pt (zor (znot (zt (zisi T.n_isinstance T.n_tuple boot_tuple (zv 0)))) (zor1 (ztc (op_neG hr.units) p_ne (zcb call_len p_len (by rfl) T.n_len boot_len (zac (zv 0) zanil)) (zcb call_len p_len (by rfl) T.n_len boot_len (zac (zv 1) zanil))))))
 (zsone (zret zbl))
 zsnil)
 (zscons (zfor PassesOwn.never (by rfl) (zrng1 (by rfl) T.n_range (zac (zcb call_len p_len (by rfl) T.n_len boot_len (zac (zv 1) zanil)) zanil)) (zgn 2 hB sc_l_same.nd)
 (zsone (zif (znot (zt (zcall Tb.l_same hr T.g_l_same T.F_l_same.kp (bd_l_same T.F_l_same) (zac (zix ix_seq p_ix (zv 0) (zv 2)) (zac (zix ix_seq p_ix (zv 1) (zv 2)) zanil)))))
 (zsone (zret zbl))
 zsnil)))
 (zsone (zret zbl))))
 zsnil)
 (zscons (zif (PW.pt (zor (ztc op_isN p_isN (zv 1) znon) (zor1 (ztc op_isN p_isN (zv 0) znon))))
 (zsone (zret (zandV (zcmp op_isN p_isN (zv 1) znon) (zone (zcmp op_isN p_isN (zv 0) znon)))))
 zsnil)
 (zscons (zif (zt (zisi T.n_isinstance T.n_str boot_str (zv 1)))
 (zsone (zret (zandV (zisi T.n_isinstance T.n_str boot_str (zv 0)) (zone (zcmp (op_eqG hr.units) p_eq (zv 0) (zv 1))))))
 zsnil)
 (zscons (zif (PW.pt (zor (ztc (op_neG hr.units) p_ne (zisi T.n_isinstance T.n_bool boot_bool (zv 0)) (zisi T.n_isinstance T.n_bool boot_bool (zv 1))) (zor1 (znot (zt (zisi T.n_isinstance T.n_int boot_int (zv 0)))))))
 (zsone (zret zbl))
 zsnil)
 (zsone (zret (zcmp (op_eqG hr.units) p_eq (zv 0) (zv 1))))))))
theorem st_l_shape_count {T : Txt K mg} {n : Nat} (Tb : Ok P w base T n) : FnOk P w K mg base CX0 (n + 1) T.f_l_shape_count T.d_l_shape_count ps_l_shape_count (spOf K io_l_shape_count (m (n + 1)).l_shape_count) := zfun T.F_l_shape_count sc_l_shape_count rfl fun cdv A outer s H E B hB hr =>
 (zscons (zif (zt (zisi T.n_isinstance T.n_int boot_int (zv 0)))
 (zsone (zret (zv 0)))
 zsnil)
 (zscons (zset 1 hB sc_l_shape_count.nd (zcall Tb.l_shape_count hr T.g_l_shape_count T.F_l_shape_count.kp (bd_l_shape_count T.F_l_shape_count) (zac (zix ix_seq p_ix (zv 0) zint) zanil)))
 (zscons (zset 2 hB sc_l_shape_count.nd (zcall Tb.l_shape_count hr T.g_l_shape_count T.F_l_shape_count.kp (bd_l_shape_count T.F_l_shape_count) (zac (zix ix_seq p_ix (zv 0) zint) zanil)))
 (zscons (zif (ztc (op_eqG hr.units) p_eq (zix ix_seq p_ix (zv 0) zint) zstr)
 (zsone (zret (zcb (call_min2 rfl) p_min2 (by rfl) T.n_min boot_min (zac (zop2 op_mulD p_mul (zv 1) (zv 2)) (zac (zop2 op_pow p_pow zint zint) zanil)))))
 zsnil)
 (zscons (zset 3 hB sc_l_shape_count.nd zint)
 (zscons (zfor PassesOwn.never (by rfl) (zrng1 (by rfl) T.n_range (zac (zcb (call_min2 rfl) p_min2 (by rfl) T.n_min boot_min (zac (zv 1) (zac zint zanil))) zanil)) (zgn 4 hB sc_l_shape_count.nd)
 (zsone (zset 3 hB sc_l_shape_count.nd (zcb (call_min2 rfl) p_min2 (by rfl) T.n_min boot_min (zac (zop2 op_mulD p_mul (zv 3) (zop2 op_addD p_add (zv 2) zint)) (zac (zop2 op_pow p_pow zint zint) zanil))))))
 (zsone (zret (zv 3)))))))))
theorem st_l_shape_rows {T : Txt K mg} {n : Nat} (Tb : Ok P w base T n) : FnOk P w K mg base CX0 (n + 1) T.f_l_shape_rows T.d_l_shape_rows ps_l_shape_rows (spOf K io_l_shape_rows (m (n + 1)).l_shape_rows) := zfun T.F_l_shape_rows sc_l_shape_rows rfl fun cdv A outer s H E B hB hr =>
 (zscons (zif (zt (zisi T.n_isinstance T.n_int boot_int (zv 0)))
 (zsone (zret zint))
 zsnil)
 (zscons (zset 1 hB sc_l_shape_rows.nd (zcb (call_max2 rfl) p_max2 (by rfl) T.n_max boot_max (zac (zcall Tb.l_shape_rows hr T.g_l_shape_rows T.F_l_shape_rows.kp (bd_l_shape_rows T.F_l_shape_rows) (zac (zix ix_seq p_ix (zv 0) zint) zanil)) (zac (zcall Tb.l_shape_rows hr T.g_l_shape_rows T.F_l_shape_rows.kp (bd_l_shape_rows T.F_l_shape_rows) (zac (zix ix_seq p_ix (zv 0) zint) zanil)) zanil))))
 (zscons (zif (ztc (op_eqG hr.units) p_eq (zix ix_seq p_ix (zv 0) zint) zstr)
 (zsone (zset 1 hB sc_l_shape_rows.nd (zcb (call_max2 rfl) p_max2 (by rfl) T.n_max boot_max (zac (zv 1) (zac (zcall Tb.l_shape_count hr T.g_l_shape_count T.F_l_shape_count.kp (bd_l_shape_count T.F_l_shape_count) (zac (zix ix_seq p_ix (zv 0) zint) zanil)) zanil)))))
 zsnil)
 (zsone (zret (zv 1))))))
theorem st_l_shape_values {T : Txt K mg} {n : Nat} (Tb : Ok P w base T n) : FnOk P w K mg base CX0 (n + 1) T.f_l_shape_values T.d_l_shape_values ps_l_shape_values (spOf K io_l_shape_values (m (n + 1)).l_shape_values) := zfun T.F_l_shape_values sc_l_shape_values rfl fun cdv A outer s H E B hB hr =>
 (zscons (zif (zt (zisi T.n_isinstance T.n_int boot_int (zv 0)))
 (zsone (zret (zlrng (by rfl) T.n_list T.n_range (zv 0))))
 zsnil)
 (zscons (zset 1 hB sc_l_shape_values.nd (zcall Tb.l_shape_values hr T.g_l_shape_values T.F_l_shape_values.kp (bd_l_shape_values T.F_l_shape_values) (zac (zix ix_seq p_ix (zv 0) zint) zanil)))
 (zscons (zif (ztc (op_eqG hr.units) p_eq (zix ix_seq p_ix (zv 0) zint) zstr)
 (zscons (zset 2 hB sc_l_shape_values.nd (zcall Tb.l_shape_values hr T.g_l_shape_values T.F_l_shape_values.kp (bd_l_shape_values T.F_l_shape_values) (zac (zix ix_seq p_ix (zv 0) zint) zanil)))
 (zscons (zset 3 hB sc_l_shape_values.nd (zlst zanil))
 (zscons (zfor PassesOwn.never (by rfl) (zit (zfz (zv 1))) (zgn 4 hB sc_l_shape_values.nd)
 (zsone (zset 3 hB sc_l_shape_values.nd (zop2 op_addD p_add (zv 3) (zlc (by rfl) hB sc_l_shape_values.nd (zit (zfz (zv 2))) (blkOk_by (own := [("w", 9)]) (by rfl)) (fun _ _ _ _ _ => (zgn 9 hB sc_l_shape_values.nd)) (fun _ _ _ _ _ => zts0) (fun _ _ _ _ _ => (ztup (zac (zfz (zv 4)) (zac (zfz (zv 9)) zanil)))))))))
 (zsone (zret (zv 3))))))
 zsnil)
 (zscons (zset 5 hB sc_l_shape_values.nd (zcall Tb.l_shape_outcomes hr T.g_l_shape_outcomes T.F_l_shape_outcomes.kp (bd_l_shape_outcomes T.F_l_shape_outcomes) (zac (zix ix_seq p_ix (zv 0) zint) zanil)))
 (zscons (zset 6 hB sc_l_shape_values.nd (zlst (zac (ztup zanil) zanil)))
 (zscons (zfor PassesOwn.never (by rfl) (zit (zfz (zv 1))) (zgn 4 hB sc_l_shape_values.nd)
 (zscons (zset 7 hB sc_l_shape_values.nd (zlst zanil))
 (zscons (zfor PassesOwn.never (by rfl) (zit (zfz (zv 6))) (zgn 8 hB sc_l_shape_values.nd)
 (zsone (zset 7 hB sc_l_shape_values.nd (zop2 op_addD p_add (zv 7) (zlc (by rfl) hB sc_l_shape_values.nd (zit (zfz (zv 5))) (blkOk_by (own := [("row", 10)]) (by rfl)) (fun _ _ _ _ _ => (zgn 10 hB sc_l_shape_values.nd)) (fun _ _ _ _ _ => zts0) (fun _ _ _ _ _ => (zfz (zop2 op_addD p_add (zv 8) (ztup (zac (zfz (zv 10)) zanil))))))))))
 (zsone (zset 6 hB sc_l_shape_values.nd (zv 7))))))
 (zsone (zret (zv 6)))))))))
theorem st_l_shape_outcomes {T : Txt K mg} {n : Nat} (Tb : Ok P w base T n) : FnOk P w K mg base CX0 (n + 1) T.f_l_shape_outcomes T.d_l_shape_outcomes ps_l_shape_outcomes (spOf K io_l_shape_outcomes (m (n + 1)).l_shape_outcomes) := zfun T.F_l_shape_outcomes sc_l_shape_outcomes rfl fun cdv A outer s H E B hB hr =>
 (zsone (zret (zop2 op_addD p_add (zlc (by rfl) hB sc_l_shape_outcomes.nd (zit (zfz (zcall Tb.l_shape_values hr T.g_l_shape_values T.F_l_shape_values.kp (bd_l_shape_values T.F_l_shape_values) (zac (zfz (zv 0)) zanil)))) (blkOk_by (own := [("v", 1)]) (by rfl)) (fun _ _ _ _ _ => (zgn 1 hB sc_l_shape_outcomes.nd)) (fun _ _ _ _ _ => zts0) (fun _ _ _ _ _ => (ztup (zac zstr (zac (zfz (zv 1)) zanil))))) (zlst (zac (ztup (zac zstr (zac zint zanil))) (zac (ztup (zac zstr (zac zint zanil))) zanil))))))
theorem st_l_shape_rank {T : Txt K mg} {n : Nat} (Tb : Ok P w base T n) : FnOk P w K mg base CX0 (n + 1) T.f_l_shape_rank T.d_l_shape_rank ps_l_shape_rank (spOf K io_l_shape_rank (m (n + 1)).l_shape_rank) := zfun T.F_l_shape_rank sc_l_shape_rank rfl fun cdv A outer s H E B hB hr =>
 (zscons (zif (zt (zisi T.n_isinstance T.n_int boot_int (zv 0)))
 (zsone (zret (zv 1)))
 zsnil)
 (zscons (zif (ztc (op_eqG hr.units) p_eq (zix ix_seq p_ix (zv 0) zint) zstr)
 (zsone (zret (zop2 op_addD p_add (zop2 op_mulD p_mul (zcall Tb.l_shape_rank hr T.g_l_shape_rank T.F_l_shape_rank.kp (bd_l_shape_rank T.F_l_shape_rank) (zac (zix ix_seq p_ix (zv 0) zint) (zac (zix ix_seq p_ix (zv 1) zint) zanil))) (zcall Tb.l_shape_count hr T.g_l_shape_count T.F_l_shape_count.kp (bd_l_shape_count T.F_l_shape_count) (zac (zix ix_seq p_ix (zv 0) zint) zanil))) (zcall Tb.l_shape_rank hr T.g_l_shape_rank T.F_l_shape_rank.kp (bd_l_shape_rank T.F_l_shape_rank) (zac (zix ix_seq p_ix (zv 0) zint) (zac (zix ix_seq p_ix (zv 1) zint) zanil))))))
 zsnil)
 (zscons (zset 2 hB sc_l_shape_rank.nd zint)
 (zscons (zset 3 hB sc_l_shape_rank.nd (zop2 op_addD p_add (zcall Tb.l_shape_count hr T.g_l_shape_count T.F_l_shape_count.kp (bd_l_shape_count T.F_l_shape_count) (zac (zix ix_seq p_ix (zv 0) zint) zanil)) zint))
 (zscons (zfor PassesOwn.never (by rfl) (zit (zfz (zv 1))) (zgn 4 hB sc_l_shape_rank.nd)
 (zsone (zset 2 hB sc_l_shape_rank.nd (zop2 op_addD p_add (zop2 op_mulD p_mul (zv 2) (zv 3)) (zcall Tb.l_shape_outcome_rank hr T.g_l_shape_outcome_rank T.F_l_shape_outcome_rank.kp (bd_l_shape_outcome_rank T.F_l_shape_outcome_rank) (zac (zix ix_seq p_ix (zv 0) zint) (zac (zfz (zv 4)) zanil)))))))
 (zsone (zret (zv 2))))))))
theorem st_l_shape_outcome_rank {T : Txt K mg} {n : Nat} (Tb : Ok P w base T n) : FnOk P w K mg base CX0 (n + 1) T.f_l_shape_outcome_rank T.d_l_shape_outcome_rank ps_l_shape_outcome_rank (spOf K io_l_shape_outcome_rank (m (n + 1)).l_shape_outcome_rank) := zfun T.F_l_shape_outcome_rank sc_l_shape_outcome_rank rfl fun cdv A outer s H E B hB hr =>
 (zscons (zif (ztc (op_eqG hr.units) p_eq (zix ix_seq p_ix (zv 1) zint) zstr)
 (zsone (zret (zop2 op_addD p_add (zcall Tb.l_shape_count hr T.g_l_shape_count T.F_l_shape_count.kp (bd_l_shape_count T.F_l_shape_count) (zac (zfz (zv 0)) zanil)) (zix ix_seq p_ix (zv 1) zint))))
 zsnil)
 (zsone (zret (zcall Tb.l_shape_rank hr T.g_l_shape_rank T.F_l_shape_rank.kp (bd_l_shape_rank T.F_l_shape_rank) (zac (zfz (zv 0)) (zac (zix ix_seq p_ix (zv 1) zint) zanil))))))
theorem st_l_shape_at {T : Txt K mg} {n : Nat} (Tb : Ok P w base T n) : FnOk P w K mg base CX0 (n + 1) T.f_l_shape_at T.d_l_shape_at ps_l_shape_at (spOf K io_l_shape_at (m (n + 1)).l_shape_at) := zfun T.F_l_shape_at sc_l_shape_at rfl fun cdv A outer s H E B hB hr =>
 (zscons (zif (zt (zisi T.n_isinstance T.n_int boot_int (zv 0)))
 (zsone (zret (zv 1)))
 zsnil)
 (zscons (zset 2 hB sc_l_shape_at.nd (zcall Tb.l_shape_count hr T.g_l_shape_count T.F_l_shape_count.kp (bd_l_shape_count T.F_l_shape_count) (zac (zix ix_seq p_ix (zv 0) zint) zanil)))
 (zscons (zif (ztc (op_eqG hr.units) p_eq (zix ix_seq p_ix (zv 0) zint) zstr)
 (zsone (zret (ztup (zac (zfz (zcall Tb.l_shape_at hr T.g_l_shape_at T.F_l_shape_at.kp (bd_l_shape_at T.F_l_shape_at) (zac (zix ix_seq p_ix (zv 0) zint) (zac (zop2 op_fdivW p_div (zv 1) (zv 2)) zanil)))) (zac (zfz (zcall Tb.l_shape_at hr T.g_l_shape_at T.F_l_shape_at.kp (bd_l_shape_at T.F_l_shape_at) (zac (zix ix_seq p_ix (zv 0) zint) (zac (zop2 op_mod p_mod (zct call_int1 p_int (by rfl) T.n_int boot_int (zac (zv 1) zanil)) (zv 2)) zanil)))) zanil)))))
 zsnil)
 (zscons (zset 3 hB sc_l_shape_at.nd (ztup zanil))
 (zscons (zfor PassesOwn.never (by rfl) (zrng1 (by rfl) T.n_range (zac (zfz (zcall Tb.l_shape_count hr T.g_l_shape_count T.F_l_shape_count.kp (bd_l_shape_count T.F_l_shape_count) (zac (zix ix_seq p_ix (zv 0) zint) zanil))) zanil)) (zgn 4 hB sc_l_shape_at.nd)
 (zscons (zset 3 hB sc_l_shape_at.nd (zop2 op_addD p_add (ztup (zac (zfz (zcall Tb.l_shape_outcome_at hr T.g_l_shape_outcome_at T.F_l_shape_outcome_at.kp (bd_l_shape_outcome_at T.F_l_shape_outcome_at) (zac (zix ix_seq p_ix (zv 0) zint) (zac (zop2 op_mod p_mod (zct call_int1 p_int (by rfl) T.n_int boot_int (zac (zv 1) zanil)) (zop2 op_addD p_add (zv 2) zint)) zanil)))) zanil)) (zv 3)))
 (zsone (zset 1 hB sc_l_shape_at.nd (zop2 op_fdivW p_div (zv 1) (zop2 op_addD p_add (zv 2) zint))))))
 (zsone (zret (zv 3))))))))
theorem st_l_shape_outcome_at {T : Txt K mg} {n : Nat} (Tb : Ok P w base T n) : FnOk P w K mg base CX0 (n + 1) T.f_l_shape_outcome_at T.d_l_shape_outcome_at ps_l_shape_outcome_at (spOf K io_l_shape_outcome_at (m (n + 1)).l_shape_outcome_at) := zfun T.F_l_shape_outcome_at sc_l_shape_outcome_at rfl fun cdv A outer s H E B hB hr =>
 (zscons (zif (ztc op_lt p_cmp (zv 1) (zcall Tb.l_shape_count hr T.g_l_shape_count T.F_l_shape_count.kp (bd_l_shape_count T.F_l_shape_count) (zac (zfz (zv 0)) zanil)))
 (zsone (zret (ztup (zac zstr (zac (zfz (zcall Tb.l_shape_at hr T.g_l_shape_at T.F_l_shape_at.kp (bd_l_shape_at T.F_l_shape_at) (zac (zfz (zv 0)) (zac (zfz (zv 1)) zanil)))) zanil)))))
 zsnil)
 (zsone (zret (ztup (zac zstr (zac (zop2 op_sub p_sub (zv 1) (zcall Tb.l_shape_count hr T.g_l_shape_count T.F_l_shape_count.kp (bd_l_shape_count T.F_l_shape_count) (zac (zfz (zv 0)) zanil))) zanil))))))
theorem st_l_shape_row {T : Txt K mg} {n : Nat} (Tb : Ok P w base T n) : FnOk P w K mg base CX0 (n + 1) T.f_l_shape_row T.d_l_shape_row ps_l_shape_row (spOf K io_l_shape_row (m (n + 1)).l_shape_row) := zfun T.F_l_shape_row sc_l_shape_row rfl fun cdv A outer s H E B hB hr =>
 (zsone (zret (zix ix_seq p_ix (zv 1) (zcall Tb.l_shape_rank hr T.g_l_shape_rank T.F_l_shape_rank.kp (bd_l_shape_rank T.F_l_shape_rank) (zac (zix ix_seq p_ix (zv 0) zint) (zac (zfz (zv 2)) zanil))))))
theorem st_l_shape_any {T : Txt K mg} {n : Nat} (Tb : Ok P w base T n) : FnOk P w K mg base CX0 (n + 1) T.f_l_shape_any T.d_l_shape_any ps_l_shape_any (spOf K io_l_shape_any (m (n + 1)).l_shape_any) := zfun T.F_l_shape_any sc_l_shape_any rfl fun cdv A outer s H E B hB hr =>
 (zscons (zset 2 hB sc_l_shape_any.nd (zcall Tb.l_draw hr T.g_l_draw T.F_l_draw.kp (bd_l_draw T.F_l_draw) (zac (zo 0) (zac zint zanil))))
 (zscons (zif (PW.pt (zor (ztc op_lt p_cmp (zv 1) zint) (zor1 (ztc op_lt p_cmp (zv 2) zint))))
 (zsone (zret (zcall Tb.l_pick hr T.g_l_pick T.F_l_pick.kp (bd_l_pick T.F_l_pick) (zac (zo 0) (zac (zfz (zlst (zac zint (zac zint (zac zint (zac zint (zac zint (zac zint (zac zint (zac zint (zac zint zanil))))))))))) zanil)))))
 zsnil)
 (zscons (zset 3 hB sc_l_shape_any.nd (zop2 op_addD p_add zint (zcall Tb.l_draw hr T.g_l_draw T.F_l_draw.kp (bd_l_draw T.F_l_draw) (zac (zo 0) (zac (zop2 op_sub p_sub (zv 1) zint) zanil)))))
 (zscons (zset 4 hB sc_l_shape_any.nd (zcall Tb.l_shape_any hr T.g_l_shape_any T.F_l_shape_any.kp (bd_l_shape_any T.F_l_shape_any) (zac (zo 0) (zac (zfz (zv 3)) zanil))))
 (zsone (zret (ztup (zac (zfz (zife (ztc (op_eqG hr.units) p_eq (zv 2) zint) zstr zstr)) (zac (zfz (zv 4)) (zac (zfz (zcall Tb.l_shape_any hr T.g_l_shape_any T.F_l_shape_any.kp (bd_l_shape_any T.F_l_shape_any) (zac (zo 0) (zac (zop2 op_sub p_sub (zop2 op_sub p_sub (zv 1) zint) (zv 3)) zanil)))) zanil))))))))))
theorem st_l_shape_value {T : Txt K mg} {n : Nat} (Tb : Ok P w base T n) : FnOk P w K mg base CX0 (n + 1) T.f_l_shape_value T.d_l_shape_value ps_l_shape_value (spOf K io_l_shape_value (m (n + 1)).l_shape_value) := zfun T.F_l_shape_value sc_l_shape_value rfl fun cdv A outer s H E B hB hr =>
 (zscons (zif (zt (zisi T.n_isinstance T.n_int boot_int (zv 1)))
 (zsone (zret (zcall Tb.l_draw hr T.g_l_draw T.F_l_draw.kp (bd_l_draw T.F_l_draw) (zac (zo 0) (zac (zfz (zv 1)) zanil)))))
 zsnil)
 (zscons (zif (ztc (op_eqG hr.units) p_eq (zix ix_seq p_ix (zv 1) zint) zstr)
 (zscons (zset 2 hB sc_l_shape_value.nd (zcall Tb.l_shape_value hr T.g_l_shape_value T.F_l_shape_value.kp (bd_l_shape_value T.F_l_shape_value) (zac (zo 0) (zac (zix ix_seq p_ix (zv 1) zint) zanil))))
 (zsone (zret (ztup (zac (zfz (zv 2)) (zac (zfz (zcall Tb.l_shape_value hr T.g_l_shape_value T.F_l_shape_value.kp (bd_l_shape_value T.F_l_shape_value) (zac (zo 0) (zac (zix ix_seq p_ix (zv 1) zint) zanil)))) zanil))))))
 zsnil)
 (zsone (zret (zct call_tuple_of p_tuple (by rfl) T.n_tuple boot_tuple (zac (zlc (by rfl) hB sc_l_shape_value.nd (zrng1 (by rfl) T.n_range (zac (zfz (zcall Tb.l_shape_count hr T.g_l_shape_count T.F_l_shape_count.kp (bd_l_shape_count T.F_l_shape_count) (zac (zix ix_seq p_ix (zv 1) zint) zanil))) zanil)) (blkOk_by (own := [("k", 3)]) (by rfl)) (fun _ _ _ _ _ => (zgn 3 hB sc_l_shape_value.nd)) (fun _ _ _ _ _ => zts0) (fun _ _ _ _ _ => (zfz (zcall Tb.l_shape_outcome hr T.g_l_shape_outcome T.F_l_shape_outcome.kp (bd_l_shape_outcome T.F_l_shape_outcome) (zac (zo 0) (zac (zix ix_seq p_ix (zv 1) zint) zanil)))))) zanil))))))
theorem st_l_shape_outcome {T : Txt K mg} {n : Nat} (Tb : Ok P w base T n) : FnOk P w K mg base CX0 (n + 1) T.f_l_shape_outcome T.d_l_shape_outcome ps_l_shape_outcome (spOf K io_l_shape_outcome (m (n + 1)).l_shape_outcome) := zfun T.F_l_shape_outcome sc_l_shape_outcome rfl fun cdv A outer s H E B hB hr =>
 (zscons (zset 2 hB sc_l_shape_outcome.nd (zcall Tb.l_draw hr T.g_l_draw T.F_l_draw.kp (bd_l_draw T.F_l_draw) (zac (zo 0) (zac zint zanil))))
 (zscons (zif (ztc op_lt p_cmp (zv 2) zint)
 (zsone (zret (ztup (zac zstr (zac (zfz (zcall Tb.l_shape_value hr T.g_l_shape_value T.F_l_shape_value.kp (bd_l_shape_value T.F_l_shape_value) (zac (zo 0) (zac (zfz (zv 1)) zanil)))) zanil)))))
 zsnil)
 (zsone (zret (ztup (zac zstr (zac (zop2 op_sub p_sub (zv 2) zint) zanil)))))))
theorem st_l_look_shows {T : Txt K mg} {n : Nat} (Tb : Ok P w base T n) : FnOk P w K mg base CX0 (n + 1) T.f_l_look_shows T.d_l_look_shows ps_l_look_shows (spOf K io_l_look_shows (m (n + 1)).l_look_shows) := zfun T.F_l_look_shows sc_l_look_shows rfl fun cdv A outer s H E B hB hr =>
 (zscons (zif (zt (zisi T.n_isinstance T.n_int boot_int (zv 0)))
 (zsone (zret (zcmp op_ge p_cmp (zv 0) zint)))
 zsnil)
 (zsone (zret (zandV (zcmp (op_eqG hr.units) p_eq (zix ix_seq p_ix (zv 0) zint) zstr) (zone (zorV (zcall Tb.l_look_shows hr T.g_l_look_shows T.F_l_look_shows.kp (bd_l_look_shows T.F_l_look_shows) (zac (zix ix_seq p_ix (zv 0) zint) zanil)) (zone (zcall Tb.l_look_shows hr T.g_l_look_shows T.F_l_look_shows.kp (bd_l_look_shows T.F_l_look_shows) (zac (zix ix_seq p_ix (zv 0) zint) zanil)))))))))
theorem st_l_look_inner {T : Txt K mg} {n : Nat} (Tb : Ok P w base T n) : FnOk P w K mg base CX0 (n + 1) T.f_l_look_inner T.d_l_look_inner ps_l_look_inner (spOf K io_l_look_inner (m (n + 1)).l_look_inner) := zfun T.F_l_look_inner sc_l_look_inner rfl fun cdv A outer s H E B hB hr =>
 (zscons (zif (zt (zisi T.n_isinstance T.n_int boot_int (zv 0)))
 (zsone (zret (zife (ztc op_ge p_cmp (zv 0) zint) (zlst (zac (ztup zanil) zanil)) (zlst zanil))))
 zsnil)
 (zscons (zif (ztc (op_eqG hr.units) p_eq (zix ix_seq p_ix (zv 0) zint) zstr)
 (zscons (zsetLc (i := 1) (by rfl) hB sc_l_look_inner.nd (by exact sw_true rfl rfl rfl (by rfl)) (zit (zfz (zcall Tb.l_look_inner hr T.g_l_look_inner T.F_l_look_inner.kp (bd_l_look_inner T.F_l_look_inner) (zac (zix ix_seq p_ix (zv 0) zint) zanil)))) (blkOk_by (own := [("rest", 4)]) (by rfl)) (fun _ _ _ _ _ => (zgn 4 hB sc_l_look_inner.nd)) (fun _ _ _ _ _ => zts0) (fun _ _ _ _ _ => (zfz (zop2 op_addD p_add (ztup (zac (ztup (zac zstr zanil)) zanil)) (zv 4)))))
 (zsone (zret (zop2 op_addD p_add (zv 1) (zlc (by rfl) hB sc_l_look_inner.nd (zit (zfz (zcall Tb.l_look_inner hr T.g_l_look_inner T.F_l_look_inner.kp (bd_l_look_inner T.F_l_look_inner) (zac (zix ix_seq p_ix (zv 0) zint) zanil)))) (blkOk_by (own := [("rest", 4)]) (by rfl)) (fun _ _ _ _ _ => (zgn 4 hB sc_l_look_inner.nd)) (fun _ _ _ _ _ => zts0) (fun _ _ _ _ _ => (zfz (zop2 op_addD p_add (ztup (zac (ztup (zac zstr zanil)) zanil)) (zv 4)))))))))
 zsnil)
 (zscons (zset 1 hB sc_l_look_inner.nd (zlst zanil))
 (zscons (zset 2 hB sc_l_look_inner.nd (zcall Tb.l_look_all hr T.g_l_look_all T.F_l_look_all.kp (bd_l_look_all T.F_l_look_all) (zac (zix ix_seq p_ix (zv 0) zint) zanil)))
 (zscons (zfor PassesOwn.never (by rfl) (zit (zfz (zcall Tb.l_shape_values hr T.g_l_shape_values T.F_l_shape_values.kp (bd_l_shape_values T.F_l_shape_values) (zac (zix ix_seq p_ix (zv 0) zint) zanil)))) (zgn 3 hB sc_l_look_inner.nd)
 (zsone (zexpr (zext (zo 1) (zac (zlc (by rfl) hB sc_l_look_inner.nd (zit (zfz (zv 2))) (blkOk_by (own := [("rest", 4)]) (by rfl)) (fun _ _ _ _ _ => (zgn 4 hB sc_l_look_inner.nd)) (fun _ _ _ _ _ => zts0) (fun _ _ _ _ _ => (zfz (zop2 op_addD p_add (ztup (zac (ztup (zac zstr (zac (zfz (zv 3)) zanil))) zanil)) (zv 4))))) zanil)))))
 (zsone (zret (zv 1))))))))
theorem st_l_look_all {T : Txt K mg} {n : Nat} (Tb : Ok P w base T n) : FnOk P w K mg base CX0 (n + 1) T.f_l_look_all T.d_l_look_all ps_l_look_all (spOf K io_l_look_all (m (n + 1)).l_look_all) := zfun T.F_l_look_all sc_l_look_all rfl fun cdv A outer s H E B hB hr =>
 (zscons (zif (zt (zcall Tb.l_look_shows hr T.g_l_look_shows T.F_l_look_shows.kp (bd_l_look_shows T.F_l_look_shows) (zac (zfz (zv 0)) zanil)))
 (zsone (zret (zcall Tb.l_look_inner hr T.g_l_look_inner T.F_l_look_inner.kp (bd_l_look_inner T.F_l_look_inner) (zac (zfz (zv 0)) zanil))))
 zsnil)
 (zsone (zret (zop2 op_addD p_add (zlst (zac (ztup (zac (ztup (zac zstr zanil)) zanil)) zanil)) (zcall Tb.l_look_inner hr T.g_l_look_inner T.F_l_look_inner.kp (bd_l_look_inner T.F_l_look_inner) (zac (zfz (zv 0)) zanil))))))
theorem st_l_look_sum {T : Txt K mg} {n : Nat} (Tb : Ok P w base T n) : FnOk P w K mg base CX0 (n + 1) T.f_l_look_sum T.d_l_look_sum ps_l_look_sum (spOf K io_l_look_sum (m (n + 1)).l_look_sum) := zfun T.F_l_look_sum sc_l_look_sum rfl fun cdv A outer s H E B hB hr =>
 (zscons (zif (zt (zisi T.n_isinstance T.n_int boot_int (zv 0)))
 (zsone (zret (zct call_int1 p_int (by rfl) T.n_int boot_int (zac (zcmp op_ge p_cmp (zv 0) zint) zanil))))
 zsnil)
 (zscons (zif (ztc (op_eqG hr.units) p_eq (zix ix_seq p_ix (zv 0) zint) zstr)
 (zsone (zret (zcb (call_min2 rfl) p_min2 (by rfl) T.n_min boot_min (zac (zop2 op_addD p_add (zcall Tb.l_look_sum hr T.g_l_look_sum T.F_l_look_sum.kp (bd_l_look_sum T.F_l_look_sum) (zac (zix ix_seq p_ix (zv 0) zint) zanil)) (zcall Tb.l_look_sum hr T.g_l_look_sum T.F_l_look_sum.kp (bd_l_look_sum T.F_l_look_sum) (zac (zix ix_seq p_ix (zv 0) zint) zanil))) (zac (zop2 op_pow p_pow zint zint) zanil)))))
 zsnil)
 (zsone (zret (zcb (call_min2 rfl) p_min2 (by rfl) T.n_min boot_min (zac (zop2 op_mulD p_mul (zcall Tb.l_shape_count hr T.g_l_shape_count T.F_l_shape_count.kp (bd_l_shape_count T.F_l_shape_count) (zac (zix ix_seq p_ix (zv 0) zint) zanil)) (zcall Tb.l_look_count hr T.g_l_look_count T.F_l_look_count.kp (bd_l_look_count T.F_l_look_count) (zac (zix ix_seq p_ix (zv 0) zint) zanil))) (zac (zop2 op_pow p_pow zint zint) zanil)))))))
theorem st_l_look_count {T : Txt K mg} {n : Nat} (Tb : Ok P w base T n) : FnOk P w K mg base CX0 (n + 1) T.f_l_look_count T.d_l_look_count ps_l_look_count (spOf K io_l_look_count (m (n + 1)).l_look_count) := zfun T.F_l_look_count sc_l_look_count rfl fun cdv A outer s H E B hB hr =>
 (zsone (zret (zcb (call_min2 rfl) p_min2 (by rfl) T.n_min boot_min (zac (zop2 op_addD p_add (zcall Tb.l_look_sum hr T.g_l_look_sum T.F_l_look_sum.kp (bd_l_look_sum T.F_l_look_sum) (zac (zfz (zv 0)) zanil)) (zct call_int1 p_int (by rfl) T.n_int boot_int (zac (znotV (zcall Tb.l_look_shows hr T.g_l_look_shows T.F_l_look_shows.kp (bd_l_look_shows T.F_l_look_shows) (zac (zfz (zv 0)) zanil))) zanil))) (zac (zop2 op_pow p_pow zint zint) zanil)))))
theorem st_l_look_last {T : Txt K mg} {n : Nat} (Tb : Ok P w base T n) : FnOk P w K mg base CX0 (n + 1) T.f_l_look_last T.d_l_look_last ps_l_look_last (spOf K io_l_look_last (m (n + 1)).l_look_last) := zfun T.F_l_look_last sc_l_look_last rfl fun cdv A outer s H E B hB hr =>
 (zscons (zfor PassesOwn.never (by rfl) (zit (zfz (zv 1))) (zgn 2 hB sc_l_look_last.nd)
 (zscons (zif (ztc (op_eqG hr.units) p_eq (zix ix_seq p_ix (zv 2) zint) zstr)
 (zsone (zret zint))
 zsnil)
 (zsone (zset 0 hB sc_l_look_last.nd (zife (ztc (op_eqG hr.units) p_eq (zix ix_seq p_ix (zv 2) zint) zstr) (zix ix_seq p_ix (zv 0) zint) (zix ix_seq p_ix (zv 0) zint))))))
 (zsone (zret (zv 0))))
theorem st_l_look_finds {T : Txt K mg} {n : Nat} (Tb : Ok P w base T n) : FnOk P w K mg base CX0 (n + 1) T.f_l_look_finds T.d_l_look_finds ps_l_look_finds (spOf K io_l_look_finds (m (n + 1)).l_look_finds) := zfun T.F_l_look_finds sc_l_look_finds rfl fun cdv A outer s H E B hB hr =>
 (zscons (zfor PassesOwn.never (by rfl) (zit (zfz (zv 1))) (zgn 3 hB sc_l_look_finds.nd)
 (zscons (zif (ztc (op_eqG hr.units) p_eq (zix ix_seq p_ix (zv 2) zint) zstr)
 (zsone (zret (zv 2)))
 zsnil)
 (zscons (zif (ztc (op_eqG hr.units) p_eq (zix ix_seq p_ix (zv 3) zint) zstr)
 (zsone (zret (ztup (zac zstr (zac zint zanil)))))
 zsnil)
 (zsone (zif (ztc (op_eqG hr.units) p_eq (zix ix_seq p_ix (zv 3) zint) zstr)
 (zscons (zset 2 hB sc_l_look_finds.nd (ztup (zac zstr (zac (zix ix_seq p_ix (zix ix_seq p_ix (zv 2) zint) zint) zanil))))
 (zsone (zset 0 hB sc_l_look_finds.nd (zix ix_seq p_ix (zv 0) zint))))
 (zsone (zif (ztc (op_eqG hr.units) p_eq (zix ix_seq p_ix (zv 3) zint) zstr)
 (zscons (zset 2 hB sc_l_look_finds.nd (ztup (zac zstr (zac (zix ix_seq p_ix (zix ix_seq p_ix (zv 2) zint) zint) zanil))))
 (zsone (zset 0 hB sc_l_look_finds.nd (zix ix_seq p_ix (zv 0) zint))))
 (zscons (zset 2 hB sc_l_look_finds.nd (zcall Tb.l_shape_row hr T.g_l_shape_row T.F_l_shape_row.kp (bd_l_shape_row T.F_l_shape_row) (zac (zfz (zv 0)) (zac (zix ix_seq p_ix (zv 2) zint) (zac (zix ix_seq p_ix (zv 3) zint) zanil)))))
 (zsone (zset 0 hB sc_l_look_finds.nd (zix ix_seq p_ix (zv 0) zint)))))))))))
 (zsone (zret (zv 2))))
theorem st_l_look_decoded {T : Txt K mg} {n : Nat} (Tb : Ok P w base T n) : FnOk P w K mg base CX0 (n + 1) T.f_l_look_decoded T.d_l_look_decoded ps_l_look_decoded (spOf K io_l_look_decoded (m (n + 1)).l_look_decoded) := zfun T.F_l_look_decoded sc_l_look_decoded rfl fun cdv A outer s H E B hB hr =>
 (zscons (zif (PW.pt (zand (ztc (op_eqG hr.units) p_eq (zix ix_seq p_ix (zix ix_seq p_ix (zv 1) zint) zint) zstr) (zand1 (ztc (op_eqG hr.units) p_eq (zlc (by rfl) hB sc_l_look_decoded.nd (zit (zfz (zv 1))) (blkOk_by (own := [("one", 4)]) (by rfl)) (fun _ _ _ _ _ => (zgn 4 hB sc_l_look_decoded.nd)) (fun _ _ _ _ _ => (zts1 (ztc (op_neG hr.units) p_ne (zv 4) (zix ix_seq p_ix (zv 1) zint)))) (fun _ _ _ _ _ => (zfz (zv 4)))) (zlst zanil)))))
 (zsone (zret (zix ix_seq p_ix (zv 1) zint)))
 zsnil)
 (zscons (zset 2 hB sc_l_look_decoded.nd (zv 1))
 (zscons (zif (znot (zt (zcall Tb.l_look_shows hr T.g_l_look_shows T.F_l_look_shows.kp (bd_l_look_shows T.F_l_look_shows) (zac (zfz (zv 0)) zanil))))
 (zscons (zif (ztc (op_eqG hr.units) p_eq (zix ix_seq p_ix (zix ix_seq p_ix (zv 1) zint) zint) zstr)
 (zsone (zret znon))
 zsnil)
 (zsone (zset 2 hB sc_l_look_decoded.nd (zsl (zv 1) (zpart zint) znop))))
 zsnil)
 (zscons (zset 3 hB sc_l_look_decoded.nd (zcall Tb.l_look_worth hr T.g_l_look_worth T.F_l_look_worth.kp (bd_l_look_worth T.F_l_look_worth) (zac (zfz (zv 0)) (zac (zfz (zv 2)) zanil))))
 (zsone (zret (zife (ztc op_isN p_isN (zv 3) znon) znon (ztup (zac zstr (zac (zfz (zv 3)) zanil))))))))))
theorem st_l_look_worth {T : Txt K mg} {n : Nat} (Tb : Ok P w base T n) : FnOk P w K mg base CX0 (n + 1) T.f_l_look_worth T.d_l_look_worth ps_l_look_worth (spOf K io_l_look_worth (m (n + 1)).l_look_worth) := zfun T.F_l_look_worth sc_l_look_worth rfl fun cdv A outer s H E B hB hr =>
 (zscons (zif (zt (zisi T.n_isinstance T.n_int boot_int (zv 0)))
 (zscons (zif (ztc (op_eqG hr.units) p_eq (zv 0) zint)
 (zsone (zret zint))
 zsnil)
 (zsone (zret (zife (ztc (op_eqG hr.units) p_eq (zix ix_seq p_ix (zix ix_seq p_ix (zv 1) zint) zint) zstr) (zix ix_seq p_ix (zix ix_seq p_ix (zv 1) zint) zint) znon))))
 zsnil)
 (zscons (zif (ztc (op_eqG hr.units) p_eq (zix ix_seq p_ix (zv 0) zint) zstr)
 (zscons (zset 2 hB sc_l_look_worth.nd (zcall Tb.l_look_sum hr T.g_l_look_sum T.F_l_look_sum.kp (bd_l_look_sum T.F_l_look_sum) (zac (zix ix_seq p_ix (zv 0) zint) zanil)))
 (zscons (zset 3 hB sc_l_look_worth.nd (zcall Tb.l_look_worth hr T.g_l_look_worth T.F_l_look_worth.kp (bd_l_look_worth T.F_l_look_worth) (zac (zix ix_seq p_ix (zv 0) zint) (zac (zfz (zsl (zv 1) znop (zpart (zv 2)))) zanil))))
 (zscons (zset 4 hB sc_l_look_worth.nd (zcall Tb.l_look_worth hr T.g_l_look_worth T.F_l_look_worth.kp (bd_l_look_worth T.F_l_look_worth) (zac (zix ix_seq p_ix (zv 0) zint) (zac (zfz (zsl (zv 1) (zpart (zv 2)) znop)) zanil))))
 (zsone (zret (zife (PW.pt (zor (ztc op_isN p_isN (zv 3) znon) (zor1 (ztc op_isN p_isN (zv 4) znon)))) znon (ztup (zac (zfz (zv 3)) (zac (zfz (zv 4)) zanil)))))))))
 zsnil)
 (zscons (zset 5 hB sc_l_look_worth.nd (zcall Tb.l_look_count hr T.g_l_look_count T.F_l_look_count.kp (bd_l_look_count T.F_l_look_count) (zac (zix ix_seq p_ix (zv 0) zint) zanil)))
 (zscons (zsetLc (i := 6) (by rfl) hB sc_l_look_worth.nd (by exact sw_true rfl rfl rfl (by rfl)) (zrng1 (by rfl) T.n_range (zac (zfz (zcall Tb.l_shape_count hr T.g_l_shape_count T.F_l_shape_count.kp (bd_l_shape_count T.F_l_shape_count) (zac (zix ix_seq p_ix (zv 0) zint) zanil))) zanil)) (blkOk_by (own := [("k", 7)]) (by rfl)) (fun _ _ _ _ _ => (zgn 7 hB sc_l_look_worth.nd)) (fun _ _ _ _ _ => zts0) (fun _ _ _ _ _ => (zfz (zcall Tb.l_look_decoded hr T.g_l_look_decoded T.F_l_look_decoded.kp (bd_l_look_decoded T.F_l_look_decoded) (zac (zix ix_seq p_ix (zv 0) zint) (zac (zfz (zsl (zv 1) (zpart (zop2 op_mulD p_mul (zv 7) (zv 5))) (zpart (zop2 op_addD p_add (zop2 op_mulD p_mul (zv 7) (zv 5)) (zv 5))))) zanil))))))
 (zsone (zret (zife (ztc (op_inG (units65 hr)) p_in znon (zv 6)) znon (zct call_tuple_of p_tuple (by rfl) T.n_tuple boot_tuple (zac (zv 6) zanil)))))))))
theorem st_l_k36_shape {T : Txt K mg} {n : Nat} (Tb : Ok P w base T n) : FnOk P w K mg base CX0 (n + 1) T.f_l_k36_shape T.d_l_k36_shape ps_l_k36_shape (spOf K io_l_k36_shape (m (n + 1)).l_k36_shape) := zfun T.F_l_k36_shape sc_l_k36_shape rfl fun cdv A outer s H E B hB hr =>
 (zscons (zset 1 hB sc_l_k36_shape.nd (zife (ztc (op_eqG hr.units) p_eq (zcall Tb.l_draw hr T.g_l_draw T.F_l_draw.kp (bd_l_draw T.F_l_draw) (zac (zo 0) (zac zint zanil))) zint) zint zint))
 (zscons (zset 2 hB sc_l_k36_shape.nd (zlst (zac zint (zac zint (zac (ztup (zac zstr (zac zint (zac zint zanil)))) (zac (ztup (zac zstr (zac zint (zac (ztup (zac zstr (zac zint (zac zint zanil)))) zanil)))) (zac (ztup (zac zstr (zac zint (zac zint zanil)))) (zac (ztup (zac zstr (zac zint (zac (ztup (zac zstr (zac zint (zac (ztup (zac zstr (zac zint (zac zint zanil)))) zanil)))) zanil)))) (zac (ztup (zac zstr (zac (ztup (zac zstr (zac zint (zac zint zanil)))) (zac (ztup (zac zstr (zac zint (zac zint zanil)))) zanil)))) zanil)))))))))
 (zscons (zset 2 hB sc_l_k36_shape.nd (zop2 op_addD p_add (zv 2) (zlst (zac (ztup (zac zstr (zac (ztup (zac zstr (zac zint (zac zint zanil)))) (zac (ztup (zac zstr (zac zint (zac zint zanil)))) zanil)))) (zac (ztup (zac zstr (zac zint (zac (ztup (zac zstr (zac zint (zac (ztup (zac zstr (zac zint (zac zint zanil)))) zanil)))) zanil)))) (zac (ztup (zac zstr (zac (ztup (zac zstr (zac zint (zac zint zanil)))) (zac (ztup (zac zstr (zac zint (zac zint zanil)))) zanil)))) zanil))))))
 (zscons (zfor PassesOwn.never (by rfl) (zrng1 (by rfl) T.n_range (zac zint zanil)) (zgn 3 hB sc_l_k36_shape.nd)
 (zscons (zset 4 hB sc_l_k36_shape.nd (zcall Tb.l_shape_any hr T.g_l_shape_any T.F_l_shape_any.kp (bd_l_shape_any T.F_l_shape_any) (zac (zo 0) (zac (zfz (zife (ztc op_gt p_cmp (zv 1) zint) zint zint)) zanil))))
 (zsone (zif (PW.pt (zand (ztc op_le p_cmp (zcall Tb.l_look_count hr T.g_l_look_count T.F_l_look_count.kp (bd_l_look_count T.F_l_look_count) (zac (zfz (zv 4)) zanil)) (zv 1)) (zand (ztc op_le p_cmp (zcall Tb.l_shape_rows hr T.g_l_shape_rows T.F_l_shape_rows.kp (bd_l_shape_rows T.F_l_shape_rows) (zac (zfz (zv 4)) zanil)) zint) (zand1 (znot (zt (zisi T.n_isinstance T.n_int boot_int (zv 4))))))))
 (zsone (zret (zv 4)))
 zsnil))))
 (zsone (zret (zcall Tb.l_pick hr T.g_l_pick T.F_l_pick.kp (bd_l_pick T.F_l_pick) (zac (zo 0) (zac (zfz (zv 2)) zanil)))))))))
theorem st_l_k36_bent {T : Txt K mg} {n : Nat} (Tb : Ok P w base T n) : FnOk P w K mg base CX0 (n + 1) T.f_l_k36_bent T.d_l_k36_bent ps_l_k36_bent (spOf K io_l_k36_bent (m (n + 1)).l_k36_bent) := zfun T.F_l_k36_bent sc_l_k36_bent rfl fun cdv A outer s H E B hB hr =>
 (zscons (zfor PassesOwn.never (by rfl) (zrng1 (by rfl) T.n_range (zac (zfz (zop2 op_addD p_add zint (zcall Tb.l_draw hr T.g_l_draw T.F_l_draw.kp (bd_l_draw T.F_l_draw) (zac (zo 0) (zac zint zanil))))) zanil)) (zgn 4 hB sc_l_k36_bent.nd)
 (zscons (zset 5 hB sc_l_k36_bent.nd (zcall Tb.l_draw hr T.g_l_draw T.F_l_draw.kp (bd_l_draw T.F_l_draw) (zac (zo 0) (zac (zcb call_len p_len (by rfl) T.n_len boot_len (zac (zv 2) zanil)) zanil))))
 (zscons (zset 6 hB sc_l_k36_bent.nd (zcall Tb.l_look_last hr T.g_l_look_last T.F_l_look_last.kp (bd_l_look_last T.F_l_look_last) (zac (zfz (zv 1)) (zac (zix ix_seq p_ix (zv 2) (zv 5)) zanil))))
 (zsone (zset 3 hB sc_l_k36_bent.nd (zcall Tb.l_put hr T.g_l_put T.F_l_put.kp (bd_l_put T.F_l_put) (zac (zfz (zv 3)) (zac (zfz (zv 5)) (zac (zfz (zcall Tb.l_shape_outcome_at hr T.g_l_shape_outcome_at T.F_l_shape_outcome_at.kp (bd_l_shape_outcome_at T.F_l_shape_outcome_at) (zac (zfz (zv 6)) (zac (zfz (zcall Tb.l_draw hr T.g_l_draw T.F_l_draw.kp (bd_l_draw T.F_l_draw) (zac (zo 0) (zac (zfz (zop2 op_addD p_add (zv 6) zint)) zanil)))) zanil)))) zanil)))))))))
 (zsone (zret (zv 3))))
theorem st_l_k36_drawn {T : Txt K mg} {n : Nat} (Tb : Ok P w base T n) : FnOk P w K mg base CX0 (n + 1) T.f_l_k36_drawn T.d_l_k36_drawn ps_l_k36_drawn (spOf K io_l_k36_drawn (m (n + 1)).l_k36_drawn) := zfun T.F_l_k36_drawn sc_l_k36_drawn rfl fun cdv A outer s H E B hB hr =>
 (zscons (zset 3 hB sc_l_k36_drawn.nd (zcall Tb.l_draw hr T.g_l_draw T.F_l_draw.kp (bd_l_draw T.F_l_draw) (zac (zo 0) (zac zint zanil))))
 (zscons (zset 4 hB sc_l_k36_drawn.nd (ztup (zac zstr (zac (zfz (zcall Tb.l_draw hr T.g_l_draw T.F_l_draw.kp (bd_l_draw T.F_l_draw) (zac (zo 0) (zac zint zanil)))) zanil))))
 (zscons (zif (ztc (op_eqG hr.units) p_eq (zv 3) zint)
 (zsone (zret (zct call_tuple_of p_tuple (by rfl) T.n_tuple boot_tuple (zac (zlc (by rfl) hB sc_l_k36_drawn.nd (zit (zfz (zv 2))) (blkOk_by (own := [("moves", 5)]) (by rfl)) (fun _ _ _ _ _ => (zgn 5 hB sc_l_k36_drawn.nd)) (fun _ _ _ _ _ => zts0) (fun _ _ _ _ _ => (zfz (zv 4)))) zanil))))
 zsnil)
 (zscons (zif (ztc (op_eqG hr.units) p_eq (zv 3) zint)
 (zsone (zret (zcall Tb.l_k36_bent hr T.g_l_k36_bent T.F_l_k36_bent.kp (bd_l_k36_bent T.F_l_k36_bent) (zac (zo 0) (zac (zfz (zv 1)) (zac (zfz (zv 2)) (zac (zct call_tuple_of p_tuple (by rfl) T.n_tuple boot_tuple (zac (zlc (by rfl) hB sc_l_k36_drawn.nd (zit (zfz (zv 2))) (blkOk_by (own := [("moves", 5)]) (by rfl)) (fun _ _ _ _ _ => (zgn 5 hB sc_l_k36_drawn.nd)) (fun _ _ _ _ _ => zts0) (fun _ _ _ _ _ => (zfz (zv 4)))) zanil)) zanil)))))))
 zsnil)
 (zsone (zret (zct call_tuple_of p_tuple (by rfl) T.n_tuple boot_tuple (zac (zlc (by rfl) hB sc_l_k36_drawn.nd (zit (zfz (zv 2))) (blkOk_by (own := [("moves", 5)]) (by rfl)) (fun _ _ _ _ _ => (zgn 5 hB sc_l_k36_drawn.nd)) (fun _ _ _ _ _ => zts0) (fun _ _ _ _ _ => (zfz (zcall Tb.l_shape_outcome hr T.g_l_shape_outcome T.F_l_shape_outcome.kp (bd_l_shape_outcome T.F_l_shape_outcome) (zac (zo 0) (zac (zfz (zcall Tb.l_look_last hr T.g_l_look_last T.F_l_look_last.kp (bd_l_look_last T.F_l_look_last) (zac (zfz (zv 1)) (zac (zfz (zv 5)) zanil)))) zanil)))))) zanil))))))))
theorem st_l_k36_asked {T : Txt K mg} {n : Nat} (Tb : Ok P w base T n) : FnOk P w K mg base CX0 (n + 1) T.f_l_k36_asked T.d_l_k36_asked ps_l_k36_asked (spOf K io_l_k36_asked (m (n + 1)).l_k36_asked) := zfun T.F_l_k36_asked sc_l_k36_asked rfl fun cdv A outer s H E B hB hr =>
 (zscons (zset 3 hB sc_l_k36_asked.nd (zcall Tb.outcome_found hr T.g_outcome_found T.F_outcome_found.kp (bd_outcome_found T.F_outcome_found) (zac (zfz (zv 0)) (zac (zfz (zv 2)) zanil))))
 (zscons (zset 4 hB sc_l_k36_asked.nd (zcall Tb.l_look_decoded hr T.g_l_look_decoded T.F_l_look_decoded.kp (bd_l_look_decoded T.F_l_look_decoded) (zac (zfz (zv 0)) (zac (zfz (zv 2)) zanil))))
 (zscons (zif (znot (zt (zcall Tb.l_same hr T.g_l_same T.F_l_same.kp (bd_l_same T.F_l_same) (zac (zfz (zv 3)) (zac (zfz (zv 4)) zanil)))))
 (zsone (zret zbl))
 zsnil)
 (zscons (zif (ztc op_isN p_isN (zv 4) znon)
 (zsone (zret zbl))
 zsnil)
 (zsone (zret (zcmp (op_eqG hr.units) p_eq (zct call_tuple_of p_tuple (by rfl) T.n_tuple boot_tuple (zac (zlc (by rfl) hB sc_l_k36_asked.nd (zit (zfz (zv 1))) (blkOk_by (own := [("moves", 5)]) (by rfl)) (fun _ _ _ _ _ => (zgn 5 hB sc_l_k36_asked.nd)) (fun _ _ _ _ _ => zts0) (fun _ _ _ _ _ => (zfz (zcall Tb.l_look_finds hr T.g_l_look_finds T.F_l_look_finds.kp (bd_l_look_finds T.F_l_look_finds) (zac (zfz (zv 0)) (zac (zfz (zv 5)) (zac (zfz (zv 4)) zanil))))))) zanil)) (zv 2))))))))
theorem st_law {T : Txt K mg} {n : Nat} (Tb : Ok P w base T n) : FnOk P w K mg base CX0 (n + 1) T.f_law T.d_law ps_law (spOf K io_law (m (n + 1)).law) := zfun T.F_law sc_law rfl fun cdv A outer s H E B hB hr =>
 (zscons (zset 1 hB sc_law.nd (zcall Tb.l_tape hr T.g_l_tape T.F_l_tape.kp (bd_l_tape T.F_l_tape) (zac (zfz (zv 0)) zanil)))
 (zscons (zset 2 hB sc_law.nd (zcall Tb.l_k36_shape hr T.g_l_k36_shape T.F_l_k36_shape.kp (bd_l_k36_shape T.F_l_k36_shape) (zac (zo 1) zanil)))
 (zscons (zset 3 hB sc_law.nd (zcall Tb.l_look_all hr T.g_l_look_all T.F_l_look_all.kp (bd_l_look_all T.F_l_look_all) (zac (zfz (zv 2)) zanil)))
 (zscons (zset 4 hB sc_law.nd (zcall Tb.l_shape_outcome hr T.g_l_shape_outcome T.F_l_shape_outcome.kp (bd_l_shape_outcome T.F_l_shape_outcome) (zac (zo 1) (zac (zfz (zv 2)) zanil))))
 (zscons (zset 5 hB sc_law.nd (zct call_tuple_of p_tuple (by rfl) T.n_tuple boot_tuple (zac (zlc (by rfl) hB sc_law.nd (zit (zfz (zv 3))) (blkOk_by (own := [("moves", 9)]) (by rfl)) (fun _ _ _ _ _ => (zgn 9 hB sc_law.nd)) (fun _ _ _ _ _ => zts0) (fun _ _ _ _ _ => (zfz (zcall Tb.l_look_finds hr T.g_l_look_finds T.F_l_look_finds.kp (bd_l_look_finds T.F_l_look_finds) (zac (zfz (zv 2)) (zac (zfz (zv 9)) (zac (zfz (zv 4)) zanil))))))) zanil)))
 (zscons (zset 6 hB sc_law.nd (zlst (zac (zfz (zv 5)) (zac (zfz (zcall Tb.l_k36_bent hr T.g_l_k36_bent T.F_l_k36_bent.kp (bd_l_k36_bent T.F_l_k36_bent) (zac (zo 1) (zac (zfz (zv 2)) (zac (zfz (zv 3)) (zac (zfz (zv 5)) zanil)))))) (zac (zfz (zcall Tb.l_k36_bent hr T.g_l_k36_bent T.F_l_k36_bent.kp (bd_l_k36_bent T.F_l_k36_bent) (zac (zo 1) (zac (zfz (zv 2)) (zac (zfz (zv 3)) (zac (zfz (zv 5)) zanil)))))) zanil)))))
 (zscons (zif (ztc (op_eqG hr.units) p_eq (zcall Tb.l_draw hr T.g_l_draw T.F_l_draw.kp (bd_l_draw T.F_l_draw) (zac (zo 1) (zac zint zanil))) zint)
 (zsone (zsto (zo 6) zint (zfz (zcall Tb.l_k36_drawn hr T.g_l_k36_drawn T.F_l_k36_drawn.kp (bd_l_k36_drawn T.F_l_k36_drawn) (zac (zo 1) (zac (zfz (zv 2)) (zac (zfz (zv 3)) zanil)))))))
 zsnil)
 (zscons (zfor PassesOwn.never (by rfl) (zit (zfz (zcall Tb.l_turns hr T.g_l_turns T.F_l_turns.kp (bd_l_turns T.F_l_turns) (zac (zo 1) (zac zint zanil))))) (zgn 7 hB sc_law.nd)
 (zsone (zif (znot (zt (zcall Tb.l_k36_asked hr T.g_l_k36_asked T.F_l_k36_asked.kp (bd_l_k36_asked T.F_l_k36_asked) (zac (zfz (zv 2)) (zac (zfz (zv 3)) (zac (zix ix_seq p_ix (zv 6) (zv 7)) zanil))))))
 (zsone (zret zbl))
 zsnil)))
 (zscons (zfor PassesOwn.never (by rfl) (zit (zfz (zop2 op_addD p_add (zv 6) (zlst (zac (zix ix_seq p_ix (zv 6) zint) (zac (zix ix_seq p_ix (zv 6) zint) zanil)))))) (zgn 8 hB sc_law.nd)
 (zsone (zif (znot (zt (zcall Tb.l_k36_asked hr T.g_l_k36_asked T.F_l_k36_asked.kp (bd_l_k36_asked T.F_l_k36_asked) (zac (zfz (zv 2)) (zac (zfz (zv 3)) (zac (zfz (zv 8)) zanil))))))
 (zsone (zret zbl))
 zsnil)))
 (zsone (zret zbl)))))))))))
theorem ok (T : Txt K mg) : ∀ n, Ok P w base T n
  | 0 => ok0 T
  | n + 1 =>
    have t := ok T n
    ⟨st_cut t, st_cut_power t, st_count_values t, st_shows t, st_count_value_observations t, st_count_observations t, st_outcome_found t, st_value_found t, st_constructor_found t, st_table_found t, st_l_tape t, st_l_draw t, st_l_pick t, st_l_turns t, st_l_put t, st_l_same t, st_l_shape_count t, st_l_shape_rows t, st_l_shape_values t, st_l_shape_outcomes t, st_l_shape_rank t, st_l_shape_outcome_rank t, st_l_shape_at t, st_l_shape_outcome_at t, st_l_shape_row t, st_l_shape_any t, st_l_shape_value t, st_l_shape_outcome t, st_l_look_shows t, st_l_look_inner t, st_l_look_all t, st_l_look_sum t, st_l_look_count t, st_l_look_last t, st_l_look_finds t, st_l_look_decoded t, st_l_look_worth t, st_l_k36_shape t, st_l_k36_bent t, st_l_k36_drawn t, st_l_k36_asked t, st_law t⟩
end
end G36

set_option Elab.async false
set_option linter.all false
set_option maxRecDepth 100000
set_option maxHeartbeats 2000000
namespace G36
open PySem PySem.Spec PyProof.Rows L2.Zd L2.Zd.Lib
/-! ### the drawn shape -/
def okb : Sh → Bool
  | .i n => decide (1 ≤ n) && decide (n ≤ 1000)
  | .p a b => okb a && okb b
  | .f a b => okb a && okb b
theorem okb_ok : ∀ {s : Sh}, okb s = true → s.ok
  | .i n, h => by
    have h' := Bool.and_eq_true_iff.mp (show (decide (1 ≤ n) && decide (n ≤ 1000)) = true from h)
    exact ⟨of_decide_eq_true h'.1, of_decide_eq_true h'.2⟩
  | .p a b, h => by
    have h' := Bool.and_eq_true_iff.mp (show (okb a && okb b) = true from h)
    exact ⟨okb_ok h'.1, okb_ok h'.2⟩
  | .f a b, h => by
    have h' := Bool.and_eq_true_iff.mp (show (okb a && okb b) = true from h)
    exact ⟨okb_ok h'.1, okb_ok h'.2⟩
def gdb (s : Sh) : Bool := okb s && (decide (rwk s ≤ 64) && (decide (ls s ≤ 300) && decide (s.h ≤ 9)))
theorem gdb_gd {s : Sh} (h : gdb s = true) : Gd s ∧ s.h ≤ 9 := by
  have h1 := Bool.and_eq_true_iff.mp (show (okb s && (decide (rwk s ≤ 64) && (decide (ls s ≤ 300) && decide (s.h ≤ 9)))) = true from h)
  have h2 := Bool.and_eq_true_iff.mp h1.2
  have h3 := Bool.and_eq_true_iff.mp h2.2
  exact ⟨⟨okb_ok h1.1, of_decide_eq_true h2.1, of_decide_eq_true h3.1⟩, of_decide_eq_true h3.2⟩
def menu36 : List Sh := [.i 1, .i 2, .p (.i 2) (.i 1), .p (.i 1) (.f (.i 1) (.i 1)), .f (.i 1) (.i 2), .f (.i 2) (.p (.i 2) (.f (.i 1) (.i 3))), .p (.f (.i 2) (.i 2)) (.f (.i 1) (.i 1)), .f (.f (.i 1) (.i 1)) (.f (.i 2) (.i 1)), .p (.i 3) (.f (.i 2) (.p (.i 2) (.i 1))), .f (.p (.i 2) (.i 2)) (.p (.i 2) (.i 2))]
theorem menu_gd {x : D} (h : x ∈ menu36.map Sh.d) : ∃ s : Sh, x = s.d ∧ Gd s ∧ s.h ≤ 9 := by
  obtain ⟨s, hs, rfl⟩ := List.mem_map.mp h
  have h1 : (menu36.all gdb) = true := by decide +kernel
  have := gdb_gd (List.all_eq_true.mp h1 s hs)
  exact ⟨s, rfl, this.1, this.2⟩
theorem menu_ne : menu36.map Sh.d ≠ [] := fun h => by cases h
theorem menu_len : (menu36.map Sh.d).length < 2 ^ 62 := lt62 rfl
theorem seven : (7 + 3 : Nat) ≤ sizeLine := by rw [size24]; omega
abbrev fShape (d sh lc rw_ p : FM) : FM := mkF 5 io_l_k36_shape (b_l_k36_shape d sh lc rw_ p)
abbrev K36S (f : FM) : Prop := ∀ (t : D) (Q : Bool → D → List D → Prop), Tp t → (∀ (s : Sh) (t' : D), Gd s → s.h ≤ 9 → Tp t' → Q false s.d [t']) → FnP f [t] Q
theorem k36shape_s {d sh lo rr p : FM} (hd : DrawS d) (hsh : ShapeS sh 9) (hlo : LcS lo 9) (hrr : RowsS rr 9) (hp : PickS p) : K36S (fShape d sh lo rr p) := by
  intro t Q ht hQ
  (with_reducible refine FnP_mk [.ow t, .no, .no, .no, .no] [0] ?_ ?_ ?_)
  · rfl
  · rfl
  unfold b_l_k36_shape
  repeat (first|(with_reducible refine i_if_mid (fun x s1 => ∃ (i : Int) (t' : D), x = .fr (.int i) ∧ i ≤ 300 ∧ Tp t' ∧ s1 = [.ow t', .no, .no, .no, .no]) ?_ ?_)|((with_reducible refine Ye (d:=?_) ?_ ?_);rotate_left 1;exact rfl)|(with_reducible first|refine J0 ?_|refine J1 ?_|refine J2 ?_|refine J3 ?_|refine J7 ?_|refine J8 ?_|refine J9 ?_|refine Jb ?_)|((with_reducible refine Xb (a:=?_) ?_ ?_);rotate_left 1;exact rfl))
  · (with_reducible refine hd _ _ _ ht (by omega) fun k t1 ht1 k0 k1 => ?_)
    repeat (first|((with_reducible refine Yc (b:=?_) ?_ ?_);rotate_left 1;exact rfl)|((with_reducible refine Yr (d:=?_) (e:=?_) ?_ ?_ ?_);rotate_left 2;exact rfl;exact rfl)|(with_reducible first|refine J1 ?_|refine Uh ?_))
    (with_reducible refine BoolW_dec (fun hk => ?_) (fun hk => ?_))
    · repeat (first|(with_reducible refine J1 ?_))
      exact ⟨300, t1, rfl, by omega, ht1, rfl⟩
    · repeat (first|(with_reducible refine J1 ?_))
      exact ⟨40, t1, rfl, by omega, ht1, rfl⟩
  · rintro x s1 ⟨most, t1, rfl, hm, ht1, rfl⟩
    repeat (first|((with_reducible first|refine Yb (d:=?_) ?_ ?_|refine Yj (n:=?_) ?_ ?_ ?_);rotate_left 1;exact rfl)|((with_reducible refine Yr (d:=?_) (e:=?_) ?_ ?_ ?_);rotate_left 2;exact rfl;exact rfl)|(with_reducible first|refine J0 ?_|refine J1 ?_|refine J2 ?_|refine J3 ?_|refine J7 ?_|refine J8 ?_|refine Jc ?_|refine Jd ?_|refine Jx ?_|refine U7 ?_|refine Uu ?_ ?_)|((with_reducible refine Yv (d:=?_) ?_ ?_);rotate_left 1;exact rfl)|((with_reducible refine Xb (a:=?_) ?_ ?_);rotate_left 1;exact rfl)|((with_reducible refine And.intro ?_ ?_);first|exact Nat.le_of_ble_eq_true rfl|exact rfl))
    refine fl_inv (fun rest s => ∃ (t' : D) (x3 x4 : Sl), s = [.ow t', .fr (.int most), .ow (.list (menu36.map Sh.d)), x3, x4] ∧ Tp t') ⟨t1, _, _, rfl, ht1⟩ ?_ ?_
    · rintro e rest s ⟨t2, x3, x4, rfl, ht2⟩
      repeat (first|(with_reducible refine i_if_mid (fun x s1 => ∃ (z : Int), x = .fr (.int z) ∧ 1 ≤ z ∧ z ≤ 9 ∧ s1 = [.ow t2, .fr (.int most), .ow (.list (menu36.map Sh.d)), .fr e, x4]) ?_ ?_)|((with_reducible first|refine Yb (d:=?_) ?_ ?_|refine Yc (b:=?_) ?_ ?_|refine Ye (d:=?_) ?_ ?_);rotate_left 1;exact rfl)|((with_reducible refine Yr (d:=?_) (e:=?_) ?_ ?_ ?_);rotate_left 2;exact rfl;exact rfl)|(with_reducible first|refine J0 ?_|refine J1 ?_|refine J2 ?_|refine J3 ?_|refine J6 ?_|refine J7 ?_|refine J9 ?_|refine Jb ?_|refine Ud ?_)|((with_reducible refine Xb (a:=?_) ?_ ?_);rotate_left 1;exact rfl))
      · (with_reducible refine BoolW_dec (fun hk => ?_) (fun hk => ?_))
        · repeat (first|(with_reducible refine J1 ?_))
          exact ⟨9, rfl, by omega, by omega, rfl⟩
        · repeat (first|(with_reducible refine J1 ?_))
          exact ⟨7, rfl, by omega, by omega, rfl⟩
      · rintro x s1 ⟨z, rfl, z0, z1, rfl⟩
        repeat (first|(with_reducible refine J8 ?_)|((with_reducible refine Yy (d:=?_) (s:=?_) ?_ ?_);rotate_left 2;exact rfl)|((with_reducible refine Xb (a:=?_) ?_ ?_);rotate_left 1;exact rfl))
        (with_reducible refine hsh _ _ _ ht2 z0 z1 fun c t3 hc ht3 => ?_)
        obtain ⟨s, rfl, hh, hok⟩ := hc.sh
        have hh9 : s.h ≤ 9 := by omega
        repeat (first|((with_reducible refine Yb (d:=?_) ?_ ?_);rotate_left 1;exact rfl)|(with_reducible first|refine J2 ?_|refine J4 ?_|refine J6 ?_|refine J7 ?_|refine J8 ?_|refine J9 ?_|refine Jb ?_|refine Jj ?_)|((with_reducible refine Yy (d:=?_) (s:=?_) ?_ ?_);rotate_left 2;exact rfl)|((with_reducible refine Xb (a:=?_) ?_ ?_);rotate_left 1;exact rfl))
        (with_reducible refine hlo _ _ hok hh9 ?_)
        repeat (first|((with_reducible first|refine Yb (d:=?_) ?_ ?_|refine Yc (b:=?_) ?_ ?_);rotate_left 1;exact rfl)|((with_reducible refine Yr (d:=?_) (e:=?_) ?_ ?_ ?_);rotate_left 2;exact rfl;exact rfl)|(with_reducible refine Uc ?_))
        (with_reducible refine BoolW_dec (fun hk => ?_) (fun hk => ?_))
        · repeat (first|((with_reducible refine Yb (d:=?_) ?_ ?_);rotate_left 1;exact rfl)|(with_reducible first|refine J2 ?_|refine J6 ?_|refine J7 ?_|refine J8 ?_|refine J9 ?_|refine Jb ?_|refine Jj ?_)|((with_reducible refine Yy (d:=?_) (s:=?_) ?_ ?_);rotate_left 2;exact rfl)|((with_reducible refine Xb (a:=?_) ?_ ?_);rotate_left 1;exact rfl))
          (with_reducible refine hrr _ _ hok hh9 ?_)
          repeat (first|((with_reducible refine Yc (b:=?_) ?_ ?_);rotate_left 1;exact rfl)|((with_reducible refine Yr (d:=?_) (e:=?_) ?_ ?_ ?_);rotate_left 2;exact rfl;exact rfl)|(with_reducible first|refine J1 ?_|refine Uc ?_))
          (with_reducible refine BoolW_dec (fun hk2 => ?_) (fun hk2 => ?_))
          · have gd : Gd s := by
              refine ⟨hok, by omega, ?_⟩
              have e : lc s = min (ls s + ns s) CC := rfl
              have := CCe
              omega
            cases s with
            | i k =>
              show Wp _ [.ow t3, .fr (.int most), .ow (.list (menu36.map Sh.d)), .fr e, .fr (.int k)] _
              repeat (first|((with_reducible first|refine Yb (d:=?_) ?_ ?_|refine Yl (a:=?_) ?_ ?_|refine Yn (b:=?_) ?_ ?_);rotate_left 1;exact rfl)|(with_reducible first|refine Je ?_|refine Jh ?_|refine Ji ?_|refine Jo ?_|refine U8 ?_|refine Ua ?_)|((with_reducible refine Xb (a:=?_) ?_ ?_);rotate_left 1;exact rfl))
              exact ⟨t3, _, _, rfl, ht3⟩
            | p a b =>
              have := hQ _ t3 gd hh9 ht3
              show Wp _ [.ow t3, .fr (.int most), .ow (.list (menu36.map Sh.d)), .fr e, .fr (.tuple [.str "pair", a.d, b.d])] _
              repeat (first|((with_reducible first|refine Yb (d:=?_) ?_ ?_|refine Yl (a:=?_) ?_ ?_|refine Yn (b:=?_) ?_ ?_);rotate_left 1;exact rfl)|((with_reducible refine Ys (d:=?_) (o:=?_) ?_ ?_ ?_);rotate_left 2;exact rfl;exact rfl)|(with_reducible first|refine J5 ?_|refine Jh ?_|refine Ji ?_|refine Jo ?_|refine U9 ?_|refine Ua ?_)|((with_reducible refine Xb (a:=?_) ?_ ?_);rotate_left 1;exact rfl))
              exact this
            | f a b =>
              have := hQ _ t3 gd hh9 ht3
              show Wp _ [.ow t3, .fr (.int most), .ow (.list (menu36.map Sh.d)), .fr e, .fr (.tuple [.str "to", a.d, b.d])] _
              repeat (first|((with_reducible first|refine Yb (d:=?_) ?_ ?_|refine Yl (a:=?_) ?_ ?_|refine Yn (b:=?_) ?_ ?_);rotate_left 1;exact rfl)|((with_reducible refine Ys (d:=?_) (o:=?_) ?_ ?_ ?_);rotate_left 2;exact rfl;exact rfl)|(with_reducible first|refine J5 ?_|refine Jh ?_|refine Ji ?_|refine Jo ?_|refine U9 ?_|refine Ua ?_)|((with_reducible refine Xb (a:=?_) ?_ ?_);rotate_left 1;exact rfl))
              exact this
          · repeat (first|(with_reducible first|refine Je ?_|refine U9 ?_))
            exact ⟨t3, _, _, rfl, ht3⟩
        · repeat (first|(with_reducible first|refine Je ?_|refine U9 ?_))
          exact ⟨t3, _, _, rfl, ht3⟩
    · rintro s ⟨t2, x3, x4, rfl, ht2⟩
      repeat (first|((with_reducible first|refine Yb (d:=?_) ?_ ?_|refine Ye (d:=?_) ?_ ?_);rotate_left 1;exact rfl)|(with_reducible first|refine J5 ?_|refine J6 ?_|refine J7 ?_|refine J8 ?_|refine Jb ?_)|((with_reducible refine Yv (d:=?_) ?_ ?_);rotate_left 1;exact rfl)|((with_reducible refine Yy (d:=?_) (s:=?_) ?_ ?_);rotate_left 2;exact rfl)|((with_reducible refine Xb (a:=?_) ?_ ?_);rotate_left 1;exact rfl))
      (with_reducible refine hp _ _ _ ht2 menu_ne menu_len fun x t3 hx ht3 => ?_)
      obtain ⟨s, rfl, hg, h9⟩ := menu_gd hx
      repeat (first|((with_reducible refine Ys (d:=?_) (o:=?_) ?_ ?_ ?_);rotate_left 2;exact rfl;exact rfl))
      exact hQ _ _ hg h9 ht3
    all_goals first
      | omega
      | exact seven
end G36

set_option Elab.async false
set_option linter.all false
set_option maxRecDepth 100000
set_option maxHeartbeats 2000000
namespace G36
open PySem PySem.Spec PyProof.Rows L2.Zd L2.Zd.Lib
abbrev lkD (s : Sh) : D := .list ((lkA s).map .tuple)
abbrev foD (fs : List Fo) : D := .tuple (fs.map fd)
theorem lk_at {s : Sh} (h : Gd s) {i : Nat} {x : D} (e : ((lkA s).map PyData.tuple)[i]? = some x) : ∃ m n, x = .tuple m ∧ (lasA s)[i]? = some n ∧ La s m n ∧ 1 ≤ n ∧ n ≤ 1000 := by
  rw [List.getElem?_map] at e
  obtain ⟨m, hm, rfl⟩ := Option.map_eq_some_iff.mp e
  obtain ⟨n, hn, hl⟩ := (lkA_la h).at_ hm
  exact ⟨m, n, rfl, hn, hl, lasA_bnd h.ok n (List.mem_of_getElem? hn)⟩
theorem lk_len {s : Sh} (h : Gd s) : ((lkA s).map PyData.tuple).length = lc s := by rw [List.length_map, lkA_len h]
theorem lc_le300 {s : Sh} (h : Gd s) : lc s ≤ 301 := by
  have := h.ls_
  rw [h.lcE]; unfold ns; split <;> omega
theorem okf_len {s : Sh} (h : Gd s) {fs : List Fo} (k : Okf s fs) : fs.length = lc s := by rw [← k.len, lasA_len h]
/-! ### bent -/
abbrev fBent (d la pt oa : FM) : FM := mkF 7 io_l_k36_bent (b_l_k36_bent d la pt oa)
abbrev BentS (f : FM) : Prop := ∀ (t : D) (s : Sh) (fs : List Fo) (Q : Bool → D → List D → Prop), Tp t → Gd s → Okf s fs → (∀ (gs : List Fo) (t' : D), Okf s gs → Tp t' → Q false (foD gs) [t']) → FnP f [t, s.d, lkD s, foD fs] Q
theorem bent_s {d oa : FM} (hd : DrawS d) (hoa : OutAtS oa) : BentS (fBent d f_l_look_last f_l_put oa) := by
  intro t s fs Q ht hs hk hQ
  have hL := lk_len hs
  have hp := lc_pos hs
  have h3 := lc_le300 hs
  (with_reducible refine FnP_mk [.ow t, .fr s.d, .fr (lkD s), .fr (foD fs), .no, .no, .no] [0] ?_ ?_ ?_)
  · rfl
  · rfl
  unfold b_l_k36_bent
  repeat (first|((with_reducible refine Ye (d:=?_) ?_ ?_);rotate_left 1;exact rfl)|(with_reducible first|refine J0 ?_|refine J1 ?_|refine J2 ?_|refine J6 ?_|refine J7 ?_|refine J8 ?_|refine Jb ?_|refine Jx ?_|refine U7 ?_)|((with_reducible refine Xb (a:=?_) ?_ ?_);rotate_left 1;exact rfl))
  (with_reducible refine hd _ _ _ ht (by omega) fun k t1 ht1 k0 k1 => ?_)
  repeat (first|((with_reducible refine Yj (n:=?_) ?_ ?_ ?_);rotate_left 1;exact rfl)|((with_reducible refine Yr (d:=?_) (e:=?_) ?_ ?_ ?_);rotate_left 2;exact rfl;exact rfl)|(with_reducible refine J8 ?_)|((with_reducible refine Yy (d:=?_) (s:=?_) ?_ ?_);rotate_left 2;exact rfl)|((with_reducible refine Xb (a:=?_) ?_ ?_);rotate_left 1;exact rfl))
  refine fl_inv (fun rest st => ∃ (t' : D) (gs : List Fo) (x4 x5 x6 : Sl), st = [.ow t', .fr s.d, .fr (lkD s), .fr (foD gs), x4, x5, x6] ∧ Tp t' ∧ Okf s gs) ⟨t1, fs, _, _, _, rfl, ht1, hk⟩ ?_ ?_
  · rintro e rest st ⟨t2, gs, x4, x5, x6, rfl, ht2, hg⟩
    have hgl := okf_len hs hg
    repeat (first|((with_reducible first|refine Yb (d:=?_) ?_ ?_|refine Ye (d:=?_) ?_ ?_|refine Yl (a:=?_) ?_ ?_);rotate_left 1;exact rfl)|(with_reducible first|refine J0 ?_|refine J3 ?_|refine J7 ?_|refine J8 ?_|refine Ja ?_|refine Jb ?_)|((with_reducible refine Xb (a:=?_) ?_ ?_);rotate_left 1;exact rfl))
    (with_reducible refine hd _ _ _ ht2 (by omega) fun r t3 ht3 r0 r1 => ?_)
    repeat (first|((with_reducible refine Yb (d:=?_) ?_ ?_);rotate_left 1;exact rfl)|((with_reducible refine Yr (d:=?_) (e:=?_) ?_ ?_ ?_);rotate_left 2;exact rfl;exact rfl)|(with_reducible first|refine J0 ?_|refine J2 ?_|refine J3 ?_|refine J6 ?_|refine J7 ?_|refine Jb ?_)|((with_reducible refine Yy (d:=?_) (s:=?_) ?_ ?_);rotate_left 2;exact rfl)|((with_reducible refine Xb (a:=?_) ?_ ?_);rotate_left 1;exact rfl))
    refine o_ixl ⟨r0, by omega⟩ fun x _ hx => ?_
    obtain ⟨m, n, rfl, hn, hla, n0, n1⟩ := lk_at hs hx
    repeat (first|(with_reducible refine J8 ?_)|((with_reducible refine Xb (a:=?_) ?_ ?_);rotate_left 1;exact rfl))
    (with_reducible refine last_s _ _ _ _ hla ?_)
    repeat (first|((with_reducible first|refine Yb (d:=?_) ?_ ?_|refine Ye (d:=?_) ?_ ?_);rotate_left 1;exact rfl)|((with_reducible refine Yr (d:=?_) (e:=?_) ?_ ?_ ?_);rotate_left 2;exact rfl;exact rfl)|(with_reducible first|refine J1 ?_|refine J2 ?_|refine J3 ?_|refine J6 ?_|refine J7 ?_|refine J8 ?_|refine Jb ?_)|((with_reducible refine Yy (d:=?_) (s:=?_) ?_ ?_);rotate_left 2;exact rfl)|((with_reducible refine Xb (a:=?_) ?_ ?_);rotate_left 1;exact rfl))
    (with_reducible refine hd _ _ _ ht3 (by omega) fun q t4 ht4 q0 q1 => ?_)
    repeat (first|(with_reducible refine J8 ?_)|((with_reducible refine Yy (d:=?_) (s:=?_) ?_ ?_);rotate_left 2;exact rfl)|((with_reducible refine Xb (a:=?_) ?_ ?_);rotate_left 1;exact rfl))
    (with_reducible refine hoa _ _ _ n0 n1 q0 (by omega) fun o ho => ?_)
    repeat (first|(with_reducible refine J8 ?_)|((with_reducible refine Yy (d:=?_) (s:=?_) ?_ ?_);rotate_left 2;exact rfl)|((with_reducible refine Xb (a:=?_) ?_ ?_);rotate_left 1;exact rfl))
    (with_reducible refine put_s ⟨r0, ?_⟩ ?_ ?_)
    · rw [List.length_map, hgl]; omega
    · rw [List.length_map, hgl]; omega
    rw [← List.map_set]
    repeat (first|((with_reducible refine Xb (a:=?_) ?_ ?_);rotate_left 1;exact rfl))
    exact ⟨t4, gs.set r.toNat o, _, _, _, rfl, ht4, All2.set hg hn ho⟩
  · rintro st ⟨t2, gs, x4, x5, x6, rfl, ht2, hg⟩
    repeat (first|((with_reducible refine Yb (d:=?_) ?_ ?_);rotate_left 1;exact rfl)|((with_reducible refine Ys (d:=?_) (o:=?_) ?_ ?_ ?_);rotate_left 2;exact rfl;exact rfl)|(with_reducible refine J5 ?_))
    exact hQ _ _ hg ht2
  all_goals first
    | omega
    | (rw [size24, hL]; omega)
/-! ### drawn -/
abbrev fDrawn (d be so la : FM) : FM := mkF 6 io_l_k36_drawn (b_l_k36_drawn d be so la)
abbrev DrwS (f : FM) : Prop := ∀ (t : D) (s : Sh) (Q : Bool → D → List D → Prop), Tp t → Gd s → (∀ (gs : List Fo) (t' : D), Okf s gs → Tp t' → Q false (foD gs) [t']) → FnP f [t, s.d, lkD s] Q
theorem map_const_er (k : Nat) (l : List D) : l.map (fun _ => er k) = (List.replicate l.length ((true, k) : Fo)).map fd := by
  induction l with
  | nil => rfl
  | cons x l ih => rw [List.map_cons, ih]; rfl
theorem okf_rep {s : Sh} (h : Gd s) {k : Nat} (hk : k < 2) : Okf s (List.replicate ((lkA s).map PyData.tuple).length (true, k)) := by
  rw [lk_len h]
  exact all2_rep (lasA_len h) fun _ => hk
theorem drawn_s {d be so : FM} (hd : DrawS d) (hbe : BentS be) (hso : DrawOS so 9) : DrwS (fDrawn d be so f_l_look_last) := by
  intro t s Q ht hs hQ
  have hL := lk_len hs
  have hp := lc_pos hs
  have h3 := lc_le300 hs
  (with_reducible refine FnP_mk [.ow t, .fr s.d, .fr (lkD s), .no, .no, .no] [0] ?_ ?_ ?_)
  · rfl
  · rfl
  unfold b_l_k36_drawn
  repeat (first|((with_reducible refine Ye (d:=?_) ?_ ?_);rotate_left 1;exact rfl)|(with_reducible first|refine J0 ?_|refine J1 ?_|refine J3 ?_|refine J7 ?_|refine J8 ?_|refine Jb ?_)|((with_reducible refine Xb (a:=?_) ?_ ?_);rotate_left 1;exact rfl))
  (with_reducible refine hd _ _ _ ht (by omega) fun k t1 ht1 k0 k1 => ?_)
  repeat (first|((with_reducible refine Ye (d:=?_) ?_ ?_);rotate_left 1;exact rfl)|(with_reducible first|refine J0 ?_|refine J1 ?_|refine J3 ?_|refine J6 ?_|refine J7 ?_|refine J8 ?_|refine Jb ?_|refine Jc ?_)|((with_reducible refine Xb (a:=?_) ?_ ?_);rotate_left 1;exact rfl))
  (with_reducible refine hd _ _ _ ht1 (by omega) fun e t2 ht2 e0 e1 => ?_)
  have he : e = ((e.toNat : Nat) : Int) := by omega
  have he2 : e.toNat < 2 := by omega
  rw [he]
  generalize e.toNat = en at he2
  clear he e0 e1
  repeat (first|((with_reducible first|refine Yb (d:=?_) ?_ ?_|refine Yc (b:=?_) ?_ ?_);rotate_left 1;exact rfl)|((with_reducible refine Yr (d:=?_) (e:=?_) ?_ ?_ ?_);rotate_left 2;exact rfl;exact rfl)|(with_reducible first|refine J0 ?_|refine J1 ?_|refine J2 ?_|refine J4 ?_|refine J8 ?_|refine J9 ?_|refine Uh ?_)|((with_reducible refine Yy (d:=?_) (s:=?_) ?_ ?_);rotate_left 2;exact rfl)|((with_reducible refine Xb (a:=?_) ?_ ?_);rotate_left 1;exact rfl)|((with_reducible refine And.intro ?_ ?_);first|exact Nat.le_of_ble_eq_true rfl|exact rfl))
  (with_reducible refine BoolW_dec (fun hk => ?_) (fun hk => ?_))
  · repeat (first|((with_reducible first|refine Yb (d:=?_) ?_ ?_|refine Yd (ds:=?_) ?_ ?_);rotate_left 1;exact rfl)|(with_reducible first|refine J5 ?_|refine J6 ?_|refine J7 ?_|refine Ja ?_|refine Jw ?_|refine Jz ?_)|((with_reducible refine Yy (d:=?_) (s:=?_) ?_ ?_);rotate_left 2;exact rfl)|((with_reducible refine And.intro ?_ ?_);first|exact Nat.le_of_ble_eq_true rfl|exact rfl))
    refine lc_pure (fun _ => er en) (fun _ => true) ?_ ?_ ?_
    · intro x hx
      repeat (first|((with_reducible refine Yb (d:=?_) ?_ ?_);rotate_left 1;exact rfl)|(with_reducible first|refine J6 ?_|refine U0 ?_|refine U8 ?_)|((with_reducible refine Yy (d:=?_) (s:=?_) ?_ ?_);rotate_left 2;exact rfl)|((with_reducible refine Xb (a:=?_) ?_ ?_);rotate_left 1;exact rfl)|((with_reducible refine And.intro ?_ ?_);first|exact Nat.le_of_ble_eq_true rfl|exact rfl))
      rfl
    · rw [size24, hL]; omega
    rw [filtT, map_const_er]
    repeat (first|((with_reducible refine Yl (a:=?_) ?_ ?_);rotate_left 1;exact rfl)|((with_reducible refine Ys (d:=?_) (o:=?_) ?_ ?_ ?_);rotate_left 2;exact rfl;exact rfl)|(with_reducible refine J8 ?_)|((with_reducible refine Xb (a:=?_) ?_ ?_);rotate_left 1;exact rfl))
    exact hQ _ _ (okf_rep hs he2) ht2
  · repeat (first|((with_reducible first|refine Yb (d:=?_) ?_ ?_|refine Yc (b:=?_) ?_ ?_);rotate_left 1;exact rfl)|((with_reducible refine Yr (d:=?_) (e:=?_) ?_ ?_ ?_);rotate_left 2;exact rfl;exact rfl)|(with_reducible first|refine J0 ?_|refine J1 ?_|refine J2 ?_|refine J4 ?_|refine J9 ?_|refine Je ?_|refine Uh ?_))
    (with_reducible refine BoolW_dec (fun hk2 => ?_) (fun hk2 => ?_))
    · repeat (first|((with_reducible first|refine Yb (d:=?_) ?_ ?_|refine Yd (ds:=?_) ?_ ?_|refine Ye (d:=?_) ?_ ?_);rotate_left 1;exact rfl)|(with_reducible first|refine J5 ?_|refine J6 ?_|refine J7 ?_|refine Ja ?_|refine Jb ?_|refine Jw ?_|refine Jz ?_)|((with_reducible refine Yy (d:=?_) (s:=?_) ?_ ?_);rotate_left 2;exact rfl)|((with_reducible refine And.intro ?_ ?_);first|exact Nat.le_of_ble_eq_true rfl|exact rfl))
      refine lc_pure (fun _ => er en) (fun _ => true) ?_ ?_ ?_
      · intro x hx
        repeat (first|((with_reducible refine Yb (d:=?_) ?_ ?_);rotate_left 1;exact rfl)|(with_reducible first|refine J6 ?_|refine U0 ?_|refine U8 ?_)|((with_reducible refine Yy (d:=?_) (s:=?_) ?_ ?_);rotate_left 2;exact rfl)|((with_reducible refine Xb (a:=?_) ?_ ?_);rotate_left 1;exact rfl)|((with_reducible refine And.intro ?_ ?_);first|exact Nat.le_of_ble_eq_true rfl|exact rfl))
        rfl
      · rw [size24, hL]; omega
      rw [filtT, map_const_er]
      repeat (first|((with_reducible refine Yl (a:=?_) ?_ ?_);rotate_left 1;exact rfl)|(with_reducible refine J8 ?_)|((with_reducible refine Xb (a:=?_) ?_ ?_);rotate_left 1;exact rfl))
      (with_reducible refine hbe _ _ _ _ ht2 hs (okf_rep hs he2) fun gs t3 hg ht3 => ?_)
      repeat (first|((with_reducible refine Ys (d:=?_) (o:=?_) ?_ ?_ ?_);rotate_left 2;exact rfl;exact rfl))
      exact hQ _ _ hg ht3
    · repeat (first|((with_reducible first|refine Yb (d:=?_) ?_ ?_|refine Yd (ds:=?_) ?_ ?_);rotate_left 1;exact rfl)|(with_reducible first|refine J5 ?_|refine J6 ?_|refine J7 ?_|refine Ja ?_|refine Je ?_|refine Jw ?_|refine Jz ?_)|((with_reducible refine Yy (d:=?_) (s:=?_) ?_ ?_);rotate_left 2;exact rfl)|((with_reducible refine And.intro ?_ ?_);first|exact Nat.le_of_ble_eq_true rfl|exact rfl))
      refine lc_inv (fun rest acc st => ∃ (t' : D) (ms : List (List D)) (n0 n1 : List Nat) (gs : List Fo), rest = ms.map PyData.tuple ∧ st = [.ow t', .fr s.d, .fr (lkD s), .fr (.int k), .fr (er en), .no] ∧ Tp t' ∧ All2 (La s) ms n1 ∧ n0 ++ n1 = lasA s ∧ All2 bnd n0 gs ∧ acc = gs.map fd) ⟨t2, lkA s, [], lasA s, [], rfl, rfl, ht2, lkA_la hs, rfl, .nil, rfl⟩ ?_ ?_
      · rintro x rest acc st ⟨t3, ms, n0, n1, gs, hr, rfl, ht3, h1, h2, h4, rfl⟩
        cases h1 with
        | nil => cases hr
        | cons hla h1 =>
          rename_i m n ms n1
          cases hr
          have hnb : 1 ≤ n ∧ n ≤ 1000 := lasA_bnd hs.ok n (by rw [← h2]; exact List.mem_append_right _ List.mem_cons_self)
          have hgl : gs.length ≤ 301 := by
            have := congrArg List.length h2
            rw [List.length_append, lasA_len hs] at this
            rw [← h4.len]; omega
          have hok : (Sh.i n).ok := hnb
          repeat (first|((with_reducible first|refine Yb (d:=?_) ?_ ?_|refine Ye (d:=?_) ?_ ?_);rotate_left 1;exact rfl)|(with_reducible first|refine J6 ?_|refine J7 ?_|refine J8 ?_|refine Jb ?_|refine U0 ?_|refine U8 ?_)|((with_reducible refine Yy (d:=?_) (s:=?_) ?_ ?_);rotate_left 2;exact rfl)|((with_reducible refine Xb (a:=?_) ?_ ?_);rotate_left 1;exact rfl))
          (with_reducible refine last_s _ _ _ _ hla ?_)
          repeat (first|(with_reducible refine J8 ?_)|((with_reducible refine Yy (d:=?_) (s:=?_) ?_ ?_);rotate_left 2;exact rfl)|((with_reducible refine Xb (a:=?_) ?_ ?_);rotate_left 1;exact rfl))
          show FnP so [t3, (Sh.i n).d] _
          (with_reducible refine hso _ (.i n) _ ht3 hok (Nat.zero_le _) (Nat.zero_le _) fun y t4 hy ht4 => ?_)
          obtain ⟨fs, hfy⟩ := hy
          obtain ⟨o, ho, rfl⟩ := fa_int hfy
          repeat (first|((with_reducible refine Yk (y:=?_) ?_ ?_ ?_);rotate_left 1;exact rfl)|((with_reducible refine Yy (d:=?_) (s:=?_) ?_ ?_);rotate_left 2;exact rfl))
          · exact ⟨t4, ms, n0 ++ [n], n1, gs ++ [o], rfl, rfl, ht4, h1, by rw [List.append_assoc]; exact h2, h4.app (.cons ho .nil), by rw [List.map_append]; rfl⟩
          · rw [size24, List.length_map]; omega
      · rintro acc st ⟨t3, ms, n0, n1, gs, hr, rfl, ht3, h1, h2, h4, rfl⟩
        have hms : ms = [] := by cases ms with
          | nil => rfl
          | cons _ _ => cases hr
        subst hms
        cases h1
        rw [List.append_nil] at h2
        subst h2
        repeat (first|((with_reducible refine Yl (a:=?_) ?_ ?_);rotate_left 1;exact rfl)|((with_reducible refine Ys (d:=?_) (o:=?_) ?_ ?_ ?_);rotate_left 2;exact rfl;exact rfl)|(with_reducible refine J8 ?_)|((with_reducible refine Xb (a:=?_) ?_ ?_);rotate_left 1;exact rfl))
        exact hQ _ _ h4 ht3
/-! ### asked -/
abbrev fAsked (pf ld sm fi : FM) : FM := mkF 6 io_l_k36_asked (b_l_k36_asked pf ld sm fi)
abbrev AskS (f : FM) : Prop := ∀ (s : Sh) (fs : List Fo) (Q : Bool → D → List D → Prop), Gd s → s.h ≤ 9 → Okf s fs → Q false (.bool true) [] → FnP f [s.d, lkD s, foD fs] Q
theorem asked_s {pf ld sm fi : FM} (hpf : DecS pf 9) (hld : DecS ld 9) (hsm : SameS sm 19) (hfi : FindS fi 9) : AskS (fAsked pf ld sm fi) := by
  intro s fs Q hs hh hk hQ
  have hL := lk_len hs
  have h3 := lc_le300 hs
  have hl := okf_len hs hk
  (with_reducible refine FnP_mk [.fr s.d, .fr (lkD s), .fr (foD fs), .no, .no, .no] [] ?_ ?_ ?_)
  · rfl
  · rfl
  unfold b_l_k36_asked
  repeat (first|((with_reducible refine Yb (d:=?_) ?_ ?_);rotate_left 1;exact rfl)|(with_reducible first|refine J0 ?_|refine J3 ?_|refine J6 ?_|refine J7 ?_|refine J8 ?_|refine Jb ?_)|((with_reducible refine Yy (d:=?_) (s:=?_) ?_ ?_);rotate_left 2;exact rfl)|((with_reducible refine Xb (a:=?_) ?_ ?_);rotate_left 1;exact rfl))
  (with_reducible refine hpf _ _ _ hs hh hl ?_)
  repeat (first|((with_reducible refine Yb (d:=?_) ?_ ?_);rotate_left 1;exact rfl)|(with_reducible first|refine J0 ?_|refine J3 ?_|refine J6 ?_|refine J7 ?_|refine J8 ?_|refine Jb ?_)|((with_reducible refine Yy (d:=?_) (s:=?_) ?_ ?_);rotate_left 2;exact rfl)|((with_reducible refine Xb (a:=?_) ?_ ?_);rotate_left 1;exact rfl))
  (with_reducible refine hld _ _ _ hs hh hl ?_)
  repeat (first|((with_reducible refine Yb (d:=?_) ?_ ?_);rotate_left 1;exact rfl)|(with_reducible first|refine J0 ?_|refine J4 ?_|refine J6 ?_|refine J7 ?_|refine J8 ?_|refine Jb ?_|refine Jh ?_|refine Ji ?_)|((with_reducible refine Yy (d:=?_) (s:=?_) ?_ ?_);rotate_left 2;exact rfl)|((with_reducible refine Xb (a:=?_) ?_ ?_);rotate_left 1;exact rfl))
  (with_reducible refine hsm _ _ ((optO_plain hs fs).mono (by omega)) ?_)
  repeat (first|((with_reducible first|refine Yb (d:=?_) ?_ ?_|refine Yc (b:=?_) ?_ ?_|refine Yl (a:=?_) ?_ ?_);rotate_left 1;exact rfl)|((with_reducible refine Yr (d:=?_) (e:=?_) ?_ ?_ ?_);rotate_left 2;exact rfl;exact rfl)|(with_reducible first|refine J0 ?_|refine J1 ?_|refine J2 ?_|refine J4 ?_|refine J9 ?_|refine Je ?_|refine U8 ?_|refine Ua ?_)|((with_reducible refine X6 ?_ ?_);exact rfl)|((with_reducible refine X9 ?_ ?_);exact rfl)|((with_reducible refine Xb (a:=?_) ?_ ?_);rotate_left 1;exact rfl))
  cases e : decO s fs with
  | none =>
    show BoolW (isNoneD .none) _ _
    repeat (first|((with_reducible refine Ys (d:=?_) (o:=?_) ?_ ?_ ?_);rotate_left 2;exact rfl;exact rfl)|(with_reducible first|refine J1 ?_|refine J5 ?_)|((with_reducible refine X6 ?_ ?_);exact rfl))
    exact hQ
  | some x =>
    have hfa := decO_fa hs hk e
    obtain ⟨ds, hds⟩ := decO_tup e
    have hfd := fa_fd hs hfa
    clear e hfa
    subst hds
    show BoolW (isNoneD (.tuple ds)) _ _
    repeat (first|((with_reducible first|refine Yb (d:=?_) ?_ ?_|refine Yd (ds:=?_) ?_ ?_);rotate_left 1;exact rfl)|(with_reducible first|refine J2 ?_|refine J5 ?_|refine J6 ?_|refine J7 ?_|refine Ja ?_|refine Je ?_|refine Jw ?_|refine Jz ?_)|((with_reducible refine Yy (d:=?_) (s:=?_) ?_ ?_);rotate_left 2;exact rfl)|((with_reducible refine X6 ?_ ?_);exact rfl)|((with_reducible refine X9 ?_ ?_);exact rfl)|((with_reducible refine And.intro ?_ ?_);first|exact Nat.le_of_ble_eq_true rfl|exact rfl))
    refine lc_inv (fun rest acc st => ∃ (ms : List (List D)) (g0 g1 : List Fo), rest = ms.map PyData.tuple ∧ st = [.fr s.d, .fr (lkD s), .fr (foD fs), .fr (.tuple ds), .fr (.tuple ds), .no] ∧ All2 (fun m f => Fd s m (.tuple ds) f) ms g1 ∧ g0 ++ g1 = fs ∧ acc = g0.map fd) ⟨lkA s, [], fs, rfl, rfl, hfd, rfl, rfl⟩ ?_ ?_
    · rintro x rest acc st ⟨ms, g0, g1, hr, rfl, h1, h2, rfl⟩
      cases h1 with
      | nil => cases hr
      | cons hf h1 =>
        rename_i m o ms g1
        cases hr
        have hgl : g0.length ≤ 301 := by
          have := congrArg List.length h2
          rw [List.length_append, hl] at this
          omega
        repeat (first|((with_reducible refine Yb (d:=?_) ?_ ?_);rotate_left 1;exact rfl)|(with_reducible first|refine J6 ?_|refine J7 ?_|refine J8 ?_|refine Jb ?_|refine U0 ?_|refine U8 ?_)|((with_reducible refine Yy (d:=?_) (s:=?_) ?_ ?_);rotate_left 2;exact rfl)|((with_reducible refine Xb (a:=?_) ?_ ?_);rotate_left 1;exact rfl))
        (with_reducible refine hfi _ _ _ _ _ hs.ok hh hf ?_)
        repeat (first|((with_reducible refine Yk (y:=?_) ?_ ?_ ?_);rotate_left 1;exact rfl)|((with_reducible refine Yy (d:=?_) (s:=?_) ?_ ?_);rotate_left 2;exact rfl))
        · exact ⟨ms, g0 ++ [o], g1, rfl, rfl, h1, by rw [List.append_assoc]; exact h2, by rw [List.map_append]; rfl⟩
        · rw [size24, List.length_map]; omega
    · rintro acc st ⟨ms, g0, g1, hr, rfl, h1, h2, rfl⟩
      have hms : ms = [] := by cases ms with
        | nil => rfl
        | cons _ _ => cases hr
      subst hms
      cases h1
      rw [List.append_nil] at h2
      subst h2
      have hsh : SeqAt.shaped (.tuple (g0.map fd)) = true := shaped_tup (n := 1) (fds_plain (n := 0) g0) (by rw [List.length_map]; omega) (by omega)
      repeat (first|((with_reducible first|refine Yb (d:=?_) ?_ ?_|refine Yl (a:=?_) ?_ ?_);rotate_left 1;exact rfl)|((with_reducible refine Yr (d:=?_) (e:=?_) ?_ ?_ ?_);rotate_left 2;exact rfl;exact rfl)|(with_reducible refine J8 ?_)|((with_reducible refine Xb (a:=?_) ?_ ?_);rotate_left 1;exact rfl))
      refine o_eqg ?_ ⟨hsh, hsh⟩ (fun x e => nomatch e)
      rw [eqv_tup, eqv_fds]
      repeat (first|((with_reducible refine Ys (d:=?_) (o:=?_) ?_ ?_ ?_);rotate_left 2;exact rfl;exact rfl))
      exact hQ
end G36

set_option Elab.async false
set_option linter.all false
set_option maxRecDepth 100000
set_option maxHeartbeats 2000000
namespace G36
open PySem PySem.Spec PyProof.Rows L2.Zd L2.Zd.Lib
theorem i_stow_in {j : Nat} {x : Vt} {k : Option D} {o : Option Sl} {s : DS} {N : DS → Prop} {d : D} {n : Int} {xs : List D} (e1 : x = .fr d) (e2 : k = some (.int n)) (e3 : o = some (.ow (.list xs))) (c : 0 ≤ n ∧ n < xs.length) (h : N (s.set j (.ow (.list (xs.set n.toNat d))))) : StoW j x k o s N :=
  X4 e1 e2 e3 (ixN_in c.1 c.2) h
def RowOk (s : Sh) (x : D) : Prop := ∃ fs, x = foD fs ∧ Okf s fs
abbrev fLaw (sh la so fi be d dr tu as : FM) : FM := mkF 10 io_law (b_law f_l_tape sh la so fi be d dr tu as)
theorem law_s {sh la so fi be d dr tu as : FM} (hsh : K36S sh) (hla : LkAS la 9) (hso : DrawOS so 9) (hfi : FindS fi 9) (hbe : BentS be) (hd : DrawS d) (hdr : DrwS dr) (htu : TurnsS tu) (has : AskS as) (ns : List Int) : FnP (fLaw sh la so fi be d dr tu as) [.list (ns.map .int)] fun b v o => b = false ∧ v = .bool true ∧ o = [] := by
  (with_reducible refine FnP_mk [.fr (.list (ns.map .int)), .no, .no, .no, .no, .no, .no, .no, .no, .no] [] ?_ ?_ ?_)
  · rfl
  · rfl
  unfold b_law
  repeat (first|((with_reducible refine Yb (d:=?_) ?_ ?_);rotate_left 1;exact rfl)|(with_reducible first|refine J0 ?_|refine J3 ?_|refine J6 ?_|refine J7 ?_|refine J8 ?_|refine Jb ?_)|((with_reducible refine Yy (d:=?_) (s:=?_) ?_ ?_);rotate_left 2;exact rfl)|((with_reducible refine Xb (a:=?_) ?_ ?_);rotate_left 1;exact rfl))
  (with_reducible refine tape_s ns fun t ht => ?_)
  repeat (first|((with_reducible refine Ye (d:=?_) ?_ ?_);rotate_left 1;exact rfl)|(with_reducible first|refine J0 ?_|refine J3 ?_|refine J7 ?_|refine J8 ?_|refine Jb ?_)|((with_reducible refine Xb (a:=?_) ?_ ?_);rotate_left 1;exact rfl))
  (with_reducible refine hsh _ _ ht fun s t1 hs hh ht1 => ?_)
  repeat (first|((with_reducible refine Yb (d:=?_) ?_ ?_);rotate_left 1;exact rfl)|(with_reducible first|refine J0 ?_|refine J3 ?_|refine J6 ?_|refine J7 ?_|refine J8 ?_|refine Jb ?_)|((with_reducible refine Yy (d:=?_) (s:=?_) ?_ ?_);rotate_left 2;exact rfl)|((with_reducible refine Xb (a:=?_) ?_ ?_);rotate_left 1;exact rfl))
  (with_reducible refine hla _ _ hs hh ?_)
  repeat (first|((with_reducible first|refine Yb (d:=?_) ?_ ?_|refine Ye (d:=?_) ?_ ?_);rotate_left 1;exact rfl)|(with_reducible first|refine J0 ?_|refine J3 ?_|refine J6 ?_|refine J7 ?_|refine J8 ?_|refine Jb ?_)|((with_reducible refine Yy (d:=?_) (s:=?_) ?_ ?_);rotate_left 2;exact rfl)|((with_reducible refine Xb (a:=?_) ?_ ?_);rotate_left 1;exact rfl))
  (with_reducible refine hso _ _ _ ht1 hs.ok hs.rw_ hh fun one t2 hone ht2 => ?_)
  obtain ⟨fs, hfa⟩ := hone
  have hfd := fa_fd hs hfa
  have hok := hfa.okf hs
  have hl := okf_len hs hok
  have h3 := lc_le300 hs
  repeat (first|((with_reducible first|refine Yb (d:=?_) ?_ ?_|refine Yd (ds:=?_) ?_ ?_);rotate_left 1;exact rfl)|(with_reducible first|refine J0 ?_|refine J3 ?_|refine J6 ?_|refine J7 ?_|refine Ja ?_|refine Jw ?_|refine Jz ?_)|((with_reducible refine Yv (d:=?_) ?_ ?_);rotate_left 1;exact rfl)|((with_reducible refine Yy (d:=?_) (s:=?_) ?_ ?_);rotate_left 2;exact rfl)|((with_reducible refine Xb (a:=?_) ?_ ?_);rotate_left 1;exact rfl)|((with_reducible refine And.intro ?_ ?_);first|exact Nat.le_of_ble_eq_true rfl|exact rfl))
  refine lc_inv (fun rest acc st => ∃ (ms : List (List D)) (g0 g1 : List Fo), rest = ms.map PyData.tuple ∧ st = [.fr (.list (ns.map .int)), .ow t2, .fr s.d, .fr (lkD s), .fr one, .no, .no, .no, .no, .no] ∧ All2 (fun m f => Fd s m one f) ms g1 ∧ g0 ++ g1 = fs ∧ acc = g0.map fd) ⟨lkA s, [], fs, rfl, rfl, hfd, rfl, rfl⟩ ?_ ?_
  · rintro x rest acc st ⟨ms, g0, g1, hr, rfl, h1, h2, rfl⟩
    cases h1 with
    | nil => cases hr
    | cons hf h1 =>
      rename_i m o ms g1
      cases hr
      have hgl : g0.length ≤ 301 := by
        have := congrArg List.length h2
        rw [List.length_append, hl] at this
        omega
      repeat (first|((with_reducible refine Yb (d:=?_) ?_ ?_);rotate_left 1;exact rfl)|(with_reducible first|refine J6 ?_|refine J7 ?_|refine J8 ?_|refine Jb ?_|refine U0 ?_|refine U8 ?_)|((with_reducible refine Yy (d:=?_) (s:=?_) ?_ ?_);rotate_left 2;exact rfl)|((with_reducible refine Xb (a:=?_) ?_ ?_);rotate_left 1;exact rfl))
      (with_reducible refine hfi _ _ _ _ _ hs.ok hh hf ?_)
      repeat (first|((with_reducible refine Yk (y:=?_) ?_ ?_ ?_);rotate_left 1;exact rfl)|((with_reducible refine Yy (d:=?_) (s:=?_) ?_ ?_);rotate_left 2;exact rfl))
      · exact ⟨ms, g0 ++ [o], g1, rfl, rfl, h1, by rw [List.append_assoc]; exact h2, by rw [List.map_append]; rfl⟩
      · rw [size24, List.length_map]; omega
  rintro acc st ⟨ms, g0, g1, hr, rfl, h1, h2, rfl⟩
  have hms : ms = [] := by cases ms with
    | nil => rfl
    | cons _ _ => cases hr
  subst hms
  cases h1
  rw [List.append_nil] at h2
  subst h2
  repeat (first|((with_reducible first|refine Yb (d:=?_) ?_ ?_|refine Ye (d:=?_) ?_ ?_|refine Yl (a:=?_) ?_ ?_);rotate_left 1;exact rfl)|(with_reducible first|refine J0 ?_|refine J3 ?_|refine J6 ?_|refine J7 ?_|refine J8 ?_|refine Jb ?_|refine Jd ?_)|((with_reducible refine Yy (d:=?_) (s:=?_) ?_ ?_);rotate_left 2;exact rfl)|((with_reducible refine Xb (a:=?_) ?_ ?_);rotate_left 1;exact rfl))
  (with_reducible refine hbe _ _ _ _ ht2 hs hok fun g1 t3 hg1 ht3 => ?_)
  repeat (first|((with_reducible first|refine Yb (d:=?_) ?_ ?_|refine Ye (d:=?_) ?_ ?_);rotate_left 1;exact rfl)|(with_reducible first|refine J6 ?_|refine J7 ?_|refine J8 ?_|refine Jb ?_)|((with_reducible refine Yy (d:=?_) (s:=?_) ?_ ?_);rotate_left 2;exact rfl)|((with_reducible refine Xb (a:=?_) ?_ ?_);rotate_left 1;exact rfl))
  (with_reducible refine hbe _ _ _ _ ht3 hs hok fun g2 t4 hg2 ht4 => ?_)
  repeat (first|(with_reducible refine i_sif_mid (fun s1 => ∃ (t' : D) (g3 : List Fo), s1 = [.fr (.list (ns.map .int)), .ow t', .fr s.d, .fr (lkD s), .fr one, .fr (foD g0), .ow (.list [foD g0, foD g1, foD g3]), .no, .no, .no] ∧ Tp t' ∧ Okf s g3) ?_ ?_)|((with_reducible refine Ye (d:=?_) ?_ ?_);rotate_left 1;exact rfl)|(with_reducible first|refine J0 ?_|refine J1 ?_|refine J2 ?_|refine J7 ?_|refine J8 ?_|refine J9 ?_|refine Jb ?_)|((with_reducible refine Yy (d:=?_) (s:=?_) ?_ ?_);rotate_left 2;exact rfl)|((with_reducible refine Xb (a:=?_) ?_ ?_);rotate_left 1;exact rfl)|((with_reducible refine And.intro ?_ ?_);first|exact Nat.le_of_ble_eq_true rfl|exact rfl))
  · (with_reducible refine hd _ _ _ ht4 (by omega) fun k t5 ht5 k0 k1 => ?_)
    repeat (first|((with_reducible refine Yc (b:=?_) ?_ ?_);rotate_left 1;exact rfl)|((with_reducible refine Yr (d:=?_) (e:=?_) ?_ ?_ ?_);rotate_left 2;exact rfl;exact rfl)|(with_reducible first|refine J1 ?_|refine Uh ?_))
    (with_reducible refine BoolW_dec (fun hk => ?_) (fun hk => ?_))
    · repeat (first|((with_reducible first|refine Yb (d:=?_) ?_ ?_|refine Ye (d:=?_) ?_ ?_);rotate_left 1;exact rfl)|(with_reducible first|refine J6 ?_|refine J7 ?_|refine J8 ?_|refine Jb ?_|refine U5 ?_)|((with_reducible refine Yy (d:=?_) (s:=?_) ?_ ?_);rotate_left 2;exact rfl)|((with_reducible refine Xb (a:=?_) ?_ ?_);rotate_left 1;exact rfl))
      (with_reducible refine hdr _ _ _ ht5 hs fun g3 t6 hg3 ht6 => ?_)
      repeat (first|((with_reducible refine Yf (d:=?_) ?_ ?_);rotate_left 1;exact rfl)|(with_reducible refine J1 ?_)|((with_reducible refine Yy (d:=?_) (s:=?_) ?_ ?_);rotate_left 2;exact rfl)|((with_reducible refine X4 (d:=?_) (n:=?_) (xs:=?_) (q:=?_) ?_ ?_ ?_ ?_ ?_);rotate_left 4;exact rfl;exact rfl;exact rfl;exact rfl))
      exact ⟨t6, g3, rfl, ht6, hg3⟩
    · repeat (first|(with_reducible refine Je ?_))
      exact ⟨t5, g2, rfl, ht5, hg2⟩
  · rintro s1 ⟨t5, g3, rfl, ht5, hg3⟩
    have rows : ∀ x ∈ [foD g0, foD g1, foD g3], RowOk s x := fun x hx => by
      simp only [List.mem_cons, List.not_mem_nil, or_false] at hx
      rcases hx with rfl | rfl | rfl
      · exact ⟨g0, rfl, hok⟩
      · exact ⟨g1, rfl, hg1⟩
      · exact ⟨g3, rfl, hg3⟩
    repeat (first|((with_reducible refine Ye (d:=?_) ?_ ?_);rotate_left 1;exact rfl)|(with_reducible first|refine J0 ?_|refine J1 ?_|refine J6 ?_|refine J7 ?_|refine J8 ?_|refine Jb ?_|refine Jw ?_|refine U7 ?_)|((with_reducible refine Xb (a:=?_) ?_ ?_);rotate_left 1;exact rfl))
    (with_reducible refine htu _ _ _ ht5 (by omega) (by omega) fun ds t6 ht6 hds => ?_)
    repeat (first|((with_reducible refine Yd (ds:=?_) ?_ ?_);rotate_left 1;exact rfl)|((with_reducible refine Yy (d:=?_) (s:=?_) ?_ ?_);rotate_left 2;exact rfl))
    refine fl_inv (fun rest st => ∃ (x7 : Sl), st = [.fr (.list (ns.map .int)), .ow t6, .fr s.d, .fr (lkD s), .fr one, .fr (foD g0), .ow (.list [foD g0, foD g1, foD g3]), x7, .no, .no] ∧ Ints 3 rest) ⟨_, rfl, hds⟩ ?_ ?_
    · rintro e rest st ⟨x7, rfl, hr⟩
      obtain ⟨k, rfl, k0, k1⟩ := hr e List.mem_cons_self
      have hr' : Ints 3 rest := fun z hz => hr z (List.mem_cons_of_mem _ hz)
      repeat (first|((with_reducible refine Yb (d:=?_) ?_ ?_);rotate_left 1;exact rfl)|((with_reducible refine Yr (d:=?_) (e:=?_) ?_ ?_ ?_);rotate_left 2;exact rfl;exact rfl)|(with_reducible first|refine J2 ?_|refine J4 ?_|refine J6 ?_|refine J7 ?_|refine Jb ?_|refine Jh ?_|refine Ji ?_)|((with_reducible refine Yv (d:=?_) ?_ ?_);rotate_left 1;exact rfl)|((with_reducible refine Yy (d:=?_) (s:=?_) ?_ ?_);rotate_left 2;exact rfl)|((with_reducible refine Xb (a:=?_) ?_ ?_);rotate_left 1;exact rfl))
      refine o_ixl ⟨k0, by simp only [List.length_cons, List.length_nil]; omega⟩ fun x hx _ => ?_
      obtain ⟨fs, rfl, hf⟩ := rows x hx
      repeat (first|(with_reducible refine J8 ?_)|((with_reducible refine Xb (a:=?_) ?_ ?_);rotate_left 1;exact rfl))
      (with_reducible refine has _ _ _ hs hh hf ?_)
      repeat (first|((with_reducible refine Yl (a:=?_) ?_ ?_);rotate_left 1;exact rfl)|(with_reducible first|refine Je ?_|refine U8 ?_|refine Ua ?_)|((with_reducible refine Xb (a:=?_) ?_ ?_);rotate_left 1;exact rfl))
      exact ⟨_, rfl, hr'⟩
    · rintro st ⟨x7, rfl, _⟩
      repeat (first|((with_reducible first|refine Yb (d:=?_) ?_ ?_|refine Yd (ds:=?_) ?_ ?_);rotate_left 1;exact rfl)|((with_reducible refine Yr (d:=?_) (e:=?_) ?_ ?_ ?_);rotate_left 2;exact rfl;exact rfl)|(with_reducible first|refine J0 ?_|refine J1 ?_|refine J2 ?_|refine J6 ?_|refine J7 ?_|refine J8 ?_|refine Jd ?_|refine Jw ?_|refine U7 ?_|refine Uu ?_ ?_)|((with_reducible refine Yv (d:=?_) ?_ ?_);rotate_left 1;exact rfl)|((with_reducible refine Yy (d:=?_) (s:=?_) ?_ ?_);rotate_left 2;exact rfl)|((with_reducible refine Xb (a:=?_) ?_ ?_);rotate_left 1;exact rfl)|((with_reducible refine And.intro ?_ ?_);first|exact Nat.le_of_ble_eq_true rfl|exact rfl))
      refine fl_inv (fun rest st => ∃ (x8 : Sl), st = [.fr (.list (ns.map .int)), .ow t6, .fr s.d, .fr (lkD s), .fr one, .fr (foD g0), .ow (.list [foD g0, foD g1, foD g3]), x7, x8, .no] ∧ ∀ x ∈ rest, RowOk s x) ⟨_, rfl, fun x hx => ?_⟩ ?_ ?_
      · simp only [List.mem_append, List.mem_cons, List.not_mem_nil, or_false] at hx
        rcases hx with (rfl | rfl | rfl) | rfl | rfl
        · exact ⟨g0, rfl, hok⟩
        · exact ⟨g1, rfl, hg1⟩
        · exact ⟨g3, rfl, hg3⟩
        · exact ⟨g0, rfl, hok⟩
        · exact ⟨g1, rfl, hg1⟩
      · rintro x rest st ⟨x8, rfl, hr⟩
        obtain ⟨fs, rfl, hf⟩ := hr x List.mem_cons_self
        repeat (first|((with_reducible refine Yb (d:=?_) ?_ ?_);rotate_left 1;exact rfl)|(with_reducible first|refine J4 ?_|refine J6 ?_|refine J7 ?_|refine J8 ?_|refine Jb ?_|refine Jh ?_|refine Ji ?_)|((with_reducible refine Yy (d:=?_) (s:=?_) ?_ ?_);rotate_left 2;exact rfl)|((with_reducible refine Xb (a:=?_) ?_ ?_);rotate_left 1;exact rfl))
        (with_reducible refine has _ _ _ hs hh hf ?_)
        repeat (first|((with_reducible refine Yl (a:=?_) ?_ ?_);rotate_left 1;exact rfl)|(with_reducible first|refine Je ?_|refine U8 ?_|refine Ua ?_)|((with_reducible refine Xb (a:=?_) ?_ ?_);rotate_left 1;exact rfl))
        exact ⟨_, rfl, fun z hz => hr z (List.mem_cons_of_mem _ hz)⟩
      · rintro st ⟨x8, rfl, _⟩
        repeat (first|((with_reducible refine Ys (d:=?_) (o:=?_) ?_ ?_ ?_);rotate_left 2;exact rfl;exact rfl)|(with_reducible first|refine J1 ?_|refine J5 ?_)|((with_reducible refine And.intro ?_ ?_);first|exact Nat.le_of_ble_eq_true rfl|exact rfl))
        exact rfl
      all_goals first
        | omega
        | (show (3 + 2 : Nat) ≤ sizeLine; rw [size24]; omega)
  all_goals first
    | omega
    | (rw [size24]; omega)
/-! ### the levels -/
theorem lv_draw : ∀ k, 1 ≤ k → DrawS (m k).l_draw
  | k + 1, _ => draw_s
theorem lv_pick : ∀ k, 2 ≤ k → PickS (m k).l_pick
  | k + 2, _ => pick_s (lv_draw (k + 1) (by omega))
theorem lv_turns : ∀ k, 2 ≤ k → TurnsS (m k).l_turns
  | k + 2, _ => turns_s (lv_draw (k + 1) (by omega))
theorem lv_shape0 : ∀ j n : Nat, j ≤ 12 → ShapeS (m (n + 3 + j)).l_shape_any (2 * (j + 1 : Nat))
  | 0, n, _ => shapeS_any (lv_draw (n + 2) (by omega)) (lv_pick (n + 2) (by omega)) (shape0 _) (by omega)
  | j + 1, n, h => by
    have := shapeS_any (lv_draw (n + 3 + j) (by omega)) (lv_pick (n + 3 + j) (by omega)) (lv_shape0 j n (by omega)) (by omega)
    intro t z Q ht h1 h2 hQ
    exact this t z Q ht h1 (by omega) hQ
theorem lv_shape : ∀ k, 10 ≤ k → ShapeS (m k).l_shape_any 9 := fun k hk => by
  obtain ⟨n, rfl⟩ : ∃ n, k = n + 3 + 4 := ⟨k - 7, by omega⟩
  intro t z Q ht h1 h2 hQ
  exact lv_shape0 4 n (by omega) t z Q ht h1 (by omega) hQ
theorem lv_same : ∀ j k : Nat, j + 1 ≤ k → SameS (m k).l_same j
  | 0, k + 1, _ => same_s0 _
  | j + 1, k + 1, h => same_s (lv_same j k (by omega))
theorem lv_count : ∀ j k : Nat, j + 2 ≤ k → CountS (m k).count_values j
  | 0, k + 2, _ => count_s0 _
  | j + 1, k + 2, h => count_s (lv_count j (k + 1) (by omega))
theorem lv_lcount : ∀ j k : Nat, j + 1 ≤ k → CountS (m k).l_shape_count j
  | 0, k + 1, _ => lcount_s0 _
  | j + 1, k + 1, h => lcount_s (lv_lcount j k (by omega))
theorem lv_show : ∀ j k : Nat, j + 1 ≤ k → ShowS (m k).shows j
  | 0, k + 1, _ => show_s0 _
  | j + 1, k + 1, h => show_s (lv_show j k (by omega))
theorem lv_lshow : ∀ j k : Nat, j + 1 ≤ k → ShowS (m k).l_look_shows j
  | 0, k + 1, _ => lshow_s0 _
  | j + 1, k + 1, h => lshow_s (lv_lshow j k (by omega))
theorem lv_psum : ∀ j k : Nat, 2 * j + 3 ≤ k → SumS (m k).count_value_observations j
  | 0, k + 2, _ => psum_s0 _ _ _
  | j + 1, k + 3, h => psum_s (lv_psum j (k + 2) (by omega)) (lv_count j (k + 2) (by omega)) (pcnt_s (lv_psum j (k + 1) (by omega)) (lv_show j (k + 1) (by omega)))
theorem lv_pcnt (j k : Nat) (h : 2 * j + 4 ≤ k) : LcS (m k).count_observations j := by
  obtain ⟨n, rfl⟩ : ∃ n, k = n + 2 := ⟨k - 2, by omega⟩
  exact pcnt_s (lv_psum j (n + 1) (by omega)) (lv_show j (n + 1) (by omega))
theorem lv_lsum : ∀ j k : Nat, 2 * j + 3 ≤ k → SumS (m k).l_look_sum j
  | 0, k + 1, _ => lsum_s0 _ _ _
  | j + 1, k + 2, h => lsum_s (lv_lsum j (k + 1) (by omega)) (lv_lcount j (k + 1) (by omega)) (lcnt_s (lv_lsum j k (by omega)) (lv_lshow j k (by omega)))
theorem lv_lcnt (j k : Nat) (h : 2 * j + 4 ≤ k) : LcS (m k).l_look_count j := by
  obtain ⟨n, rfl⟩ : ∃ n, k = n + 1 := ⟨k - 1, by omega⟩
  exact lcnt_s (lv_lsum j n (by omega)) (lv_lshow j n (by omega))
theorem lv_rows : ∀ j k : Nat, j + 2 ≤ k → RowsS (m k).l_shape_rows j
  | 0, k + 1, _ => rows_s0 _ _
  | j + 1, k + 1, h => rows_s (lv_rows j k (by omega)) (lv_lcount j k (by omega))
theorem lv_vals : ∀ j k : Nat, 2 * j + 1 ≤ k → ValsS (m k).l_shape_values j
  | 0, k + 1, _ => vals_s0 _ _
  | j + 1, k + 2, h => vals_s (lv_vals j (k + 1) (by omega)) (outs_s (lv_vals j k (by omega)))
theorem lv_rank : ∀ j k : Nat, 2 * j + 2 ≤ k → RankS (m k).l_shape_rank j
  | 0, k + 1, _ => rank_s0 _ _ _
  | j + 1, k + 2, h => rank_s (lv_rank j (k + 1) (by omega)) (lv_lcount j (k + 1) (by omega)) (rankO_s (lv_lcount j k (by omega)) (lv_rank j k (by omega)))
theorem lv_row (j k : Nat) (h : 2 * j + 3 ≤ k) : RowS (m k).l_shape_row j := by
  obtain ⟨n, rfl⟩ : ∃ n, k = n + 1 := ⟨k - 1, by omega⟩
  exact row_s (lv_rank j n (by omega))
theorem lv_find (j k : Nat) (h : 2 * j + 4 ≤ k) : FindS (m k).l_look_finds j := by
  obtain ⟨n, rfl⟩ : ∃ n, k = n + 1 := ⟨k - 1, by omega⟩
  exact find_s (lv_row j n (by omega))
theorem lv_outAt (k : Nat) (h : 2 ≤ k) : OutAtS (m k).l_shape_outcome_at := by
  obtain ⟨n, rfl⟩ : ∃ n, k = n + 2 := ⟨k - 2, by omega⟩
  exact outAt_s (lv_lcount 0 (n + 1) (by omega)) (at_s _ _ _)
theorem lv_drawV : ∀ j k : Nat, 2 * j + 3 ≤ k → DrawVS (m k).l_shape_value j
  | 0, k + 1, h => drawV_s0 (lv_draw k (by omega))
  | j + 1, k + 2, h => drawV_s (lv_draw (k + 1) (by omega)) (lv_drawV j (k + 1) (by omega)) (lv_lcount j (k + 1) (by omega)) (drawO_s (lv_draw k (by omega)) (lv_drawV j k (by omega)))
theorem lv_drawO (j k : Nat) (h : 2 * j + 4 ≤ k) : DrawOS (m k).l_shape_outcome j := by
  obtain ⟨n, rfl⟩ : ∃ n, k = n + 1 := ⟨k - 1, by omega⟩
  exact drawO_s (lv_draw n (by omega)) (lv_drawV j n (by omega))
theorem lv_lkI : ∀ j k : Nat, j ≤ 100 → 2 * j + 3 ≤ k → LkIS (m k).l_look_inner j
  | 0, k + 1, _, _ => lkI_s0 _ _ _
  | j + 1, k + 2, hj, h => lkI_s (by omega) (lv_lkI j (k + 1) (by omega) (by omega)) (lkA_s (lv_lshow j k (by omega)) (lv_lkI j k (by omega) (by omega))) (lv_vals j (k + 1) (by omega))
theorem lv_lkA (j k : Nat) (hj : j ≤ 100) (h : 2 * j + 4 ≤ k) : LkAS (m k).l_look_all j := by
  obtain ⟨n, rfl⟩ : ∃ n, k = n + 1 := ⟨k - 1, by omega⟩
  exact lkA_s (lv_lshow j n (by omega)) (lv_lkI j n hj (by omega))
theorem lv_lwor : ∀ j k : Nat, j ≤ 20 → 2 * j + 6 ≤ k → WorS (m k).l_look_worth j
  | 0, k + 1, _, _ => lwor_s0 _ _ _ _ _
  | j + 1, k + 2, hj, h => lwor_s (by omega) (lv_lsum j (k + 1) (by omega)) (lv_lwor j (k + 1) (by omega) (by omega)) (lv_lcnt j (k + 1) (by omega)) (lv_lcount j (k + 1) (by omega)) (ldec_s (lv_lshow j k (by omega)) (lv_lwor j k (by omega) (by omega)))
theorem lv_ldec (j k : Nat) (hj : j ≤ 20) (h : 2 * j + 7 ≤ k) : DecS (m k).l_look_decoded j := by
  obtain ⟨n, rfl⟩ : ∃ n, k = n + 1 := ⟨k - 1, by omega⟩
  exact ldec_s (lv_lshow j n (by omega)) (lv_lwor j n hj (by omega))
theorem lv_con : ∀ k, 1 ≤ k → ConS (m k).constructor_found
  | k + 1, _ => con_s
theorem lv_pwor : ∀ j k : Nat, 3 * j + 8 ≤ k → WorS (m k).value_found j
  | 0, k + 1, h => pwor_s0 (lv_con k (by omega))
  | j + 1, k + 3, h => pwor_s (lv_con (k + 2) (by omega)) (tab_s (lv_pcnt j (k + 1) (by omega)) (pdec_s (lv_show j k (by omega)) (lv_pwor j k (by omega)))) (lv_psum j (k + 2) (by omega)) (lv_pwor j (k + 2) (by omega))
theorem lv_pdec (j k : Nat) (h : 3 * j + 9 ≤ k) : DecS (m k).outcome_found j := by
  obtain ⟨n, rfl⟩ : ∃ n, k = n + 1 := ⟨k - 1, by omega⟩
  exact pdec_s (lv_show j n (by omega)) (lv_pwor j n (by omega))
theorem lv_k36shape : K36S (m 41).l_k36_shape := k36shape_s (lv_draw 40 (by omega)) (lv_shape 40 (by omega)) (lv_lcnt 9 40 (by omega)) (lv_rows 9 40 (by omega)) (lv_pick 40 (by omega))
theorem lv_bent : ∀ k, 40 ≤ k → BentS (m k).l_k36_bent
  | k + 2, h => bent_s (lv_draw (k + 1) (by omega)) (lv_outAt (k + 1) (by omega))
theorem lv_drawn : DrwS (m 41).l_k36_drawn := drawn_s (lv_draw 40 (by omega)) (lv_bent 40 (by omega)) (lv_drawO 9 40 (by omega))
theorem lv_asked : AskS (m 41).l_k36_asked := asked_s (lv_pdec 9 40 (by omega)) (lv_ldec 9 40 (by omega) (by omega)) (lv_same 19 40 (by omega)) (lv_find 9 40 (by omega))
theorem law_true (ns : List Int) : (m 42).law [.list (ns.map .int)] = .ok false (.bool true) [] :=
  FnP_eq (law_s lv_k36shape (lv_lkA 9 41 (by omega) (by omega)) (lv_drawO 9 41 (by omega)) (lv_find 9 41 (by omega)) (lv_bent 41 (by omega)) (lv_draw 41 (by omega)) lv_drawn (lv_turns 41 (by omega)) lv_asked ns)
end G36

set_option Elab.async false
set_option linter.all false
set_option maxRecDepth 100000
set_option maxHeartbeats 0
namespace G36
open PySem PySem.Spec PyProof.Rows L2 L2.Zd L2.Zd.Lib
def D_cut : He.DefD := ⟨(PySem.Str.ofString "cut", none), PySem.Str.ofString "cut", PySem.Str.ofString "cut", defArgs s_cut, defBody s_cut, defScope s_cut, [], []⟩
def D_cut_power : He.DefD := ⟨(PySem.Str.ofString "cut_power", none), PySem.Str.ofString "cut_power", PySem.Str.ofString "cut_power", defArgs s_cut_power, defBody s_cut_power, defScope s_cut_power, [], []⟩
def D_count_values : He.DefD := ⟨(PySem.Str.ofString "count_values", none), PySem.Str.ofString "count_values", PySem.Str.ofString "count_values", defArgs s_count_values, defBody s_count_values, defScope s_count_values, [], []⟩
def D_shows : He.DefD := ⟨(PySem.Str.ofString "shows", none), PySem.Str.ofString "shows", PySem.Str.ofString "shows", defArgs s_shows, defBody s_shows, defScope s_shows, [], []⟩
def D_count_value_observations : He.DefD := ⟨(PySem.Str.ofString "count_value_observations", none), PySem.Str.ofString "count_value_observations", PySem.Str.ofString "count_value_observations", defArgs s_count_value_observations, defBody s_count_value_observations, defScope s_count_value_observations, [], []⟩
def D_count_observations : He.DefD := ⟨(PySem.Str.ofString "count_observations", none), PySem.Str.ofString "count_observations", PySem.Str.ofString "count_observations", defArgs s_count_observations, defBody s_count_observations, defScope s_count_observations, [], []⟩
def D_outcome_found : He.DefD := ⟨(PySem.Str.ofString "outcome_found", none), PySem.Str.ofString "outcome_found", PySem.Str.ofString "outcome_found", defArgs s_outcome_found, defBody s_outcome_found, defScope s_outcome_found, [], []⟩
def D_value_found : He.DefD := ⟨(PySem.Str.ofString "value_found", none), PySem.Str.ofString "value_found", PySem.Str.ofString "value_found", defArgs s_value_found, defBody s_value_found, defScope s_value_found, [], []⟩
def D_constructor_found : He.DefD := ⟨(PySem.Str.ofString "constructor_found", none), PySem.Str.ofString "constructor_found", PySem.Str.ofString "constructor_found", defArgs s_constructor_found, defBody s_constructor_found, defScope s_constructor_found, [], []⟩
def D_table_found : He.DefD := ⟨(PySem.Str.ofString "table_found", none), PySem.Str.ofString "table_found", PySem.Str.ofString "table_found", defArgs s_table_found, defBody s_table_found, defScope s_table_found, [], []⟩
def D_l_tape : He.DefD := ⟨(PySem.Str.ofString "_law_tape", none), PySem.Str.ofString "_law_tape", PySem.Str.ofString "_law_tape", defArgs s_l_tape, defBody s_l_tape, defScope s_l_tape, [], []⟩
def D_l_draw : He.DefD := ⟨(PySem.Str.ofString "_law_draw", none), PySem.Str.ofString "_law_draw", PySem.Str.ofString "_law_draw", defArgs s_l_draw, defBody s_l_draw, defScope s_l_draw, [], []⟩
def D_l_pick : He.DefD := ⟨(PySem.Str.ofString "_law_pick", none), PySem.Str.ofString "_law_pick", PySem.Str.ofString "_law_pick", defArgs s_l_pick, defBody s_l_pick, defScope s_l_pick, [], []⟩
def D_l_turns : He.DefD := ⟨(PySem.Str.ofString "_law_turns", none), PySem.Str.ofString "_law_turns", PySem.Str.ofString "_law_turns", defArgs s_l_turns, defBody s_l_turns, defScope s_l_turns, [], []⟩
def D_l_put : He.DefD := ⟨(PySem.Str.ofString "_law_put", none), PySem.Str.ofString "_law_put", PySem.Str.ofString "_law_put", defArgs s_l_put, defBody s_l_put, defScope s_l_put, [], []⟩
def D_l_same : He.DefD := ⟨(PySem.Str.ofString "_law_same", none), PySem.Str.ofString "_law_same", PySem.Str.ofString "_law_same", defArgs s_l_same, defBody s_l_same, defScope s_l_same, [], []⟩
def D_l_shape_count : He.DefD := ⟨(PySem.Str.ofString "_law_shape_count", none), PySem.Str.ofString "_law_shape_count", PySem.Str.ofString "_law_shape_count", defArgs s_l_shape_count, defBody s_l_shape_count, defScope s_l_shape_count, [], []⟩
def D_l_shape_rows : He.DefD := ⟨(PySem.Str.ofString "_law_shape_rows", none), PySem.Str.ofString "_law_shape_rows", PySem.Str.ofString "_law_shape_rows", defArgs s_l_shape_rows, defBody s_l_shape_rows, defScope s_l_shape_rows, [], []⟩
def D_l_shape_values : He.DefD := ⟨(PySem.Str.ofString "_law_shape_values", none), PySem.Str.ofString "_law_shape_values", PySem.Str.ofString "_law_shape_values", defArgs s_l_shape_values, defBody s_l_shape_values, defScope s_l_shape_values, [], []⟩
def D_l_shape_outcomes : He.DefD := ⟨(PySem.Str.ofString "_law_shape_outcomes", none), PySem.Str.ofString "_law_shape_outcomes", PySem.Str.ofString "_law_shape_outcomes", defArgs s_l_shape_outcomes, defBody s_l_shape_outcomes, defScope s_l_shape_outcomes, [], []⟩
def D_l_shape_rank : He.DefD := ⟨(PySem.Str.ofString "_law_shape_rank", none), PySem.Str.ofString "_law_shape_rank", PySem.Str.ofString "_law_shape_rank", defArgs s_l_shape_rank, defBody s_l_shape_rank, defScope s_l_shape_rank, [], []⟩
def D_l_shape_outcome_rank : He.DefD := ⟨(PySem.Str.ofString "_law_shape_outcome_rank", none), PySem.Str.ofString "_law_shape_outcome_rank", PySem.Str.ofString "_law_shape_outcome_rank", defArgs s_l_shape_outcome_rank, defBody s_l_shape_outcome_rank, defScope s_l_shape_outcome_rank, [], []⟩
def D_l_shape_at : He.DefD := ⟨(PySem.Str.ofString "_law_shape_at", none), PySem.Str.ofString "_law_shape_at", PySem.Str.ofString "_law_shape_at", defArgs s_l_shape_at, defBody s_l_shape_at, defScope s_l_shape_at, [], []⟩
def D_l_shape_outcome_at : He.DefD := ⟨(PySem.Str.ofString "_law_shape_outcome_at", none), PySem.Str.ofString "_law_shape_outcome_at", PySem.Str.ofString "_law_shape_outcome_at", defArgs s_l_shape_outcome_at, defBody s_l_shape_outcome_at, defScope s_l_shape_outcome_at, [], []⟩
def D_l_shape_row : He.DefD := ⟨(PySem.Str.ofString "_law_shape_row", none), PySem.Str.ofString "_law_shape_row", PySem.Str.ofString "_law_shape_row", defArgs s_l_shape_row, defBody s_l_shape_row, defScope s_l_shape_row, [], []⟩
def D_l_shape_any : He.DefD := ⟨(PySem.Str.ofString "_law_shape_any", none), PySem.Str.ofString "_law_shape_any", PySem.Str.ofString "_law_shape_any", defArgs s_l_shape_any, defBody s_l_shape_any, defScope s_l_shape_any, [], []⟩
def D_l_shape_value : He.DefD := ⟨(PySem.Str.ofString "_law_shape_value", none), PySem.Str.ofString "_law_shape_value", PySem.Str.ofString "_law_shape_value", defArgs s_l_shape_value, defBody s_l_shape_value, defScope s_l_shape_value, [], []⟩
def D_l_shape_outcome : He.DefD := ⟨(PySem.Str.ofString "_law_shape_outcome", none), PySem.Str.ofString "_law_shape_outcome", PySem.Str.ofString "_law_shape_outcome", defArgs s_l_shape_outcome, defBody s_l_shape_outcome, defScope s_l_shape_outcome, [], []⟩
def D_l_look_shows : He.DefD := ⟨(PySem.Str.ofString "_law_look_shows", none), PySem.Str.ofString "_law_look_shows", PySem.Str.ofString "_law_look_shows", defArgs s_l_look_shows, defBody s_l_look_shows, defScope s_l_look_shows, [], []⟩
def D_l_look_inner : He.DefD := ⟨(PySem.Str.ofString "_law_look_inner", none), PySem.Str.ofString "_law_look_inner", PySem.Str.ofString "_law_look_inner", defArgs s_l_look_inner, defBody s_l_look_inner, defScope s_l_look_inner, [], []⟩
def D_l_look_all : He.DefD := ⟨(PySem.Str.ofString "_law_look_all", none), PySem.Str.ofString "_law_look_all", PySem.Str.ofString "_law_look_all", defArgs s_l_look_all, defBody s_l_look_all, defScope s_l_look_all, [], []⟩
def D_l_look_sum : He.DefD := ⟨(PySem.Str.ofString "_law_look_sum", none), PySem.Str.ofString "_law_look_sum", PySem.Str.ofString "_law_look_sum", defArgs s_l_look_sum, defBody s_l_look_sum, defScope s_l_look_sum, [], []⟩
def D_l_look_count : He.DefD := ⟨(PySem.Str.ofString "_law_look_count", none), PySem.Str.ofString "_law_look_count", PySem.Str.ofString "_law_look_count", defArgs s_l_look_count, defBody s_l_look_count, defScope s_l_look_count, [], []⟩
def D_l_look_last : He.DefD := ⟨(PySem.Str.ofString "_law_look_last", none), PySem.Str.ofString "_law_look_last", PySem.Str.ofString "_law_look_last", defArgs s_l_look_last, defBody s_l_look_last, defScope s_l_look_last, [], []⟩
def D_l_look_finds : He.DefD := ⟨(PySem.Str.ofString "_law_look_finds", none), PySem.Str.ofString "_law_look_finds", PySem.Str.ofString "_law_look_finds", defArgs s_l_look_finds, defBody s_l_look_finds, defScope s_l_look_finds, [], []⟩
def D_l_look_decoded : He.DefD := ⟨(PySem.Str.ofString "_law_look_decoded", none), PySem.Str.ofString "_law_look_decoded", PySem.Str.ofString "_law_look_decoded", defArgs s_l_look_decoded, defBody s_l_look_decoded, defScope s_l_look_decoded, [], []⟩
def D_l_look_worth : He.DefD := ⟨(PySem.Str.ofString "_law_look_worth", none), PySem.Str.ofString "_law_look_worth", PySem.Str.ofString "_law_look_worth", defArgs s_l_look_worth, defBody s_l_look_worth, defScope s_l_look_worth, [], []⟩
def D_l_k36_shape : He.DefD := ⟨(PySem.Str.ofString "_law_k36_shape", none), PySem.Str.ofString "_law_k36_shape", PySem.Str.ofString "_law_k36_shape", defArgs s_l_k36_shape, defBody s_l_k36_shape, defScope s_l_k36_shape, [], []⟩
def D_l_k36_bent : He.DefD := ⟨(PySem.Str.ofString "_law_k36_bent", none), PySem.Str.ofString "_law_k36_bent", PySem.Str.ofString "_law_k36_bent", defArgs s_l_k36_bent, defBody s_l_k36_bent, defScope s_l_k36_bent, [], []⟩
def D_l_k36_drawn : He.DefD := ⟨(PySem.Str.ofString "_law_k36_drawn", none), PySem.Str.ofString "_law_k36_drawn", PySem.Str.ofString "_law_k36_drawn", defArgs s_l_k36_drawn, defBody s_l_k36_drawn, defScope s_l_k36_drawn, [], []⟩
def D_l_k36_asked : He.DefD := ⟨(PySem.Str.ofString "_law_k36_asked", none), PySem.Str.ofString "_law_k36_asked", PySem.Str.ofString "_law_k36_asked", defArgs s_l_k36_asked, defBody s_l_k36_asked, defScope s_l_k36_asked, [], []⟩
def D_law : He.DefD := ⟨(PySem.Str.ofString "law", none), PySem.Str.ofString "law", PySem.Str.ofString "law", defArgs s_law, defBody s_law, defScope s_law, [], []⟩
def fn : List He.DefD := [D_cut, D_cut_power, D_count_values, D_shows, D_count_value_observations, D_count_observations, D_outcome_found, D_value_found, D_constructor_found, D_table_found, D_l_tape, D_l_draw, D_l_pick, D_l_turns, D_l_put, D_l_same, D_l_shape_count, D_l_shape_rows, D_l_shape_values, D_l_shape_outcomes, D_l_shape_rank, D_l_shape_outcome_rank, D_l_shape_at, D_l_shape_outcome_at, D_l_shape_row, D_l_shape_any, D_l_shape_value, D_l_shape_outcome, D_l_look_shows, D_l_look_inner, D_l_look_all, D_l_look_sum, D_l_look_count, D_l_look_last, D_l_look_finds, D_l_look_decoded, D_l_look_worth, D_l_k36_shape, D_l_k36_bent, D_l_k36_drawn, D_l_k36_asked, D_law]
def fa : List He.Fa := [.glo (PySem.Str.ofString "cut"), .glo (PySem.Str.ofString "cut_power"), .glo (PySem.Str.ofString "count_values"), .glo (PySem.Str.ofString "shows"), .glo (PySem.Str.ofString "count_value_observations"), .glo (PySem.Str.ofString "count_observations"), .glo (PySem.Str.ofString "outcome_found"), .glo (PySem.Str.ofString "value_found"), .glo (PySem.Str.ofString "constructor_found"), .glo (PySem.Str.ofString "table_found"), .glo (PySem.Str.ofString "_law_tape"), .glo (PySem.Str.ofString "_law_draw"), .glo (PySem.Str.ofString "_law_pick"), .glo (PySem.Str.ofString "_law_turns"), .glo (PySem.Str.ofString "_law_put"), .glo (PySem.Str.ofString "_law_same"), .glo (PySem.Str.ofString "_law_shape_count"), .glo (PySem.Str.ofString "_law_shape_rows"), .glo (PySem.Str.ofString "_law_shape_values"), .glo (PySem.Str.ofString "_law_shape_outcomes"), .glo (PySem.Str.ofString "_law_shape_rank"), .glo (PySem.Str.ofString "_law_shape_outcome_rank"), .glo (PySem.Str.ofString "_law_shape_at"), .glo (PySem.Str.ofString "_law_shape_outcome_at"), .glo (PySem.Str.ofString "_law_shape_row"), .glo (PySem.Str.ofString "_law_shape_any"), .glo (PySem.Str.ofString "_law_shape_value"), .glo (PySem.Str.ofString "_law_shape_outcome"), .glo (PySem.Str.ofString "_law_look_shows"), .glo (PySem.Str.ofString "_law_look_inner"), .glo (PySem.Str.ofString "_law_look_all"), .glo (PySem.Str.ofString "_law_look_sum"), .glo (PySem.Str.ofString "_law_look_count"), .glo (PySem.Str.ofString "_law_look_last"), .glo (PySem.Str.ofString "_law_look_finds"), .glo (PySem.Str.ofString "_law_look_decoded"), .glo (PySem.Str.ofString "_law_look_worth"), .glo (PySem.Str.ofString "_law_k36_shape"), .glo (PySem.Str.ofString "_law_k36_bent"), .glo (PySem.Str.ofString "_law_k36_drawn"), .glo (PySem.Str.ofString "_law_k36_asked"), .glo (PySem.Str.ofString "law"), .free (PySem.Str.ofString "abs"), .free (PySem.Str.ofString "all"), .free (PySem.Str.ofString "bool"), .free (PySem.Str.ofString "int"), .free (PySem.Str.ofString "isinstance"), .free (PySem.Str.ofString "len"), .free (PySem.Str.ofString "list"), .free (PySem.Str.ofString "max"), .free (PySem.Str.ofString "min"), .free (PySem.Str.ofString "range"), .free (PySem.Str.ofString "str"), .free (PySem.Str.ofString "tuple")]
def cs : List (Str × D) := [(PySem.Str.ofString "MOST_COUNT", .int 1000000000)]
def names : List Str := ([PySem.Str.ofString "MOST_COUNT", PySem.Str.ofString "cut", PySem.Str.ofString "cut_power", PySem.Str.ofString "count_values", PySem.Str.ofString "shows", PySem.Str.ofString "count_value_observations", PySem.Str.ofString "count_observations", PySem.Str.ofString "outcome_found", PySem.Str.ofString "value_found", PySem.Str.ofString "constructor_found", PySem.Str.ofString "table_found", PySem.Str.ofString "_law_tape", PySem.Str.ofString "_law_draw", PySem.Str.ofString "_law_pick", PySem.Str.ofString "_law_turns", PySem.Str.ofString "_law_put", PySem.Str.ofString "_law_same", PySem.Str.ofString "_law_shape_count", PySem.Str.ofString "_law_shape_rows", PySem.Str.ofString "_law_shape_values", PySem.Str.ofString "_law_shape_outcomes", PySem.Str.ofString "_law_shape_rank", PySem.Str.ofString "_law_shape_outcome_rank", PySem.Str.ofString "_law_shape_at", PySem.Str.ofString "_law_shape_outcome_at", PySem.Str.ofString "_law_shape_row", PySem.Str.ofString "_law_shape_any", PySem.Str.ofString "_law_shape_value", PySem.Str.ofString "_law_shape_outcome", PySem.Str.ofString "_law_look_shows", PySem.Str.ofString "_law_look_inner", PySem.Str.ofString "_law_look_all", PySem.Str.ofString "_law_look_sum", PySem.Str.ofString "_law_look_count", PySem.Str.ofString "_law_look_last"] : List PySem.Str) ++ ([PySem.Str.ofString "_law_look_finds", PySem.Str.ofString "_law_look_decoded", PySem.Str.ofString "_law_look_worth", PySem.Str.ofString "_law_k36_shape", PySem.Str.ofString "_law_k36_bent", PySem.Str.ofString "_law_k36_drawn", PySem.Str.ofString "_law_k36_asked"] : List PySem.Str)
abbrev R : PySem.W.OpenRow := PySem.W.OpenLaw.row PySem.Challenge.rw_totalc_k36_findings_are_decoded
abbrev hk : PySem.W.Hook := hookZ 4 fa fn cs
def ob (s : PySem.W.SharedT) : AlZ := obsZ 4 fa fn cs (HandSHeadRun.getT s)
theorem ob_eq (s : PySem.W.SharedT) : ob s = hk.obs s.abs := obsZ_eq (HandSHeadRun.getT_eq s)
theorem run (w : World) : HandSHeadRun.RunEq R (PySem.W.view R.prog [45]) hk ob 4000 names w := by
  intro os
  kernel_rfl
theorem facts {K : PySem.W.Frag} {h : Heap} {mg : Str → Option Value} (X : K.In h) (G : h.Ns mainGlobals mg) (c : SaysZ fa fn cs K) : ∃ T : Txt K mg, T.f_law = He.fAd K D_law.at_ := by
  obtain ⟨d0, F0⟩ := c.d.def_ 0 (d := D_cut) rfl
  obtain ⟨d1, F1⟩ := c.d.def_ 1 (d := D_cut_power) rfl
  obtain ⟨d2, F2⟩ := c.d.def_ 2 (d := D_count_values) rfl
  obtain ⟨d3, F3⟩ := c.d.def_ 3 (d := D_shows) rfl
  obtain ⟨d4, F4⟩ := c.d.def_ 4 (d := D_count_value_observations) rfl
  obtain ⟨d5, F5⟩ := c.d.def_ 5 (d := D_count_observations) rfl
  obtain ⟨d6, F6⟩ := c.d.def_ 6 (d := D_outcome_found) rfl
  obtain ⟨d7, F7⟩ := c.d.def_ 7 (d := D_value_found) rfl
  obtain ⟨d8, F8⟩ := c.d.def_ 8 (d := D_constructor_found) rfl
  obtain ⟨d9, F9⟩ := c.d.def_ 9 (d := D_table_found) rfl
  obtain ⟨d10, F10⟩ := c.d.def_ 10 (d := D_l_tape) rfl
  obtain ⟨d11, F11⟩ := c.d.def_ 11 (d := D_l_draw) rfl
  obtain ⟨d12, F12⟩ := c.d.def_ 12 (d := D_l_pick) rfl
  obtain ⟨d13, F13⟩ := c.d.def_ 13 (d := D_l_turns) rfl
  obtain ⟨d14, F14⟩ := c.d.def_ 14 (d := D_l_put) rfl
  obtain ⟨d15, F15⟩ := c.d.def_ 15 (d := D_l_same) rfl
  obtain ⟨d16, F16⟩ := c.d.def_ 16 (d := D_l_shape_count) rfl
  obtain ⟨d17, F17⟩ := c.d.def_ 17 (d := D_l_shape_rows) rfl
  obtain ⟨d18, F18⟩ := c.d.def_ 18 (d := D_l_shape_values) rfl
  obtain ⟨d19, F19⟩ := c.d.def_ 19 (d := D_l_shape_outcomes) rfl
  obtain ⟨d20, F20⟩ := c.d.def_ 20 (d := D_l_shape_rank) rfl
  obtain ⟨d21, F21⟩ := c.d.def_ 21 (d := D_l_shape_outcome_rank) rfl
  obtain ⟨d22, F22⟩ := c.d.def_ 22 (d := D_l_shape_at) rfl
  obtain ⟨d23, F23⟩ := c.d.def_ 23 (d := D_l_shape_outcome_at) rfl
  obtain ⟨d24, F24⟩ := c.d.def_ 24 (d := D_l_shape_row) rfl
  obtain ⟨d25, F25⟩ := c.d.def_ 25 (d := D_l_shape_any) rfl
  obtain ⟨d26, F26⟩ := c.d.def_ 26 (d := D_l_shape_value) rfl
  obtain ⟨d27, F27⟩ := c.d.def_ 27 (d := D_l_shape_outcome) rfl
  obtain ⟨d28, F28⟩ := c.d.def_ 28 (d := D_l_look_shows) rfl
  obtain ⟨d29, F29⟩ := c.d.def_ 29 (d := D_l_look_inner) rfl
  obtain ⟨d30, F30⟩ := c.d.def_ 30 (d := D_l_look_all) rfl
  obtain ⟨d31, F31⟩ := c.d.def_ 31 (d := D_l_look_sum) rfl
  obtain ⟨d32, F32⟩ := c.d.def_ 32 (d := D_l_look_count) rfl
  obtain ⟨d33, F33⟩ := c.d.def_ 33 (d := D_l_look_last) rfl
  obtain ⟨d34, F34⟩ := c.d.def_ 34 (d := D_l_look_finds) rfl
  obtain ⟨d35, F35⟩ := c.d.def_ 35 (d := D_l_look_decoded) rfl
  obtain ⟨d36, F36⟩ := c.d.def_ 36 (d := D_l_look_worth) rfl
  obtain ⟨d37, F37⟩ := c.d.def_ 37 (d := D_l_k36_shape) rfl
  obtain ⟨d38, F38⟩ := c.d.def_ 38 (d := D_l_k36_bent) rfl
  obtain ⟨d39, F39⟩ := c.d.def_ 39 (d := D_l_k36_drawn) rfl
  obtain ⟨d40, F40⟩ := c.d.def_ 40 (d := D_l_k36_asked) rfl
  obtain ⟨d41, F41⟩ := c.d.def_ 41 (d := D_law) rfl
  exact ⟨{ f_cut := He.fAd K D_cut.at_, d_cut := d0, F_cut := F0, g_cut := He.glo_ok X G (c.d.fact 0 (f := .glo (PySem.Str.ofString "cut")) rfl), f_cut_power := He.fAd K D_cut_power.at_, d_cut_power := d1, F_cut_power := F1, g_cut_power := He.glo_ok X G (c.d.fact 1 (f := .glo (PySem.Str.ofString "cut_power")) rfl), f_count_values := He.fAd K D_count_values.at_, d_count_values := d2, F_count_values := F2, g_count_values := He.glo_ok X G (c.d.fact 2 (f := .glo (PySem.Str.ofString "count_values")) rfl), f_shows := He.fAd K D_shows.at_, d_shows := d3, F_shows := F3, g_shows := He.glo_ok X G (c.d.fact 3 (f := .glo (PySem.Str.ofString "shows")) rfl), f_count_value_observations := He.fAd K D_count_value_observations.at_, d_count_value_observations := d4, F_count_value_observations := F4, g_count_value_observations := He.glo_ok X G (c.d.fact 4 (f := .glo (PySem.Str.ofString "count_value_observations")) rfl), f_count_observations := He.fAd K D_count_observations.at_, d_count_observations := d5, F_count_observations := F5, g_count_observations := He.glo_ok X G (c.d.fact 5 (f := .glo (PySem.Str.ofString "count_observations")) rfl), f_outcome_found := He.fAd K D_outcome_found.at_, d_outcome_found := d6, F_outcome_found := F6, g_outcome_found := He.glo_ok X G (c.d.fact 6 (f := .glo (PySem.Str.ofString "outcome_found")) rfl), f_value_found := He.fAd K D_value_found.at_, d_value_found := d7, F_value_found := F7, g_value_found := He.glo_ok X G (c.d.fact 7 (f := .glo (PySem.Str.ofString "value_found")) rfl), f_constructor_found := He.fAd K D_constructor_found.at_, d_constructor_found := d8, F_constructor_found := F8, g_constructor_found := He.glo_ok X G (c.d.fact 8 (f := .glo (PySem.Str.ofString "constructor_found")) rfl), f_table_found := He.fAd K D_table_found.at_, d_table_found := d9, F_table_found := F9, g_table_found := He.glo_ok X G (c.d.fact 9 (f := .glo (PySem.Str.ofString "table_found")) rfl), f_l_tape := He.fAd K D_l_tape.at_, d_l_tape := d10, F_l_tape := F10, g_l_tape := He.glo_ok X G (c.d.fact 10 (f := .glo (PySem.Str.ofString "_law_tape")) rfl), f_l_draw := He.fAd K D_l_draw.at_, d_l_draw := d11, F_l_draw := F11, g_l_draw := He.glo_ok X G (c.d.fact 11 (f := .glo (PySem.Str.ofString "_law_draw")) rfl), f_l_pick := He.fAd K D_l_pick.at_, d_l_pick := d12, F_l_pick := F12, g_l_pick := He.glo_ok X G (c.d.fact 12 (f := .glo (PySem.Str.ofString "_law_pick")) rfl), f_l_turns := He.fAd K D_l_turns.at_, d_l_turns := d13, F_l_turns := F13, g_l_turns := He.glo_ok X G (c.d.fact 13 (f := .glo (PySem.Str.ofString "_law_turns")) rfl), f_l_put := He.fAd K D_l_put.at_, d_l_put := d14, F_l_put := F14, g_l_put := He.glo_ok X G (c.d.fact 14 (f := .glo (PySem.Str.ofString "_law_put")) rfl), f_l_same := He.fAd K D_l_same.at_, d_l_same := d15, F_l_same := F15, g_l_same := He.glo_ok X G (c.d.fact 15 (f := .glo (PySem.Str.ofString "_law_same")) rfl), f_l_shape_count := He.fAd K D_l_shape_count.at_, d_l_shape_count := d16, F_l_shape_count := F16, g_l_shape_count := He.glo_ok X G (c.d.fact 16 (f := .glo (PySem.Str.ofString "_law_shape_count")) rfl), f_l_shape_rows := He.fAd K D_l_shape_rows.at_, d_l_shape_rows := d17, F_l_shape_rows := F17, g_l_shape_rows := He.glo_ok X G (c.d.fact 17 (f := .glo (PySem.Str.ofString "_law_shape_rows")) rfl), f_l_shape_values := He.fAd K D_l_shape_values.at_, d_l_shape_values := d18, F_l_shape_values := F18, g_l_shape_values := He.glo_ok X G (c.d.fact 18 (f := .glo (PySem.Str.ofString "_law_shape_values")) rfl), f_l_shape_outcomes := He.fAd K D_l_shape_outcomes.at_, d_l_shape_outcomes := d19, F_l_shape_outcomes := F19, g_l_shape_outcomes := He.glo_ok X G (c.d.fact 19 (f := .glo (PySem.Str.ofString "_law_shape_outcomes")) rfl), f_l_shape_rank := He.fAd K D_l_shape_rank.at_, d_l_shape_rank := d20, F_l_shape_rank := F20, g_l_shape_rank := He.glo_ok X G (c.d.fact 20 (f := .glo (PySem.Str.ofString "_law_shape_rank")) rfl), f_l_shape_outcome_rank := He.fAd K D_l_shape_outcome_rank.at_, d_l_shape_outcome_rank := d21, F_l_shape_outcome_rank := F21, g_l_shape_outcome_rank := He.glo_ok X G (c.d.fact 21 (f := .glo (PySem.Str.ofString "_law_shape_outcome_rank")) rfl), f_l_shape_at := He.fAd K D_l_shape_at.at_, d_l_shape_at := d22, F_l_shape_at := F22, g_l_shape_at := He.glo_ok X G (c.d.fact 22 (f := .glo (PySem.Str.ofString "_law_shape_at")) rfl), f_l_shape_outcome_at := He.fAd K D_l_shape_outcome_at.at_, d_l_shape_outcome_at := d23, F_l_shape_outcome_at := F23, g_l_shape_outcome_at := He.glo_ok X G (c.d.fact 23 (f := .glo (PySem.Str.ofString "_law_shape_outcome_at")) rfl), f_l_shape_row := He.fAd K D_l_shape_row.at_, d_l_shape_row := d24, F_l_shape_row := F24, g_l_shape_row := He.glo_ok X G (c.d.fact 24 (f := .glo (PySem.Str.ofString "_law_shape_row")) rfl), f_l_shape_any := He.fAd K D_l_shape_any.at_, d_l_shape_any := d25, F_l_shape_any := F25, g_l_shape_any := He.glo_ok X G (c.d.fact 25 (f := .glo (PySem.Str.ofString "_law_shape_any")) rfl), f_l_shape_value := He.fAd K D_l_shape_value.at_, d_l_shape_value := d26, F_l_shape_value := F26, g_l_shape_value := He.glo_ok X G (c.d.fact 26 (f := .glo (PySem.Str.ofString "_law_shape_value")) rfl), f_l_shape_outcome := He.fAd K D_l_shape_outcome.at_, d_l_shape_outcome := d27, F_l_shape_outcome := F27, g_l_shape_outcome := He.glo_ok X G (c.d.fact 27 (f := .glo (PySem.Str.ofString "_law_shape_outcome")) rfl), f_l_look_shows := He.fAd K D_l_look_shows.at_, d_l_look_shows := d28, F_l_look_shows := F28, g_l_look_shows := He.glo_ok X G (c.d.fact 28 (f := .glo (PySem.Str.ofString "_law_look_shows")) rfl), f_l_look_inner := He.fAd K D_l_look_inner.at_, d_l_look_inner := d29, F_l_look_inner := F29, g_l_look_inner := He.glo_ok X G (c.d.fact 29 (f := .glo (PySem.Str.ofString "_law_look_inner")) rfl), f_l_look_all := He.fAd K D_l_look_all.at_, d_l_look_all := d30, F_l_look_all := F30, g_l_look_all := He.glo_ok X G (c.d.fact 30 (f := .glo (PySem.Str.ofString "_law_look_all")) rfl), f_l_look_sum := He.fAd K D_l_look_sum.at_, d_l_look_sum := d31, F_l_look_sum := F31, g_l_look_sum := He.glo_ok X G (c.d.fact 31 (f := .glo (PySem.Str.ofString "_law_look_sum")) rfl), f_l_look_count := He.fAd K D_l_look_count.at_, d_l_look_count := d32, F_l_look_count := F32, g_l_look_count := He.glo_ok X G (c.d.fact 32 (f := .glo (PySem.Str.ofString "_law_look_count")) rfl), f_l_look_last := He.fAd K D_l_look_last.at_, d_l_look_last := d33, F_l_look_last := F33, g_l_look_last := He.glo_ok X G (c.d.fact 33 (f := .glo (PySem.Str.ofString "_law_look_last")) rfl), f_l_look_finds := He.fAd K D_l_look_finds.at_, d_l_look_finds := d34, F_l_look_finds := F34, g_l_look_finds := He.glo_ok X G (c.d.fact 34 (f := .glo (PySem.Str.ofString "_law_look_finds")) rfl), f_l_look_decoded := He.fAd K D_l_look_decoded.at_, d_l_look_decoded := d35, F_l_look_decoded := F35, g_l_look_decoded := He.glo_ok X G (c.d.fact 35 (f := .glo (PySem.Str.ofString "_law_look_decoded")) rfl), f_l_look_worth := He.fAd K D_l_look_worth.at_, d_l_look_worth := d36, F_l_look_worth := F36, g_l_look_worth := He.glo_ok X G (c.d.fact 36 (f := .glo (PySem.Str.ofString "_law_look_worth")) rfl), f_l_k36_shape := He.fAd K D_l_k36_shape.at_, d_l_k36_shape := d37, F_l_k36_shape := F37, g_l_k36_shape := He.glo_ok X G (c.d.fact 37 (f := .glo (PySem.Str.ofString "_law_k36_shape")) rfl), f_l_k36_bent := He.fAd K D_l_k36_bent.at_, d_l_k36_bent := d38, F_l_k36_bent := F38, g_l_k36_bent := He.glo_ok X G (c.d.fact 38 (f := .glo (PySem.Str.ofString "_law_k36_bent")) rfl), f_l_k36_drawn := He.fAd K D_l_k36_drawn.at_, d_l_k36_drawn := d39, F_l_k36_drawn := F39, g_l_k36_drawn := He.glo_ok X G (c.d.fact 39 (f := .glo (PySem.Str.ofString "_law_k36_drawn")) rfl), f_l_k36_asked := He.fAd K D_l_k36_asked.at_, d_l_k36_asked := d40, F_l_k36_asked := F40, g_l_k36_asked := He.glo_ok X G (c.d.fact 40 (f := .glo (PySem.Str.ofString "_law_k36_asked")) rfl), f_law := He.fAd K D_law.at_, d_law := d41, F_law := F41, g_law := He.glo_ok X G (c.d.fact 41 (f := .glo (PySem.Str.ofString "law")) rfl), n_abs := He.free_ok X G (c.d.fact 42 (f := .free (PySem.Str.ofString "abs")) rfl), n_all := He.free_ok X G (c.d.fact 43 (f := .free (PySem.Str.ofString "all")) rfl), n_bool := He.free_ok X G (c.d.fact 44 (f := .free (PySem.Str.ofString "bool")) rfl), n_int := He.free_ok X G (c.d.fact 45 (f := .free (PySem.Str.ofString "int")) rfl), n_isinstance := He.free_ok X G (c.d.fact 46 (f := .free (PySem.Str.ofString "isinstance")) rfl), n_len := He.free_ok X G (c.d.fact 47 (f := .free (PySem.Str.ofString "len")) rfl), n_list := He.free_ok X G (c.d.fact 48 (f := .free (PySem.Str.ofString "list")) rfl), n_max := He.free_ok X G (c.d.fact 49 (f := .free (PySem.Str.ofString "max")) rfl), n_min := He.free_ok X G (c.d.fact 50 (f := .free (PySem.Str.ofString "min")) rfl), n_range := He.free_ok X G (c.d.fact 51 (f := .free (PySem.Str.ofString "range")) rfl), n_str := He.free_ok X G (c.d.fact 52 (f := .free (PySem.Str.ofString "str")) rfl), n_tuple := He.free_ok X G (c.d.fact 53 (f := .free (PySem.Str.ofString "tuple")) rfl), c_MOST_COUNT := c.cst X G 0 rfl }, rfl⟩
end G36
open PySem PySem.W PySem.Calls PyProof.Rows
theorem PySem.Challenge.cw_totalc_k36_findings_are_decoded_holds : PySem.Challenge.rw_totalc_k36_findings_are_decoded.Holds := by
  w_on; o_law
  refine HandSHeadRun.head_any (r := OpenLaw.row PySem.Challenge.rw_totalc_k36_findings_are_decoded) (q := view (OpenLaw.row PySem.Challenge.rw_totalc_k36_findings_are_decoded).prog [45]) (H := G36.hk) (ob := G36.ob) (M := 4000) (loose := G36.names) (d := HandSHeadRun.topDef (OpenLaw.row PySem.Challenge.rw_totalc_k36_findings_are_decoded).prog 45) (kwd := []) G36.ob_eq
    (by kernel_rfl) (fun s => by kernel_rfl) G36.run (by kernel_rfl) (by kernel_rfl) (by kernel_rfl) (by rfl) (by first | assumption | decide +kernel) (by decide +kernel) ⟨rfl, rfl, rfl, rfl, rfl, by decide +kernel⟩ ?hw ?hc
  case hw => w_witness2
  case hc =>
    refine L2.walk_ofE (l := PySem.Challenge.rw_totalc_k36_findings_are_decoded) (n := 63) (k := 42) (x := "script") (CX := L2.CX0) rfl (by decide) (by kernel_rfl) ⟨rfl, by decide, by decide⟩ ?F (fun _ _ _ _ z => z)
    intro w mg fa h Y G hmg0
    obtain ⟨K, KX, c⟩ := Y
    have hmg : mg ("law" : PySem.Str) = some (.ref fa) := by
      have e : (HandSHeadRun.topDef (OpenLaw.row PySem.Challenge.rw_totalc_k36_findings_are_decoded).prog 45).name = ("law" : PySem.Str) := by kernel_rfl
      rw [← e]
      exact hmg0
    obtain ⟨T, eT⟩ := G36.facts KX G c
    have e := hmg.symm.trans T.g_law
    cases e
    have b := L2.FunD.bindsA (ps := ["script"]) T.F_law fun _ _ _ _ _ _ us hl => match us, hl with | [_], _ => rfl
    exact ⟨K, T.d_law, L2.Zd.spOf K [false] (G36.m 42).law, KX, fun s v => b s [v] rfl, fun H a ns _ _ hS => L2.Zd.law_sp hS (G36.law_true ns), fun base _ _ => (G36.ok T 42).law⟩

