import PyProof.Rows.All
import Wide.All
import OpenK.AllK
import Wide.FinOn
import HandS.ForMost
import HandS.IsInst
import HandS.SortInts
import HandS.Zip
import HandS.Rev
import HandS.Conv
import HandS.Deep
import HandS.DictComp
import HandS.TupAny
import HandS.TupMul
import HandS.Wide
import HandS.TupLe
import HandS.Flow
import HandS.Exc
import HandS.ExcOwn
import HandS.WordsExc
import KE.GoesEnum
import KE.GoesMore
import KE.SortData
import HandS.Style
import HandS.TupLen
import HandS.Dict
import HandS.More
import HandS.Text
import PySem.Challenge.RW_withinrows_k67_whole_words_put_together
set_option Elab.async false
set_option linter.all false
set_option maxRecDepth 100000
set_option maxHeartbeats 2000000
namespace DL
open PySem PySem.Spec PyProof.Rows L2

/-! ### data -/
inductive Dv where
  | non | bl (b : Bool) | int (i : Int) | str (s : Str)
  | tup (ds : List Dv) | lst (ds : List Dv) | dct (kvs : List (Dv × Dv)) | obj (v : V) | scr (ns : List Int)
  deriving Inhabited

def kD : Key → Dv
  | .inl i => .int i
  | .inr s => .str s

mutual
inductive Rp (K : W.Frag) (F : Hp) : V → Dv → Prop
  | non : Rp K F .non .non
  | bl (b : Bool) : Rp K F (.bl b) (.bl b)
  | int (i : Int) : Rp K F (.int i) (.int i)
  | str (x : Str) : Rp K F (.str x) (.str x)
  | tup {a : Addr} {xs : List V} {ds : List Dv} : SqT K F a xs → RpAll K F xs ds → Rp K F (.ref a) (.tup ds)
  | lst {a : Addr} {xs : List V} {ds : List Dv} : F a = some (.lst xs) → RpAll K F xs ds → Rp K F (.ref a) (.lst ds)
  | dct {a : Addr} {kvs : List (Key × V)} {ds : List (Dv × Dv)} : Rd F a (.dK kvs) → RpKv K F kvs ds → Rp K F (.ref a) (.dct ds)
  | dctT {a : Addr} {kvs : List (List Key × V)} {ds : List (Dv × Dv)} : F a = some (.dT kvs) → RpKvT K F kvs ds → Rp K F (.ref a) (.dct ds)
  | obj (v : V) : Rp K F v (.obj v)
  | scr {a : Addr} {ns : List Int} : SqL K F a (ns.map V.int) → Rp K F (.ref a) (.scr ns)
inductive RpAll (K : W.Frag) (F : Hp) : List V → List Dv → Prop
  | nil : RpAll K F [] []
  | cons {v : V} {vs : List V} {d : Dv} {ds : List Dv} : Rp K F v d → RpAll K F vs ds → RpAll K F (v :: vs) (d :: ds)
inductive RpKv (K : W.Frag) (F : Hp) : List (Key × V) → List (Dv × Dv) → Prop
  | nil : RpKv K F [] []
  | cons {k : Key} {v : V} {vs : List (Key × V)} {d : Dv} {ds : List (Dv × Dv)} : Rp K F v d → RpKv K F vs ds → RpKv K F ((k, v) :: vs) ((kD k, d) :: ds)
inductive RpKvT (K : W.Frag) (F : Hp) : List (List Key × V) → List (Dv × Dv) → Prop
  | nil : RpKvT K F [] []
  | cons {k : List Key} {v : V} {vs : List (List Key × V)} {d : Dv} {ds : List (Dv × Dv)} : Rp K F v d → RpKvT K F vs ds → RpKvT K F ((k, v) :: vs) ((.tup (k.map kD), d) :: ds)
end

theorem sameRd {H H' : Hp} {a : Addr} {u : HO} (e : Same H H') (h : Rd H a u) : Rd H' a u := h.elim (fun h => .inl (e _ _ h)) fun ⟨o, h⟩ => .inr ⟨o, e _ _ h⟩
theorem sameT {K : W.Frag} {H H' : Hp} {a : Addr} {xs : List V} (e : Same H H') (h : SqT K H a xs) : SqT K H' a xs := h.elim (fun h => .inl (sameRd e h)) .inr

section
variable {K : W.Frag} {F F' : Hp}
mutual
theorem Rp.mono (e : Same F F') : ∀ {v : V} {d : Dv}, Rp K F v d → Rp K F' v d
  | _, _, .non => .non
  | _, _, .bl b => .bl b
  | _, _, .int b => .int b
  | _, _, .str b => .str b
  | _, _, .tup h r => .tup (sameT e h) (RpAll.mono e r)
  | _, _, .lst h r => .lst (e _ _ h) (RpAll.mono e r)
  | _, _, .dct h r => .dct (sameRd e h) (RpKv.mono e r)
  | _, _, .dctT h r => .dctT (e _ _ h) (RpKvT.mono e r)
  | _, _, .obj v => .obj v
  | _, _, .scr h => .scr (e.seq h)
theorem RpAll.mono (e : Same F F') : ∀ {v : List V} {d : List Dv}, RpAll K F v d → RpAll K F' v d
  | _, _, .nil => .nil
  | _, _, .cons h r => .cons (Rp.mono e h) (RpAll.mono e r)
theorem RpKv.mono (e : Same F F') : ∀ {v : List (Key × V)} {d : List (Dv × Dv)}, RpKv K F v d → RpKv K F' v d
  | _, _, .nil => .nil
  | _, _, .cons h r => .cons (Rp.mono e h) (RpKv.mono e r)
theorem RpKvT.mono (e : Same F F') : ∀ {v : List (List Key × V)} {d : List (Dv × Dv)}, RpKvT K F v d → RpKvT K F' v d
  | _, _, .nil => .nil
  | _, _, .cons h r => .cons (Rp.mono e h) (RpKvT.mono e r)
end
theorem RpAll.length : ∀ {v : List V} {d : List Dv}, RpAll K F v d → v.length = d.length
  | _, _, .nil => rfl
  | _, _, .cons _ r => by rw [List.length_cons, List.length_cons, RpAll.length r]
theorem RpAll.append : ∀ {v v' : List V} {d d' : List Dv}, RpAll K F v d → RpAll K F v' d' → RpAll K F (v ++ v') (d ++ d')
  | _, _, _, _, .nil, s => s
  | _, _, _, _, .cons h r, s => .cons h (RpAll.append r s)
theorem RpAll.get : ∀ {v : List V} {d : List Dv} {i : Nat} {x : Dv}, RpAll K F v d → d[i]? = some x → ∃ u, v[i]? = some u ∧ Rp K F u x
  | _, _, i, x, .nil, e => by cases e
  | _, _, 0, x, .cons h r, e => by
    have e' := Option.some.inj e
    subst e'
    exact ⟨_, rfl, h⟩
  | _, _, i + 1, x, .cons h r, e => RpAll.get (i := i) r e
theorem RpAll.getV : ∀ {v : List V} {d : List Dv} {i : Nat} {u : V}, RpAll K F v d → v[i]? = some u → ∃ x, d[i]? = some x ∧ Rp K F u x
  | _, _, i, x, .nil, e => by cases e
  | _, _, 0, x, .cons h r, e => by
    have e' := Option.some.inj e
    subst e'
    exact ⟨_, rfl, h⟩
  | _, _, i + 1, x, .cons h r, e => RpAll.getV (i := i) r e
theorem RpAll.take : ∀ {v : List V} {d : List Dv} (n : Nat), RpAll K F v d → RpAll K F (v.take n) (d.take n)
  | _, _, 0, _ => by rw [List.take_zero, List.take_zero]; exact .nil
  | _, _, n + 1, .nil => .nil
  | _, _, n + 1, .cons h r => .cons h (RpAll.take n r)
theorem RpAll.drop : ∀ {v : List V} {d : List Dv} (n : Nat), RpAll K F v d → RpAll K F (v.drop n) (d.drop n)
  | _, _, 0, r => r
  | _, _, n + 1, .nil => .nil
  | _, _, n + 1, .cons h r => RpAll.drop n r
theorem RpAll.set {x : V} {y : Dv} (q : Rp K F x y) : ∀ {v : List V} {d : List Dv} (n : Nat), RpAll K F v d → RpAll K F (v.set n x) (d.set n y)
  | _, _, 0, .cons _ r => .cons q r
  | _, _, n + 1, .cons h r => .cons h (RpAll.set q n r)
  | _, _, 0, .nil => .nil
  | _, _, n + 1, .nil => .nil
theorem RpAll.reverse {v : List V} {d : List Dv} (r : RpAll K F v d) : RpAll K F v.reverse d.reverse := by
  induction v generalizing d with
  | nil => cases r; exact .nil
  | cons a l ih =>
    cases r with
    | cons h r => rw [List.reverse_cons, List.reverse_cons]; exact (ih r).append (.cons h .nil)
theorem RpAll.eraseIdx : ∀ {v : List V} {d : List Dv} (n : Nat), RpAll K F v d → RpAll K F (v.eraseIdx n) (d.eraseIdx n)
  | _, _, 0, .cons _ r => r
  | _, _, n + 1, .cons h r => .cons h (RpAll.eraseIdx n r)
  | _, _, 0, .nil => .nil
  | _, _, n + 1, .nil => .nil
theorem RpAll.dropLast {v : List V} {d : List Dv} (r : RpAll K F v d) : RpAll K F v.dropLast d.dropLast := by
  rw [List.dropLast_eq_take, List.dropLast_eq_take, r.length]; exact r.take _
theorem RpAll.replicate {x : V} {y : Dv} (q : Rp K F x y) : ∀ n : Nat, RpAll K F (List.replicate n x) (List.replicate n y)
  | 0 => .nil
  | n + 1 => .cons q (RpAll.replicate q n)
theorem RpAll.ints : ∀ {ns : List Int} {v : List V}, RpAll K F v (ns.map .int) → v = ns.map .int
  | [], _, .nil => rfl
  | n :: ns, _, .cons h r => by
    cases h
    rw [RpAll.ints r]; rfl
theorem RpAll.of_ints : ∀ (ns : List Int), RpAll K F (ns.map .int) (ns.map .int)
  | [] => .nil
  | n :: ns => .cons (.int n) (RpAll.of_ints ns)
theorem RpAll.bls : ∀ {ns : List Bool} {v : List V}, RpAll K F v (ns.map .bl) → v = ns.map .bl
  | [], _, .nil => rfl
  | n :: ns, _, .cons h r => by
    cases h
    rw [RpAll.bls r]; rfl
end

mutual
def imm : Dv → Bool
  | .tup ds => immAll ds
  | .lst _ => false
  | .dct _ => false
  | .scr _ => false
  | _ => true
def immAll : List Dv → Bool
  | [] => true
  | d :: ds => imm d && immAll ds
end

/-! ### growth of the heap and of its frozen part -/
structure Gr (F H F' H' : Hp) : Prop where
  ff : Same F F'
  hh : Same H H'
  fh : Same F' H'
  nw : ∀ a u, F' a = some u → F a = some u ∨ H a = none
theorem Gr.refl {F H : Hp} (h : Same F H) : Gr F H F H := ⟨Same.refl _, Same.refl _, h, fun _ _ e => .inl e⟩
theorem Gr.trans {F H F1 H1 F2 H2 : Hp} (a : Gr F H F1 H1) (b : Gr F1 H1 F2 H2) : Gr F H F2 H2 :=
  ⟨a.ff.trans b.ff, a.hh.trans b.hh, b.fh, fun x u e => (b.nw x u e).elim (fun q => a.nw x u q) fun q => .inr (a.hh.free q)⟩
theorem same_upd {H : Hp} {p : Addr} {o : HO} (h : H p = none) : Same H (upd H p o) := fun b x e => by
  rw [upd_ne (ne_of_none e h)]
  exact e
theorem Gr.new {F H : Hp} (h : Same F H) {p : Addr} (o : HO) (n : H p = none) : Gr F H (upd F p o) (upd H p o) where
  ff := same_upd (h.free n)
  hh := same_upd n
  fh := fun b x e => by
    by_cases q : b = p
    · subst q; rw [upd_same] at e ⊢; exact e
    · rw [upd_ne q] at e ⊢; exact h _ _ e
  nw := fun b x e => by
    by_cases q : b = p
    · subst q; exact .inr n
    · rw [upd_ne q] at e; exact .inl e
/-- a new object that stays apart -/
theorem Gr.apart {F H : Hp} (h : Same F H) {p : Addr} (o : HO) (n : H p = none) : Gr F H F (upd H p o) :=
  ⟨Same.refl _, same_upd n, h.trans (same_upd n), fun _ _ e => .inl e⟩

/-! ### the state of a def's body -/
structure DS where
  great : List Int
  cells : List Int
  rest : Int
  turn : Int
  deriving Inhabited
def StH (H : Hp) (a g c : Addr) (w : DS) : Prop :=
  H a = some (.dK [(.inr "great", .ref g), (.inr "cells", .ref c), (.inr "rest", .int w.rest), (.inr "turn", .int w.turn)]) ∧ H g = some (.lst (w.great.map .int)) ∧ H c = some (.lst (w.cells.map .int)) ∧ g ≠ c
theorem StH.mono {H H' : Hp} {a g c : Addr} {w : DS} (h : StH H a g c w) (e1 : ∀ o, H a = some o → H' a = some o) (e2 : ∀ o, H g = some o → H' g = some o) (e3 : ∀ o, H c = some o → H' c = some o) : StH H' a g c w := ⟨e1 _ h.1, e2 _ h.2.1, e3 _ h.2.2.1, h.2.2.2⟩

inductive EV where
  | un | dat (d : Dv) | lst (ds : List Dv) | dct (kvs : List (Dv × Dv)) | dctT (kvs : List (Dv × Dv)) | drw
  deriving Inhabited

/-- what holds at a def's entry: its heap, the frozen part, where the state of the draws stands -/
structure Z0 where
  H : Hp
  F : Hp
  dr : Option (Addr × Addr × Addr)
def Z0.foot (Z : Z0) (a : Addr) : Prop := ∃ x g c, Z.dr = some (x, g, c) ∧ (a = x ∨ a = g ∨ a = c)

def SlotR (K : W.Frag) (Z : Z0) (F H : Hp) (ow : Addr → Option Nat) (i : Nat) (s : Option (Option V)) : EV → Prop
  | .un => True
  | .dat d => ∃ v, s = some (some v) ∧ Rp K F v d
  | .lst ds => ∃ a vs, s = some (some (.ref a)) ∧ H a = some (.lst vs) ∧ ow a = some (i + 1) ∧ Z.H a = none ∧ RpAll K F vs ds
  | .dct ds => ∃ a kvs, s = some (some (.ref a)) ∧ H a = some (.dK kvs) ∧ ow a = some (i + 1) ∧ Z.H a = none ∧ RpKv K F kvs ds
  | .dctT ds => ∃ a kvs, s = some (some (.ref a)) ∧ H a = some (.dT kvs) ∧ ow a = some (i + 1) ∧ Z.H a = none ∧ RpKvT K F kvs ds
  | .drw => ∃ a g c, s = some (some (.ref a)) ∧ Z.dr = some (a, g, c)

structure Rep (K : W.Frag) (Z : Z0) (F : Hp) (ow : Addr → Option Nat) (σ : L2.St) (H : Hp) (ρ : List EV) (w : DS) : Prop where
  sub : Same F H
  keepF : Same Z.F F
  newF : ∀ a u, F a = some u → Z.F a = some u ∨ Z.H a = none
  keep : ∀ a o, Z.H a = some o → ¬ Z.foot a → H a = some o ∧ ow a = none
  fzo : ∀ a u, F a = some u → ow a = none
  owh : ∀ a i, ow a = some i → ∃ u, H a = some u
  len : σ.length = ρ.length
  slots : ∀ i e, ρ[i]? = some e → SlotR K Z F H ow i σ[i]? e
  dr : ∀ a g c, Z.dr = some (a, g, c) → StH H a g c w ∧ ow a = some 0 ∧ ow g = some 0 ∧ ow c = some 0

section
variable {K : W.Frag} {Z : Z0} {F F' : Hp} {ow : Addr → Option Nat} {σ : L2.St} {H H' : Hp} {ρ : List EV} {w : DS}
theorem SlotR.grow {i : Nat} {s : Option (Option V)} (e : EV) (g1 : Same F F') (g2 : ∀ a o, ow a ≠ none → H a = some o → H' a = some o) (h : SlotR K Z F H ow i s e) : SlotR K Z F' H' ow i s e := by
  cases e with
  | un => trivial
  | dat d => obtain ⟨v, e, r⟩ := h; exact ⟨v, e, r.mono g1⟩
  | lst ds => obtain ⟨a, vs, e, h1, h2, h3, r⟩ := h; exact ⟨a, vs, e, g2 _ _ (by rw [h2]; simp) h1, h2, h3, r.mono g1⟩
  | dct ds => obtain ⟨a, vs, e, h1, h2, h3, r⟩ := h; exact ⟨a, vs, e, g2 _ _ (by rw [h2]; simp) h1, h2, h3, r.mono g1⟩
  | dctT ds => obtain ⟨a, vs, e, h1, h2, h3, r⟩ := h; exact ⟨a, vs, e, g2 _ _ (by rw [h2]; simp) h1, h2, h3, r.mono g1⟩
  | drw => exact h
theorem Rep.grow (R : Rep K Z F ow σ H ρ w) (g : Gr F H F' H') : Rep K Z F' ow σ H' ρ w where
  sub := g.fh
  keepF := R.keepF.trans g.ff
  newF := fun a u e => (g.nw a u e).elim (R.newF a u) fun n => by
    cases q : Z.H a with
    | none => exact .inr rfl
    | some o =>
      by_cases z : Z.foot a
      · obtain ⟨x, gg, c, e1, e2⟩ := z
        obtain ⟨⟨h1, h2, h3, _⟩, _⟩ := R.dr _ _ _ e1
        rcases e2 with rfl | rfl | rfl
        · rw [h1] at n; cases n
        · rw [h2] at n; cases n
        · rw [h3] at n; cases n
      · rw [(R.keep a o q z).1] at n; cases n
  keep := fun a o e z => ⟨g.hh _ _ (R.keep a o e z).1, (R.keep a o e z).2⟩
  fzo := fun a u e => (g.nw a u e).elim (R.fzo a u) fun n => by
    cases q : ow a with
    | none => rfl
    | some i =>
      obtain ⟨u, h⟩ := R.owh a i q
      rw [h] at n; cases n
  owh := fun a i e => let ⟨u, h⟩ := R.owh a i e; ⟨u, g.hh _ _ h⟩
  len := R.len
  slots := fun i e h => (R.slots i e h).grow e g.ff fun a o _ q => g.hh _ _ q
  dr := fun a gg c e => by
    obtain ⟨h, o1, o2, o3⟩ := R.dr a gg c e
    exact ⟨h.mono (fun o => g.hh _ _) (fun o => g.hh _ _) fun o => g.hh _ _, o1, o2, o3⟩
theorem Rep.get {i : Nat} {d : Dv} (R : Rep K Z F ow σ H ρ w) (h : ρ[i]? = some (.dat d)) : ∃ v, σ[i]? = some (some v) ∧ Rp K F v d := R.slots i _ h
/-- a slot is stored -/
theorem Rep.set {i : Nat} {v : V} {e : EV} (R : Rep K Z F ow σ H ρ w) (h : SlotR K Z F H ow i (some (some v)) e) : Rep K Z F ow (σ.set i (some v)) H (ρ.set i e) w :=
  { R with
    len := by rw [List.length_set, List.length_set]; exact R.len
    slots := fun j e' q => by
      by_cases hj : i = j
      · subst hj
        have hl : i < ρ.length := by
          have := (List.getElem?_eq_some_iff.mp q).1
          rwa [List.length_set] at this
        rw [List.getElem?_set_self hl] at q
        cases q
        rw [List.getElem?_set_self (by rw [R.len]; exact hl)]
        exact h
      · rw [List.getElem?_set_ne hj] at q ⊢
        exact R.slots j e' q }
end

/-! ### results -/
structure Xc where
  cls : Addr
  fld : Option (Str × Dv)
inductive RR (α : Type) where
  | ok (a : α) (w : DS) | rz (x : Xc) (w : DS) | stuck
  deriving Inhabited
def RR.bind {α β : Type} (r : RR α) (k : α → DS → RR β) : RR β := match r with
  | .ok d w => k d w
  | .rz x w => .rz x w
  | .stuck => .stuck
@[simp] theorem RR.bind_ok {α β : Type} (a : α) (w : DS) (k : α → DS → RR β) : (RR.ok a w).bind k = k a w := rfl
@[simp] theorem RR.bind_rz {α β : Type} (a : Xc) (w : DS) (k : α → DS → RR β) : (RR.rz a w).bind k = RR.rz a w := rfl
@[simp] theorem RR.bind_stuck {α β : Type} (k : α → DS → RR β) : (RR.stuck : RR α).bind k = RR.stuck := rfl
/-- a value that may not be there -/
def RR.of {α : Type} (o : Option α) (w : DS) : RR α := match o with
  | some a => .ok a w
  | none => .stuck
@[simp] theorem RR.of_some {α : Type} (a : α) (w : DS) : RR.of (some a) w = .ok a w := rfl
@[simp] theorem RR.of_none {α : Type} (w : DS) : RR.of (none : Option α) w = .stuck := rfl
abbrev Sx := List EV → DS → RR Dv
abbrev Sb := List EV → DS → RR Bool
abbrev Sa := List EV → DS → RR (List EV)
abbrev Sl := List EV → DS → RR (List Dv)
/-- how an exception lies -/
def XR (K : W.Frag) (F H : Hp) (x : Xc) (cls : Value) (dx : Option Addr) : Prop :=
  cls = .ref x.cls ∧ match x.fld with
    | none => dx = none
    | some (n, d) => ∃ a v, dx = some a ∧ H a = some (.xd [(n, v)]) ∧ Rp K F v d
section
variable (K : W.Frag) (Z : Z0) (E : XK)
def Post (σ : L2.St) (ρ : List EV) {α : Type} (P : α → DS → Prop) : RR α → Prop
  | .ok a w => P a w
  | .rz x w => ∀ cls dx H F ow, Rep K Z F ow σ H ρ w → XR K F H x cls dx → E cls dx H
  | .stuck => False
def QE (F : Hp) (σ : L2.St) (Q : VK) (ρ : List EV) (d : Dv) (w : DS) : Prop := ∀ v H' F' ow', Same F F' → Rep K Z F' ow' σ H' ρ w → Rp K F' v d → Q v H'
def QT (F : Hp) (σ : L2.St) (Q : Bool → Hp → Prop) (ρ : List EV) (b : Bool) (w : DS) : Prop := ∀ H' F' ow', Same F F' → Rep K Z F' ow' σ H' ρ w → Q b H'
end
inductive ArgR (K : W.Frag) (F : Hp) (dr : Option (Addr × Addr × Addr)) : List V → List EV → Prop
  | nil : ArgR K F dr [] []
  | dat {v : V} {d : Dv} {vs : List V} {ps : List EV} : Rp K F v d → ArgR K F dr vs ps → ArgR K F dr (v :: vs) (.dat d :: ps)
  | drw {a g c : Addr} {vs : List V} {ps : List EV} : dr = some (a, g, c) → ArgR K F dr vs ps → ArgR K F dr (.ref a :: vs) (.drw :: ps)
theorem ArgR.mono {K : W.Frag} {F F' : Hp} {dr : Option (Addr × Addr × Addr)} (e : Same F F') {vs : List V} {ps : List EV} (h : ArgR K F dr vs ps) : ArgR K F' dr vs ps := by
  induction h with
  | nil => exact .nil
  | dat r _ ih => exact .dat (r.mono e) ih
  | drw e _ ih => exact .drw e ih
theorem ArgR.length {K : W.Frag} {F : Hp} {dr : Option (Addr × Addr × Addr)} {vs : List V} {ps : List EV} (h : ArgR K F dr vs ps) : vs.length = ps.length := by
  induction h with
  | nil => rfl
  | dat r _ ih => rw [List.length_cons, List.length_cons, ih]
  | drw e _ ih => rw [List.length_cons, List.length_cons, ih]
section
variable (K : W.Frag) (Z : Z0) (E : XK)
def QA (F : Hp) (σ : L2.St) (Q : List V → Hp → Prop) (ρ : List EV) (ps : List EV) (w : DS) : Prop := ∀ vs H' F' ow', Same F F' → Rep K Z F' ow' σ H' ρ w → ArgR K F' Z.dr vs ps → Q vs H'
/-- a new list, not frozen yet -/
def QN (F : Hp) (σ : L2.St) (Q : VK) (ρ : List EV) (ds : List Dv) (w : DS) : Prop := ∀ p vs H' F' ow', Same F F' → Rep K Z F' ow' σ H' ρ w → H' p = some (.lst vs) → ow' p = none → F' p = none → Z.H p = none → RpAll K F' vs ds → Q (.ref p) H'
def Snd (t : TE) (f : Sx) : Prop := ∀ F ow σ H ρ w Q, Rep K Z F ow σ H ρ w → Post K Z E σ ρ (QE K Z F σ Q ρ) (f ρ w) → t σ H Q
def SndT (t : TT) (f : Sb) : Prop := ∀ F ow σ H ρ w Q, Rep K Z F ow σ H ρ w → Post K Z E σ ρ (QT K Z F σ Q ρ) (f ρ w) → t σ H Q
def SndA (t : TA) (f : Sa) : Prop := ∀ F ow σ H ρ w Q, Rep K Z F ow σ H ρ w → Post K Z E σ ρ (QA K Z F σ Q ρ) (f ρ w) → t σ H Q
def SndN (t : TE) (f : Sl) : Prop := ∀ F ow σ H ρ w Q, Rep K Z F ow σ H ρ w → Post K Z E σ ρ (QN K Z F σ Q ρ) (f ρ w) → t σ H Q
end
section
variable {K : W.Frag} {Z : Z0} {E : XK} {F : Hp} {ow : Addr → Option Nat} {σ : L2.St} {H : Hp} {ρ : List EV} {w : DS}
/-- an expression, then what hangs on its value -/
theorem Snd.seq {t : TE} {f : Sx} {C : VK} {α : Type} {P : α → DS → Prop} {k : Dv → DS → RR α} (h : Snd K Z E t f) (R : Rep K Z F ow σ H ρ w) (hp : Post K Z E σ ρ P ((f ρ w).bind k))
    (c : ∀ d w' v H' F' ow', Same F F' → Rep K Z F' ow' σ H' ρ w' → Rp K F' v d → Post K Z E σ ρ P (k d w') → C v H') : t σ H C := by
  refine h F ow σ H ρ w C R ?_
  cases e : f ρ w with
  | ok d w' => rw [e] at hp; exact fun v H' F' ow' s R' r => c d w' v H' F' ow' s R' r hp
  | rz y w' => rw [e] at hp; exact hp
  | stuck => rw [e] at hp; exact hp
theorem SndT.seq {t : TT} {f : Sb} {C : Bool → Hp → Prop} {α : Type} {P : α → DS → Prop} {k : Bool → DS → RR α} (h : SndT K Z E t f) (R : Rep K Z F ow σ H ρ w) (hp : Post K Z E σ ρ P ((f ρ w).bind k))
    (c : ∀ d w' H' F' ow', Same F F' → Rep K Z F' ow' σ H' ρ w' → Post K Z E σ ρ P (k d w') → C d H') : t σ H C := by
  refine h F ow σ H ρ w C R ?_
  cases e : f ρ w with
  | ok d w' => rw [e] at hp; exact fun H' F' ow' s R' => c d w' H' F' ow' s R' hp
  | rz y w' => rw [e] at hp; exact hp
  | stuck => rw [e] at hp; exact hp
theorem SndA.seq {t : TA} {f : Sa} {C : List V → Hp → Prop} {α : Type} {P : α → DS → Prop} {k : List EV → DS → RR α} (h : SndA K Z E t f) (R : Rep K Z F ow σ H ρ w) (hp : Post K Z E σ ρ P ((f ρ w).bind k))
    (c : ∀ d w' v H' F' ow', Same F F' → Rep K Z F' ow' σ H' ρ w' → ArgR K F' Z.dr v d → Post K Z E σ ρ P (k d w') → C v H') : t σ H C := by
  refine h F ow σ H ρ w C R ?_
  cases e : f ρ w with
  | ok d w' => rw [e] at hp; exact fun v H' F' ow' s R' r => c d w' v H' F' ow' s R' r hp
  | rz y w' => rw [e] at hp; exact hp
  | stuck => rw [e] at hp; exact hp
theorem SndN.seq {t : TE} {f : Sl} {C : VK} {α : Type} {P : α → DS → Prop} {k : List Dv → DS → RR α} (h : SndN K Z E t f) (R : Rep K Z F ow σ H ρ w) (hp : Post K Z E σ ρ P ((f ρ w).bind k))
    (c : ∀ ds w' p vs H' F' ow', Same F F' → Rep K Z F' ow' σ H' ρ w' → H' p = some (.lst vs) → ow' p = none → F' p = none → Z.H p = none → RpAll K F' vs ds → Post K Z E σ ρ P (k ds w') → C (.ref p) H') : t σ H C := by
  refine h F ow σ H ρ w C R ?_
  cases e : f ρ w with
  | ok d w' => rw [e] at hp; exact fun p vs H' F' ow' s R' h1 h2 h3 h4 r => c d w' p vs H' F' ow' s R' h1 h2 h3 h4 r hp
  | rz y w' => rw [e] at hp; exact hp
  | stuck => rw [e] at hp; exact hp
theorem QE.up {F F1 : Hp} {Q : VK} {d : Dv} {w : DS} (e : Same F F1) (h : QE K Z F σ Q ρ d w) : QE K Z F1 σ Q ρ d w := fun v H' F' ow' s => h v H' F' ow' (e.trans s)
theorem Post.imp {α : Type} {P P' : α → DS → Prop} {r : RR α} (h : Post K Z E σ ρ P r) (i : ∀ a w, P a w → P' a w) : Post K Z E σ ρ P' r := by
  cases r with
  | ok a w => exact i _ _ h
  | rz x w => exact h
  | stuck => exact h
theorem freezeRep {p : Addr} {o : HO} (R : Rep K Z F ow σ H ρ w) (hp : H p = some o) (hw : ow p = none) (hf : F p = none) (hz : Z.H p = none) : Rep K Z (upd F p o) ow σ H ρ w :=
  have ef : Same F (upd F p o) := same_upd hf
  { R with
    sub := fun b x eb => by
      by_cases z : b = p
      · subst z; rw [upd_same] at eb; cases eb; exact hp
      · rw [upd_ne z] at eb; exact R.sub _ _ eb
    keepF := R.keepF.trans ef
    newF := fun b x eb => by
      by_cases z : b = p
      · subst z; exact .inr hz
      · rw [upd_ne z] at eb; exact R.newF _ _ eb
    fzo := fun b x eb => by
      by_cases z : b = p
      · subst z; exact hw
      · rw [upd_ne z] at eb; exact R.fzo _ _ eb
    slots := fun i x h => (R.slots i x h).grow x ef fun _ _ _ q => q }
/-- a new address is nobody's -/
theorem Rep.fresh (R : Rep K Z F ow σ H ρ w) {p : Addr} (n : H p = none) : ow p = none ∧ F p = none ∧ Z.H p = none := by
  refine ⟨?_, R.sub.free n, ?_⟩
  · cases q : ow p with
    | none => rfl
    | some i => obtain ⟨u, h⟩ := R.owh p i q; rw [h] at n; cases n
  · cases q : Z.H p with
    | none => rfl
    | some o =>
      by_cases z : Z.foot p
      · obtain ⟨x, gg, c, e1, e2⟩ := z
        obtain ⟨⟨h1, h2, h3, _⟩, _⟩ := R.dr _ _ _ e1
        rcases e2 with rfl | rfl | rfl
        · rw [h1] at n; cases n
        · rw [h2] at n; cases n
        · rw [h3] at n; cases n
      · rw [(R.keep p o q z).1] at n; cases n
theorem SndN.snd {t : TE} {f : Sl} (h : SndN K Z E t f) : Snd K Z E t (fun ρ w => (f ρ w).bind fun ds w => .ok (.lst ds) w) := fun F ow σ H ρ w Q R q =>
  h.seq R q fun ds w' p vs H' F' ow' s R' hp hw hf hz r q' =>
    have ef : Same F' (upd F' p (.lst vs)) := same_upd hf
    q' (.ref p) H' (upd F' p (.lst vs)) ow' (s.trans ef) (freezeRep R' hp hw hf hz) (.lst upd_same (r.mono ef))
end
end DL

namespace DL
open PySem PySem.Spec PyProof.Rows L2

/-- an expression of the text, its reading, what it is over data -/
structure DE (X : Cx) (Z : Z0) (E : XK) (e : Expr) (t : TE) (f : Sx) : Prop where
  pe : PE X e t
  sn : Snd X.K Z E t f
structure DT (X : Cx) (Z : Z0) (E : XK) (e : Expr) (t : TT) (f : Sb) : Prop where
  pt : PT X e t
  sn : SndT X.K Z E t f
structure DW (X : Cx) (Z : Z0) (E : XK) (e : Expr) (t : TT) (f : Sb) : Prop where
  pw : PW X e t
  sn : SndT X.K Z E t f
structure DA (X : Cx) (Z : Z0) (E : XK) (es : List Expr) (t : TA) (f : Sa) : Prop where
  pa : PA X es t
  sn : SndA X.K Z E t f
/-- a new list -/
structure DN (X : Cx) (Z : Z0) (E : XK) (e : Expr) (t : TE) (f : Sl) : Prop where
  pe : PE X e t
  sn : SndN X.K Z E t f

/-! ### what they are over data -/
def fVar (i : Nat) : Sx := fun ρ w => match ρ[i]? with
  | some (.dat d) => .ok d w
  | _ => .stuck
def fC (d : Dv) : Sx := fun _ w => .ok d w
def fOp (op : Dv → Dv → Option Dv) (fa fb : Sx) : Sx := fun ρ w => (fa ρ w).bind fun d w1 => (fb ρ w1).bind fun e w2 => .of (op d e) w2
def fUn (op : Dv → Option Dv) (fa : Sx) : Sx := fun ρ w => (fa ρ w).bind fun d w1 => .of (op d) w1
def fBool (f : Sx) : Sb := fun ρ w => (f ρ w).bind fun d w1 => match d with
  | .bl b => .ok b w1
  | _ => .stuck
def fAnd (fa fb : Sb) : Sb := fun ρ w => (fa ρ w).bind fun b w1 => if b = true then fb ρ w1 else .ok false w1
def fOr (fa fb : Sb) : Sb := fun ρ w => (fa ρ w).bind fun b w1 => if b = true then .ok true w1 else fb ρ w1
def fNot (fa : Sb) : Sb := fun ρ w => (fa ρ w).bind fun b w1 => .ok (!b) w1
def fOfB (fa : Sb) : Sx := fun ρ w => (fa ρ w).bind fun b w1 => .ok (.bl b) w1
def fIf (fc : Sb) (fa fb : Sx) : Sx := fun ρ w => (fc ρ w).bind fun b w1 => if b = true then fa ρ w1 else fb ρ w1
def aNil : Sa := fun _ w => .ok [] w
def aCons (fa : Sx) (fr : Sa) : Sa := fun ρ w => (fa ρ w).bind fun d w1 => (fr ρ w1).bind fun ps w2 => .ok (.dat d :: ps) w2
def aDrw (i : Nat) (fr : Sa) : Sa := fun ρ w => match ρ[i]? with
  | some .drw => (fr ρ w).bind fun ps w2 => .ok (.drw :: ps) w2
  | _ => .stuck
def datsOf : List EV → Option (List Dv)
  | [] => some []
  | .dat d :: r => (datsOf r).map (d :: ·)
  | _ => none
def fDats (fa : Sa) : Sl := fun ρ w => (fa ρ w).bind fun ps w1 => .of (datsOf ps) w1
def big : Nat := 16777216
def fTup (fa : Sa) : Sx := fun ρ w => (fDats fa ρ w).bind fun ds w1 => if ds.length ≤ big then .ok (.tup ds) w1 else .stuck
def fLst (fa : Sa) : Sl := fun ρ w => (fDats fa ρ w).bind fun ds w1 => if ds.length ≤ big then .ok ds w1 else .stuck
def fCB (op : List Dv → Option Dv) (fa : Sa) : Sx := fun ρ w => (fDats fa ρ w).bind fun ds w1 => .of (op ds) w1
def fCN (op : List Dv → Option (List Dv)) (fa : Sa) : Sl := fun ρ w => (fDats fa ρ w).bind fun ds w1 => .of (op ds) w1
def fFrz (f : Sl) : Sx := fun ρ w => (f ρ w).bind fun ds w => .ok (.lst ds) w
abbrev Fsem := List EV → DS → RR Dv
def fCall (sem : Fsem) (fa : Sa) : Sx := fun ρ w => (fa ρ w).bind fun ps w1 => sem ps w1

theorem ArgR.dats {K : W.Frag} {F : Hp} {dr : Option (Addr × Addr × Addr)} {vs : List V} {ps : List EV} (h : ArgR K F dr vs ps) : ∀ {ds : List Dv}, datsOf ps = some ds → RpAll K F vs ds := by
  induction h with
  | nil => intro ds e; cases e; exact .nil
  | @dat v d vs ps r _ ih =>
    intro ds e
    simp only [datsOf] at e
    cases q : datsOf ps with
    | none => rw [q] at e; cases e
    | some es => rw [q] at e; cases e; exact .cons r (ih q)
  | drw _ _ ih => intro ds e; cases e

section
variable {X : Cx} {Z : Z0} {E : XK} {pos : Pos} {ta tb : TE} {fa fb : Sx} {a b : Expr}

theorem e_var (i : Nat) {x : Str} (hN : X.N[i]? = some x := by rfl) (hv : Vis X.env.scope x := by first | exact Or.inl rfl | exact Or.inr (Or.inl rfl) | exact Or.inr (Or.inr rfl)) (hd : (x == ("__debug__" : Str)) = false := by decide)
    (hcd : (x == ("__classdict__" : Str)) = false := by decide) : DE X Z E (.Name x pos) (tVar i) (fVar i) := ⟨pe_var hN hv hd hcd, by
  intro F ow σ H ρ w Q R q
  unfold fVar at q
  cases e : ρ[i]? with
  | none => rw [e] at q; exact q.elim
  | some s =>
    rw [e] at q
    cases s with
    | dat d =>
      obtain ⟨v, h, r⟩ := R.get e
      exact ⟨v, h, q v H F ow (Same.refl _) R r⟩
    | _ => exact q.elim⟩
theorem s_c {K : W.Frag} {v : V} {d : Dv} (h : ∀ F, Rp K F v d) : Snd K Z E (tC v) (fC d) := fun F ow σ H ρ w Q R q => q v H F ow (Same.refl _) R (h F)
theorem e_int {i : Int} {j} : DE X Z E (.Constant (.int i) j pos) (tC (.int i)) (fC (.int i)) := ⟨pe_int, s_c fun _ => .int i⟩
theorem e_bl {i : Bool} {j} : DE X Z E (.Constant (.bool i) j pos) (tC (.bl i)) (fC (.bl i)) := ⟨pe_bl, s_c fun _ => .bl i⟩
theorem e_non {j} : DE X Z E (.Constant .none j pos) (tC .non) (fC .non) := ⟨pe_non, s_c fun _ => .non⟩
theorem e_str {i : Str} {j} : DE X Z E (.Constant (.str i) j pos) (tC (.str i)) (fC (.str i)) := ⟨pe_str, s_c fun _ => .str i⟩
theorem e_glob {x : Str} {u : Value} {v : V} {d : Dv} (hg : Gl X x) (hm : X.mg x = some u) (r : RelV v u) (h : ∀ F, Rp X.K F v d) (hd : (x == ("__debug__" : Str)) = false := by decide) : DE X Z E (.Name x pos) (tC v) (fC d) := ⟨pe_glob hg hm r hd, s_c h⟩

/-- an operator by values -/
def OpS (K : W.Frag) (r : R2) (op : Dv → Dv → Option Dv) : Prop := ∀ F H x y d e z (Q : VK), op d e = some z → Same F H → Rp K F x d → Rp K F y e → (∀ v F' H', Gr F H F' H' → Rp K F' v z → Q v H') → r x y H Q
theorem s_op {K : W.Frag} {r : R2} {op : Dv → Dv → Option Dv} (o : OpS K r op) (ha : Snd K Z E ta fa) (hb : Snd K Z E tb fb) : Snd K Z E (tOp r ta tb) (fOp op fa fb) := fun F ow σ H ρ w Q R q =>
  ha.seq R q fun d w1 x H1 F1 ow1 s1 R1 r1 q1 => hb.seq R1 q1 fun e w2 y H2 F2 ow2 s2 R2 r2 q2 => by
    cases ez : op d e with
    | none => rw [ez] at q2; exact q2.elim
    | some z =>
      rw [ez] at q2
      exact o F2 H2 x y d e z Q ez R2.sub (r1.mono s2) r2 fun v F' H' g rz => q2 v H' F' ow2 ((s1.trans s2).trans g.ff) (R2.grow g) rz
theorem e_op {K0 : W.Frag} {r : R2} {op : Dv → Dv → Option Dv} {bo : Operator} (ho : OpR X (binaryOp bo) r) (o : OpS K0 r op) (ha : DE X Z E a ta fa) (hb : DE X Z E b tb fb) (hK0 : X.K = K0 := by rfl) : DE X Z E (.BinOp a bo b pos) (tOp r ta tb) (fOp op fa fb) := by subst hK0; exact ⟨pe_op ho ha.pe hb.pe, s_op o ha.sn hb.sn⟩
theorem e_cmp {K0 : W.Frag} {r : R2} {op : Dv → Dv → Option Dv} {bo : CmpOp} (ho : OpR X (compareOp bo) r) (o : OpS K0 r op) (ha : DE X Z E a ta fa) (hb : DE X Z E b tb fb) (hm : behindInMarks bo b = false) (hK0 : X.K = K0 := by rfl) : DE X Z E (.Compare a [bo] [b] pos) (tOp r ta tb) (fOp op fa fb) := by subst hK0; exact ⟨pe_cmpR ho ha.pe hb.pe hm, s_op o ha.sn hb.sn⟩
theorem s_test {K : W.Frag} {t : TE} {f : Sx} (h : Snd K Z E t f) : SndT K Z E (fun σ H Q => t σ H fun x H' => ∃ k, x = .bl k ∧ Q k H') (fBool f) := fun F ow σ H ρ w Q R q =>
  h.seq R q fun d w1 x H1 F1 ow1 s1 R1 r1 q1 => by
    cases d with
    | bl b => cases r1; exact ⟨b, rfl, q1 H1 F1 ow1 s1 R1⟩
    | _ => exact q1.elim
theorem t_cmp {K0 : W.Frag} {r : R2} {op : Dv → Dv → Option Dv} {bo : CmpOp} (ho : OpR X (compareOp bo) r) (o : OpS K0 r op) (ha : DE X Z E a ta fa) (hb : DE X Z E b tb fb) (hm : behindInMarks bo b = false) (hK0 : X.K = K0 := by rfl) : DT X Z E (.Compare a [bo] [b] pos) (tTest (tOp r ta tb)) (fBool (fOp op fa fb)) := by subst hK0; exact 
  ⟨pt_cmpR ho ha.pe hb.pe hm, s_test (s_op o ha.sn hb.sn)⟩
theorem t_val {t : TE} {f : Sx} {e : Expr} (h : DE X Z E e t f) (he : ∀ whole, isTrue e X.env whole = (do let v ← whole; standAt e.pos; holding [v] (truthy v)) := by intro _; rfl) : DT X Z E e (tB t) (fBool f) := ⟨pt_val h.pe he, s_test h.sn⟩
theorem s_and {K : W.Frag} {t u : TT} {f g : Sb} (h1 : SndT K Z E t f) (h2 : SndT K Z E u g) : SndT K Z E (tAnd t u) (fAnd f g) := fun F ow σ H ρ w Q R q =>
  h1.seq R q fun b w1 H1 F1 ow1 s1 R1 q1 => by
    cases b with
    | true => rw [if_pos rfl] at q1 ⊢; exact h2 F1 ow1 σ H1 ρ w1 Q R1 (q1.imp fun b w h H' F' ow' s => h H' F' ow' (s1.trans s))
    | false => rw [if_neg Bool.false_ne_true] at q1 ⊢; exact q1 H1 F1 ow1 s1 R1
theorem s_or {K : W.Frag} {t u : TT} {f g : Sb} (h1 : SndT K Z E t f) (h2 : SndT K Z E u g) : SndT K Z E (tOr t u) (fOr f g) := fun F ow σ H ρ w Q R q =>
  h1.seq R q fun b w1 H1 F1 ow1 s1 R1 q1 => by
    cases b with
    | false => rw [if_neg Bool.false_ne_true] at q1 ⊢; exact h2 F1 ow1 σ H1 ρ w1 Q R1 (q1.imp fun b w h H' F' ow' s => h H' F' ow' (s1.trans s))
    | true => rw [if_pos rfl] at q1 ⊢; exact q1 H1 F1 ow1 s1 R1
theorem s_not {K : W.Frag} {t : TT} {f : Sb} (h1 : SndT K Z E t f) : SndT K Z E (tNot t) (fNot f) := fun F ow σ H ρ w Q R q =>
  h1.seq R q fun b w1 H1 F1 ow1 s1 R1 q1 => q1 H1 F1 ow1 s1 R1
theorem DW.dt {e : Expr} {t : TT} {f : Sb} (h : DW X Z E e t f) : DT X Z E e t f := ⟨h.pw.pt, h.sn⟩
section
variable {rest : List Expr} {t u : TT} {f g : Sb}
theorem w_and1 (h : DT X Z E a t f) : DW X Z E (.BoolOp .And [a] pos) t f := ⟨pw_and1 h.pt, h.sn⟩
theorem w_or1 (h : DT X Z E a t f) : DW X Z E (.BoolOp .Or [a] pos) t f := ⟨pw_or1 h.pt, h.sn⟩
theorem w_and (h : DT X Z E a t f) (h2 : DW X Z E (.BoolOp .And (b :: rest) pos) u g) : DW X Z E (.BoolOp .And (a :: b :: rest) pos) (tAnd t u) (fAnd f g) := ⟨pw_and h.pt h2.pw, s_and h.sn h2.sn⟩
theorem w_or (h : DT X Z E a t f) (h2 : DW X Z E (.BoolOp .Or (b :: rest) pos) u g) : DW X Z E (.BoolOp .Or (a :: b :: rest) pos) (tOr t u) (fOr f g) := ⟨pw_or h.pt h2.pw, s_or h.sn h2.sn⟩
theorem t_not (h : DT X Z E a t f) : DT X Z E (.UnaryOp .Not a pos) (tNot t) (fNot f) := ⟨pt_not h.pt, s_not h.sn⟩
theorem e_if {c : Expr} (hc : DT X Z E c t f) (ha : DE X Z E a ta fa) (hb : DE X Z E b tb fb) : DE X Z E (.IfExp c a b pos) (tIf t ta tb) (fIf f fa fb) := ⟨pe_ifExp hc.pt ha.pe hb.pe, fun F ow σ H ρ w Q R q =>
  hc.sn.seq R q fun k w1 H1 F1 ow1 s1 R1 q1 => by
    cases k with
    | true => rw [if_pos rfl] at q1 ⊢; exact ha.sn F1 ow1 σ H1 ρ w1 Q R1 (q1.imp fun d w h => h.up s1)
    | false => rw [if_neg Bool.false_ne_true] at q1 ⊢; exact hb.sn F1 ow1 σ H1 ρ w1 Q R1 (q1.imp fun d w h => h.up s1)⟩
end
/-! and, or, not as values (bools) -/
def fAndV (fa fb : Sx) : Sx := fun ρ w => (fa ρ w).bind fun d w1 => match d with
  | .bl true => fb ρ w1
  | .bl false => .ok (.bl false) w1
  | _ => .stuck
def fOrV (fa fb : Sx) : Sx := fun ρ w => (fa ρ w).bind fun d w1 => match d with
  | .bl false => fb ρ w1
  | .bl true => .ok (.bl true) w1
  | _ => .stuck
def fNotV (fa : Sx) : Sx := fun ρ w => (fa ρ w).bind fun d w1 => match d with
  | .bl b => .ok (.bl (!b)) w1
  | _ => .stuck
theorem e_one {op} {t : TE} {f : Sx} (h : DE X Z E a t f) : DE X Z E (.BoolOp op [a] pos) t f := ⟨pe_one h.pe, h.sn⟩
theorem e_and {rest : List Expr} (ha : DE X Z E a ta fa) (hb : DE X Z E (.BoolOp .And (b :: rest) pos) tb fb) : DE X Z E (.BoolOp .And (a :: b :: rest) pos) (tAndV ta tb) (fAndV fa fb) := ⟨pe_and ha.pe hb.pe, fun F ow σ H ρ w Q R q =>
  ha.sn.seq R q fun d w1 v H1 F1 ow1 s1 R1 r1 q1 => by
    cases d with
    | bl k =>
      cases r1
      cases k with
      | true => exact ⟨true, rfl, by rw [if_pos rfl]; exact hb.sn F1 ow1 σ H1 ρ w1 Q R1 (q1.imp fun d w h => h.up s1)⟩
      | false => exact ⟨false, rfl, by rw [if_neg Bool.false_ne_true]; exact q1 _ H1 F1 ow1 s1 R1 (.bl false)⟩
    | _ => exact q1.elim⟩
theorem e_or {rest : List Expr} (ha : DE X Z E a ta fa) (hb : DE X Z E (.BoolOp .Or (b :: rest) pos) tb fb) : DE X Z E (.BoolOp .Or (a :: b :: rest) pos) (tOrV ta tb) (fOrV fa fb) := ⟨pe_or ha.pe hb.pe, fun F ow σ H ρ w Q R q =>
  ha.sn.seq R q fun d w1 v H1 F1 ow1 s1 R1 r1 q1 => by
    cases d with
    | bl k =>
      cases r1
      cases k with
      | false => exact ⟨false, rfl, by rw [if_neg Bool.false_ne_true]; exact hb.sn F1 ow1 σ H1 ρ w1 Q R1 (q1.imp fun d w h => h.up s1)⟩
      | true => exact ⟨true, rfl, by rw [if_pos rfl]; exact q1 _ H1 F1 ow1 s1 R1 (.bl true)⟩
    | _ => exact q1.elim⟩
theorem e_not (ha : DE X Z E a ta fa) : DE X Z E (.UnaryOp .Not a pos) (tNotV ta) (fNotV fa) := ⟨pe_not ha.pe, fun F ow σ H ρ w Q R q =>
  ha.sn.seq R q fun d w1 v H1 F1 ow1 s1 R1 r1 q1 => by
    cases d with
    | bl k => cases r1; exact ⟨k, rfl, q1 _ H1 F1 ow1 s1 R1 (.bl _)⟩
    | _ => exact q1.elim⟩
def UnS (K : W.Frag) (r : V → Hp → VK → Prop) (op : Dv → Option Dv) : Prop := ∀ F H x d z (Q : VK), op d = some z → Same F H → Rp K F x d → (∀ v F' H', Gr F H F' H' → Rp K F' v z → Q v H') → r x H Q
theorem e_un {K0 : W.Frag} {r : V → Hp → VK → Prop} {op : Dv → Option Dv} {uo : UnaryOp} (ho : UnR X (unaryOp uo) r) (o : UnS K0 r op) (ha : DE X Z E a ta fa) (hK0 : X.K = K0 := by rfl) : DE X Z E (.UnaryOp uo a pos) (tUn r ta) (fUn op fa) := by subst hK0; exact ⟨pe_un ho ha.pe, fun F ow σ H ρ w Q R q =>
  ha.sn.seq R q fun d w1 x H1 F1 ow1 s1 R1 r1 q1 => by
    cases ez : op d with
    | none => rw [ez] at q1; exact q1.elim
    | some z => rw [ez] at q1; exact o F1 H1 x d z Q ez R1.sub r1 fun v F' H' g rz => q1 v H' F' ow1 (s1.trans g.ff) (R1.grow g) rz⟩

/-! ### arguments -/
theorem a_nil : DA X Z E [] tNil aNil := ⟨pa_nil, fun F ow σ H ρ w Q R q => q [] H F ow (Same.refl _) R .nil⟩
theorem a_cons {e : Expr} {es : List Expr} {te : TE} {fe : Sx} {t : TA} {f : Sa} (ha : DE X Z E e te fe) (hr : DA X Z E es t f) (hs : starEach (e :: es) X.env = (false, eval e X.env) :: starEach es X.env := by rfl) : DA X Z E (e :: es) (tCons te t) (aCons fe f) :=
  ⟨pa_cons ha.pe hr.pa hs, fun F ow σ H ρ w Q R q => ha.sn.seq R q fun d w1 x H1 F1 ow1 s1 R1 r1 q1 => hr.sn.seq R1 q1 fun ps w2 vs H2 F2 ow2 s2 R2 r2 q2 =>
    q2 (x :: vs) H2 F2 ow2 (s1.trans s2) R2 (.dat (r1.mono s2) r2)⟩
theorem a_drw (i : Nat) {x : Str} {es : List Expr} {t : TA} {f : Sa} (hr : DA X Z E es t f) (hN : X.N[i]? = some x := by rfl) (hv : Vis X.env.scope x := by first | exact Or.inl rfl | exact Or.inr (Or.inl rfl) | exact Or.inr (Or.inr rfl)) (hd : (x == ("__debug__" : Str)) = false := by decide)
    (hcd : (x == ("__classdict__" : Str)) = false := by decide) (hs : starEach (.Name x pos :: es) X.env = (false, eval (.Name x pos) X.env) :: starEach es X.env := by rfl) : DA X Z E (.Name x pos :: es) (tCons (tVar i) t) (aDrw i f) :=
  ⟨pa_cons (pe_var hN hv hd hcd) hr.pa hs, fun F ow σ H ρ w Q R q => by
    unfold aDrw at q
    cases e : ρ[i]? with
    | none => rw [e] at q; exact q.elim
    | some s =>
      rw [e] at q
      cases s with
      | drw =>
        obtain ⟨a, g, c, h, hz⟩ := R.slots i _ e
        exact ⟨_, h, hr.sn.seq R q fun ps w2 vs H2 F2 ow2 s2 R2 r2 q2 => q2 (.ref a :: vs) H2 F2 ow2 s2 R2 (.drw hz r2)⟩
      | _ => exact q.elim⟩
/-- arguments that are data -/
theorem SndA.dats {K : W.Frag} {F : Hp} {ow : Addr → Option Nat} {σ : L2.St} {H : Hp} {ρ : List EV} {w : DS} {t : TA} {f : Sa} {C : List V → Hp → Prop} {α : Type} {P : α → DS → Prop} {k : List Dv → DS → RR α} (h : SndA K Z E t f) (R : Rep K Z F ow σ H ρ w)
    (hp : Post K Z E σ ρ P ((fDats f ρ w).bind k)) (c : ∀ ds w' vs H' F' ow', Same F F' → Rep K Z F' ow' σ H' ρ w' → RpAll K F' vs ds → Post K Z E σ ρ P (k ds w') → C vs H') : t σ H C := by
  refine h.seq (P := P) (k := fun ps w1 => (RR.of (datsOf ps) w1).bind k) R ?_ fun ps w' vs H' F' ow' s R' r q => ?_
  · unfold fDats at hp
    cases e : f ρ w with
    | ok ps w1 => rw [e] at hp; exact hp
    | rz x w1 => rw [e] at hp; exact hp
    | stuck => rw [e] at hp; exact hp
  · cases e : datsOf ps with
    | none => rw [e] at q; exact q.elim
    | some ds => rw [e] at q; exact c ds w' vs H' F' ow' s R' (r.dats e) q
theorem sizeLine_big : sizeLine = big := sizeLine_eq
theorem e_tup {es : List Expr} {x1} {t : TA} {f : Sa} (h : DA X Z E es t f) : DE X Z E (.Tuple es x1 pos) (tTup t) (fTup f) := ⟨pe_tup h.pa, fun F ow σ H ρ w Q R q =>
  h.sn.dats R q fun ds w' vs H' F' ow' s R' r q' => by
    by_cases hl : ds.length ≤ big
    · rw [if_pos hl] at q'
      refine ⟨by rw [r.length, sizeLine_big]; exact hl, fun p np => ?_⟩
      have g := Gr.new R'.sub (.tup vs) np
      exact q' (.ref p) _ _ ow' (s.trans g.ff) (R'.grow g) (.tup (.of upd_same) (r.mono g.ff))
    · rw [if_neg hl] at q'; exact q'.elim⟩
theorem n_lst {es : List Expr} {t : TA} {f : Sa} (h : DA X Z E es t f) : DN X Z E (.List es pos) (tLst t) (fLst f) := ⟨pe_lst h.pa, fun F ow σ H ρ w Q R q =>
  h.sn.dats R q fun ds w' vs H' F' ow' s R' r q' => by
    by_cases hl : ds.length ≤ big
    · rw [if_pos hl] at q'
      refine ⟨by rw [r.length, sizeLine_big]; exact hl, fun p np => ?_⟩
      obtain ⟨h1, h2, h3⟩ := R'.fresh np
      have g := Gr.apart R'.sub (.lst vs) np
      exact q' p vs _ F' ow' s (R'.grow g) upd_same h1 h2 h3 r
    · rw [if_neg hl] at q'; exact q'.elim⟩
theorem e_frz {e : Expr} {t : TE} {f : Sl} (h : DN X Z E e t f) : DE X Z E e t (fFrz f) := ⟨h.pe, h.sn.snd⟩

/-! ### calls of built-ins -/
def CallS (K : W.Frag) (r : List V → Hp → VK → Prop) (op : List Dv → Option Dv) : Prop := ∀ F H xs ds z (Q : VK), op ds = some z → Same F H → RpAll K F xs ds → (∀ v F' H', Gr F H F' H' → Rp K F' v z → Q v H') → r xs H Q
def CallN (K : W.Frag) (r : List V → Hp → VK → Prop) (op : List Dv → Option (List Dv)) : Prop := ∀ F H xs ds zs (Q : VK), op ds = some zs → Same F H → RpAll K F xs ds →
  (∀ p vs F1 H1, Gr F H F1 H1 → H1 p = none → RpAll K F1 vs zs → Q (.ref p) (upd H1 p (.lst vs))) → r xs H Q
theorem s_cb {K : W.Frag} {r : List V → Hp → VK → Prop} {op : List Dv → Option Dv} {t : TA} {f : Sa} (o : CallS K r op) (h : SndA K Z E t f) : Snd K Z E (tCB r t) (fCB op f) := fun F ow σ H ρ w Q R q =>
  h.dats R q fun ds w' vs H' F' ow' s R' r q' => by
    cases ez : op ds with
    | none => rw [ez] at q'; exact q'.elim
    | some z => rw [ez] at q'; exact o F' H' vs ds z Q ez R'.sub r fun v F2 H2 g rz => q' v H2 F2 ow' (s.trans g.ff) (R'.grow g) rz
theorem s_cn {K : W.Frag} {r : List V → Hp → VK → Prop} {op : List Dv → Option (List Dv)} {t : TA} {f : Sa} (o : CallN K r op) (h : SndA K Z E t f) : SndN K Z E (tCB r t) (fCN op f) := fun F ow σ H ρ w Q R q =>
  h.dats R q fun ds w' vs H' F' ow' s R' r q' => by
    cases ez : op ds with
    | none => rw [ez] at q'; exact q'.elim
    | some z =>
      rw [ez] at q'
      refine o F' H' vs ds z Q ez R'.sub r fun p us F1 H1 g np rz => ?_
      have R1 := R'.grow g
      obtain ⟨h1, h2, h3⟩ := R1.fresh np
      exact q' p us _ F1 ow' (s.trans g.ff) (R1.grow (Gr.apart R1.sub (.lst us) np)) upd_same h1 h2 h3 rz
section
variable {r : List V → Hp → VK → Prop} {op : List Dv → Option Dv} {opN : List Dv → Option (List Dv)} {x : Str} {e : Expr} {es : List Expr} {t : TA} {f : Sa} {p : Pos} {id : String} {T : String}
theorem e_cb {K0 : W.Frag} (hc : CallR X (.builtin id) r) (o : CallS K0 r op) (hm : X.mg x = none) (ha : DA X Z E (e :: es) t f) (hg : Gl X x := by rfl) (hv : bootBuiltins x = some (.builtin id) := by decide +kernel) (hn : x ≠ "__name__" := by decide) (hdb : (x == ("__debug__" : Str)) = false := by decide)
    (he : starEach (e :: es) X.env = (false, eval e X.env) :: starEach es X.env := by rfl) (hpl : (backTo pos (starEach es X.env)).any (·.1) = false := by rfl) (hK0 : X.K = K0 := by rfl) : DE X Z E (.Call (.Name x p) (e :: es) [] pos) (tCB r t) (fCB op f) := by subst hK0; exact ⟨pe_callB hc hg hm hv ha.pa hn hdb he hpl, s_cb o ha.sn⟩
theorem e_ct {K0 : W.Frag} (hc : CallR X (.type T) r) (o : CallS K0 r op) (hm : X.mg x = none) (ha : DA X Z E (e :: es) t f) (hg : Gl X x := by rfl) (hv : bootBuiltins x = some (.type T) := by decide +kernel) (hn : x ≠ "__name__" := by decide) (hdb : (x == ("__debug__" : Str)) = false := by decide)
    (he : starEach (e :: es) X.env = (false, eval e X.env) :: starEach es X.env := by rfl) (hpl : (backTo pos (starEach es X.env)).any (·.1) = false := by rfl) (hK0 : X.K = K0 := by rfl) : DE X Z E (.Call (.Name x p) (e :: es) [] pos) (tCB r t) (fCB op f) := by subst hK0; exact ⟨pe_callTy hc hg hm hv ha.pa hn hdb he hpl, s_cb o ha.sn⟩
theorem n_cb {K0 : W.Frag} (hc : CallR X (.builtin id) r) (o : CallN K0 r opN) (hm : X.mg x = none) (ha : DA X Z E (e :: es) t f) (hg : Gl X x := by rfl) (hv : bootBuiltins x = some (.builtin id) := by decide +kernel) (hn : x ≠ "__name__" := by decide) (hdb : (x == ("__debug__" : Str)) = false := by decide)
    (he : starEach (e :: es) X.env = (false, eval e X.env) :: starEach es X.env := by rfl) (hpl : (backTo pos (starEach es X.env)).any (·.1) = false := by rfl) (hK0 : X.K = K0 := by rfl) : DN X Z E (.Call (.Name x p) (e :: es) [] pos) (tCB r t) (fCN opN f) := by subst hK0; exact ⟨pe_callB hc hg hm hv ha.pa hn hdb he hpl, s_cn o ha.sn⟩
theorem n_ct {K0 : W.Frag} (hc : CallR X (.type T) r) (o : CallN K0 r opN) (hm : X.mg x = none) (ha : DA X Z E (e :: es) t f) (hg : Gl X x := by rfl) (hv : bootBuiltins x = some (.type T) := by decide +kernel) (hn : x ≠ "__name__" := by decide) (hdb : (x == ("__debug__" : Str)) = false := by decide)
    (he : starEach (e :: es) X.env = (false, eval e X.env) :: starEach es X.env := by rfl) (hpl : (backTo pos (starEach es X.env)).any (·.1) = false := by rfl) (hK0 : X.K = K0 := by rfl) : DN X Z E (.Call (.Name x p) (e :: es) [] pos) (tCB r t) (fCN opN f) := by subst hK0; exact ⟨pe_callTy hc hg hm hv ha.pa hn hdb he hpl, s_cn o ha.sn⟩
end
end

/-! ### promises of defs -/
def inDr (dr : Option (Addr × Addr × Addr)) (a : Addr) : Prop := ∃ x g c, dr = some (x, g, c) ∧ (a = x ∨ a = g ∨ a = c)
structure GrX (F H F' H' : Hp) (dr : Option (Addr × Addr × Addr)) : Prop where
  ff : Same F F'
  fh : Same F' H'
  nw : ∀ a u, F' a = some u → F a = some u ∨ H a = none
  hh : ∀ a o, H a = some o → ¬ inDr dr a → H' a = some o
def StX (dr : Option (Addr × Addr × Addr)) (H : Hp) (w : DS) : Prop := ∀ a g c, dr = some (a, g, c) → StH H a g c w
theorem Rep.call {K : W.Frag} {Z : Z0} {F F' : Hp} {ow : Addr → Option Nat} {σ : L2.St} {H H' : Hp} {ρ : List EV} {w w' : DS} (R : Rep K Z F ow σ H ρ w) (g : GrX F H F' H' Z.dr) (st : StX Z.dr H' w') : Rep K Z F' ow σ H' ρ w' where
  sub := g.fh
  keepF := R.keepF.trans g.ff
  newF := fun a u e => (g.nw a u e).elim (R.newF a u) fun n => .inr (R.fresh n).2.2
  keep := fun a o e z => ⟨g.hh _ _ (R.keep a o e z).1 fun q => z q, (R.keep a o e z).2⟩
  fzo := fun a u e => (g.nw a u e).elim (R.fzo a u) fun n => (R.fresh n).1
  owh := fun a i e => by
    obtain ⟨u, h⟩ := R.owh a i e
    by_cases z : inDr Z.dr a
    · obtain ⟨x, gg, c, e1, e2⟩ := z
      obtain ⟨h1, h2, h3, _⟩ := st _ _ _ e1
      rcases e2 with rfl | rfl | rfl
      · exact ⟨_, h1⟩
      · exact ⟨_, h2⟩
      · exact ⟨_, h3⟩
    · exact ⟨u, g.hh _ _ h z⟩
  len := R.len
  slots := fun i e h => by
    have nd : ∀ a, ow a = some (i + 1) → ¬ inDr Z.dr a := fun a ho ⟨x, gg, c, e1, e2⟩ => by
      obtain ⟨_, o1, o2, o3⟩ := R.dr _ _ _ e1
      rcases e2 with rfl | rfl | rfl
      · rw [o1] at ho; cases ho
      · rw [o2] at ho; cases ho
      · rw [o3] at ho; cases ho
    have h := R.slots i e h
    cases e with
    | un => trivial
    | dat d => obtain ⟨v, e, r⟩ := h; exact ⟨v, e, r.mono g.ff⟩
    | lst ds => obtain ⟨a, vs, e, h1, h2, h3, r⟩ := h; exact ⟨a, vs, e, g.hh _ _ h1 (nd a h2), h2, h3, r.mono g.ff⟩
    | dct ds => obtain ⟨a, vs, e, h1, h2, h3, r⟩ := h; exact ⟨a, vs, e, g.hh _ _ h1 (nd a h2), h2, h3, r.mono g.ff⟩
    | dctT ds => obtain ⟨a, vs, e, h1, h2, h3, r⟩ := h; exact ⟨a, vs, e, g.hh _ _ h1 (nd a h2), h2, h3, r.mono g.ff⟩
    | drw => exact h
  dr := fun a gg c e => ⟨st a gg c e, (R.dr a gg c e).2⟩

def PostC (K : W.Frag) (F H : Hp) (dr : Option (Addr × Addr × Addr)) (Q : VK) (E : XK) : RR Dv → Prop
  | .ok d w' => ∀ v H' F', GrX F H F' H' dr → StX dr H' w' → Rp K F' v d → Q v H'
  | .rz x w' => ∀ cls dx H' F', GrX F H F' H' dr → StX dr H' w' → XR K F' H' x cls dx → E cls dx H'
  | .stuck => False
/-- the promise of a def over data -/
def spD (K : W.Frag) (n : Nat) (sem : Fsem) : Sp := fun vs H Q E => ∃ (F : Hp) (dr : Option (Addr × Addr × Addr)) (ps : List EV) (w : DS), ps.length = n ∧ Same F H ∧ ArgR K F dr vs ps ∧ StX dr H w ∧ (∀ a, inDr dr a → F a = none) ∧ PostC K F H dr Q E (sem ps w)

section
variable {X : Cx} {Z : Z0} {E : XK} {pos : Pos}
theorem s_call {K : W.Frag} {n : Nat} {sem : Fsem} {t : TA} {f : Sa} (h : SndA K Z E t f) (hl : ∀ ρ w ps w', f ρ w = .ok ps w' → ps.length = n) : Snd K Z E (tCall (spD K n sem) [] E t) (fCall sem f) := fun F ow σ H ρ w Q R q => by
  have hl' := hl ρ w
  refine h F ow σ H ρ w _ R ?_
  unfold fCall at q
  cases e : f ρ w with
  | stuck => rw [e] at q; exact q
  | rz x w1 => rw [e] at q; exact q
  | ok ps w1 =>
    rw [e] at q
    intro vs H1 F1 ow1 s1 R1 r1
    show spD K n sem (vs ++ []) H1 Q E
    rw [List.append_nil]
    refine ⟨F1, Z.dr, ps, w1, hl' _ _ e, R1.sub, r1, fun a g c e1 => (R1.dr a g c e1).1, fun a ⟨x, g, c, e1, e2⟩ => ?_, ?_⟩
    · cases q : F1 a with
      | none => rfl
      | some u =>
        have z := R1.fzo a u q
        obtain ⟨_, o1, o2, o3⟩ := R1.dr _ _ _ e1
        rcases e2 with rfl | rfl | rfl
        · rw [o1] at z; cases z
        · rw [o2] at z; cases z
        · rw [o3] at z; cases z
    · have q : Post K Z E σ ρ (QE K Z F σ Q ρ) (sem ps w1) := q
      cases e2 : sem ps w1 with
      | stuck => rw [e2] at q; exact q
      | ok d w2 => rw [e2] at q; exact fun v H' F' g st r => q v H' F' ow1 (s1.trans g.ff) (R1.call g st) r
      | rz x w2 => rw [e2] at q; exact fun cls dx H' F' g st r => q cls dx H' F' ow1 (R1.call g st) r
/-- where nothing may be let out -/
def semN (sem : Fsem) : Fsem := fun ps w => match sem ps w with
  | .rz _ _ => .stuck
  | r => r
theorem spD_semN {K : W.Frag} {n : Nat} {sem : Fsem} {vs : List V} {H : Hp} {Q : VK} {E : XK} (h : spD K n (semN sem) vs H Q E) : spD K n sem vs H Q E := by
  obtain ⟨F, dr, ps, w, hn, h1, h2, h3, h4, q⟩ := h
  refine ⟨F, dr, ps, w, hn, h1, h2, h3, h4, ?_⟩
  unfold semN at q
  cases e : sem ps w with
  | stuck => rw [e] at q; exact q
  | ok d w2 => rw [e] at q; exact q
  | rz x w2 => rw [e] at q; exact q.elim
/-- the written arguments alone are as many as they are -/
def argN : List EV → Nat := List.length
theorem aCons_len {fe : Sx} {f : Sa} {n : Nat} (h : ∀ ρ w ps w', f ρ w = .ok ps w' → ps.length = n) : ∀ ρ w ps w', aCons fe f ρ w = .ok ps w' → ps.length = n + 1 := fun ρ w ps w' e => by
  unfold aCons at e
  cases e1 : fe ρ w with
  | stuck => rw [e1] at e; cases e
  | rz x w1 => rw [e1] at e; cases e
  | ok d w1 =>
    rw [e1] at e
    simp only [RR.bind_ok] at e
    cases e2 : f ρ w1 with
    | stuck => rw [e2] at e; cases e
    | rz x w1 => rw [e2] at e; cases e
    | ok qs w2 =>
      rw [e2] at e
      cases e
      rw [List.length_cons, h _ _ _ _ e2]
theorem aDrw_len {i : Nat} {f : Sa} {n : Nat} (h : ∀ ρ w ps w', f ρ w = .ok ps w' → ps.length = n) : ∀ ρ w ps w', aDrw i f ρ w = .ok ps w' → ps.length = n + 1 := fun ρ w ps w' e => by
  unfold aDrw at e
  cases e1 : ρ[i]? with
  | none => rw [e1] at e; cases e
  | some s =>
    rw [e1] at e
    cases s with
    | drw =>
      simp only at e
      cases e2 : f ρ w with
      | stuck => rw [e2] at e; cases e
      | rz x w1 => rw [e2] at e; cases e
      | ok qs w2 =>
        rw [e2] at e
        cases e
        rw [List.length_cons, h _ _ _ _ e2]
    | _ => cases e
theorem aNil_len : ∀ ρ w ps w', aNil ρ w = .ok ps w' → ps.length = 0 := fun ρ w ps w' e => by cases e; rfl
end
end DL

namespace DL
open PySem PySem.Spec PyProof.Rows L2

/-! ### calls of the text's own defs -/
structure Cal (P : Program) (w : World) (K : W.Frag) (mg : Str → Option Value) (base : Heap) (x : Str) (k n : Nat) (sem : Fsem) : Prop where
  ex : ∃ (f : Addr) (fd : FuncData) (ps : List Str), ps.length = n ∧ FnOk P w K mg base (L2.CX P w) k f fd ps (spD K n sem) ∧ mg x = some (.ref f) ∧ W.keepIn K (.ref f) = true ∧ L2.Binds K fd ps []
section
variable {X : Cx} {Z : Z0} {E : XK} {pos : Pos}
/-- what is let out is taken -/
def PX (X : Cx) (E : XK) : Prop := Passes (L2.CX X.prog X.w) X E
theorem DA.len {es : List Expr} {t : TA} {f : Sa} {n : Nat} (h : ∀ ρ w ps w', f ρ w = .ok ps w' → ps.length = n) : ∀ ρ w ps w', f ρ w = .ok ps w' → ps.length = n := h
theorem e_call {x : Str} {k k' n : Nat} {sem : Fsem} {e : Expr} {es : List Expr} {t : TA} {fa : Sa} {p : Pos} (C : Cal X.prog X.w X.K X.mg X.base x k n sem) (hr : Room k' X.A) (hk : k ≤ k') (hx : PX X E) (ha : DA X Z E (e :: es) t fa) (hl : ∀ ρ w ps w', fa ρ w = .ok ps w' → ps.length = n)
    (hg : Gl X x := by rfl) (hdb : (x == ("__debug__" : Str)) = false := by decide) (he : starEach (e :: es) X.env = (false, eval e X.env) :: starEach es X.env := by rfl) (hpl : (backTo pos (starEach es X.env)).any (·.1) = false := by rfl) {K0 : W.Frag} (hK0 : X.K = K0 := by rfl) :
    DE X Z E (.Call (.Name x p) (e :: es) [] pos) (tCall (spD K0 n sem) [] E t) (fCall sem fa) := by subst hK0; exact (by
  obtain ⟨f, fd, ps, hn, F, hm, hkp, hb⟩ := C.ex
  exact ⟨pe_call F (hr.mono hk) hg hm hkp hb .nil hx ha.pa hdb he hpl, s_call ha.sn hl⟩)
theorem e_call0 {x : Str} {k k' : Nat} {sem : Fsem} {p : Pos} (C : Cal X.prog X.w X.K X.mg X.base x k 0 sem) (hr : Room k' X.A) (hk : k ≤ k') (hx : PX X E)
    (hg : Gl X x := by rfl) (hdb : (x == ("__debug__" : Str)) = false := by decide) {K0 : W.Frag} (hK0 : X.K = K0 := by rfl) : DE X Z E (.Call (.Name x p) [] [] pos) (tCall (spD K0 0 sem) [] E tNil) (fCall sem aNil) := by subst hK0; exact (by
  obtain ⟨f, fd, ps, hn, F, hm, hkp, hb⟩ := C.ex
  exact ⟨pe_call0 F (hr.mono hk) hg hm hkp hb .nil hx hdb, s_call (a_nil (X := X) (Z := Z) (E := E)).sn aNil_len⟩)
end

/-! ### statements -/
inductive SF where
  | nx (ρ : List EV) | bk (ρ : List EV) | ct (ρ : List EV) | rt (d : Dv)
abbrev Ss := List EV → DS → RR SF
def PostS (K : W.Frag) (Z : Z0) (E : XK) (F0 : Hp) (D : Ends) : RR SF → Prop
  | .ok (.nx ρ) w => ∀ σ H F ow, Same F0 F → Rep K Z F ow σ H ρ w → D.nx σ H
  | .ok (.bk ρ) w => ∀ σ H F ow, Same F0 F → Rep K Z F ow σ H ρ w → D.bk σ H
  | .ok (.ct ρ) w => ∀ σ H F ow, Same F0 F → Rep K Z F ow σ H ρ w → D.ct σ H
  | .ok (.rt d) w => ∀ v σ H F ow ρ, Same F0 F → Rep K Z F ow σ H ρ w → Rp K F v d → D.rt v H
  | .rz x w => ∀ cls dx σ H F ow ρ, Rep K Z F ow σ H ρ w → XR K F H x cls dx → E cls dx H
  | .stuck => False
theorem PostS.up {K : W.Frag} {Z : Z0} {E : XK} {F F1 : Hp} {D : Ends} {r : RR SF} (s : Same F F1) (h : PostS K Z E F D r) : PostS K Z E F1 D r := by
  cases r with
  | stuck => exact h
  | rz x w => exact h
  | ok sf w =>
    cases sf with
    | nx ρ => exact fun σ H F ow e => h σ H F ow (s.trans e)
    | bk ρ => exact fun σ H F ow e => h σ H F ow (s.trans e)
    | ct ρ => exact fun σ H F ow e => h σ H F ow (s.trans e)
    | rt d => exact fun v σ H F ow ρ e => h v σ H F ow ρ (s.trans e)
def SndS (K : W.Frag) (Z : Z0) (E : XK) (t : TS) (g : Ss) : Prop := ∀ F ow σ H ρ w D, Rep K Z F ow σ H ρ w → PostS K Z E F D (g ρ w) → t D σ H
structure DSt (X : Cx) (Z : Z0) (E : XK) (st : Stmt) (t : TS) (g : Ss) : Prop where
  ps : PS X st t
  sn : SndS X.K Z E t g
structure DB (X : Cx) (Z : Z0) (E : XK) (sts : List Stmt) (t : TS) (g : Ss) : Prop where
  ps : PSs X sts t
  sn : SndS X.K Z E t g

section
variable {K : W.Frag} {Z : Z0} {E : XK} {F : Hp} {ow : Addr → Option Nat} {σ : L2.St} {H : Hp} {ρ : List EV} {w : DS} {D : Ends}
theorem Snd.seqS {t : TE} {f : Sx} {C : VK} {k : Dv → DS → RR SF} (h : Snd K Z E t f) (R : Rep K Z F ow σ H ρ w) (hp : PostS K Z E F D ((f ρ w).bind k))
    (c : ∀ d w' v H' F' ow', Same F F' → Rep K Z F' ow' σ H' ρ w' → Rp K F' v d → PostS K Z E F' D (k d w') → C v H') : t σ H C := by
  refine h F ow σ H ρ w C R ?_
  cases e : f ρ w with
  | ok d w' => rw [e] at hp; exact fun v H' F' ow' s R' r => c d w' v H' F' ow' s R' r (hp.up s)
  | rz y w' => rw [e] at hp; exact fun cls dx H F ow R x => hp cls dx σ H F ow ρ R x
  | stuck => rw [e] at hp; exact hp
theorem SndT.seqS {t : TT} {f : Sb} {C : Bool → Hp → Prop} {k : Bool → DS → RR SF} (h : SndT K Z E t f) (R : Rep K Z F ow σ H ρ w) (hp : PostS K Z E F D ((f ρ w).bind k))
    (c : ∀ d w' H' F' ow', Same F F' → Rep K Z F' ow' σ H' ρ w' → PostS K Z E F' D (k d w') → C d H') : t σ H C := by
  refine h F ow σ H ρ w C R ?_
  cases e : f ρ w with
  | ok d w' => rw [e] at hp; exact fun H' F' ow' s R' => c d w' H' F' ow' s R' (hp.up s)
  | rz y w' => rw [e] at hp; exact fun cls dx H F ow R x => hp cls dx σ H F ow ρ R x
  | stuck => rw [e] at hp; exact hp
theorem SndN.seqS {t : TE} {f : Sl} {C : VK} {k : List Dv → DS → RR SF} (h : SndN K Z E t f) (R : Rep K Z F ow σ H ρ w) (hp : PostS K Z E F D ((f ρ w).bind k))
    (c : ∀ ds w' p vs H' F' ow', Same F F' → Rep K Z F' ow' σ H' ρ w' → H' p = some (.lst vs) → ow' p = none → F' p = none → Z.H p = none → RpAll K F' vs ds → PostS K Z E F' D (k ds w') → C (.ref p) H') : t σ H C := by
  refine h F ow σ H ρ w C R ?_
  cases e : f ρ w with
  | ok d w' => rw [e] at hp; exact fun p vs H' F' ow' s R' h1 h2 h3 h4 r => c d w' p vs H' F' ow' s R' h1 h2 h3 h4 r (hp.up s)
  | rz y w' => rw [e] at hp; exact fun cls dx H F ow R x => hp cls dx σ H F ow ρ R x
  | stuck => rw [e] at hp; exact hp
theorem SndA.seqS {t : TA} {f : Sa} {C : List V → Hp → Prop} {k : List EV → DS → RR SF} (h : SndA K Z E t f) (R : Rep K Z F ow σ H ρ w) (hp : PostS K Z E F D ((f ρ w).bind k))
    (c : ∀ ps w' vs H' F' ow', Same F F' → Rep K Z F' ow' σ H' ρ w' → ArgR K F' Z.dr vs ps → PostS K Z E F' D (k ps w') → C vs H') : t σ H C := by
  refine h F ow σ H ρ w C R ?_
  cases e : f ρ w with
  | ok d w' => rw [e] at hp; exact fun v H' F' ow' s R' r => c d w' v H' F' ow' s R' r (hp.up s)
  | rz y w' => rw [e] at hp; exact fun cls dx H F ow R x => hp cls dx σ H F ow ρ R x
  | stuck => rw [e] at hp; exact hp
/-- a slot gets a new list of its own -/
theorem Rep.setNew {i : Nat} {p : Addr} {vs : List V} {ds : List Dv} (R : Rep K Z F ow σ H ρ w) (h1 : H p = some (.lst vs)) (h2 : ow p = none) (h3 : F p = none) (h4 : Z.H p = none) (r : RpAll K F vs ds) :
    Rep K Z F (fun a => if a = p then some (i + 1) else ow a) (σ.set i (some (.ref p))) H (ρ.set i (.lst ds)) w := by
  have ne : ∀ a j, ow a = some j → a ≠ p := fun a j e z => by rw [z, h2] at e; cases e
  have same : ∀ a j, ow a = some j → (if a = p then some (i + 1) else ow a) = some j := fun a j e => by rw [if_neg (ne a j e)]; exact e
  have R' : Rep K Z F (fun a => if a = p then some (i + 1) else ow a) σ H ρ w := { R with
    keep := fun a o e z => by
      refine ⟨(R.keep a o e z).1, ?_⟩
      have na : a ≠ p := fun q => by rw [q, h4] at e; cases e
      show (if a = p then some (i + 1) else ow a) = none
      rw [if_neg na]; exact (R.keep a o e z).2
    fzo := fun a u e => by
      have na : a ≠ p := fun q => by rw [q, h3] at e; cases e
      show (if a = p then some (i + 1) else ow a) = none
      rw [if_neg na]; exact R.fzo a u e
    owh := fun a j e => by
      by_cases z : a = p
      · exact ⟨_, by rw [z]; exact h1⟩
      · rw [if_neg z] at e; exact R.owh a j e
    slots := fun j e q => by
      have h := R.slots j e q
      cases e with
      | un => trivial
      | dat d => exact h
      | lst ds => obtain ⟨a, vs, e, g1, g2, g3, r⟩ := h; exact ⟨a, vs, e, g1, same a _ g2, g3, r⟩
      | dct ds => obtain ⟨a, vs, e, g1, g2, g3, r⟩ := h; exact ⟨a, vs, e, g1, same a _ g2, g3, r⟩
      | dctT ds => obtain ⟨a, vs, e, g1, g2, g3, r⟩ := h; exact ⟨a, vs, e, g1, same a _ g2, g3, r⟩
      | drw => exact h
    dr := fun a g c e => by
      obtain ⟨h, o1, o2, o3⟩ := R.dr a g c e
      exact ⟨h, same _ _ o1, same _ _ o2, same _ _ o3⟩ }
  exact R'.set ⟨p, vs, rfl, h1, if_pos rfl, h4, r⟩
/-- the same for a dict of any kind -/
theorem Rep.own {p : Addr} {u : HO} (R : Rep K Z F ow σ H ρ w) (n : Nat) (h1 : H p = some u) (h2 : ow p = none) (h3 : F p = none) (h4 : Z.H p = none) :
    Rep K Z F (fun a => if a = p then some n else ow a) σ H ρ w := by
  have ne : ∀ a j, ow a = some j → a ≠ p := fun a j e z => by rw [z, h2] at e; cases e
  have same : ∀ a j, ow a = some j → (if a = p then some n else ow a) = some j := fun a j e => by rw [if_neg (ne a j e)]; exact e
  exact { R with
    keep := fun a o e z => by
      refine ⟨(R.keep a o e z).1, ?_⟩
      have na : a ≠ p := fun q => by rw [q, h4] at e; cases e
      show (if a = p then some n else ow a) = none
      rw [if_neg na]; exact (R.keep a o e z).2
    fzo := fun a u e => by
      have na : a ≠ p := fun q => by rw [q, h3] at e; cases e
      show (if a = p then some n else ow a) = none
      rw [if_neg na]; exact R.fzo a u e
    owh := fun a j e => by
      by_cases z : a = p
      · exact ⟨_, by rw [z]; exact h1⟩
      · rw [if_neg z] at e; exact R.owh a j e
    slots := fun j e q => by
      have h := R.slots j e q
      cases e with
      | un => trivial
      | dat d => exact h
      | lst ds => obtain ⟨a, vs, e, g1, g2, g3, r⟩ := h; exact ⟨a, vs, e, g1, same a _ g2, g3, r⟩
      | dct ds => obtain ⟨a, vs, e, g1, g2, g3, r⟩ := h; exact ⟨a, vs, e, g1, same a _ g2, g3, r⟩
      | dctT ds => obtain ⟨a, vs, e, g1, g2, g3, r⟩ := h; exact ⟨a, vs, e, g1, same a _ g2, g3, r⟩
      | drw => exact h
    dr := fun a g c e => by
      obtain ⟨h, o1, o2, o3⟩ := R.dr a g c e
      exact ⟨h, same _ _ o1, same _ _ o2, same _ _ o3⟩ }
/-- an owned object is written -/
theorem Rep.write {i : Nat} {a : Addr} {o : HO} {e : EV} (R : Rep K Z F ow σ H ρ w) (ha : ow a = some (i + 1)) (hi : i < ρ.length) (h : SlotR K Z F (upd H a o) ow i σ[i]? e) : Rep K Z F ow σ (upd H a o) (ρ.set i e) w := by
  have zk : ∀ b u, Z.H b = some u → ¬ Z.foot b → b ≠ a := fun b u e z q => by
    have := (R.keep b u e z).2
    rw [q, ha] at this; cases this
  have fk : ∀ b u, F b = some u → b ≠ a := fun b u e q => by
    have := R.fzo b u e
    rw [q, ha] at this; cases this
  have ok : ∀ b j, ow b = some j → j ≠ i + 1 → b ≠ a := fun b j e n q => by
    rw [q, ha] at e; cases e; exact n rfl
  refine { R with
    sub := fun b u e => by rw [upd_ne (fk b u e)]; exact R.sub b u e
    keep := fun b u e z => by
      refine ⟨?_, (R.keep b u e z).2⟩
      rw [upd_ne (zk b u e z)]; exact (R.keep b u e z).1
    owh := fun b j e => by
      by_cases z : b = a
      · exact ⟨o, by rw [z, upd_same]⟩
      · obtain ⟨u, h⟩ := R.owh b j e; exact ⟨u, by rw [upd_ne z]; exact h⟩
    len := by rw [List.length_set]; exact R.len
    slots := fun j e' q => ?_
    dr := fun x g c e => ?_ }
  · by_cases hj : i = j
    · subst hj
      rw [List.getElem?_set_self hi] at q
      cases q; exact h
    · rw [List.getElem?_set_ne hj] at q
      have h' := R.slots j e' q
      have nj : j + 1 ≠ i + 1 := by omega
      cases e' with
      | un => trivial
      | dat d => exact h'
      | lst ds => obtain ⟨b, vs, e, g1, g2, g3, r⟩ := h'; exact ⟨b, vs, e, by rw [upd_ne (ok b _ g2 nj)]; exact g1, g2, g3, r⟩
      | dct ds => obtain ⟨b, vs, e, g1, g2, g3, r⟩ := h'; exact ⟨b, vs, e, by rw [upd_ne (ok b _ g2 nj)]; exact g1, g2, g3, r⟩
      | dctT ds => obtain ⟨b, vs, e, g1, g2, g3, r⟩ := h'; exact ⟨b, vs, e, by rw [upd_ne (ok b _ g2 nj)]; exact g1, g2, g3, r⟩
      | drw => exact h'
  · obtain ⟨h, o1, o2, o3⟩ := R.dr x g c e
    have n0 : (0 : Nat) ≠ i + 1 := by omega
    refine ⟨h.mono (fun u q => ?_) (fun u q => ?_) (fun u q => ?_), o1, o2, o3⟩
    · rw [upd_ne (ok x _ o1 n0)]; exact q
    · rw [upd_ne (ok g _ o2 n0)]; exact q
    · rw [upd_ne (ok c _ o3 n0)]; exact q
end

/-! #### over data -/
def gNext : Ss := fun ρ w => .ok (.nx ρ) w
def gSeq (g h : Ss) : Ss := fun ρ w => (g ρ w).bind fun s w1 => match s with
  | .nx ρ1 => h ρ1 w1
  | s => .ok s w1
def gSet (i : Nat) (f : Sx) : Ss := fun ρ w => (f ρ w).bind fun d w1 => .ok (.nx (ρ.set i (.dat d))) w1
def gSetN (i : Nat) (f : Sl) : Ss := fun ρ w => (f ρ w).bind fun ds w1 => .ok (.nx (ρ.set i (.lst ds))) w1
def gDrop (f : Sx) : Ss := fun ρ w => (f ρ w).bind fun _ w1 => .ok (.nx ρ) w1
def gRet (f : Sx) : Ss := fun ρ w => (f ρ w).bind fun d w1 => .ok (.rt d) w1
def gRetN : Ss := fun _ w => .ok (.rt .non) w
def gIf (fc : Sb) (g h : Ss) : Ss := fun ρ w => (fc ρ w).bind fun b w1 => if b = true then g ρ w1 else h ρ w1
def gBreak : Ss := fun ρ w => .ok (.bk ρ) w
def gCont : Ss := fun ρ w => .ok (.ct ρ) w
def gNever : Ss := fun _ _ => .stuck
/-- targets -/
abbrev Sg := Dv → List EV → Option (List EV)
def kName (i : Nat) : Sg := fun d ρ => some (ρ.set i (.dat d))
abbrev Sgs := List Dv → List EV → Option (List EV)
def kNil : Sgs := fun ds ρ => match ds with
  | [] => some ρ
  | _ => none
def kCons (g : Sg) (gs : Sgs) : Sgs := fun ds ρ => match ds with
  | d :: r => (g d ρ).bind fun ρ1 => gs r ρ1
  | _ => none
def kTup (n : Nat) (gs : Sgs) : Sg := fun d ρ => match d with
  | .tup ds => if ds.length = n then gs ds ρ else none
  | _ => none
def gAsg (f : Sx) (g : Sg) : Ss := fun ρ w => (f ρ w).bind fun d w1 => match g d ρ with
  | some ρ1 => .ok (.nx ρ1) w1
  | none => .stuck

section
variable {K : W.Frag} {Z : Z0} {E : XK}
def SndG (K : W.Frag) (Z : Z0) (g : TG) (k : Sg) (sl : List Nat) : Prop := ∀ F ow σ H ρ w v d ρ' (Q : L2.St → Hp → Prop), k d ρ = some ρ' → Rep K Z F ow σ H ρ w → Rp K F v d →
  (∀ σ', Rep K Z F ow σ' H ρ' w → (∀ vs, (∀ i ∈ sl, i ∈ vs) → wipe σ' vs = wipe σ vs) → Q σ' H) → g v σ H Q
def SndGs (K : W.Frag) (Z : Z0) (g : TGs) (k : Sgs) (sl : List Nat) : Prop := ∀ F ow σ H ρ w vs ds ρ' (Q : L2.St → Hp → Prop), k ds ρ = some ρ' → Rep K Z F ow σ H ρ w → RpAll K F vs ds →
  (∀ σ', Rep K Z F ow σ' H ρ' w → (∀ vs, (∀ i ∈ sl, i ∈ vs) → wipe σ' vs = wipe σ vs) → Q σ' H) → g vs σ H Q
theorem wipe_set {i : Nat} {x : Option V} {σ : L2.St} : ∀ {vs : List Nat}, i ∈ vs → wipe (σ.set i x) vs = wipe σ vs
  | v :: vs, h => by
    by_cases e : i ∈ vs
    · unfold wipe; rw [wipe_set e]
    · have e2 : i = v := by
        rcases List.mem_cons.mp h with z | z
        · exact z
        · exact (e z).elim
      subst e2
      have gen : ∀ ws : List Nat, i ∉ ws → wipe (σ.set i x) ws = (wipe σ ws).set i x := fun ws => by
        induction ws with
        | nil => intro _; rfl
        | cons y ws ih =>
          intro hn
          have h1 : i ≠ y := fun q => hn (by rw [q]; exact List.mem_cons_self)
          have h2 : i ∉ ws := fun q => hn (List.mem_cons_of_mem _ q)
          unfold wipe
          rw [ih h2, List.set_comm _ _ h1]
      unfold wipe
      rw [gen vs e, List.set_set]
theorem k_name (i : Nat) : SndG K Z (gName i) (kName i) [i] := fun F ow σ H ρ w v d ρ' Q e R r q => by
  cases e
  exact q _ (R.set ⟨v, rfl, r⟩) fun vs h => wipe_set (h i (List.mem_singleton.mpr rfl))
theorem k_nil : SndGs K Z gNil kNil [] := fun F ow σ H ρ w vs ds ρ' Q e R r q => by
  cases r with
  | nil => cases e; exact ⟨rfl, q _ R fun _ _ => rfl⟩
  | cons _ _ => cases e
theorem k_cons {g : TG} {gs : TGs} {k : Sg} {ks : Sgs} {l ls : List Nat} (h1 : SndG K Z g k l) (h2 : SndGs K Z gs ks ls) : SndGs K Z (gCons g gs) (kCons k ks) (l ++ ls) := fun F ow σ H ρ w vs ds ρ' Q e R r q => by
  cases r with
  | nil => cases e
  | @cons v vs d ds r1 r2 =>
    have e : (k d ρ).bind (fun ρ1 => ks ds ρ1) = some ρ' := e
    cases e1 : k d ρ with
    | none => rw [e1] at e; cases e
    | some ρ1 =>
      rw [e1] at e
      exact ⟨v, vs, rfl, h1 F ow σ H ρ w v d ρ1 _ e1 R r1 fun σ1 R1 w1 => h2 F ow σ1 H ρ1 w vs ds ρ' Q e R1 r2 fun σ2 R2 w2 => q σ2 R2 fun us hu =>
        (w2 us fun i hi => hu i (List.mem_append_right _ hi)).trans (w1 us fun i hi => hu i (List.mem_append_left _ hi))⟩
theorem k_tup {n : Nat} {gs : TGs} {ks : Sgs} {l : List Nat} (h : SndGs K Z gs ks l) : SndG K Z (gTup K n gs) (kTup n ks) l := fun F ow σ H ρ w v d ρ' Q e R r q => by
  cases d with
  | tup ds =>
    have e : (if ds.length = n then ks ds ρ else none) = some ρ' := e
    by_cases hl : ds.length = n
    · rw [if_pos hl] at e
      cases r with
      | tup ht ra => exact ⟨_, _, rfl, sameT R.sub ht, by rw [ra.length]; exact hl, h F ow σ H ρ w _ ds ρ' Q e R ra q⟩
    · rw [if_neg hl] at e; cases e
  | _ => cases e
end
structure DG (X : Cx) (Z : Z0) (tg : Expr) (g : TG) (k : Sg) (l : List Nat) : Prop where
  pg : PG X tg g
  sn : SndG X.K Z g k l
  fr : ∀ d ρ ρ', k d ρ = some ρ' → ∀ i, i ∉ l → ρ'[i]? = ρ[i]?
structure DGs (X : Cx) (Z : Z0) (tg : List Expr) (g : TGs) (k : Sgs) (l : List Nat) : Prop where
  pg : PGs X tg g
  sn : SndGs X.K Z g k l
  fr : ∀ d ρ ρ', k d ρ = some ρ' → ∀ i, i ∉ l → ρ'[i]? = ρ[i]?

section
variable {X : Cx} {Z : Z0} {E : XK} {pos : Pos} {st : Stmt} {rest : List Stmt} {t u : TS} {g h : Ss}
theorem g_name (i : Nat) {x : Str} (hN : X.N.Nodup) (hi : X.N[i]? = some x := by rfl) (hx : Loc X.env.scope x := by first | exact Or.inl rfl | exact Or.inr rfl) (hf : X.fn x = true ∨ X.env.scope.names.lookup x = some .local := by first | exact .inl rfl | exact .inr rfl | assumption) :
    DG X Z (.Name x pos) (gName i) (kName i) [i] := ⟨pg_name hN hi hx hf, k_name i, fun d ρ ρ' e j hj => by cases e; exact List.getElem?_set_ne (fun q => hj (List.mem_singleton.mpr q.symm))⟩
theorem gs_nil : DGs X Z [] gNil kNil [] := ⟨pgs_nil, k_nil, fun d ρ ρ' e j hj => by
  cases d with
  | nil => cases e; rfl
  | cons _ _ => cases e⟩
theorem gs_cons {e : Expr} {es : List Expr} {t : TG} {u : TGs} {k : Sg} {ks : Sgs} {l ls : List Nat} (h1 : DG X Z e t k l) (h2 : DGs X Z es u ks ls) (hs : (assignEach (e :: es) X.env).map (·.2) = assign e X.env :: (assignEach es X.env).map (·.2) := by rfl) : DGs X Z (e :: es) (gCons t u) (kCons k ks) (l ++ ls) := ⟨pgs_cons h1.pg h2.pg hs, k_cons h1.sn h2.sn, fun d ρ ρ' e j hj => by
  cases d with
  | nil => cases e
  | cons d ds =>
    have e : (k d ρ).bind (fun ρ1 => ks ds ρ1) = some ρ' := e
    cases e1 : k d ρ with
    | none => rw [e1] at e; cases e
    | some ρ1 =>
      rw [e1] at e
      exact (h2.fr ds ρ1 ρ' e j fun z => hj (List.mem_append_right _ z)).trans (h1.fr d ρ ρ1 e1 j fun z => hj (List.mem_append_left _ z))⟩
theorem g_tup {es : List Expr} {k : Nat} {t : TGs} {ks : Sgs} {n : Nat} {l : List Nat} (hc : X.calm = true) (h : DGs X Z es t ks l) (hn : (assignEach es X.env).length = n := by rfl) (hst : (assignEach es X.env).findIdx? (·.1) = none := by rfl) {K0 : W.Frag} (hK0 : X.K = K0 := by rfl) : DG X Z (.Tuple es k pos) (gTup K0 n t) (kTup n ks) l := by subst hK0; exact ⟨pg_tup hc h.pg hn hst, k_tup h.sn, fun d ρ ρ' e j hj => by
  cases d with
  | tup ds =>
    have e : (if ds.length = n then ks ds ρ else none) = some ρ' := e
    by_cases hl : ds.length = n
    · rw [if_pos hl] at e; exact h.fr ds ρ ρ' e j hj
    · rw [if_neg hl] at e; cases e
  | _ => cases e⟩

theorem b_nil : DB X Z E [] tNext gNext := ⟨pss_nil, fun F ow σ H ρ w D R q => q σ H F ow (Same.refl _) R⟩
theorem b_one (h1 : DSt X Z E st t g) : DB X Z E [st] t g := ⟨pss_one h1.ps, h1.sn⟩
theorem s_seq {K : W.Frag} (h1 : SndS K Z E t g) (h2 : SndS K Z E u h) : SndS K Z E (tSeq t u) (gSeq g h) := fun F ow σ H ρ w D R q => by
  refine h1 F ow σ H ρ w _ R ?_
  unfold gSeq at q
  cases e : g ρ w with
  | stuck => rw [e] at q; exact q
  | rz x w1 => rw [e] at q; exact q
  | ok s w1 =>
    rw [e] at q
    cases s with
    | nx ρ1 => exact fun σ1 H1 F1 ow1 s1 R1 => h2 F1 ow1 σ1 H1 ρ1 w1 D R1 (PostS.up s1 q)
    | bk ρ1 => exact q
    | ct ρ1 => exact q
    | rt d => exact q
theorem b_cons (h1 : DSt X Z E st t g) (h2 : DB X Z E rest u h) : DB X Z E (st :: rest) (tSeq t u) (gSeq g h) := ⟨pss_cons h1.ps h2.ps, s_seq h1.sn h2.sn⟩
theorem d_never : DSt X Z E st tNever gNever := ⟨ps_never, fun F ow σ H ρ w D R q => q.elim⟩
theorem d_pass : DSt X Z E (.Pass pos) tNext gNext := ⟨ps_pass, fun F ow σ H ρ w D R q => q σ H F ow (Same.refl _) R⟩
theorem d_break : DSt X Z E (.Break pos) tBreak gBreak := ⟨ps_break, fun F ow σ H ρ w D R q => q σ H F ow (Same.refl _) R⟩
theorem d_cont : DSt X Z E (.Continue pos) tCont gCont := ⟨ps_continue, fun F ow σ H ρ w D R q => q σ H F ow (Same.refl _) R⟩
variable {e : Expr} {te : TE} {f : Sx} {fl : Sl}
theorem d_set (i : Nat) {x : Str} {pos' : Pos} (hN : X.N.Nodup) (he : DE X Z E e te f) (hi : X.N[i]? = some x := by rfl) (hx : Loc X.env.scope x := by first | exact Or.inl rfl | exact Or.inr rfl) (hs : swapsWith e (some (.Name x pos')) pos.line X.env = pure false := by rfl) (hf : X.fn x = true ∨ X.env.scope.names.lookup x = some .local := by first | exact .inl rfl | exact .inr rfl | assumption) :
    DSt X Z E (.Assign [.Name x pos'] e pos) (tAsg te (gName i)) (gSet i f) := ⟨ps_set hN hi hx he.pe hs hf, fun F ow σ H ρ w D R q =>
  he.sn.seqS R q fun d w1 v H1 F1 ow1 s R1 r q1 => q1 _ H1 F1 ow1 (Same.refl _) (R1.set ⟨v, rfl, r⟩)⟩
theorem d_setN (i : Nat) {x : Str} {pos' : Pos} (hN : X.N.Nodup) (he : DN X Z E e te fl) (hi : X.N[i]? = some x := by rfl) (hx : Loc X.env.scope x := by first | exact Or.inl rfl | exact Or.inr rfl) (hs : swapsWith e (some (.Name x pos')) pos.line X.env = pure false := by rfl) (hf : X.fn x = true ∨ X.env.scope.names.lookup x = some .local := by first | exact .inl rfl | exact .inr rfl | assumption) :
    DSt X Z E (.Assign [.Name x pos'] e pos) (tAsg te (gName i)) (gSetN i fl) := ⟨ps_set hN hi hx he.pe hs hf, fun F ow σ H ρ w D R q =>
  he.sn.seqS R q fun ds w1 p vs H1 F1 ow1 s R1 h1 h2 h3 h4 r q1 => q1 _ H1 F1 _ (Same.refl _) (R1.setNew h1 h2 h3 h4 r)⟩
theorem d_asg {tg : Expr} {gg : TG} {k : Sg} {l : List Nat} (he : DE X Z E e te f) (hg : DG X Z tg gg k l) (hs : swapsWithSole [tg] e pos.line X.env = pure false := by rfl) (hw : swappedStores [tg] e X.env = pure none := by rfl)
    (h1 : (assignEach [tg] X.env).map (·.2) = [assign tg X.env] := by rfl) : DSt X Z E (.Assign [tg] e pos) (tAsg te gg) (gAsg f k) := ⟨ps_asg he.pe hg.pg hs hw h1, fun F ow σ H ρ w D R q =>
  he.sn.seqS R q fun d w1 v H1 F1 ow1 s R1 r q1 => by
    cases e1 : k d ρ with
    | none => rw [e1] at q1; exact q1.elim
    | some ρ1 => rw [e1] at q1; exact hg.sn F1 ow1 σ H1 ρ w1 v d ρ1 _ e1 R1 r fun σ1 R2 _ => q1 σ1 H1 F1 ow1 (Same.refl _) R2⟩
theorem d_drop (he : DE X Z E e te f) (hs : swapsWith e none pos.line X.env = pure false := by rfl) : DSt X Z E (.Expr e pos) (tDrop te) (gDrop f) := ⟨ps_expr he.pe hs, fun F ow σ H ρ w D R q =>
  he.sn.seqS R q fun d w1 v H1 F1 ow1 s R1 r q1 => q1 σ H1 F1 ow1 (Same.refl _) R1⟩
theorem d_ret (he : DE X Z E e te f) : DSt X Z E (.Return (some e) pos) (tRet te) (gRet f) := ⟨ps_ret he.pe, fun F ow σ H ρ w D R q =>
  he.sn.seqS R q fun d w1 v H1 F1 ow1 s R1 r q1 => q1 v σ H1 F1 ow1 ρ (Same.refl _) R1 r⟩
theorem d_retN : DSt X Z E (.Return none pos) tRetN gRetN := ⟨ps_retN, fun F ow σ H ρ w D R q => q .non σ H F ow ρ (Same.refl _) R .non⟩
theorem d_if {c : Expr} {a b : List Stmt} {tc : TT} {fc : Sb} (hc : DT X Z E c tc fc) (ha : DB X Z E a t g) (hb : DB X Z E b u h) : DSt X Z E (.If c a b pos) (tIfS tc t u) (gIf fc g h) := ⟨ps_if hc.pt ha.ps hb.ps, fun F ow σ H ρ w D R q =>
  hc.sn.seqS R q fun k w1 H1 F1 ow1 s R1 q1 => by
    cases k with
    | true => rw [if_pos rfl] at q1 ⊢; exact ha.sn F1 ow1 σ H1 ρ w1 D R1 q1
    | false => rw [if_neg Bool.false_ne_true] at q1 ⊢; exact hb.sn F1 ow1 σ H1 ρ w1 D R1 q1⟩
end

/-! ### what is walked -/
/-- the walk yields these -/
structure WalkD (K : W.Frag) (J : It) (F0 : Hp) (items : List Dv) : Prop where
  stop : ∀ (Z : Z0) F ow σ H ρ w i, Same F0 F → Rep K Z F ow σ H ρ w → items[i]? = none → J.stop i H
  item : ∀ (Z : Z0) F ow σ H ρ w i d, Same F0 F → Rep K Z F ow σ H ρ w → items[i]? = some d → J.go i H ∧ ∀ x H', J.yld i H x H' → ∃ F' ow', Same F F' ∧ Rep K Z F' ow' σ H' ρ w ∧ Rp K F' x d
def QI (K : W.Frag) (Z : Z0) (F : Hp) (σ : L2.St) (R : It → Hp → Prop) (ρ : List EV) (items : List Dv) (w : DS) : Prop := ∀ J H' F' ow', Same F F' → Rep K Z F' ow' σ H' ρ w → WalkD K J F' items → R J H'
def SndI (K : W.Frag) (Z : Z0) (E : XK) (wi : TI) (f : Sl) : Prop := ∀ F ow σ H ρ w R, Rep K Z F ow σ H ρ w → Post K Z E σ ρ (QI K Z F σ R ρ) (f ρ w) → wi σ H R
structure DI (X : Cx) (Z : Z0) (E : XK) (tg iter : Expr) (wi : TI) (f : Sl) : Prop where
  pi : PI X tg iter wi
  sn : SndI X.K Z E wi f
def loopD (k : Sg) (g : Ss) : List Dv → Ss
  | [] => fun ρ w => .ok (.nx ρ) w
  | d :: ds => fun ρ w => match k d ρ with
    | none => .stuck
    | some ρ1 => (g ρ1 w).bind fun s w1 => match s with
      | .nx ρ2 => loopD k g ds ρ2 w1
      | .ct ρ2 => loopD k g ds ρ2 w1
      | .bk ρ2 => .ok (.nx ρ2) w1
      | .rt d => .ok (.rt d) w1
def gFor (f : Sl) (k : Sg) (g : Ss) : Ss := fun ρ w => (f ρ w).bind fun items w1 => loopD k g items ρ w1
theorem SndI.seqS {K : W.Frag} {Z : Z0} {E : XK} {F : Hp} {ow : Addr → Option Nat} {σ : L2.St} {H : Hp} {ρ : List EV} {w : DS} {D : Ends} {wi : TI} {f : Sl} {C : It → Hp → Prop} {k : List Dv → DS → RR SF} (h : SndI K Z E wi f) (R : Rep K Z F ow σ H ρ w) (hp : PostS K Z E F D ((f ρ w).bind k))
    (c : ∀ ds w' J H' F' ow', Same F F' → Rep K Z F' ow' σ H' ρ w' → WalkD K J F' ds → PostS K Z E F' D (k ds w') → C J H') : wi σ H C := by
  refine h F ow σ H ρ w C R ?_
  cases e : f ρ w with
  | ok d w' => rw [e] at hp; exact fun J H' F' ow' s R' r => c d w' J H' F' ow' s R' r (hp.up s)
  | rz y w' => rw [e] at hp; exact fun cls dx H F ow R x => hp cls dx σ H F ow ρ R x
  | stuck => rw [e] at hp; exact hp
theorem drop_at {α : Type} {xs : List α} {i : Nat} {d : α} {ds : List α} (h : xs.drop i = d :: ds) : xs[i]? = some d ∧ xs.drop (i + 1) = ds := by
  constructor
  · have := congrArg (·[0]?) h
    simpa [List.getElem?_drop] using this
  · have := congrArg List.tail h
    rw [List.tail_drop] at this
    exact this
section
variable {X : Cx} {Z : Z0} {E : XK} {pos : Pos}
theorem s_for {K : W.Frag} {wi : TI} {g : TG} {tb : TS} {f : Sl} {k : Sg} {gb : Ss} {l : List Nat} (hi : SndI K Z E wi f) (hg : SndG K Z g k l) (hb : SndS K Z E tb gb) : SndS K Z E (tFor wi g tb) (gFor f k gb) := fun F ow σ H ρ w D R q =>
  hi.seqS R q fun items w1 J H1 F1 ow1 s R1 wk q1 => by
    refine ⟨fun i m σ H => ∃ F ow ρ w, Same F1 F ∧ Rep K Z F ow σ H ρ w ∧ m = (items.drop i).length ∧ PostS K Z E F1 D (loopD k gb (items.drop i) ρ w), ⟨_, F1, ow1, ρ, w1, Same.refl _, R1, rfl, q1⟩, ?_⟩
    rintro i m σ2 H2 ⟨F2, ow2, ρ2, w2, s2, R2, rfl, q2⟩
    cases ed : items.drop i with
    | nil =>
      rw [ed] at q2
      have hn : items[i]? = none := List.getElem?_eq_none_iff.mpr (by
        have := congrArg List.length ed
        rw [List.length_drop] at this
        simp only [List.length_nil] at this
        omega)
      exact .inl ⟨wk.stop Z F2 ow2 σ2 H2 ρ2 w2 i s2 R2 hn, q2 σ2 H2 F2 ow2 s2 R2⟩
    | cons d ds =>
      rw [ed] at q2
      obtain ⟨hd, hds⟩ := drop_at ed
      obtain ⟨go, yl⟩ := wk.item Z F2 ow2 σ2 H2 ρ2 w2 i d s2 R2 hd
      refine .inr ⟨go, fun σ H => ∃ F ow ρ w, Same F1 F ∧ Rep K Z F ow σ H ρ w ∧ PostS K Z E F1 D (loopD k gb ds ρ w), ?_, ?_⟩
      · rintro σ' H' ⟨F3, ow3, ρ3, w3, s3, R3, q3⟩
        refine ⟨ds.length, by simp, F3, ow3, ρ3, w3, s3, R3, by rw [hds], ?_⟩
        rw [hds]; exact q3
      · intro x H' hy
        obtain ⟨F3, ow3, s3, R3, rx⟩ := yl x H' hy
        have q3 : PostS K Z E F1 D (match k d ρ2 with
          | none => .stuck
          | some ρ1 => (gb ρ1 w2).bind fun s w1 => match s with
            | .nx ρ2 => loopD k gb ds ρ2 w1
            | .ct ρ2 => loopD k gb ds ρ2 w1
            | .bk ρ2 => .ok (.nx ρ2) w1
            | .rt d => .ok (.rt d) w1) := q2
        cases ek : k d ρ2 with
        | none => rw [ek] at q3; exact q3.elim
        | some ρ3 =>
          rw [ek] at q3
          refine hg F3 ow3 σ2 H' ρ2 w2 x d ρ3 _ ek R3 rx fun σ3 R4 _ => hb F3 ow3 σ3 H' ρ3 w2 _ R4 ?_
          have q3 : PostS K Z E F1 D ((gb ρ3 w2).bind fun s w1 => match s with
            | .nx ρ2 => loopD k gb ds ρ2 w1
            | .ct ρ2 => loopD k gb ds ρ2 w1
            | .bk ρ2 => .ok (.nx ρ2) w1
            | .rt d => .ok (.rt d) w1) := q3
          cases eb : gb ρ3 w2 with
          | stuck => rw [eb] at q3; exact q3
          | rz x w => rw [eb] at q3; exact q3
          | ok sf w4 =>
            rw [eb] at q3
            cases sf with
            | nx ρ5 => exact fun σ5 H5 F5 ow5 s5 R5 => ⟨F5, ow5, ρ5, w4, (s2.trans s3).trans s5, R5, q3⟩
            | ct ρ5 => exact fun σ5 H5 F5 ow5 s5 R5 => ⟨F5, ow5, ρ5, w4, (s2.trans s3).trans s5, R5, q3⟩
            | bk ρ5 => exact PostS.up (r := .ok (.nx ρ5) w4) (s2.trans s3) q3
            | rt d => exact PostS.up (r := .ok (.rt d) w4) (s2.trans s3) q3
end
end DL

namespace DL
open PySem PySem.Spec PyProof.Rows L2

/-! ### a def's body -/
def semOf (n : Nat) (g : Ss) : Fsem := fun ps w => match g (ps ++ List.replicate (n - ps.length) .un) w with
  | .ok (.rt d) w' => .ok d w'
  | .ok (.nx _) w' => .ok .non w'
  | .ok _ _ => .stuck
  | .rz x w' => .rz x w'
  | .stuck => .stuck
theorem ArgR.get {K : W.Frag} {F H : Hp} {ow : Addr → Option Nat} {Z : Z0} {dr : Option (Addr × Addr × Addr)} (hz : Z.dr = dr) : ∀ {vs : List V} {ps : List EV}, ArgR K F dr vs ps → ∀ (i j : Nat) {e : EV}, ps[j]? = some e → SlotR K Z F H ow i (vs.map some)[j]? e
  | _, _, .dat r _, i, 0, e, h => by cases h; exact ⟨_, rfl, r⟩
  | _, _, .drw q _, i, 0, e, h => by cases h; exact ⟨_, _, _, rfl, hz.trans q⟩
  | _, _, .dat _ t, i, j + 1, e, h => ArgR.get hz t i j h
  | _, _, .drw _ t, i, j + 1, e, h => ArgR.get hz t i j h
  | _, _, .nil, i, j, e, h => by cases h
open Classical in
theorem body_of {K : W.Frag} {n : Nat} {vs : List V} {H : Hp} {Q : VK} {E : XK} {N : List Str} {t : TS} {g : Ss} (hn : n ≤ N.length) (h : spD K n (semOf N.length g) vs H Q E) (hb : ∀ Z, SndS K Z E t g) : t { nx := fun _ H' => Q .non H', rt := Q } (L2.start N vs) H := by
  obtain ⟨F, dr, ps, w, hpn, sub, ar, st, nf, q⟩ := h
  refine hb ⟨H, F, dr⟩ F (fun a => if inDr dr a then some 0 else none) (L2.start N vs) H (ps ++ List.replicate (N.length - ps.length) .un) w _ ?_ ?_
  · have hl := ar.length
    exact {
      sub := sub
      keepF := Same.refl _
      newF := fun a u e => .inl e
      keep := fun a o e z => ⟨e, if_neg z⟩
      fzo := fun a u e => if_neg fun z => by rw [nf a z] at e; cases e
      owh := fun a i e => by
        by_cases z : inDr dr a
        · obtain ⟨x, gg, c, e1, e2⟩ := z
          obtain ⟨h1, h2, h3, _⟩ := st _ _ _ e1
          rcases e2 with rfl | rfl | rfl
          · exact ⟨_, h1⟩
          · exact ⟨_, h2⟩
          · exact ⟨_, h3⟩
        · rw [if_neg z] at e; cases e
      len := by
        unfold L2.start
        rw [List.length_append, List.length_append, List.length_map, List.length_replicate, List.length_replicate, hl]
      slots := fun i e he => by
        unfold L2.start
        by_cases hi : i < ps.length
        · rw [List.getElem?_append_left hi] at he
          rw [List.getElem?_append_left (by rw [List.length_map, hl]; exact hi)]
          exact ar.get rfl i i he
        · rw [List.getElem?_append_right (Nat.le_of_not_lt hi)] at he
          have := List.mem_of_getElem? he
          rw [List.mem_replicate] at this
          rw [this.2]
          trivial
      dr := fun a gg c e => ⟨st a gg c e, if_pos ⟨a, gg, c, e, .inl rfl⟩, if_pos ⟨a, gg, c, e, .inr (.inl rfl)⟩, if_pos ⟨a, gg, c, e, .inr (.inr rfl)⟩⟩ }
  · have grx : ∀ {F' : Hp} {ow' : Addr → Option Nat} {σ' : L2.St} {H' : Hp} {ρ' : List EV} {w' : DS}, Rep K ⟨H, F, dr⟩ F' ow' σ' H' ρ' w' → GrX F H F' H' dr ∧ StX dr H' w' := fun R =>
      ⟨⟨R.keepF, R.sub, fun a u e => R.newF a u e, fun a o e z => (R.keep a o e z).1⟩, fun a gg c e => (R.dr a gg c e).1⟩
    unfold semOf at q
    cases eg : g (ps ++ List.replicate (N.length - ps.length) .un) w with
    | stuck => rw [eg] at q; exact q
    | rz x w1 => rw [eg] at q; exact fun cls dx σ1 H1 F1 ow1 ρ1 R1 xr => q cls dx H1 F1 (grx R1).1 (grx R1).2 xr
    | ok sf w1 =>
      rw [eg] at q
      cases sf with
      | nx ρ1 => exact fun σ1 H1 F1 ow1 _ R1 => q .non H1 F1 (grx R1).1 (grx R1).2 .non
      | rt d => exact fun v σ1 H1 F1 ow1 ρ1 _ R1 r => q v H1 F1 (grx R1).1 (grx R1).2 r
      | bk ρ1 => exact q.elim
      | ct ρ1 => exact q.elim
/-- THE RULE: a def over data -/
theorem fnD {P : Program} {w : World} {K : W.Frag} {mg : Str → Option Value} {base : Heap} {x qual : Str} {st : Stmt} {f : Addr} {fd : FuncData} {N ps : List Str} {k : Nat} {g : Ss} (F : Fun K x qual st f fd) (S : FnScope N ps (defScope st))
    (hb : ∀ (cdv : Value) (A : Around) (outer : List Env) (s : Shared) (H : Hp) (E : XK), Room k (A.deeper (envOfC qual (defScope st) s.heap.objs.size f cdv)) →
      ∃ t, ∀ Z, DB (cxOf (L2.CX P w) P w K mg base N qual (defScope st) f cdv A outer s H E) Z E (defBody st) t g) (hl : ps.length ≤ N.length := by decide) :
    FnOk P w K mg base (L2.CX P w) (k + 1) f fd ps (spD K ps.length (semOf N.length g)) := by
  refine F.okX S (fun vs H Q E h => ?_) (fun cdv A outer s H vs Q E hr h => ?_)
  · obtain ⟨F, dr, qs, w, hpn, sub, ar, _⟩ := h
    rw [ar.length, hpn]
  · obtain ⟨t, ht⟩ := hb cdv A outer s H E hr
    exact ⟨t, (ht ⟨H, H, none⟩).ps, body_of hl h fun Z => (ht Z).sn⟩
theorem calD {P : Program} {w : World} {K : W.Frag} {mg : Str → Option Value} {base : Heap} {x : Str} {st : Stmt} {f : Addr} {fd : FuncData} {ps : List Str} {k n : Nat} {sem : Fsem} (F : Fun K x x st f fd) (hm : mg x = some (.ref f)) (hb : L2.Binds K fd ps []) (hn : ps.length = n)
    (G : FnOk P w K mg base (L2.CX P w) k f fd ps (spD K ps.length sem)) : Cal P w K mg base x k n sem := by
  subst hn
  exact ⟨f, fd, ps, rfl, G, hm, F.kp, hb⟩

section
variable {X : Cx} {Z : Z0} {E : XK} {pos : Pos}
theorem d_for {tg iter : Expr} {body : List Stmt} {wi : TI} {g : TG} {tb : TS} {f : Sl} {k : Sg} {gb : Ss} {l : List Nat} (hp : PassesOwn (model X.prog X.w) X.A X.env X.xe) (hc : X.calm = true) (hi : DI X Z E tg iter wi f) (hg : DG X Z tg g k l) (hb : DB X Z E body tb gb)
    (hs : ∀ x, foldedSetIterable iter X.env x = pure x := by intro _; rfl) : DSt X Z E (.For tg iter body [] pos) (tFor wi g tb) (gFor f k gb) := ⟨ps_for hp hc hi.pi hg.pg hb.ps hs, s_for hi.sn hg.sn hb.sn⟩

/-! ### while -/
def whileD (fc : Sb) (gb : Ss) : Nat → Ss
  | 0 => fun _ _ => .stuck
  | n + 1 => fun ρ w => (fc ρ w).bind fun b w1 => if b = true then (gb ρ w1).bind fun s w2 => match s with
      | .nx ρ2 => whileD fc gb n ρ2 w2
      | .ct ρ2 => whileD fc gb n ρ2 w2
      | .bk ρ2 => .ok (.nx ρ2) w2
      | .rt d => .ok (.rt d) w2
    else .ok (.nx ρ) w1
def gWhile (fuel : List EV → DS → Nat) (fc : Sb) (gb : Ss) : Ss := fun ρ w => whileD fc gb (fuel ρ w) ρ w
theorem s_while {K : W.Frag} {fuel : List EV → DS → Nat} {tc : TT} {tb : TS} {fc : Sb} {gb : Ss} (hc : SndT K Z E tc fc) (hb : SndS K Z E tb gb) : SndS K Z E (tWhile tc tb) (gWhile fuel fc gb) := fun F ow σ H ρ w D R q => by
  refine ⟨fun m σ H => ∃ F1 ow ρ w, Rep K Z F1 ow σ H ρ w ∧ PostS K Z E F1 D (whileD fc gb m ρ w), ⟨_, F, ow, ρ, w, R, q⟩, ?_⟩
  rintro m σ1 H1 ⟨F1, ow1, ρ1, w1, R1, q1⟩
  cases m with
  | zero => exact q1.elim
  | succ m =>
    have q1 : PostS K Z E F1 D ((fc ρ1 w1).bind fun b w1 => if b = true then (gb ρ1 w1).bind fun s w2 => match s with
      | .nx ρ2 => whileD fc gb m ρ2 w2
      | .ct ρ2 => whileD fc gb m ρ2 w2
      | .bk ρ2 => .ok (.nx ρ2) w2
      | .rt d => .ok (.rt d) w2
      else .ok (.nx ρ1) w1) := q1
    refine hc.seqS R1 q1 fun b w2 H2 F2 ow2 s2 R2 q2 => ?_
    cases b with
    | false =>
      rw [if_neg Bool.false_ne_true] at q2 ⊢
      exact q2 σ1 H2 F2 ow2 (Same.refl _) R2
    | true =>
      rw [if_pos rfl] at q2 ⊢
      refine ⟨fun σ H => ∃ F3 ow ρ w, Rep K Z F3 ow σ H ρ w ∧ PostS K Z E F3 D (whileD fc gb m ρ w), fun σ' H' ⟨F3, ow3, ρ3, w3, R3, q3⟩ => ⟨m, Nat.lt_succ_self _, F3, ow3, ρ3, w3, R3, q3⟩, ?_⟩
      refine hb F2 ow2 σ1 H2 ρ1 w2 _ R2 ?_
      cases eb : gb ρ1 w2 with
      | stuck => rw [eb] at q2; exact q2
      | rz x w => rw [eb] at q2; exact q2
      | ok sf w4 =>
        rw [eb] at q2
        cases sf with
        | nx ρ5 => exact fun σ5 H5 F5 ow5 s5 R5 => ⟨F5, ow5, ρ5, w4, R5, PostS.up s5 q2⟩
        | ct ρ5 => exact fun σ5 H5 F5 ow5 s5 R5 => ⟨F5, ow5, ρ5, w4, R5, PostS.up s5 q2⟩
        | bk ρ5 => exact q2
        | rt d => exact q2
theorem d_while (fuel : List EV → DS → Nat) {c : Expr} {body : List Stmt} {tc : TT} {tb : TS} {fc : Sb} {gb : Ss} (hp : PassesOwn (model X.prog X.w) X.A X.env X.xe) (hc : DT X Z E c tc fc) (hb : DB X Z E body tb gb) : DSt X Z E (.While c body [] pos) (tWhile tc tb) (gWhile fuel fc gb) := ⟨ps_while hp hc.pt hb.ps, s_while hc.sn hb.sn⟩

/-! ### comprehensions -/
def wipeE (ρ : List EV) : List Nat → List EV
  | [] => ρ
  | v :: vs => (wipeE ρ vs).set v .un
def fYes : Sb := fun _ w => .ok true w
def lcD (k : Sg) (ft : Sb) (fe : Sx) (ρ : List EV) : List Dv → DS → RR (List Dv)
  | [], w => .ok [] w
  | d :: ds, w => match k d ρ with
    | none => .stuck
    | some ρ1 => match ft ρ1 w with
      | .ok true w1 => (match fe ρ1 w1 with
        | .ok y w2 => (lcD k ft fe ρ ds w2).bind fun ys w3 => .ok (y :: ys) w3
        | _ => .stuck)
      | .ok false w1 => lcD k ft fe ρ ds w1
      | _ => .stuck
section
variable {K : W.Frag} {F : Hp} {ow : Addr → Option Nat} {σ : L2.St} {H : Hp} {ρ : List EV} {w : DS}
theorem Rep.unset {i : Nat} (R : Rep K Z F ow σ H ρ w) : Rep K Z F ow (σ.set i none) H (ρ.set i .un) w :=
  { R with
    len := by rw [List.length_set, List.length_set]; exact R.len
    slots := fun j e' q => by
      by_cases hj : i = j
      · subst hj
        have hl : i < ρ.length := by
          have := (List.getElem?_eq_some_iff.mp q).1
          rwa [List.length_set] at this
        rw [List.getElem?_set_self hl] at q
        cases q
        trivial
      · rw [List.getElem?_set_ne hj] at q ⊢
        exact R.slots j e' q }
theorem Rep.wipe (R : Rep K Z F ow σ H ρ w) : ∀ vs : List Nat, Rep K Z F ow (L2.wipe σ vs) H (wipeE ρ vs) w
  | [] => R
  | v :: vs => (Rep.wipe R vs).unset
/-- a new object is kept an eye on -/
theorem Rep.guard {D : Addr} {o : HO} (R : Rep K Z F ow σ H ρ w) (h1 : H D = some o) (h2 : ow D = none) (h3 : F D = none) : Rep K ⟨upd Z.H D o, Z.F, Z.dr⟩ F ow σ H ρ w where
  sub := R.sub
  keepF := R.keepF
  newF := fun a u e => (R.newF a u e).elim .inl fun n => by
    refine .inr ?_
    show upd Z.H D o a = none
    rw [upd_ne (fun z => by rw [z, h3] at e; cases e)]; exact n
  keep := fun a u e z => by
    by_cases q : a = D
    · subst q
      have e : upd Z.H a o a = some u := e
      rw [upd_same] at e; cases e
      exact ⟨h1, h2⟩
    · have e : upd Z.H D o a = some u := e
      rw [upd_ne q] at e
      exact R.keep a u e z
  fzo := R.fzo
  owh := R.owh
  len := R.len
  slots := fun i e h => by
    have h := R.slots i e h
    have k : ∀ a j, ow a = some j → Z.H a = none → upd Z.H D o a = none := fun a j ha n => by
      rw [upd_ne (fun z => by rw [z, h2] at ha; cases ha)]; exact n
    cases e with
    | un => trivial
    | dat d => exact h
    | lst ds => obtain ⟨a, vs, e, g1, g2, g3, r⟩ := h; exact ⟨a, vs, e, g1, g2, k _ _ g2 g3, r⟩
    | dct ds => obtain ⟨a, vs, e, g1, g2, g3, r⟩ := h; exact ⟨a, vs, e, g1, g2, k _ _ g2 g3, r⟩
    | dctT ds => obtain ⟨a, vs, e, g1, g2, g3, r⟩ := h; exact ⟨a, vs, e, g1, g2, k _ _ g2 g3, r⟩
    | drw => exact h
  dr := R.dr
theorem Rep.unguard {D : Addr} {o : HO} (hZ : Z.H D = none) (nf : ¬ Z.foot D) (hF : Z.F D = none) (R : Rep K ⟨upd Z.H D o, Z.F, Z.dr⟩ F ow σ H ρ w) : Rep K Z F ow σ H ρ w ∧ H D = some o ∧ ow D = none ∧ F D = none := by
  have kd := R.keep D o (show upd Z.H D o D = some o from upd_same) nf
  have hz : ∀ a, upd Z.H D o a = none → Z.H a = none := fun a e => by
    by_cases q : a = D
    · rw [q]; exact hZ
    · rw [upd_ne q] at e; exact e
  refine ⟨{
    sub := R.sub
    keepF := R.keepF
    newF := fun a u e => (R.newF a u e).imp id (hz a)
    keep := fun a u e z => R.keep a u (by
      show upd Z.H D o a = some u
      rw [upd_ne (fun q => by rw [q, hZ] at e; cases e)]; exact e) z
    fzo := R.fzo
    owh := R.owh
    len := R.len
    slots := fun i e h => by
      have h := R.slots i e h
      cases e with
      | un => trivial
      | dat d => exact h
      | lst ds => obtain ⟨a, vs, e, g1, g2, g3, r⟩ := h; exact ⟨a, vs, e, g1, g2, hz _ g3, r⟩
      | dct ds => obtain ⟨a, vs, e, g1, g2, g3, r⟩ := h; exact ⟨a, vs, e, g1, g2, hz _ g3, r⟩
      | dctT ds => obtain ⟨a, vs, e, g1, g2, g3, r⟩ := h; exact ⟨a, vs, e, g1, g2, hz _ g3, r⟩
      | drw => exact h
    dr := R.dr }, kd.1, kd.2, ?_⟩
  cases q : F D with
  | none => rfl
  | some u =>
    rcases R.newF D u q with z | z
    · have z : Z.F D = some u := z
      rw [hF] at z; cases z
    · have z : upd Z.H D o D = none := z
      rw [upd_same] at z; cases z
/-- the guarded object is written -/
theorem Rep.mark {D : Addr} {o : HO} (R : Rep K Z F ow σ H ρ w) (h2 : ow D = none) (h3 : F D = none) (hZ : Z.H D = none) (nf : ¬ Z.foot D) : Rep K Z F ow σ (upd H D o) ρ w :=
  { R with
    sub := fun a u e => by rw [upd_ne (fun z => by rw [z, h3] at e; cases e)]; exact R.sub a u e
    keep := fun a u e z => ⟨by rw [upd_ne (fun q => by rw [q, hZ] at e; cases e)]; exact (R.keep a u e z).1, (R.keep a u e z).2⟩
    owh := fun a i e => by obtain ⟨u, h⟩ := R.owh a i e; exact ⟨u, by rw [upd_ne (fun z => by rw [z, h2] at e; cases e)]; exact h⟩
    slots := fun i e h => (R.slots i e h).grow e (Same.refl _) fun a u n q => by rw [upd_ne (fun z => n (by rw [z]; exact h2))]; exact q
    dr := fun a g c e => by
      obtain ⟨h, o1, o2, o3⟩ := R.dr a g c e
      have k : ∀ b, ow b = some 0 → b ≠ D := fun b q z => by rw [z, h2] at q; cases q
      exact ⟨h.mono (fun u q => by rw [upd_ne (k _ o1)]; exact q) (fun u q => by rw [upd_ne (k _ o2)]; exact q) (fun u q => by rw [upd_ne (k _ o3)]; exact q), o1, o2, o3⟩ }
end
theorem SndI.seq {K : W.Frag} {F : Hp} {ow : Addr → Option Nat} {σ : L2.St} {H : Hp} {ρ : List EV} {w : DS} {wi : TI} {f : Sl} {C : It → Hp → Prop} {α : Type} {P : α → DS → Prop} {k : List Dv → DS → RR α} (h : SndI K Z E wi f) (R : Rep K Z F ow σ H ρ w) (hp : Post K Z E σ ρ P ((f ρ w).bind k))
    (c : ∀ ds w' J H' F' ow', Same F F' → Rep K Z F' ow' σ H' ρ w' → WalkD K J F' ds → Post K Z E σ ρ P (k ds w') → C J H') : wi σ H C := by
  refine h F ow σ H ρ w C R ?_
  cases e : f ρ w with
  | ok d w' => rw [e] at hp; exact fun J H' F' ow' s R' r => c d w' J H' F' ow' s R' r hp
  | rz y w' => rw [e] at hp; exact hp
  | stuck => rw [e] at hp; exact hp
theorem wipe_sub {σ : L2.St} {vs : List Nat} : ∀ us : List Nat, (∀ i ∈ us, i ∈ vs) → L2.wipe (L2.wipe σ us) vs = L2.wipe σ vs
  | [], _ => rfl
  | v :: us, h => by
    show L2.wipe ((L2.wipe σ us).set v none) vs = _
    rw [wipe_set (h v List.mem_cons_self), wipe_sub us fun i hi => h i (List.mem_cons_of_mem _ hi)]
theorem wipe_out {σ : L2.St} {i : Nat} : ∀ {vs : List Nat}, i ∉ vs → (L2.wipe σ vs)[i]? = σ[i]?
  | [], _ => rfl
  | v :: vs, h => by
    show ((L2.wipe σ vs).set v none)[i]? = _
    rw [List.getElem?_set_ne (fun q => h (by rw [q]; exact List.mem_cons_self)), wipe_out fun q => h (List.mem_cons_of_mem _ q)]
theorem wipeE_out {ρ : List EV} {i : Nat} : ∀ {vs : List Nat}, i ∉ vs → (wipeE ρ vs)[i]? = ρ[i]?
  | [], _ => rfl
  | v :: vs, h => by
    show ((wipeE ρ vs).set v .un)[i]? = _
    rw [List.getElem?_set_ne (fun q => h (by rw [q]; exact List.mem_cons_self)), wipeE_out fun q => h (List.mem_cons_of_mem _ q)]
/-- the slots of a comprehension's own names hold nothing owned -/
def plainEV : EV → Bool
  | .un => true
  | .dat _ => true
  | _ => false
def okW (ρ : List EV) (vs : List Nat) : Bool := vs.all fun i => plainEV (ρ.getD i .un)
theorem Rep.back {K : W.Frag} {F F' : Hp} {ow ow' : Addr → Option Nat} {σ σ' : L2.St} {H H' : Hp} {ρ ρ' : List EV} {w w' : DS} {vs : List Nat} (R0 : Rep K Z F ow σ H ρ w) (R1 : Rep K Z F' ow' σ' H' ρ' w') (s : Same F F') (hs : ∀ i, i ∉ vs → σ'[i]? = σ[i]?) (hr : ∀ i, i ∉ vs → ρ'[i]? = ρ[i]?) (ok : okW ρ vs = true) :
    Rep K Z F' ow' σ H' ρ w' :=
  { R1 with
    len := R0.len
    slots := fun i e h => by
      by_cases hi : i ∈ vs
      · have z := List.all_eq_true.mp ok i hi
        rw [List.getD_eq_getElem?_getD, h] at z
        have h0 := R0.slots i e h
        cases e with
        | un => trivial
        | dat d => obtain ⟨v, e, r⟩ := h0; exact ⟨v, e, r.mono s⟩
        | _ => cases z
      · have h1 := R1.slots i e (by rw [hr i hi]; exact h)
        rw [hs i hi] at h1
        exact h1 }
def fLcW (fi : Sl) (k : Sg) (ft : Sb) (fe : Sx) (vs : List Nat) : Sl := fun ρ w => (fi ρ w).bind fun items w1 => if items.length ≤ big ∧ okW ρ vs = true then lcD k ft fe (wipeE ρ vs) items w1 else .stuck
theorem s_lc {K : W.Frag} {wi : TI} {g : TG} {tt : TT} {te : TE} {fi : Sl} {k : Sg} {ft : Sb} {fe : Sx} {vs l : List Nat} (hi : SndI K Z E wi fi) (hg : ∀ Z', SndG K Z' g k l) (fr : ∀ d ρ ρ', k d ρ = some ρ' → ∀ i, i ∉ l → ρ'[i]? = ρ[i]?) (ht : ∀ Z', SndT K Z' E0 tt ft) (he : ∀ Z', Snd K Z' E0 te fe) (hl : ∀ i ∈ l, i ∈ vs) :
    SndN K Z E (tLc wi g tt te vs) (fLcW fi k ft fe vs) := fun F ow σ H ρ w Q R q => by
  refine hi.seq R q fun items w1 J H1 F1 ow1 s1 R1 wk q1 => ?_
  by_cases hb : items.length ≤ big ∧ okW ρ vs = true
  case neg => rw [if_neg hb] at q1; exact q1.elim
  rw [if_pos hb] at q1
  obtain ⟨hbig, hok⟩ := hb
  intro D nD
  obtain ⟨d2, d3, d4⟩ := R1.fresh nD
  have nf : ¬ Z.foot D := fun ⟨x, gg, c, e1, e2⟩ => by
    obtain ⟨⟨h1, h2, h3, _⟩, _⟩ := R1.dr _ _ _ e1
    rcases e2 with rfl | rfl | rfl
    · rw [h1] at nD; cases nD
    · rw [h2] at nD; cases nD
    · rw [h3] at nD; cases nD
  have zF : Z.F D = none := R1.keepF.free d3
  have z4 := d4
  refine ⟨fun i m H => ∃ F2 ow2 w2 acc accD, Same F1 F2 ∧ Rep K Z F2 ow2 σ H ρ w2 ∧ H D = some (.lst acc) ∧ ow2 D = none ∧ F2 D = none ∧ RpAll K F2 acc accD ∧ m = (items.drop i).length ∧ acc.length ≤ i ∧
      Post K Z E σ ρ (fun ys w => QN K Z F σ Q ρ (accD ++ ys) w) (lcD k ft fe (wipeE ρ vs) (items.drop i) w2),
    ⟨_, F1, ow1, w1, [], [], Same.refl _, R1.mark d2 d3 d4 nf, upd_same, d2, d3, .nil, rfl, Nat.zero_le _, q1⟩, ?_⟩
  rintro i m H2 ⟨F2, ow2, w2, acc, accD, s2, R2, e2, o2, f2, r2, rfl, hle, q2⟩
  cases ed : items.drop i with
  | nil =>
    rw [ed] at q2
    have hn : items[i]? = none := List.getElem?_eq_none_iff.mpr (by
      have := congrArg List.length ed
      rw [List.length_drop] at this
      simp only [List.length_nil] at this
      omega)
    have q3 : QN K Z F σ Q ρ (accD ++ []) w2 := q2
    rw [List.append_nil] at q3
    exact .inl ⟨wk.stop Z F2 ow2 σ H2 ρ w2 i s2 R2 hn, q3 D acc H2 F2 ow2 (s1.trans s2) R2 e2 o2 f2 z4 r2⟩
  | cons d ds =>
    rw [ed] at q2
    obtain ⟨hd, hds⟩ := drop_at ed
    have Rg := R2.guard e2 o2 f2
    obtain ⟨go, yl⟩ := wk.item _ F2 ow2 σ H2 ρ w2 i d s2 Rg hd
    have hib : i < items.length := (List.getElem?_eq_some_iff.mp hd).1
    refine .inr ⟨(wk.item Z F2 ow2 σ H2 ρ w2 i d s2 R2 hd).1, fun H => ∃ F3 ow3 w3 acc3 accD3, Same F2 F3 ∧ Rep K Z F3 ow3 σ H ρ w3 ∧ H D = some (.lst acc3) ∧ ow3 D = none ∧ F3 D = none ∧ RpAll K F3 acc3 accD3 ∧ acc3.length ≤ i + 1 ∧
      Post K Z E σ ρ (fun ys w => QN K Z F σ Q ρ (accD3 ++ ys) w) (lcD k ft fe (wipeE ρ vs) ds w3), ?_, ?_⟩
    · rintro H' ⟨F3, ow3, w3, acc3, accD3, s3, R3, e3, o3, f3, r3, l3, q3⟩
      exact ⟨ds.length, by simp, F3, ow3, w3, acc3, accD3, s2.trans s3, R3, e3, o3, f3, r3, by rw [hds], l3, by rw [hds]; exact q3⟩
    · intro x H3 hy
      obtain ⟨F3, ow3, s3, R3, rx⟩ := yl x H3 hy
      have q3 : Post K Z E σ ρ (fun ys w => QN K Z F σ Q ρ (accD ++ ys) w) (match k d (wipeE ρ vs) with
        | none => .stuck
        | some ρ1 => match ft ρ1 w2 with
          | .ok true w1 => (match fe ρ1 w1 with
            | .ok y w2 => (lcD k ft fe (wipeE ρ vs) ds w2).bind fun ys w3 => .ok (y :: ys) w3
            | _ => .stuck)
          | .ok false w1 => lcD k ft fe (wipeE ρ vs) ds w1
          | _ => .stuck) := q2
      cases ek : k d (wipeE ρ vs) with
      | none => rw [ek] at q3; exact q3.elim
      | some ρ1 =>
        rw [ek] at q3
        refine hg _ F3 ow3 (L2.wipe σ vs) H3 (wipeE ρ vs) w2 x d ρ1 _ ek (R3.wipe vs) rx fun σ2 R4 hw => ?_
        have hws : L2.wipe σ2 vs = L2.wipe σ vs := (hw vs hl).trans (wipe_sub vs fun i h => h)
        have hs2 : ∀ i, i ∉ vs → σ2[i]? = σ[i]? := fun j hj => by rw [← wipe_out (σ := σ2) hj, hws, wipe_out hj]
        have hr2 : ∀ i, i ∉ vs → ρ1[i]? = ρ[i]? := fun j hj => by rw [fr d _ ρ1 ek j fun z => hj (hl j z), wipeE_out hj]
        refine ⟨hws, ?_⟩
        have q3 : Post K Z E σ ρ (fun ys w => QN K Z F σ Q ρ (accD ++ ys) w) (match ft ρ1 w2 with
          | .ok true w1 => (match fe ρ1 w1 with
            | .ok y w2 => (lcD k ft fe (wipeE ρ vs) ds w2).bind fun ys w3 => .ok (y :: ys) w3
            | _ => .stuck)
          | .ok false w1 => lcD k ft fe (wipeE ρ vs) ds w1
          | _ => .stuck) := q3
        refine ht _ F3 ow3 σ2 H3 ρ1 w2 _ R4 ?_
        cases et : ft ρ1 w2 with
        | stuck => rw [et] at q3; exact q3.elim
        | rz y w => rw [et] at q3; exact q3.elim
        | ok b w3 =>
          rw [et] at q3
          intro H4 F4 ow4 s4 R5
          cases b with
          | false =>
            rw [if_neg Bool.false_ne_true]
            obtain ⟨R6, g1, g2, g3⟩ := Rep.unguard z4 nf zF R5
            exact ⟨F4, ow4, w3, acc, accD, s3.trans s4, R2.back R6 (s3.trans s4) hs2 hr2 hok, g1, g2, g3, r2.mono (s3.trans s4), Nat.le_succ_of_le hle, q3⟩
          | true =>
            rw [if_pos rfl]
            have q3 : Post K Z E σ ρ (fun ys w => QN K Z F σ Q ρ (accD ++ ys) w) (match fe ρ1 w3 with
              | .ok y w2 => (lcD k ft fe (wipeE ρ vs) ds w2).bind fun ys w3 => .ok (y :: ys) w3
              | _ => .stuck) := q3
            refine he _ F4 ow4 σ2 H4 ρ1 w3 _ R5 ?_
            cases ee : fe ρ1 w3 with
            | stuck => rw [ee] at q3; exact q3.elim
            | rz y w => rw [ee] at q3; exact q3.elim
            | ok y w4 =>
              rw [ee] at q3
              intro v H5 F5 ow5 s5 R7 ry
              obtain ⟨R6, g1, g2, g3⟩ := Rep.unguard z4 nf zF R7
              have s25 := (s3.trans s4).trans s5
              refine ⟨acc, g1, by rw [sizeLine_big]; omega, F5, ow5, w4, acc ++ [v], accD ++ [y], s25, (R2.back R6 s25 hs2 hr2 hok).mark g2 g3 z4 nf, upd_same, g2, g3, (r2.mono s25).append (.cons ry .nil), by rw [List.length_append, List.length_singleton]; omega, ?_⟩
              have q3 : Post K Z E σ ρ (fun ys w => QN K Z F σ Q ρ (accD ++ ys) w) ((lcD k ft fe (wipeE ρ vs) ds w4).bind fun ys w3 => .ok (y :: ys) w3) := q3
              cases el : lcD k ft fe (wipeE ρ vs) ds w4 with
              | stuck => rw [el] at q3; exact q3.elim
              | rz x w => rw [el] at q3; exact q3
              | ok ys w5 =>
                rw [el] at q3
                have q3 : QN K Z F σ Q ρ (accD ++ (y :: ys)) w5 := q3
                show QN K Z F σ Q ρ ((accD ++ [y]) ++ ys) w5
                rw [List.append_assoc]; exact q3
structure DTs (X : Cx) (Z : Z0) (E : XK) (ifs : List Expr) (t : TT) (f : Sb) : Prop where
  pt : PTs X ifs t
  sn : SndT X.K Z E t f
theorem ts_nil : DTs X Z E [] tYes fYes := ⟨pts_nil, fun F ow σ H ρ w Q R q => q H F ow (Same.refl _) R⟩
theorem ts_one {c : Expr} {t : TT} {f : Sb} (h : DT X Z E c t f) : DTs X Z E [c] t f := ⟨pts_one h.pt, h.sn⟩
def sh0 : Shared := {}
theorem n_lc {elt tg iter : Expr} {ifs : List Expr} {scope : Scope} {own : List (Str × Nat)} {wi : TI} {g : TG} {tt : TT} {te : TE} {fi : Sl} {k : Sg} {ft : Sb} {fe : Sx} {l : List Nat} (hc : X.calm = true) (hN : X.N.Nodup) (hi : DI X Z E tg iter wi fi) (ok : BlkOk X.N X.env.scope scope own)
    (hg : ∀ (Z' : Z0) (s : Shared) (H : Hp) (C : Addr) (cl : List (Str × Addr)) (fp : List Addr), DG (X.blk s H scope (compEnvC scope cl C X.env) fp) Z' tg g k l) (ht : ∀ (Z' : Z0) (s : Shared) (H : Hp) (C : Addr) (cl : List (Str × Addr)) (fp : List Addr), DTs (X.blk s H scope (compEnvC scope cl C X.env) fp) Z' E0 ifs tt ft)
    (he : ∀ (Z' : Z0) (s : Shared) (H : Hp) (C : Addr) (cl : List (Str × Addr)) (fp : List Addr), DE (X.blk s H scope (compEnvC scope cl C X.env) fp) Z' E0 elt te fe) (hl : ∀ i ∈ l, i ∈ own.map (·.2)) (hs : ∀ x, foldedSetIterable iter X.env x = pure x := by intro _; rfl) :
    DN X Z E (.ListComp elt [⟨tg, iter, ifs, 0⟩] scope pos) (tLc wi g tt te (own.map (·.2))) (fLcW fi k ft fe (own.map (·.2))) :=
  ⟨pe_lc hc hN hi.pi ok (fun s H C cl fp => (hg Z s H C cl fp).pg) (fun s H C cl fp => (ht Z s H C cl fp).pt) (fun s H C cl fp => (he Z s H C cl fp).pe) hs,
   s_lc hi.sn (fun Z' => (hg Z' sh0 (fun _ => none) 0 [] []).sn) (hg Z sh0 (fun _ => none) 0 [] []).fr (fun Z' => (ht Z' sh0 (fun _ => none) 0 [] []).sn) (fun Z' => (he Z' sh0 (fun _ => none) 0 [] []).sn) hl⟩
end
end DL

/-! enumerate over a tuple -/
namespace PySem
open Sem (wp)
open AutoSeq1 (wpAny_loadPart')
theorem dl_enum_new {v : Value} {o : Obj} {H : Heap → Prop} (B : Begins v o H) :
    Meets (Builtin.«enumerate.__new__» ⟨[.type "enumerate", v], []⟩) (fun _ R s => H s.heap ∧
      R (.ok (.ret (.ref (s.heap.push o).objs.size))) { s with heap := (s.heap.push o).push { cls := .type "enumerate", data := .fields #[.none, .bool false, .ref s.heap.objs.size, rawInt 0, .none, .none] } }) :=
  .of_wp fun prog w A R s h => by
    obtain ⟨hp, g, d, tk, os⟩ := s; obtain ⟨h1, h⟩ := h
    have hsub := sub_enumerate
    have q1 : ∀ {A' : Around} {E : Value → Shared → Prop} {Q : Value → Shared → Prop}, Q (.ref hp.objs.size) ⟨hp.push o, g, d, tk, os⟩ → wpAny (model prog w) A' (pyIter v) Q E ⟨hp, g, d, tk, os⟩ :=
      fun q => B.iter prog w _ _ ⟨hp, g, d, tk, os⟩ _ h1 q
    wp_walk using q1
    refine wpAny_stack_any fun st => wpAny_pure ?_
    split
    · rename_i c _ _ _ _ _
      cases (c == Value.type "enumerate")
      · wp_walk using q1
        exact ⟨_, rfl, h⟩
      · wp_walk using q1
        exact ⟨_, rfl, h⟩
    · wp_walk using q1
      exact ⟨_, rfl, h⟩
theorem dl_enum_begins {prog : Program} {w : World} {A : Around} {E : Value → Shared → Prop} {s : Shared} {v : Value} {o : Obj} {H : Heap → Prop} {Q : Value → Shared → Prop} (B : Begins v o H) (h1 : H s.heap)
    (h : ∀ h', IsEnum h' (s.heap.objs.size + 1) s.heap.objs.size 0 .none → h'.get? s.heap.objs.size = some o → h'.objs.size = s.heap.objs.size + 2 →
      (∀ b o, s.heap.get? b = some o → h'.get? b = some o) → Q (.ref (s.heap.objs.size + 1)) { s with heap := h' }) :
    wpAny (model prog w) A (call (.type "enumerate") [v]) Q E s := by
  refine callType_new F.called_enumerate (by decide) (F.typeCall_enumerate_1 _) (F.newCall_enumerate_1 _) (fun obj => F.args_object_init_2 obj _) F.entry_enumerate_new
    (dl_enum_new B) ⟨h1, ?_⟩
  have hz : (s.heap.push o).objs.size = s.heap.objs.size + 1 := Heap.size_push ..
  show _ ∧ _
  rw [hz]
  have he : IsEnum ((s.heap.push o).push { cls := .type "enumerate", data := .fields #[.none, .bool false, .ref s.heap.objs.size, rawInt 0, .none, .none] }) (s.heap.objs.size + 1) s.heap.objs.size 0 .none := by
    have := Heap.get?_push_size (s.heap.push o) (o := { cls := .type "enumerate", data := .fields #[.none, .bool false, .ref s.heap.objs.size, rawInt 0, .none, .none] }) rfl
    rw [hz] at this; exact this
  refine ⟨⟨_, he, rfl⟩, h _ he (Heap.get?_push_of_some _ (Heap.get?_push_size _ B.free)) (by rw [Heap.size_push, hz]) fun b o x => Heap.get?_push_of_some _ (Heap.get?_push_of_some _ x)⟩
end PySem
namespace DL
open PySem PySem.Spec PyProof.Rows L2
def IteT (K : W.Frag) (a : Addr) : It :=
  ⟨fun i H => ∃ (xs : List V) (x : V), SqT K H a xs ∧ xs[i]? = some x, fun i H v H' => ∃ T x, v = .ref T ∧ H T = none ∧ H' = upd H T (.tup [.int (i : Nat), x]) ∧ ∀ xs, SqT K H a xs → xs[i]? = some x, fun i H => ∃ xs : List V, SqT K H a xs ∧ xs.length ≤ i⟩
theorem turn_enumT {P : Program} {w : World} {K : W.Frag} {elts : List Expr} {kk : Nat} {tpos : Pos} (a e it : Addr) (nea : e ≠ a) (nia : a ≠ it) :
    Turn P w K (.Tuple elts kk tpos) (IteT K a) [e, it] e (fun i h => (∃ old, IsEnum h e it ((i : Nat) : Int) old) ∧ h.IsTupleIter it a i ∧ e ≠ it) where
  mem := by simp
  obj := fun i h st b hb => by
    obtain ⟨⟨old, he⟩, ⟨o, ho, hc, hd⟩, _⟩ := st
    have e' : b = e ∨ b = it := by simpa using hb
    rcases e' with z | z
    · rw [z]; exact ⟨_, he, fun v q => nomatch q⟩
    · rw [z]; exact ⟨o, ho, fun v q => by rw [hd] at q; cases q⟩
  keep := fun i h h' st k => let ⟨⟨old, he⟩, hi, hne⟩ := st; ⟨⟨old, k e (by simp) _ he⟩, hi.at fun o q => k it (by simp) o q, hne⟩
  item := by
    intro X hP hw hK hc i pins s σ H E I hf st hg
    subst hP hw hK
    obtain ⟨⟨old, he⟩, hit, hne⟩ := st
    obtain ⟨xs, x, hq, hx⟩ := hg
    obtain ⟨its, rv, p, hz⟩ := I.tuple hq
    obtain ⟨u, hu, ru⟩ := rv.get hx
    have hel : e < s.heap.objs.size := Heap.lt_size he
    have hil : it < s.heap.objs.size := by obtain ⟨_, q, _⟩ := hit; exact Heap.lt_size q
    have D := Draws.tuple (prog := X.prog) (w := X.w) (A := X.A.in1) (show X.A.in1.handled = none from I.ok.hd hc) it a nia its.toArray
    have hlt : i < its.toArray.size := by
      have := (List.getElem?_eq_some_iff.mp hu).1
      simpa using this
    refine wpAny_pyNext_enum_itemD D he ⟨hit, p⟩ hlt hne (by simp; exact ⟨hne, nea⟩) fun y h' tk hy ho hit' hT hsz hk => ?_
    have ey : y = u := by
      have : its.toArray[i]? = some u := by simpa using hu
      exact Option.some.inj (hy.symm.trans this)
    subst ey
    refine ⟨_, rfl, wpAny_letOwnedTupleGo_enum (s := { s with heap := h', toks := tk + 1 }) ho fun h'' he' sb => ?_⟩
    have hT2 : h''.get? s.heap.objs.size = some { cls := .type "tuple", data := .seq #[.int i tk, y] } := (sb.2 _ (Nat.ne_of_gt hel)).trans hT
    have new : ObjOk X.prog X.w (upd H s.heap.objs.size (.tup [.int (i : Nat), x])) h'' s.heap.objs.size (.tup [.int (i : Nat), x]) :=
      ⟨by show 2 ≤ sizeLine; decide, [.int i tk, y], .cons ⟨_, rfl⟩ (.cons ru .nil), ⟨_, hT2, rfl, _, rfl⟩⟩
    have I1 : Inv X pins σ (upd H s.heap.objs.size (.tup [.int (i : Nat), x])) { s with heap := h'', toks := tk + 1 } :=
      I.turnedNew (ch := [e, it]) (fun b ob hb q => (sb.2 b (fun z => hb (by simp [z]))).trans (hk b ob (fun z => hb (by simp [z])) (fun z => hb (by simp [z])) q)) hf (Nat.le_refl _) new
    refine ⟨.ref s.heap.objs.size, _, I1, rfl, ⟨_, x, rfl, I.hok.fresh (Nat.le_refl _), rfl, fun ys hy => by rw [I.tuple_inj hy hq]; exact hx⟩, ⟨⟨y, ?_⟩, hit'.1.at fun o q => (sb.2 it (Ne.symm hne)).trans q, hne⟩, fun b hb => ?_⟩
    · have e1 : ((i + 1 : Nat) : Int) = (i : Int) + 1 := by omega
      rw [e1]; exact he'
    · have hb' : b < s.heap.objs.size := by
        have e' : b = e ∨ b = it := by simpa using hb
        rcases e' with z | z
        · rw [z]; exact hel
        · rw [z]; exact hil
      rw [upd_ne (Nat.ne_of_lt hb')]
      exact (hf b hb).1
  done := by
    intro X hP hw hK hc i pins s σ H E I hf st hg
    subst hP hw hK
    obtain ⟨⟨old, he⟩, hit, hne⟩ := st
    obtain ⟨xs, hq, hx⟩ := hg
    obtain ⟨its, rv, p, hz⟩ := I.tuple hq
    obtain ⟨f0, f1, f2, f3, f4, f5⟩ := hf it (by simp)
    have hl := rv.length
    have hT : s.TypeIs (.ref e) "enumerate" := ⟨_, he, rfl⟩
    unfold pyNext
    refine wpAny_bind (wpAny_attempt (wpAny_callSpecial?_slot (name := Str.ofString "__next__") hT F.slot_enumerate_next
      (wpAny_call_entry F.slot_enumerate_next hT F.entry_enumerate_next ?_ (F.args_enumerate_next_1 _))))
    show wpAny _ _ (field (.ref e) 2 >>= _) _ _ _
    refine wpAny_bind (wpAny_field he rfl (x := .ref it) rfl ?_)
    refine wpAny_bind (wpAny_nextOf_tuple_end (show X.A.in1.handled = none from I.ok.hd hc) hit p (by simp; omega) fun h' x he' hx' => ?_)
    obtain ⟨o, ho, hc'⟩ := hx'
    refine wpAny_bind (wpAny_isInstance (T := "StopIteration") (b := true) ⟨o, ho, hc'⟩ isSubtype_stop ?_)
    exact wpAny_pure ⟨rfl, I.turned (t' := s.toks) (fun b o hb q => he' b o hb q) f0 f1 f3 f4 f5⟩
  self := fun A i s Q E st h => let ⟨⟨_, he⟩, _⟩ := st; wpAny_pyIter_enum he h
/-- enumerate(x), x a list or a tuple -/
def iEnumA (K : W.Frag) (ta : TA) : TI := fun σ H R => ta σ H fun vs H1 => ∃ a xs, vs = [.ref a] ∧ ((SqL K H1 a xs ∧ R (Ite K a) H1) ∨ (SqT K H1 a xs ∧ R (IteT K a) H1))
theorem pi_enumA {X : Cx} {e : Expr} {ta : TA} {p pos tpos : Pos} {elts : List Expr} {kk : Nat} (hg : Gl X "enumerate") (hm : X.mg "enumerate" = none) (ha : PA X [e] ta) (hs : starEach [e] X.env = [(false, eval e X.env)] := by rfl) :
    PI X (.Tuple elts kk tpos) (.Call (.Name "enumerate" p) [e] [] pos) (iEnumA X.K ta) := by
  refine ⟨fun pins s σ H R I h => ?_⟩
  refine Call_ (ld_blt I hg hm boot_enumerate (PyProof.Rows.callWith_type1 (thn (ha.run pos pins s σ H _ I h) fun us s1 ⟨vs, H1, I1, r1, q1⟩ => ?_) hs rfl))
  obtain ⟨a, xs, ex, q1⟩ := q1
  subst ex
  cases r1 with
  | cons r rr =>
    cases rr
    cases r
    have two : ∀ b, b ∈ [s1.heap.objs.size + 1, s1.heap.objs.size] → FpOk X pins H1 b := fun b hb => by
      have e' : b = s1.heap.objs.size + 1 ∨ b = s1.heap.objs.size := by simpa using hb
      have hle : s1.heap.objs.size ≤ b := by
        rcases e' with z | z
        · rw [z]; exact Nat.le_add_right _ _
        · rw [z]; exact Nat.le_refl _
      exact I1.fpOk hle (I1.hok.fresh hle)
    rcases q1 with ⟨hq, q⟩ | ⟨hq, q⟩
    · obtain ⟨its, rv, p', hz⟩ := I1.list hq
      refine call_enumerate_list p'.isList fun h' he hit hsz hk => wpAny_pyIter_enum he ?_
      have I2 : Inv X pins σ H1 { s1 with heap := h' } := I1.kept (t' := s1.toks) hk
      exact ⟨s1.heap.objs.size + 1, [s1.heap.objs.size + 1, s1.heap.objs.size], _, _, H1, rfl, I2, turn_enum a (s1.heap.objs.size + 1) s1.heap.objs.size, ⟨⟨.none, he⟩, hit, Nat.succ_ne_self _⟩, two, q⟩
    · obtain ⟨its, rv, p', hz⟩ := I1.tuple hq
      obtain ⟨o, ho, _⟩ := id p'
      have hl : a < s1.heap.objs.size := Heap.lt_size ho
      refine dl_enum_begins (begins_tuple a its.toArray) p' fun h' he hit hsz hk => wpAny_pyIter_enum he ?_
      have I2 : Inv X pins σ H1 { s1 with heap := h' } := I1.kept (t' := s1.toks) hk
      exact ⟨s1.heap.objs.size + 1, [s1.heap.objs.size + 1, s1.heap.objs.size], _, _, H1, rfl, I2, turn_enumT a (s1.heap.objs.size + 1) s1.heap.objs.size (Nat.ne_of_gt (Nat.lt_succ_of_lt hl)) (Nat.ne_of_lt hl), ⟨⟨.none, he⟩, ⟨_, hit, rfl, rfl⟩, Nat.succ_ne_self _⟩, two, q⟩
end DL

/-! sorted(..) of a list or a tuple of data -/
namespace DL
open PySem PySem.Spec PyProof.Rows L2
section
variable {prog : Program} {w : World} {A : Around} {E : Value → Shared → Prop} {s : Shared}
theorem collect_tup {l : Addr} {vs : List Value} {Q : List Value → Shared → Prop} (hl : s.heap.IsTuple l vs.toArray)
    (h : Q vs { s with heap := (s.heap.push (seqObj "list" #[] 0)).update s.heap.objs.size (Obj.mapSeq (· ++ vs.toArray)) }) (hsz : vs.length ≤ sizeLine) :
    wpAny (model prog w) A (collect (.ref l)) Q E s := by
  obtain ⟨o, ho, hc, n, hd⟩ := id hl
  unfold collect
  refine wpAny_bind (wpAny_runValue (codeAny_builtin entry_proto_collect' ?_))
  show wpAny _ _ (do again (.builtin "list.__iadd__" ⟨[← newList [], .ref l], []⟩)) _ _ s
  refine wpAny_bind (wpAny_newList (wpAny_pure ⟨Code.quiet_builtin _ (by decide +kernel), codeAny_builtin entry_list_iadd' ?_⟩))
  show wpAny _ _ (Builtin.List.listExtendWith (.ref s.heap.objs.size) (.ref l) (.ref s.heap.objs.size)) _ _ { s with heap := s.heap.push (seqObj "list" #[] 0) }
  unfold Builtin.List.listExtendWith
  have ho' : (s.heap.push (seqObj "list" #[] 0)).get? l = some o := Heap.get?_push_of_some _ ho
  refine wpAny_bind (wpAny_typeOf (T := "tuple") ⟨o, ho', hc⟩ ?_)
  have ht : (Value.type "tuple" == Value.type "tuple") = true := by rfl
  rw [if_pos (by rw [ht]; simp)]
  refine wpAny_bind (listItems_at ho' hd ?_)
  refine wpAny_bind (listItems_at (xs := #[]) (n := 0) (Heap.get?_push_size _ rfl) rfl ?_)
  rw [if_neg (by simp)]
  refine wpAny_bind (listUpdate_at (xs := #[]) (n := 0) (Heap.get?_push_size _ rfl) rfl ?_ (Nat.zero_le _) (by show (#[] ++ vs.toArray).size ≤ sizeLine + 1; simp only [Array.size_append, List.size_toArray, List.length_nil]; omega))
  refine wpAny_pure ?_
  show wpAny (model prog w) A (do
      let o ← load s.heap.objs.size
      match o.data with
      | .seq xs _ => pure xs.toList
      | _ => unsupported "internal:collect") Q E { s with heap := (s.heap.push (seqObj "list" #[] 0)).update s.heap.objs.size (Obj.mapSeq (· ++ vs.toArray)) }
  refine wpAny_bind (wpAny_load (get?_update_seq (Heap.get?_push_size _ rfl) _) ?_)
  show wpAny _ _ (pure ((#[] : Array Value) ++ vs.toArray).toList) Q E _
  rw [show ((#[] : Array Value) ++ vs.toArray).toList = vs by simp]
  exact wpAny_pure h
/-- what collecting gives -/
def Col (prog : Program) (w : World) (s : Shared) (l : Addr) (vs : List Value) : Prop := ∀ (A : Around) (E : Value → Shared → Prop) (Q : List Value → Shared → Prop),
  Q vs { s with heap := (s.heap.push (seqObj "list" #[] 0)).update s.heap.objs.size (Obj.mapSeq (· ++ vs.toArray)) } → wpAny (model prog w) A (collect (.ref l)) Q E s
open PySem.W in
theorem sorted_of_sortC {l : Addr} {vs : List Value} {kw : List (Str × Value)} {Q : Value → Shared → Prop} (hC : Col prog w s l vs) (hL : vs.length ≤ sizeLine) (ha1 : argsOk "sorted" ⟨[.ref l], kw⟩) (ha2 : ∀ x, argsOk "list.sort" ⟨[.ref x], kw⟩)
    (body : ∀ E' : Value → Shared → Prop, wpAny (model prog w) A.in1.in1 (Builtin.«list.sort» ⟨[.ref (s.heap.objs.size + 1)], kw⟩) (fun f s' => f = .done (.ret .none) ∧ Q (.ref (s.heap.objs.size + 1)) s') E' { s with heap := copyHeap s.heap vs }) :
    wpAny (model prog w) A (call (.builtin "sorted") [.ref l] kw) Q E s := by
  refine call_function_entry_kw kind_sorted plain_sorted entry_sorted ha1 ?_
  unfold Builtin.«sorted»
  refine wpAny_bind (m := checkCount "sorted" 1 1 _) (wpAny_pure ?_)
  refine wpAny_bind (hC _ _ _ ?_)
  refine wpAny_bind (wpAny_newList ?_ hL)
  have hsz : ((s.heap.push (seqObj "list" #[] 0)).update s.heap.objs.size (Obj.mapSeq (· ++ vs.toArray))).objs.size = s.heap.objs.size + 1 := by
    rw [Heap.size_update, size_push']
  show wpAny _ _ _ _ _ { s with heap := copyHeap s.heap vs }
  rw [hsz]
  refine wpAny_bind (wpAny_holding (wpAny_call_entry_kw slot_list_sort ⟨_, copyHeap_at s.heap vs, rfl⟩ entry_list_sort ?body (ha2 _)))
  case body =>
    show wpAny (model prog w) A.in1.in1 (Builtin.«list.sort» ⟨[.ref (s.heap.objs.size + 1)], kw⟩) _ _ _
    refine wpAny_mono (body _) (fun f s' hf => ?_) fun _ _ e => e
    obtain ⟨rfl, hq⟩ := hf
    exact ⟨_, rfl, wpAny_pure ⟨_, rfl, hq⟩⟩
open PySem.W in
theorem sorted_dataC {β : Type} {R : Value → β → Prop} {enc : β → PyData} {vs : List Value} {bs : List β} {l : Addr} {Q : Value → Shared → Prop} (hC : Col prog w s l vs) (e : EachIs R vs bs) (er : EachIs (fun v b => ∃ as, Reads s.heap v (enc b) as) vs bs) (hal : AllAlike (bs.map enc)) (hk : Sortable (bs.map enc)) (hL : bs.length ≤ sizeLine)
    (hu : ∀ b, b ∈ bs → A.units + 2 + (enc b).depth < cLine) (h : ∀ out, out.length = bs.length → EachIs R out (bs.mergeSort (dataLe false enc)) → Q (.ref (s.heap.objs.size + 1)) { s with heap := sortedAll s.heap vs (List.toArray out) }) :
    wpAny (model prog w) A (call (.builtin "sorted") [.ref l]) Q E s := by
  have er' : EachIs (fun v b => ∃ as, Reads (sortingHeap (copyHeap s.heap vs) (s.heap.objs.size + 1) vs) v (enc b) as) vs bs := er.mono fun _ _ ⟨as, r⟩ => ⟨as, PyProof.Rows.Reads.keeps (fun _ _ => sorting_copy_old) r⟩
  refine sorted_of_sortC hC (by rw [e.length]; exact hL) (args_sorted1 _) (fun _ => args_list_sort _) fun _ => list_sort_vals (s := { s with heap := copyHeap s.heap vs }) (copyHeap_at s.heap vs) (κ := dataKind (sortingHeap (copyHeap s.heap vs) (s.heap.objs.size + 1) vs) (bs.map enc)) ?_ (by rw [e.length]; exact hL) ⟨rfl, ?_⟩
  · exact SortsAt.data (s := { s with heap := sortingHeap (copyHeap s.heap vs) (s.heap.objs.size + 1) vs }) (each_map (R := fun v d => ∃ as, Reads (sortingHeap (copyHeap s.heap vs) (s.heap.objs.size + 1) vs) v d as) enc er') hal hk (bound_map hu)
  · exact h _ (by rw [sortVals_length false rfl]; exact e.length) (sortVals_data false e er' hal)
end

/-! #### data as the library's -/
mutual
def toPy : Dv → PyData
  | .non => .none
  | .bl b => .bool b
  | .int i => .int i
  | .str s => .str s
  | .tup ds => .tuple (toPys ds)
  | .lst ds => .list (toPys ds)
  | .dct _ => .dict []
  | .obj _ => .dict []
  | .scr _ => .dict []
def toPys : List Dv → List PyData
  | [] => []
  | d :: ds => toPy d :: toPys ds
end
theorem toPys_map : ∀ ds : List Dv, toPys ds = ds.map toPy
  | [] => rfl
  | d :: ds => by rw [toPys, toPys_map ds]; rfl
section
variable {K : W.Frag} {F : Hp}
mutual
theorem Rp.dp : ∀ {v : V} {d : Dv}, Rp K F v d → (toPy d).canLay0 = true → Dp K F v (toPy d)
  | _, _, .non, _ => .non
  | _, _, .bl b, _ => .bl b
  | _, _, .int b, _ => .int b
  | _, _, .str b, _ => .str b
  | _, _, .tup h r, c => .tup h (RpAll.dp r (by simpa [toPy, PyData.canLay0] using c))
  | _, _, .lst h r, c => .lst (SqL.of h) (RpAll.dp r (by simpa [toPy, PyData.canLay0] using c))
  | _, _, .dct _ _, c => by simp [toPy, PyData.canLay0] at c
  | _, _, .dctT _ _, c => by simp [toPy, PyData.canLay0] at c
  | _, _, .obj _, c => by simp [toPy, PyData.canLay0] at c
  | _, _, .scr _, c => by simp [toPy, PyData.canLay0] at c
theorem RpAll.dp : ∀ {v : List V} {d : List Dv}, RpAll K F v d → PyData.canLayAll0 (toPys d) = true → DpAll K F v (toPys d)
  | _, _, .nil, _ => .nil
  | v :: vs, d :: ds, .cons h r, c => by
    have c' : (toPy d).canLay0 = true ∧ PyData.canLayAll0 (toPys ds) = true := by simpa [toPys, PyData.canLayAll0] using c
    exact .cons (Rp.dp h c'.1) (RpAll.dp r c'.2)
end
end
theorem dp_mono {K : W.Frag} {F F' : Hp} (e : Same F F') : ∀ {v : V} {d : PyData}, Dp K F v d → Dp K F' v d := by
  intro v d h
  refine Dp.rec (motive_1 := fun v d _ => Dp K F' v d) (motive_2 := fun vs ds _ => DpAll K F' vs ds) .non (fun b => .bl b) (fun i => .int i) (fun x => .str x) (fun h _ r => .lst (e.seq h) r) (fun h _ r => .tup (sameT e h) r) .nil (fun _ _ a b => .cons a b) h

section
variable {X : Cx} {pins : List (Addr × Obj)} {σ : L2.St} {H : Hp} {s : Shared}
/-- sorted(x): x a list or a tuple; the pairs tell the items and what they stand for -/
def rSortedD (K : W.Frag) : List V → Hp → VK → Prop := fun vs H Q => ∃ (a : Addr) (zs : List (V × Dv)), vs = [V.ref a] ∧ (SqL K H a (zs.map (·.1)) ∨ SqT K H a (zs.map (·.1))) ∧ (∀ z ∈ zs, Dp K H z.1 (toPy z.2)) ∧
  W.AllAlike (zs.map fun z => toPy z.2) ∧ W.Sortable (zs.map fun z => toPy z.2) ∧ (∀ z ∈ zs, (toPy z.2).depth ≤ 60) ∧
  ∀ p, H p = none → Q (.ref p) (upd H p (.lst ((zs.mergeSort (W.dataLe false fun z => toPy z.2)).map (·.1))))
theorem each_vals {R : Value → V × Dv → Prop} : ∀ {us : List Value} {zs : List (V × Dv)}, Vals (zs.map (·.1)) us → (∀ u z, z ∈ zs → RelV z.1 u → R u z) → W.EachIs R us zs
  | _, [], .nil, _ => .nil
  | _, z :: zs, .cons r t, h => .cons (h _ z List.mem_cons_self r) (each_vals t fun u y hy => h u y (List.mem_cons_of_mem _ hy))
theorem vals_each : ∀ {us : List Value} {zs : List (V × Dv)}, W.EachIs (fun u z => RelV z.1 u) us zs → Vals (zs.map (·.1)) us
  | _, _, .nil => .nil
  | _, _, .cons r t => .cons r (vals_each t)
theorem cr_sortedD (hu : X.A.units + 64 < cLine) : CallR X (.builtin "sorted") (rSortedD X.K) := by
  intro pins s σ H vs us Q I r h
  obtain ⟨a, zs, rfl, hs, hd, hal, hk, hdep, q⟩ := h
  rw [Vals.ref1 r]
  have both : ∃ its : List Value, Vals (zs.map (·.1)) its ∧ Col X.prog X.w s a its ∧ (zs.map (·.1)).length ≤ sizeLine := by
    rcases hs with hs | hs
    · obtain ⟨its, rv, hl, hz⟩ := I.list hs
      exact ⟨its, rv, fun A E Q h => collect_list hl.isList h (by rw [← rv.length]; exact hz), hz⟩
    · obtain ⟨its, rv, hl, hz⟩ := I.tuple hs
      exact ⟨its, rv, fun A E Q h => collect_tup hl h (by rw [← rv.length]; exact hz), hz⟩
  obtain ⟨its, rv, hC, hz⟩ := both
  rw [List.length_map] at hz
  refine sorted_dataC (R := fun u z => RelV z.1 u) (enc := fun z => toPy z.2) (bs := zs) hC (each_vals rv fun u z _ r => r) (each_vals rv fun u z hm r => Dp.reads I _ _ _ (hd z hm) r) hal hk hz (fun z hm => ?_) fun out ho eo => ?_
  · have := hdep z hm
    omega
  · obtain ⟨ep, he'⟩ := PyProof.Rows.sortedAll_at s.heap its out.toArray
    have hv := vals_each eo
    have hlen : ((zs.mergeSort (W.dataLe false fun z => toPy z.2)).map (·.1)).length ≤ sizeLine := by
      rw [List.length_map, List.length_mergeSort]; exact hz
    exact ⟨.ref _, upd H (s.heap.objs.size + 1) (.lst _), I.laid (t' := s.toks) (fun _ _ => PyProof.Rows.sortedAll_old) (Nat.le_succ _) ⟨hlen, out, ep, hv, he'⟩, rfl, q _ (I.hok.fresh (Nat.le_succ _))⟩
end
/-- sorted over data -/
def leD (a b : Dv) : Bool := W.dataLe false toPy a b
open Classical in
noncomputable def dSorted : List Dv → Option (List Dv)
  | [.lst ds] | [.tup ds] => if W.AllAlike (ds.map toPy) ∧ W.Sortable (ds.map toPy) ∧ ∀ d ∈ ds, (toPy d).canLay0 = true ∧ (toPy d).depth ≤ 60 then some (ds.mergeSort leD) else none
  | _ => none
theorem rpAll_mem {K : W.Frag} {F : Hp} : ∀ {vs : List V} {ds : List Dv}, RpAll K F vs ds → ∀ z ∈ vs.zip ds, Rp K F z.1 z.2
  | _, _, .nil, z, h => by cases h
  | _, _, .cons r t, z, h => by
    rw [List.zip_cons_cons] at h
    rcases List.mem_cons.mp h with rfl | h
    · exact r
    · exact rpAll_mem t z h
theorem rpAll_of {K : W.Frag} {F : Hp} : ∀ {zs : List (V × Dv)}, (∀ z ∈ zs, Rp K F z.1 z.2) → RpAll K F (zs.map (·.1)) (zs.map (·.2))
  | [], _ => .nil
  | z :: zs, h => .cons (h z List.mem_cons_self) (rpAll_of fun y hy => h y (List.mem_cons_of_mem _ hy))
theorem sorted_ok {K : W.Frag} {F H : Hp} {a : Addr} {xs : List V} {ds ds' : List Dv} {Q : VK} (hs : SqL K H a xs ∨ SqT K H a xs) (ra : RpAll K F xs ds) (sub : Same F H)
    (c : W.AllAlike (ds.map toPy) ∧ W.Sortable (ds.map toPy) ∧ ∀ d ∈ ds, (toPy d).canLay0 = true ∧ (toPy d).depth ≤ 60) (e : ds.mergeSort leD = ds')
    (h : ∀ p vs F1 H1, Gr F H F1 H1 → H1 p = none → RpAll K F1 vs ds' → Q (.ref p) (upd H1 p (.lst vs))) : rSortedD K [.ref a] H Q := by
  obtain ⟨c1, c2, c3⟩ := c
  have l1 : (xs.zip ds).map (·.1) = xs := List.map_fst_zip (Nat.le_of_eq ra.length)
  have l2 : (xs.zip ds).map (·.2) = ds := List.map_snd_zip (Nat.le_of_eq ra.length.symm)
  have l3 : (xs.zip ds).map (fun z => toPy z.2) = ds.map toPy := by
    rw [show (fun z : V × Dv => toPy z.2) = toPy ∘ (fun z : V × Dv => z.2) from rfl, ← List.map_map, l2]
  have md : ∀ z ∈ xs.zip ds, z.2 ∈ ds := fun z hz => by
    have := List.mem_map_of_mem (f := fun z : V × Dv => z.2) hz
    rwa [l2] at this
  refine ⟨a, xs.zip ds, rfl, by rw [l1]; exact hs, fun z hz => dp_mono sub (Rp.dp (rpAll_mem ra z hz) (c3 z.2 (md z hz)).1), by rw [l3]; exact c1, by rw [l3]; exact c2, fun z hz => (c3 z.2 (md z hz)).2, fun p np => ?_⟩
  refine h p _ F H (Gr.refl sub) np ?_
  have e2 : ((xs.zip ds).mergeSort (W.dataLe false fun z => toPy z.2)).map (·.2) = ds' := by
    have q := List.map_mergeSort (r := W.dataLe false fun z : V × Dv => toPy z.2) (s := leD) (f := fun z : V × Dv => z.2) (l := xs.zip ds) (fun _ _ _ _ => rfl)
    rw [← e, q, l2]
  rw [← e2]
  exact rpAll_of fun z hz => rpAll_mem ra z ((List.mergeSort_perm _ _).mem_iff.mp hz)
theorem o_sorted {K : W.Frag} : CallN K (rSortedD K) dSorted := fun F H xs ds zs Q e sub r h => by
  cases r with
  | nil => cases e
  | @cons v vs d ds r1 r2 =>
    cases r2 with
    | cons _ _ => cases d <;> cases e
    | nil =>
      cases d with
      | lst items =>
        unfold dSorted at e
        dsimp only at e
        split at e
        · rename_i c
          cases r1 with
          | lst hs ra => exact sorted_ok (.inl (sub.seq (SqL.of hs))) ra sub c (Option.some.inj e) h
        · cases e
      | tup items =>
        unfold dSorted at e
        dsimp only at e
        split at e
        · rename_i c
          cases r1 with
          | tup hs ra => exact sorted_ok (.inr (sameT sub hs)) ra sub c (Option.some.inj e) h
        · cases e
      | _ => cases e
end DL

namespace DL
open PySem PySem.Spec PyProof.Rows L2

/-! ### unions of rules -/
section
variable {X : Cx}
theorem OpR.or {f : Value → Value → PySem.Sem Value} {r r' : R2} (h : OpR X f r) (h' : OpR X f r') : OpR X f (fun x y H Q => r x y H Q ∨ r' x y H Q) := fun pins s σ H x y v u Q I rx ry q =>
  q.elim (h pins s σ H x y v u Q I rx ry) (h' pins s σ H x y v u Q I rx ry)
theorem CallR.or {f : Value} {r r' : List V → Hp → VK → Prop} (h : CallR X f r) (h' : CallR X f r') : CallR X f (fun xs H Q => r xs H Q ∨ r' xs H Q) := fun pins s σ H vs us Q I rv q =>
  q.elim (h pins s σ H vs us Q I rv) (h' pins s σ H vs us Q I rv)
theorem pe_or2 {e : Expr} {t t' : TE} (h : PE X e t) (h' : PE X e t') : PE X e (fun σ H Q => t σ H Q ∨ t' σ H Q) := ⟨fun pins s σ H Q I q => q.elim (h.run pins s σ H Q I) (h'.run pins s σ H Q I)⟩
theorem pi_or2 {tg e : Expr} {t t' : TI} (h : PI X tg e t) (h' : PI X tg e t') : PI X tg e (fun σ H R => t σ H R ∨ t' σ H R) := ⟨fun pins s σ H Q I q => q.elim (h.run pins s σ H Q I) (h'.run pins s σ H Q I)⟩
end

/-! ### operators -/
def rAddA (K : W.Frag) : R2 := fun x y H Q => (rI0 fun i j => .int (i + j)) x y H Q ∨ ((fun x y H Q => ∃ i j, x = .str i ∧ y = .str j ∧ i.length + j.length ≤ sizeLine ∧ Q (.str (i ++ j)) H) : R2) x y H Q ∨ rCatA K x y H Q
theorem op_addA {X : Cx} {K0 : W.Frag} (hK0 : X.K = K0 := by rfl) : OpR X (binaryOp .Add) (rAddA K0) := by subst hK0; exact OpR.or op_add (OpR.or op_add_str op_catA)
def dAdd : Dv → Dv → Option Dv
  | .int a, .int b => some (.int (a + b))
  | .str a, .str b => if a.length + b.length ≤ big then some (.str (a ++ b)) else none
  | .tup a, .tup b => if a.length + b.length ≤ big then some (.tup (a ++ b)) else none
  | _, _ => none
theorem o_add {K : W.Frag} : OpS K (rAddA K) dAdd := fun F H x y d e z Q ez sub rx ry h => by
  cases d with
  | int i =>
    cases e with
    | int j => cases ez; cases rx; cases ry; exact .inl ⟨_, _, rfl, rfl, h _ F H (Gr.refl sub) (.int _)⟩
    | _ => cases ez
  | str i =>
    cases e with
    | str j =>
      have ez : (if i.length + j.length ≤ big then some (Dv.str (i ++ j)) else none) = some z := ez
      split at ez
      · rename_i hl
        cases ez; cases rx; cases ry
        exact .inr (.inl ⟨_, _, rfl, rfl, by rw [sizeLine_big]; exact hl, h _ F H (Gr.refl sub) (.str _)⟩)
      · cases ez
    | _ => cases ez
  | tup xs =>
    cases e with
    | tup ys =>
      have ez : (if xs.length + ys.length ≤ big then some (Dv.tup (xs ++ ys)) else none) = some z := ez
      split at ez
      · rename_i hl
        cases ez
        cases rx with
        | @tup a us _ ha ra =>
          cases ry with
          | @tup b ws _ hb rb =>
            refine .inr (.inr ⟨_, _, us, ws, rfl, rfl, sameT sub ha, sameT sub hb, by rw [sizeLine_big, ra.length, rb.length]; exact hl, fun e0 => ?_, fun _ e1 => ?_, fun _ _ p np => ?_⟩)
            · subst e0; cases ra; exact h _ F H (Gr.refl sub) (.tup hb rb)
            · subst e1; cases rb; rw [List.append_nil] at h; exact h _ F H (Gr.refl sub) (.tup ha ra)
            · have g := Gr.new sub (.tup (us ++ ws)) np
              exact h _ _ _ g (.tup (.of upd_same) ((ra.mono g.ff).append (rb.mono g.ff)))
      · cases ez
    | _ => cases ez
  | _ => cases e <;> cases ez
def dI (g : Int → Int → Dv) : Dv → Dv → Option Dv
  | .int a, .int b => some (g a b)
  | _, _ => none
theorem o_i0 {K : W.Frag} {g : Int → Int → V} {k : Int → Int → Dv} (hk : ∀ F i j, Rp K F (g i j) (k i j)) : OpS K (rI0 g) (dI k) := fun F H x y d e z Q ez sub rx ry h => by
  cases d with
  | int i =>
    cases e with
    | int j => cases ez; cases rx; cases ry; exact ⟨_, _, rfl, rfl, h _ F H (Gr.refl sub) (hk _ _ _)⟩
    | _ => cases ez
  | _ => cases e <;> cases ez
theorem o_sub {K : W.Frag} : OpS K (rI0 fun i j => .int (i - j)) (dI fun i j => .int (i - j)) := o_i0 fun _ _ _ => .int _
theorem o_lt {K : W.Frag} : OpS K (rI0 fun i j => .bl (decide (i < j))) (dI fun i j => .bl (decide (i < j))) := o_i0 fun _ _ _ => .bl _
theorem o_le {K : W.Frag} : OpS K (rI0 fun i j => .bl (decide (i ≤ j))) (dI fun i j => .bl (decide (i ≤ j))) := o_i0 fun _ _ _ => .bl _
theorem o_gt {K : W.Frag} : OpS K (rI0 fun i j => .bl (decide (j < i))) (dI fun i j => .bl (decide (j < i))) := o_i0 fun _ _ _ => .bl _
theorem o_ge {K : W.Frag} : OpS K (rI0 fun i j => .bl (decide (j ≤ i))) (dI fun i j => .bl (decide (j ≤ i))) := o_i0 fun _ _ _ => .bl _
open Classical in
noncomputable def dIC (C : Int → Int → Prop) (g : Int → Int → Dv) : Dv → Dv → Option Dv
  | .int a, .int b => if C a b then some (g a b) else none
  | _, _ => none
theorem o_ic {K : W.Frag} {C : Int → Int → Prop} {g : Int → Int → V} {k : Int → Int → Dv} (hk : ∀ F i j, Rp K F (g i j) (k i j)) : OpS K (rI C g) (dIC C k) := fun F H x y d e z Q ez sub rx ry h => by
  cases d with
  | int i =>
    cases e with
    | int j =>
      unfold dIC at ez
      dsimp only at ez
      split at ez
      · rename_i hc
        cases ez; cases rx; cases ry; exact ⟨_, _, rfl, rfl, hc, h _ F H (Gr.refl sub) (hk _ _ _)⟩
      · cases ez
    | _ => cases ez
  | _ => cases e <;> cases ez
theorem o_mul {K : W.Frag} : OpS K (rI CMulW fun i j => .int (i * j)) (dIC CMulW fun i j => .int (i * j)) := o_ic fun _ _ _ => .int _
theorem o_fdiv {K : W.Frag} : OpS K (rI CDivW fun i j => .int (i / j)) (dIC CDivW fun i j => .int (i / j)) := o_ic fun _ _ _ => .int _
def CMod (_ j : Int) : Prop := 0 < j
theorem o_mod {K : W.Frag} : OpS K (rI (fun _ j => 0 < j) fun i j => .int (i % j)) (dIC CMod fun i j => .int (i % j)) := o_ic fun _ _ _ => .int _
theorem o_pow {K : W.Frag} : OpS K (rI CPow fun i j => .int (i ^ j.toNat)) (dIC CPow fun i j => .int (i ^ j.toNat)) := o_ic fun _ _ _ => .int _
theorem u_neg {K : W.Frag} : UnS K (rU fun i => .int (-i)) (fun d => match d with | .int i => some (.int (-i)) | _ => none) := fun F H x d z Q ez sub rx h => by
  cases d with
  | int i => cases ez; cases rx; exact ⟨_, rfl, h _ F H (Gr.refl sub) (.int _)⟩
  | _ => cases ez
/-! == and != of data -/
def dEq (d e : Dv) : Option Dv := if SeqAt.shaped (toPy d) = true ∧ SeqAt.shaped (toPy e) = true then some (.bl (PyData.eqv (toPy d) (toPy e))) else none
def dNe (d e : Dv) : Option Dv := if SeqAt.shaped (toPy d) = true ∧ SeqAt.shaped (toPy e) = true then some (.bl (!PyData.eqv (toPy d) (toPy e))) else none
theorem o_eq {K : W.Frag} : OpS K (rEqD K) dEq := fun F H x y d e z Q ez sub rx ry h => by
  unfold dEq at ez
  split at ez
  · rename_i hc
    cases ez
    exact ⟨toPy d, toPy e, dp_mono sub (rx.dp (SeqAt.canLay_of_shaped hc.1)), dp_mono sub (ry.dp (SeqAt.canLay_of_shaped hc.2)), hc.1, hc.2, h _ F H (Gr.refl sub) (.bl _)⟩
  · cases ez
theorem o_ne {K : W.Frag} : OpS K (rNeD K) dNe := fun F H x y d e z Q ez sub rx ry h => by
  unfold dNe at ez
  split at ez
  · rename_i hc
    cases ez
    exact ⟨toPy d, toPy e, dp_mono sub (rx.dp (SeqAt.canLay_of_shaped hc.1)), dp_mono sub (ry.dp (SeqAt.canLay_of_shaped hc.2)), hc.1, hc.2, h _ F H (Gr.refl sub) (.bl _)⟩
  · cases ez
/-! is None -/
def isNon : Dv → Option Bool
  | .non => some true
  | .obj _ => none
  | .scr _ => none
  | _ => some false
def dIsN (neg : Bool) : Dv → Dv → Option Dv
  | d, .non => (isNon d).map fun b => .bl (if neg then !b else b)
  | _, _ => none
theorem isNon_ok {K : W.Frag} {F : Hp} {x : V} {d : Dv} {b : Bool} (r : Rp K F x d) (h : isNon d = some b) : decide (x = V.non) = b := by
  cases r <;> cases h <;> rfl
theorem o_isN {K : W.Frag} : OpS K (fun x y H Q => y = .non ∧ Q (.bl (decide (x = .non))) H) (dIsN false) := fun F H x y d e z Q ez sub rx ry h => by
  cases e with
  | non =>
    cases ry
    have ez : (isNon d).map (fun b => Dv.bl (if false = true then !b else b)) = some z := ez
    cases q : isNon d with
    | none => rw [q] at ez; cases ez
    | some b =>
      rw [q] at ez; cases ez
      exact ⟨rfl, by rw [isNon_ok rx q]; exact h _ F H (Gr.refl sub) (.bl _)⟩
  | _ => cases ez
theorem o_notN {K : W.Frag} : OpS K (fun x y H Q => y = .non ∧ Q (.bl (!decide (x = .non))) H) (dIsN true) := fun F H x y d e z Q ez sub rx ry h => by
  cases e with
  | non =>
    cases ry
    have ez : (isNon d).map (fun b => Dv.bl (if true = true then !b else b)) = some z := ez
    cases q : isNon d with
    | none => rw [q] at ez; cases ez
    | some b =>
      rw [q] at ez; cases ez
      exact ⟨rfl, by rw [isNon_ok rx q]; exact h _ F H (Gr.refl sub) (.bl _)⟩
  | _ => cases ez
/-! is True, is False (of bools) -/
def dIsB (neg : Bool) : Dv → Dv → Option Dv
  | .bl a, .bl b => some (.bl (if neg then !decide (a = b) else decide (a = b)))
  | _, _ => none
theorem o_isB {K : W.Frag} : OpS K (fun x y H Q => ∃ a b, x = .bl a ∧ y = .bl b ∧ Q (.bl (decide (a = b))) H) (dIsB false) := fun F H x y d e z Q ez sub rx ry h => by
  cases d with
  | bl i =>
    cases e with
    | bl j => cases ez; cases rx; cases ry; exact ⟨_, _, rfl, rfl, h _ F H (Gr.refl sub) (.bl _)⟩
    | _ => cases ez
  | _ => cases e <;> cases ez
theorem o_isNotB {K : W.Frag} : OpS K (fun x y H Q => ∃ a b, x = .bl a ∧ y = .bl b ∧ Q (.bl (!decide (a = b))) H) (dIsB true) := fun F H x y d e z Q ez sub rx ry h => by
  cases d with
  | bl i =>
    cases e with
    | bl j => cases ez; cases rx; cases ry; exact ⟨_, _, rfl, rfl, h _ F H (Gr.refl sub) (.bl _)⟩
    | _ => cases ez
  | _ => cases e <;> cases ez
/-! in, not in: flat items -/
def flV : Dv → Option V
  | .non => some .non
  | .bl b => some (.bl b)
  | .int i => some (.int i)
  | .str s => some (.str s)
  | _ => none
def flVs : List Dv → Option (List V)
  | [] => some []
  | d :: ds => match flV d, flVs ds with
    | some v, some vs => some (v :: vs)
    | _, _ => none
theorem flV_ok {K : W.Frag} {F : Hp} {x v : V} {d : Dv} (r : Rp K F x d) (h : flV d = some v) : x = v ∧ flatV v = true := by
  cases r <;> cases h <;> exact ⟨rfl, rfl⟩
theorem flVs_ok {K : W.Frag} {F : Hp} : ∀ {xs : List V} {ds : List Dv} {vs : List V}, RpAll K F xs ds → flVs ds = some vs → xs = vs ∧ vs.all flatV = true
  | _, _, _, .nil, h => by cases h; exact ⟨rfl, rfl⟩
  | _, _, _, .cons (d := d) (ds := ds) r t, h => by
    unfold flVs at h
    cases e1 : flV d with
    | none => rw [e1] at h; cases h
    | some v =>
      cases e2 : flVs ds with
      | none => rw [e1, e2] at h; cases h
      | some vs =>
        rw [e1, e2] at h
        cases h
        obtain ⟨h1, h2⟩ := flV_ok r e1
        obtain ⟨h3, h4⟩ := flVs_ok t e2
        exact ⟨by rw [h1, h3], by rw [List.all_cons, h2, h4]; rfl⟩
def dIn (neg : Bool) (d e : Dv) : Option Dv := match flV d, e with
  | some v, .lst ds => (flVs ds).map fun vs => .bl (if neg then !inV v vs else inV v vs)
  | some v, .tup ds => (flVs ds).map fun vs => .bl (if neg then !inV v vs else inV v vs)
  | _, _ => none
theorem o_inG {K : W.Frag} {neg : Bool} : OpS K (rIn K neg) (dIn neg) := fun F H x y d e z Q ez sub rx ry h => by
  unfold dIn at ez
  cases e1 : flV d with
  | none => rw [e1] at ez; cases ez
  | some v =>
    rw [e1] at ez
    obtain ⟨hx, hf⟩ := flV_ok rx e1
    subst hx
    cases e with
    | lst ds =>
      cases e2 : flVs ds with
      | none => simp only [e2] at ez; cases ez
      | some vs =>
        simp only [e2] at ez
        cases ez
        cases ry with
        | lst hs ra =>
          obtain ⟨h1, h2⟩ := flVs_ok ra e2
          subst h1
          exact ⟨_, _, rfl, .inl (sub.seq (SqL.of hs)), hf, h2, h _ F H (Gr.refl sub) (.bl _)⟩
    | tup ds =>
      cases e2 : flVs ds with
      | none => simp only [e2] at ez; cases ez
      | some vs =>
        simp only [e2] at ez
        cases ez
        cases ry with
        | tup hs ra =>
          obtain ⟨h1, h2⟩ := flVs_ok ra e2
          subst h1
          exact ⟨_, _, rfl, .inr (sameT sub hs), hf, h2, h _ F H (Gr.refl sub) (.bl _)⟩
    | _ => cases ez

/-! ### subscripts -/
def dIx : Dv → Dv → Option Dv
  | .lst ds, .int i => L2.atI ds i
  | .tup ds, .int i => L2.atI ds i
  | .str z, .int i => if z.length ≤ big then (L2.atI z.cps.toList i).map fun c => .str ⟨#[c]⟩ else none
  | _, _ => none
theorem rpAll_at {K : W.Frag} {F : Hp} {xs : List V} {ds : List Dv} {i : Int} {z : Dv} (r : RpAll K F xs ds) (h : L2.atI ds i = some z) : ∃ v, L2.atI xs i = some v ∧ Rp K F v z := by
  unfold L2.atI at h ⊢
  rw [r.length]
  cases e : L2.ixN ds.length i with
  | none => rw [e] at h; cases h
  | some j =>
    rw [e] at h
    exact r.get h
theorem o_ix {K : W.Frag} : OpS K (rIx K) dIx := fun F H x y d e z Q ez sub rx ry h => by
  cases e with
  | int i =>
    cases ry
    cases d with
    | lst ds =>
      cases rx with
      | lst hs ra =>
        obtain ⟨v, e1, r⟩ := rpAll_at ra ez
        exact .inl ⟨_, _, _, v, rfl, rfl, sub.seq (SqL.of hs), e1, h v F H (Gr.refl sub) r⟩
    | tup ds =>
      cases rx with
      | tup hs ra =>
        obtain ⟨v, e1, r⟩ := rpAll_at ra ez
        exact .inr (.inl ⟨_, _, _, v, rfl, rfl, sameT sub hs, e1, h v F H (Gr.refl sub) r⟩)
    | str s =>
      cases rx
      have ez : (if s.length ≤ big then (L2.atI s.cps.toList i).map fun c => Dv.str ⟨#[c]⟩ else none) = some z := ez
      split at ez
      · rename_i hl
        cases e1 : L2.atI s.cps.toList i with
        | none => rw [e1] at ez; cases ez
        | some c =>
          rw [e1] at ez; cases ez
          exact .inr (.inr ⟨_, _, c, rfl, rfl, by rw [sizeLine_big]; exact hl, e1, h _ F H (Gr.refl sub) (.str _)⟩)
      · cases ez
    | _ => cases ez
  | _ => cases d <;> cases ez
/-! dicts by a key -/
def isKD (k : Key) : Dv → Bool
  | .int i => decide (k = .inl i)
  | .str s => decide (k = .inr s)
  | _ => false
def toKey : Dv → Option Key
  | .int i => some (.inl i)
  | .str s => some (.inr s)
  | _ => none
def toKeys : List Dv → Option (List Key)
  | [] => some []
  | d :: ds => match toKey d, toKeys ds with
    | some v, some vs => some (v :: vs)
    | _, _ => none
/-- the key that a value is, as text of the dict's own -/
def keyOf : Dv → Option (Key ⊕ List Key)
  | .tup ds => (toKeys ds).map .inr
  | d => (toKey d).map .inl
def dLook (kvs : List (Dv × Dv)) (k : Dv) : Option Dv := (kvs.find? fun p => decide ((keyOf p.1).isSome = true ∧ keyOf p.1 = keyOf k)).map (·.2)
theorem toKey_kD (k : Key) : toKey (kD k) = some k := by cases k <;> rfl
theorem keyOf_kD (k : Key) : keyOf (kD k) = some (.inl k) := by cases k <;> rfl
theorem toKeys_kD : ∀ ks : List Key, toKeys (ks.map kD) = some ks
  | [] => rfl
  | k :: ks => by show (match toKey (kD k), toKeys (ks.map kD) with | some v, some vs => some (v :: vs) | _, _ => none) = _; rw [toKey_kD, toKeys_kD ks]
theorem keyOf_kDs (ks : List Key) : keyOf (.tup (ks.map kD)) = some (.inr ks) := by show (toKeys (ks.map kD)).map Sum.inr = _; rw [toKeys_kD]; rfl
theorem toKey_inv {d : Dv} {k : Key} (h : toKey d = some k) : d = kD k := by cases d <;> cases h <;> rfl
theorem toKeys_inv : ∀ {ds : List Dv} {ks : List Key}, toKeys ds = some ks → ds = ks.map kD
  | [], _, h => by cases h; rfl
  | d :: ds, ks, h => by
    unfold toKeys at h
    cases e1 : toKey d with
    | none => rw [e1] at h; cases h
    | some k =>
      cases e2 : toKeys ds with
      | none => rw [e1, e2] at h; cases h
      | some ks' => rw [e1, e2] at h; cases h; rw [toKey_inv e1, toKeys_inv e2]; rfl
theorem kD_V {K : W.Frag} {F : Hp} {v : V} {k : Key} (r : Rp K F v (kD k)) : v = kV k := by
  cases k <;> (cases r; rfl)
theorem kDs_V {K : W.Frag} {F : Hp} : ∀ {vs : List V} {ks : List Key}, RpAll K F vs (ks.map kD) → vs = ks.map kV
  | _, [], .nil => rfl
  | _, k :: ks, .cons r t => by rw [kD_V r, kDs_V t]; rfl
theorem look_kv {K : W.Frag} {F : Hp} {k : Key} : ∀ {kvs : List (Key × V)} {ds : List (Dv × Dv)}, RpKv K F kvs ds → (match dLook ds (kD k) with
    | some z => ∃ v, valV kvs k = some v ∧ Rp K F v z
    | none => valV kvs k = none)
  | _, _, .nil => rfl
  | _, _, .cons (k := k') (v := v) (vs := vs) (d := d) (ds := ds) r t => by
    unfold dLook valV
    rw [List.find?_cons, List.find?_cons]
    by_cases e : k' = k
    · subst e
      rw [decide_eq_true (show (keyOf (kD k')).isSome = true ∧ keyOf (kD k') = keyOf (kD k') from ⟨by rw [keyOf_kD]; rfl, rfl⟩), decide_eq_true rfl]
      exact ⟨v, rfl, r⟩
    · have ne : ¬ ((keyOf (kD k')).isSome = true ∧ keyOf (kD k') = keyOf (kD k)) := fun ⟨_, q⟩ => by
        rw [keyOf_kD, keyOf_kD] at q
        exact e (Sum.inl.inj (Option.some.inj q))
      rw [decide_eq_false ne, decide_eq_false e]
      exact look_kv t
theorem look_kvT {K : W.Frag} {F : Hp} {k : List Key} : ∀ {kvs : List (List Key × V)} {ds : List (Dv × Dv)}, RpKvT K F kvs ds → (match dLook ds (.tup (k.map kD)) with
    | some z => ∃ v, valV kvs k = some v ∧ Rp K F v z
    | none => valV kvs k = none)
  | _, _, .nil => rfl
  | _, _, .cons (k := k') (v := v) (vs := vs) (d := d) (ds := ds) r t => by
    unfold dLook valV
    rw [List.find?_cons, List.find?_cons]
    by_cases e : k' = k
    · subst e
      rw [decide_eq_true (show (keyOf (.tup (k'.map kD))).isSome = true ∧ keyOf (.tup (k'.map kD)) = keyOf (.tup (k'.map kD)) from ⟨by rw [keyOf_kDs]; rfl, rfl⟩), decide_eq_true rfl]
      exact ⟨v, rfl, r⟩
    · have ne : ¬ ((keyOf (.tup (k'.map kD))).isSome = true ∧ keyOf (.tup (k'.map kD)) = keyOf (.tup (k.map kD))) := fun ⟨_, q⟩ => by
        rw [keyOf_kDs, keyOf_kDs] at q
        exact e (Sum.inr.inj (Option.some.inj q))
      rw [decide_eq_false ne, decide_eq_false e]
      exact look_kvT t
end DL

namespace DL
open PySem PySem.Spec PyProof.Rows L2
/-! ### o[i] of lists, tuples, texts, dicts -/
def isTupD : Dv → Bool
  | .tup _ => true
  | _ => false
/-- the dict has keys of the kind of k -/
def agree (kvs : List (Dv × Dv)) (k : Dv) : Bool := match kvs with
  | [] => false
  | (k', _) :: _ => isTupD k' == isTupD k
def dSub (d k : Dv) : Option Dv := match d with
  | .dct kvs => if agree kvs k = true ∧ (keyOf k).isSome = true then dLook kvs k else none
  | d => dIx d k
theorem kD_notTup (k : Key) : isTupD (kD k) = false := by cases k <;> rfl
theorem dget_ok {K : W.Frag} {F H : Hp} {x y : V} {kvs : List (Dv × Dv)} {k : Dv} (sub : Same F H) (rx : Rp K F x (.dct kvs)) (ry : Rp K F y k) (hy : ∀ b xs, y = .ref b → SqT K F b xs → H b = some (.tup xs)) (hk : (keyOf k).isSome = true) (ha : agree kvs k = true) :
    ∃ a, x = .ref a ∧ ∃ o : Option V, DGet H a y o ∧ (match dLook kvs k with
      | some z => ∃ v, o = some v ∧ Rp K F v z
      | none => o = none) := by
  cases rx with
  | @dct a kv _ hd r =>
    refine ⟨a, rfl, ?_⟩
    have nt : isTupD k = false := by
      cases r with
      | nil => cases ha
      | @cons k0 v0 vs d0 ds0 _ _ =>
        have ha : (isTupD (kD k0) == isTupD k) = true := ha
        rw [kD_notTup] at ha
        have := eq_of_beq ha
        exact this.symm
    cases k with
    | int i =>
      cases ry
      refine ⟨valV kv (.inl i), .inl ⟨kv, .inl i, sameRd sub hd, rfl, rfl⟩, ?_⟩
      have q := look_kv (k := .inl i) r
      have e : dLook kvs (kD (.inl i)) = dLook kvs (.int i) := rfl
      rw [e] at q
      cases e2 : dLook kvs (.int i) with
      | none => rw [e2] at q; exact q
      | some z => rw [e2] at q; exact q
    | str i =>
      cases ry
      refine ⟨valV kv (.inr i), .inl ⟨kv, .inr i, sameRd sub hd, rfl, rfl⟩, ?_⟩
      have q := look_kv (k := .inr i) r
      have e : dLook kvs (kD (.inr i)) = dLook kvs (.str i) := rfl
      rw [e] at q
      cases e2 : dLook kvs (.str i) with
      | none => rw [e2] at q; exact q
      | some z => rw [e2] at q; exact q
    | tup ds => cases nt
    | _ => cases hk
  | @dctT a kv _ hd r =>
    refine ⟨a, rfl, ?_⟩
    have nt : isTupD k = true := by
      cases r with
      | nil => cases ha
      | @cons k0 v0 vs d0 ds0 _ _ =>
        have ha : (true == isTupD k) = true := ha
        exact (eq_of_beq ha).symm
    cases k with
    | tup ds =>
      cases e1 : toKeys ds with
      | none =>
        have hk : ((toKeys ds).map (Sum.inr : List Key → Key ⊕ List Key)).isSome = true := hk
        rw [e1] at hk; cases hk
      | some ks =>
        have ed := toKeys_inv e1
        subst ed
        cases ry with
        | tup hs ra =>
          have ev := kDs_V ra
          subst ev
          refine ⟨valV kv ks, .inr ⟨kv, ks, _, .inl (sub _ _ hd), rfl, hy _ _ rfl hs, rfl⟩, ?_⟩
          have q := look_kvT (k := ks) r
          cases e2 : dLook kvs (.tup (ks.map kD)) with
          | none => rw [e2] at q; exact q
          | some z => rw [e2] at q; exact q
    | _ => cases nt
/-- a tuple that is tracked in the frozen part itself -/
def plainT (F : Hp) (y : V) : Prop := True
section
variable {X : Cx} {Z : Z0} {E : XK} {pos : Pos} {a b : Expr} {ta tb : TE} {fa fb : Sx}
/-- where the keys are ints and texts -/
def dSubI (d k : Dv) : Option Dv := match d with
  | .dct kvs => if agree kvs k = true ∧ (toKey k).isSome = true then dLook kvs k else none
  | d => dIx d k
theorem s_sub {K : W.Frag} (ha : Snd K Z E ta fa) (hb : Snd K Z E tb fb) : Snd K Z E (fun σ H Q => tOp (rIx K) ta tb σ H Q ∨ tDGet ta tb σ H Q) (fOp dSubI fa fb) := fun F ow σ H ρ w Q R q => by
  have go : ∀ {d w1}, fa ρ w = .ok d w1 → (∀ kvs, d ≠ .dct kvs) → tOp (rIx K) ta tb σ H Q := fun {d w1} e n => by
    refine s_op o_ix ha hb F ow σ H ρ w Q R ?_
    have q : Post K Z E σ ρ (QE K Z F σ Q ρ) ((fa ρ w).bind fun d w1 => (fb ρ w1).bind fun e w2 => RR.of (dSubI d e) w2) := q
    show Post K Z E σ ρ (QE K Z F σ Q ρ) ((fa ρ w).bind fun d w1 => (fb ρ w1).bind fun e w2 => RR.of (dIx d e) w2)
    rw [e] at q ⊢
    have eq : ∀ k, dSubI d k = dIx d k := fun k => by cases d <;> first | rfl | exact (n _ rfl).elim
    simp only [RR.bind_ok, eq] at q ⊢
    exact q
  cases e : fa ρ w with
  | stuck => unfold fOp at q; rw [e] at q; exact q.elim
  | rz x w1 =>
    left
    refine s_op o_ix ha hb F ow σ H ρ w Q R ?_
    unfold fOp at q ⊢
    rw [e] at q ⊢; exact q
  | ok d w1 =>
    cases d with
    | dct kvs =>
      right
      unfold fOp at q
      refine ha F ow σ H ρ w _ R ?_
      rw [e] at q ⊢
      intro x H1 F1 ow1 s1 R1 r1
      have q : Post K Z E σ ρ (QE K Z F σ Q ρ) ((fb ρ w1).bind fun e w2 => RR.of (dSubI (.dct kvs) e) w2) := q
      refine hb.seq R1 q fun k w2 y H2 F2 ow2 s2 R2 r2 q2 => ?_
      have q2 : Post K Z E σ ρ (QE K Z F σ Q ρ) (RR.of (if agree kvs k = true ∧ (toKey k).isSome = true then dLook kvs k else none) w2) := q2
      split at q2
      · rename_i hc
        have hk : (keyOf k).isSome = true := by
          obtain ⟨_, hk⟩ := hc
          cases k <;> first | rfl | cases hk
        obtain ⟨a, rfl, o, g, m⟩ := dget_ok R2.sub (r1.mono s2) r2 (fun b xs eb _ => by
          obtain ⟨_, hk⟩ := hc
          cases k <;> first | (cases hk; done) | (cases r2; cases eb)) hk hc.1
        cases el : dLook kvs k with
        | none => rw [el] at q2; exact q2.elim
        | some z =>
          rw [el] at m q2
          obtain ⟨v, rfl, rz⟩ := m
          exact ⟨a, v, rfl, g, q2 v H2 F2 ow2 (s1.trans s2) R2 rz⟩
      · exact q2.elim
    | _ => exact .inl (go e fun _ h => by cases h)
theorem e_sub {k : Nat} (hr : Room k X.A) (ha : DE X Z E a ta fa) (hb : DE X Z E b tb fb) (h1 : PlainIx b := by exact fun _ _ => rfl) (h2 : NoSl b := by exact fun _ _ => rfl) {K0 : W.Frag} (hK0 : X.K = K0 := by rfl) : DE X Z E (.Subscript a b pos) (fun σ H Q => tOp (rIx K0) ta tb σ H Q ∨ tDGet ta tb σ H Q) (fOp dSubI fa fb) := by subst hK0; exact 
  ⟨pe_or2 (pe_ix ix_seq ha.pe hb.pe h1) (pe_dget (hu_of hr) ha.pe hb.pe h2), s_sub ha.sn hb.sn⟩

/-! ### built-ins -/
def dLen : List Dv → Option Dv
  | [.str z] => if z.length ≤ big then some (.int z.length) else none
  | [.lst ds] => some (.int ds.length)
  | [.tup ds] => some (.int ds.length)
  | [.scr ns] => some (.int ns.length)
  | _ => none
theorem one_arg' {K : W.Frag} {F : Hp} {xs : List V} {ds : List Dv} {d : Dv} (r : RpAll K F xs ds) (e : ds = [d]) : ∃ x, xs = [x] ∧ Rp K F x d := by
  subst e
  cases r with
  | cons r t => cases t; exact ⟨_, rfl, r⟩
theorem o_len {K : W.Frag} : CallS K (fun xs H Q => ∃ x n, xs = [x] ∧ LenV K x H n ∧ Q (.int n) H) dLen := fun F H xs ds z Q ez sub r h => by
  unfold dLen at ez
  split at ez
  · rename_i y
    split at ez
    · rename_i hl
      cases ez
      obtain ⟨x, rfl, rx⟩ := one_arg' r rfl
      cases rx
      exact ⟨_, y.length, rfl, ⟨by rw [sizeLine_big]; exact hl, rfl⟩, h _ F H (Gr.refl sub) (.int _)⟩
    · cases ez
  · cases ez
    obtain ⟨x, rfl, rx⟩ := one_arg' r rfl
    cases rx with
    | @lst a vs _ hs ra => exact ⟨_, vs.length, rfl, .inl ⟨vs, sub.seq (SqL.of hs), rfl⟩, by rw [ra.length]; exact h _ F H (Gr.refl sub) (.int _)⟩
  · cases ez
    obtain ⟨x, rfl, rx⟩ := one_arg' r rfl
    cases rx with
    | @tup a vs _ hs ra => exact ⟨_, vs.length, rfl, .inr ⟨vs, sameT sub hs, rfl⟩, by rw [ra.length]; exact h _ F H (Gr.refl sub) (.int _)⟩
  · rename_i ns
    cases ez
    obtain ⟨x, rfl, rx⟩ := one_arg' r rfl
    cases rx with
    | @scr a _ hs => exact ⟨_, (ns.map V.int).length, rfl, .inl ⟨ns.map V.int, sub.seq hs, rfl⟩, by rw [List.length_map]; exact h _ F H (Gr.refl sub) (.int _)⟩
  · cases ez
def blsOf : List Dv → Option (List Bool)
  | [] => some []
  | .bl b :: r => (blsOf r).map (b :: ·)
  | _ => none
def intsOf : List Dv → Option (List Int)
  | [] => some []
  | .int b :: r => (intsOf r).map (b :: ·)
  | _ => none
theorem blsOf_inv : ∀ {ds : List Dv} {bs : List Bool}, blsOf ds = some bs → ds = bs.map .bl
  | [], _, h => by cases h; rfl
  | d :: ds, bs, h => by
    cases d with
    | bl b =>
      have h : (blsOf ds).map (b :: ·) = some bs := h
      cases e : blsOf ds with
      | none => rw [e] at h; cases h
      | some cs => rw [e] at h; cases h; rw [blsOf_inv e]; rfl
    | _ => cases h
theorem intsOf_inv : ∀ {ds : List Dv} {bs : List Int}, intsOf ds = some bs → ds = bs.map .int
  | [], _, h => by cases h; rfl
  | d :: ds, bs, h => by
    cases d with
    | int b =>
      have h : (intsOf ds).map (b :: ·) = some bs := h
      cases e : intsOf ds with
      | none => rw [e] at h; cases h
      | some cs => rw [e] at h; cases h; rw [intsOf_inv e]; rfl
    | _ => cases h
@[simp] theorem blsOf_map (bs : List Bool) : blsOf (bs.map .bl) = some bs := by
  induction bs with
  | nil => rfl
  | cons b bs ih => show (blsOf (bs.map .bl)).map (b :: ·) = _; rw [ih]; rfl
@[simp] theorem intsOf_map (bs : List Int) : intsOf (bs.map .int) = some bs := by
  induction bs with
  | nil => rfl
  | cons b bs ih => show (intsOf (bs.map .int)).map (b :: ·) = _; rw [ih]; rfl
def dAll : List Dv → Option Dv
  | [.lst ds] => (blsOf ds).map fun bs => .bl (bs.all id)
  | _ => none
def dAny : List Dv → Option Dv
  | [.lst ds] => (blsOf ds).map fun bs => .bl (bs.any id)
  | _ => none
def dSum : List Dv → Option Dv
  | [.lst ds] => (intsOf ds).map fun bs => .int bs.sum
  | _ => none
theorem o_all {K : W.Frag} : CallS K (rAll K) dAll := fun F H xs ds z Q ez sub r h => by
  unfold dAll at ez
  split at ez
  · rename_i ds
    obtain ⟨x, rfl, rx⟩ := one_arg' r rfl
    cases e : blsOf ds with
    | none => rw [e] at ez; cases ez
    | some bs =>
      rw [e] at ez; cases ez
      have := blsOf_inv e
      subst this
      cases rx with
      | @lst a vs _ hs ra => exact ⟨a, bs, rfl, by rw [← RpAll.bls ra]; exact sub.seq (SqL.of hs), h _ F H (Gr.refl sub) (.bl _)⟩
  · cases ez
theorem o_any {K : W.Frag} : CallS K (rAny K) dAny := fun F H xs ds z Q ez sub r h => by
  unfold dAny at ez
  split at ez
  · rename_i ds
    obtain ⟨x, rfl, rx⟩ := one_arg' r rfl
    cases e : blsOf ds with
    | none => rw [e] at ez; cases ez
    | some bs =>
      rw [e] at ez; cases ez
      have := blsOf_inv e
      subst this
      cases rx with
      | @lst a vs _ hs ra => exact ⟨a, bs, rfl, by rw [← RpAll.bls ra]; exact sub.seq (SqL.of hs), h _ F H (Gr.refl sub) (.bl _)⟩
  · cases ez
theorem o_sum {K : W.Frag} : CallS K (rSum K) dSum := fun F H xs ds z Q ez sub r h => by
  unfold dSum at ez
  split at ez
  · rename_i ds
    obtain ⟨x, rfl, rx⟩ := one_arg' r rfl
    cases e : intsOf ds with
    | none => rw [e] at ez; cases ez
    | some bs =>
      rw [e] at ez; cases ez
      have := intsOf_inv e
      subst this
      cases rx with
      | @lst a vs _ hs ra => exact ⟨a, bs, rfl, by rw [← RpAll.ints ra]; exact sub.seq (SqL.of hs), h _ F H (Gr.refl sub) (.int _)⟩
  · cases ez
def dAbs : List Dv → Option Dv
  | [.int i] => some (.int (if i < 0 then -i else i))
  | _ => none
theorem o_abs {K : W.Frag} : CallS K (fun xs H Q => ∃ i, xs = [.int i] ∧ Q (.int (if i < 0 then -i else i)) H) dAbs := fun F H xs ds z Q ez sub r h => by
  unfold dAbs at ez
  split at ez
  · obtain ⟨x, rfl, rx⟩ := one_arg' r rfl
    cases ez; cases rx
    exact ⟨_, rfl, h _ F H (Gr.refl sub) (.int _)⟩
  · cases ez
def dInt : List Dv → Option Dv
  | [.int i] => some (.int i)
  | _ => none
theorem o_int {K : W.Frag} : CallS K (fun xs H Q => (∃ i, xs = [.int i] ∧ Q (.int i) H) ∨ ∃ k, xs = [.bl k] ∧ Q (.int (if k then 1 else 0)) H) dInt := fun F H xs ds z Q ez sub r h => by
  unfold dInt at ez
  split at ez
  · obtain ⟨x, rfl, rx⟩ := one_arg' r rfl
    cases ez; cases rx
    exact .inl ⟨_, rfl, h _ F H (Gr.refl sub) (.int _)⟩
  · cases ez
def dMin2 : List Dv → Option Dv
  | [.int i, .int j] => some (.int (if j < i then j else i))
  | _ => none
theorem o_min2 {K : W.Frag} : CallS K (fun xs H Q => ∃ i j, xs = [.int i, .int j] ∧ Q (.int (if j < i then j else i)) H) dMin2 := fun F H xs ds z Q ez sub r h => by
  unfold dMin2 at ez
  split at ez
  · cases ez
    cases r with
    | cons r1 t => cases t with
      | cons r2 t2 => cases t2; cases r1; cases r2; exact ⟨_, _, rfl, h _ F H (Gr.refl sub) (.int _)⟩
  · cases ez
def dMax2 : List Dv → Option Dv
  | [.int i, .int j] => some (.int (if j > i then j else i))
  | _ => none
theorem o_max2 {K : W.Frag} : CallS K (fun xs H Q => ∃ i j, xs = [.int i, .int j] ∧ Q (.int (if j > i then j else i)) H) dMax2 := fun F H xs ds z Q ez sub r h => by
  unfold dMax2 at ez
  split at ez
  · cases ez
    cases r with
    | cons r1 t => cases t with
      | cons r2 t2 => cases t2; cases r1; cases r2; exact ⟨_, _, rfl, h _ F H (Gr.refl sub) (.int _)⟩
  · cases ez
/-! list(x): a new list -/
def dList : List Dv → Option (List Dv)
  | [.lst ds] => some ds
  | [.tup ds] => some ds
  | _ => none
theorem o_list {K : W.Frag} : CallN K (fun xs H Q => ∃ p ys, xs = [.ref p] ∧ (SqL K H p ys ∨ SqT K H p ys) ∧ ∀ l, H l = none → Q (.ref l) (upd H l (.lst ys))) dList := fun F H xs ds z Q ez sub r h => by
  unfold dList at ez
  split at ez
  · obtain ⟨x, rfl, rx⟩ := one_arg' r rfl
    cases ez
    cases rx with
    | @lst a vs _ hs ra => exact ⟨a, vs, rfl, .inl (sub.seq (SqL.of hs)), fun l nl => h l vs F H (Gr.refl sub) nl ra⟩
  · obtain ⟨x, rfl, rx⟩ := one_arg' r rfl
    cases ez
    cases rx with
    | @tup a vs _ hs ra => exact ⟨a, vs, rfl, .inr (sameT sub hs), fun l nl => h l vs F H (Gr.refl sub) nl ra⟩
  · cases ez
/-! tuple(x) -/
def dTupOf : Dv → Option Dv
  | .lst ds => some (.tup ds)
  | .tup ds => some (.tup ds)
  | _ => none
theorem e_tupleOf {p : Pos} (hm : X.mg "tuple" = none) (ha : DE X Z E a ta fa) (hg : Gl X "tuple" := by rfl) (na : starEach [a] X.env = (false, eval a X.env) :: starEach [] X.env := by rfl) {K0 : W.Frag} (hK0 : X.K = K0 := by rfl) : DE X Z E (.Call (.Name "tuple" p) [a] [] pos) (tThen ta (L2.kTup K0)) (fUn dTupOf fa) := by subst hK0; exact ⟨pe_tupleOf hg hm ha.pe na, fun F ow σ H ρ w Q R q =>
  ha.sn.seq R q fun d w1 x H1 F1 ow1 s1 R1 r1 q1 => by
    cases d with
    | lst ds =>
      cases r1 with
      | @lst a vs _ hs ra =>
        refine .inl ⟨a, vs, rfl, R1.sub.seq (SqL.of hs), fun p np => ?_⟩
        have g := Gr.new R1.sub (.tup vs) np
        exact q1 _ _ _ ow1 (s1.trans g.ff) (R1.grow g) (.tup (.of upd_same) (ra.mono g.ff))
    | tup ds =>
      cases r1 with
      | @tup a vs _ hs ra => exact .inr ⟨a, vs, rfl, sameT R1.sub hs, q1 _ H1 F1 ow1 s1 R1 (.tup hs ra)⟩
    | _ => exact q1.elim⟩
/-! tuple(reversed(x)), list(range(..)), slices -/
def rgD (a b : Int) : List Dv := (List.range (b - a).toNat).map fun i => .int (a + (i : Nat))
theorem rgD_rp {K : W.Frag} {F : Hp} (a b : Int) : RpAll K F (rgV a b) (rgD a b) := by
  unfold rgV rgD
  generalize List.range (b - a).toNat = l
  induction l with
  | nil => exact .nil
  | cons i l ih => exact .cons (.int _) ih
def okRg (a b : Int) : Prop := -(2 ^ 62) ≤ a ∧ a < 2 ^ 62 ∧ -(2 ^ 62) ≤ b ∧ b < 2 ^ 62 ∧ (b - a).toNat ≤ 2 ^ 24
noncomputable instance (a b : Int) : Decidable (okRg a b) := Classical.propDecidable _
noncomputable def fRg1 (fa : Sx) : Sl := fun ρ w => (fa ρ w).bind fun d w1 => match d with
  | .int n => if okRg 0 n then .ok (rgD 0 n) w1 else .stuck
  | _ => .stuck
noncomputable def fRg2 (fa fb : Sx) : Sl := fun ρ w => (fa ρ w).bind fun d w1 => (fb ρ w1).bind fun e w2 => match d, e with
  | .int m, .int n => if okRg m n then .ok (rgD m n) w2 else .stuck
  | _, _ => .stuck
theorem n_listRg1 {p p2 pos2 : Pos} (hc : X.calm = true) (hm : X.mg "list" = none) (hm2 : X.mg "range" = none) (ha : DE X Z E a ta fa) (hg : Gl X "list" := by rfl) (hg2 : Gl X "range" := by rfl) (na : starEach [a] X.env = (false, eval a X.env) :: starEach [] X.env := by rfl)
    (na2 : starEach [.Call (.Name "range" p2) [a] [] pos2] X.env = (false, eval (.Call (.Name "range" p2) [a] [] pos2) X.env) :: starEach [] X.env := by rfl) :
    DN X Z E (.Call (.Name "list" p) [.Call (.Name "range" p2) [a] [] pos2] [] pos) (tLstRg (tRg1 ta)) (fRg1 fa) := ⟨pe_listRg hc hg hm (prg_1 hg2 hm2 ha.pe na) na2, fun F ow σ H ρ w Q R q =>
  ha.sn.seq R q fun d w1 x H1 F1 ow1 s1 R1 r1 q1 => by
    cases d with
    | int n =>
      cases r1
      have q1 : Post X.K Z E σ ρ (QN X.K Z F σ Q ρ) (if okRg 0 n then .ok (rgD 0 n) w1 else .stuck) := q1
      split at q1
      · rename_i hk
        refine ⟨n, rfl, hk, fun p np => ?_⟩
        obtain ⟨h1, h2, h3⟩ := R1.fresh np
        exact q1 p _ _ F1 ow1 s1 (R1.grow (Gr.apart R1.sub _ np)) upd_same h1 h2 h3 (rgD_rp 0 n)
      · exact q1.elim
    | _ => exact q1.elim⟩
theorem n_listRg2 {p p2 pos2 : Pos} (hc : X.calm = true) (hm : X.mg "list" = none) (hm2 : X.mg "range" = none) (ha : DE X Z E a ta fa) (hb : DE X Z E b tb fb) (hg : Gl X "list" := by rfl) (hg2 : Gl X "range" := by rfl) (na : starEach [a, b] X.env = (false, eval a X.env) :: starEach [b] X.env := by rfl) (nb : starEach [b] X.env = (false, eval b X.env) :: starEach [] X.env := by rfl)
    (hp : (backTo pos2 (starEach [b] X.env)).any (·.1) = false := by rfl)
    (na2 : starEach [.Call (.Name "range" p2) [a, b] [] pos2] X.env = (false, eval (.Call (.Name "range" p2) [a, b] [] pos2) X.env) :: starEach [] X.env := by rfl) :
    DN X Z E (.Call (.Name "list" p) [.Call (.Name "range" p2) [a, b] [] pos2] [] pos) (tLstRg (tRg2 ta tb)) (fRg2 fa fb) := ⟨pe_listRg hc hg hm (prg_2 hg2 hm2 ha.pe hb.pe na nb hp) na2, fun F ow σ H ρ w Q R q =>
  ha.sn.seq R q fun d w1 x H1 F1 ow1 s1 R1 r1 q1 => hb.sn.seq R1 q1 fun e w2 y H2 F2 ow2 s2 R2 r2 q2 => by
    cases d with
    | int m =>
      cases e with
      | int n =>
        cases r1; cases r2
        have q2 : Post X.K Z E σ ρ (QN X.K Z F σ Q ρ) (if okRg m n then .ok (rgD m n) w2 else .stuck) := q2
        split at q2
        · rename_i hk
          refine ⟨m, n, rfl, rfl, hk, fun p np => ?_⟩
          obtain ⟨h1, h2, h3⟩ := R2.fresh np
          exact q2 p _ _ F2 ow2 (s1.trans s2) (R2.grow (Gr.apart R2.sub _ np)) upd_same h1 h2 h3 (rgD_rp m n)
        · exact q2.elim
      | _ => exact q2.elim
    | _ => exact q2.elim⟩
theorem e_tupRg1 {p p2 pos2 : Pos} (hc : X.calm = true) (hm : X.mg "tuple" = none) (hm2 : X.mg "range" = none) (ha : DE X Z E a ta fa) (hg : Gl X "tuple" := by rfl) (hg2 : Gl X "range" := by rfl) (na : starEach [a] X.env = (false, eval a X.env) :: starEach [] X.env := by rfl)
    (na2 : starEach [.Call (.Name "range" p2) [a] [] pos2] X.env = (false, eval (.Call (.Name "range" p2) [a] [] pos2) X.env) :: starEach [] X.env := by rfl) :
    DE X Z E (.Call (.Name "tuple" p) [.Call (.Name "range" p2) [a] [] pos2] [] pos) (tTupRg (tRg1 ta)) (fun ρ w => (fRg1 fa ρ w).bind fun ds w => .ok (.tup ds) w) := ⟨pe_tupRg hc hg hm (prg_1 hg2 hm2 ha.pe na) na2, fun F ow σ H ρ w Q R q => by
  have q : Post X.K Z E σ ρ (QE X.K Z F σ Q ρ) ((fa ρ w).bind fun d w1 => (match d with
    | .int n => if okRg 0 n then RR.ok (rgD 0 n) w1 else .stuck
    | _ => .stuck).bind fun ds w => .ok (.tup ds) w) := by
    unfold fRg1 at q
    cases e : fa ρ w with
    | stuck => rw [e] at q; exact q
    | rz x w1 => rw [e] at q; exact q
    | ok d w1 => rw [e] at q; exact q
  refine ha.sn.seq R q fun d w1 x H1 F1 ow1 s1 R1 r1 q1 => ?_
  cases d with
  | int n =>
    cases r1
    have q1 : Post X.K Z E σ ρ (QE X.K Z F σ Q ρ) ((if okRg 0 n then RR.ok (rgD 0 n) w1 else .stuck).bind fun ds w => .ok (.tup ds) w) := q1
    split at q1
    · rename_i hk
      refine ⟨n, rfl, hk, fun p np => ?_⟩
      have g := Gr.new R1.sub (.tup (rgV 0 n)) np
      exact q1 _ _ _ ow1 (s1.trans g.ff) (R1.grow g) (.tup (.of upd_same) (rgD_rp 0 n))
    · exact q1.elim
  | _ => exact q1.elim⟩
end
end DL

namespace DL
open PySem PySem.Spec PyProof.Rows L2
section
variable {X : Cx} {Z : Z0} {E : XK} {pos : Pos} {a b : Expr} {ta tb : TE} {fa fb : Sx}

/-! ### what is walked -/
def itemsOf : Dv → Option (List Dv)
  | .lst ds => some ds
  | .tup ds => some ds
  | _ => none
/-- the script too -/
def itemsS : Dv → Option (List Dv)
  | .scr ns => some (ns.map .int)
  | d => itemsOf d
def fItems (fa : Sx) : Sl := fun ρ w => (fa ρ w).bind fun d w1 => .of (itemsS d) w1
theorem walk_list {K : W.Frag} {F : Hp} {a : Addr} {vs : List V} {ds : List Dv} (hs : SqL K F a vs) (ra : RpAll K F vs ds) : WalkD K (Itl K a) F ds where
  stop := fun Z F1 ow σ H ρ w i s R hn => ⟨vs, (s.trans R.sub).seq hs, by rw [ra.length]; exact List.getElem?_eq_none_iff.mp hn⟩
  item := fun Z F1 ow σ H ρ w i d s R hd => by
    obtain ⟨v, hv, r⟩ := ra.get hd
    refine ⟨⟨vs, v, (s.trans R.sub).seq hs, hv⟩, fun x H' ⟨e, y⟩ => ?_⟩
    subst e
    have := y vs ((s.trans R.sub).seq hs)
    rw [hv] at this; cases this
    exact ⟨F1, ow, Same.refl _, R, r.mono s⟩
theorem walk_tup {K : W.Frag} {F : Hp} {a : Addr} {vs : List V} {ds : List Dv} (hs : SqT K F a vs) (ra : RpAll K F vs ds) : WalkD K (Itt K a) F ds where
  stop := fun Z F1 ow σ H ρ w i s R hn => ⟨vs, sameT (s.trans R.sub) hs, by rw [ra.length]; exact List.getElem?_eq_none_iff.mp hn⟩
  item := fun Z F1 ow σ H ρ w i d s R hd => by
    obtain ⟨v, hv, r⟩ := ra.get hd
    refine ⟨⟨vs, v, sameT (s.trans R.sub) hs, hv⟩, fun x H' ⟨e, y⟩ => ?_⟩
    subst e
    have := y vs (sameT (s.trans R.sub) hs)
    rw [hv] at this; cases this
    exact ⟨F1, ow, Same.refl _, R, r.mono s⟩
/-- an iterable by what its expression gives -/
theorem i_by {K : W.Frag} {t : TE} {f : Sx} {op : Dv → Option (List Dv)} {wi : TI} (h : Snd K Z E t f) (hw : ∀ {F ow σ H ρ w R}, Rep K Z F ow σ H ρ w → (∀ C : VK, (Post K Z E σ ρ (QE K Z F σ C ρ) (f ρ w) → t σ H C)) → Post K Z E σ ρ (QI K Z F σ R ρ) ((f ρ w).bind fun d w1 => .of (op d) w1) → wi σ H R) : SndI K Z E wi (fun ρ w => (f ρ w).bind fun d w1 => .of (op d) w1) := fun F ow σ H ρ w R Rp q =>
  hw Rp (fun C q => h F ow σ H ρ w C Rp q) q
theorem s_seq2 {K : W.Frag} (ha : Snd K Z E ta fa) : SndI K Z E (fun σ H R => iList K ta σ H R ∨ iTup K ta σ H R) (fItems fa) := fun F ow σ H ρ w R Rr q => by
  unfold fItems at q
  cases e : fa ρ w with
  | stuck => rw [e] at q; exact q.elim
  | rz x w1 =>
    left
    refine ha F ow σ H ρ w _ Rr ?_
    rw [e] at q ⊢; exact q
  | ok d w1 =>
    cases d with
    | lst ds =>
      left
      refine ha F ow σ H ρ w _ Rr ?_
      rw [e] at q ⊢
      intro v H1 F1 ow1 s1 R1 r1
      cases r1 with
      | @lst a vs _ hs ra => exact ⟨a, rfl, ⟨vs, R1.sub.seq (SqL.of hs)⟩, q _ H1 F1 ow1 s1 R1 (walk_list (SqL.of hs) ra)⟩
    | tup ds =>
      right
      refine ha F ow σ H ρ w _ Rr ?_
      rw [e] at q ⊢
      intro v H1 F1 ow1 s1 R1 r1
      cases r1 with
      | @tup a vs _ hs ra => exact ⟨a, rfl, ⟨vs, sameT R1.sub hs⟩, q _ H1 F1 ow1 s1 R1 (walk_tup hs ra)⟩
    | scr ns =>
      left
      refine ha F ow σ H ρ w _ Rr ?_
      rw [e] at q ⊢
      intro v H1 F1 ow1 s1 R1 r1
      cases r1 with
      | @scr a _ hs => exact ⟨a, rfl, ⟨_, R1.sub.seq hs⟩, q _ H1 F1 ow1 s1 R1 (walk_list hs (RpAll.of_ints ns))⟩
    | _ => rw [e] at q; exact q.elim
theorem i_seq {tg : Expr} (ha : DE X Z E a ta fa) {K0 : W.Frag} (hK0 : X.K = K0 := by rfl) : DI X Z E tg a (fun σ H R => iList K0 ta σ H R ∨ iTup K0 ta σ H R) (fItems fa) := by subst hK0; exact ⟨pi_or2 (pi_list ha.pe) (pi_tup ha.pe), s_seq2 ha.sn⟩
theorem walk_rng {K : W.Frag} {F : Hp} (m n : Int) : WalkD K (Itr m (n - m).toNat) F (rgD m n) where
  stop := fun Z F1 ow σ H ρ w i s R hn => by
    unfold rgD at hn
    rw [List.getElem?_map] at hn
    have := List.getElem?_eq_none_iff.mp (Option.map_eq_none_iff.mp hn)
    rwa [List.length_range] at this
  item := fun Z F1 ow σ H ρ w i d s R hd => by
    unfold rgD at hd
    rw [List.getElem?_map] at hd
    obtain ⟨j, hj, rfl⟩ := Option.map_eq_some_iff.mp hd
    obtain ⟨hl, rfl⟩ := List.getElem?_eq_some_iff.mp hj
    rw [List.length_range] at hl
    refine ⟨hl, fun x H' ⟨e, y⟩ => ?_⟩
    subst e y
    rw [List.getElem_range]
    exact ⟨F1, ow, Same.refl _, R, .int _⟩
def okI (m : Int) : Prop := -(2 ^ 62) ≤ m ∧ m < 2 ^ 62
noncomputable instance (a : Int) : Decidable (okI a) := Classical.propDecidable _
noncomputable def fIr1 (fa : Sx) : Sl := fun ρ w => (fa ρ w).bind fun d w1 => match d with
  | .int n => if okI n then .ok (rgD 0 n) w1 else .stuck
  | _ => .stuck
noncomputable def fIr2 (fa fb : Sx) : Sl := fun ρ w => (fa ρ w).bind fun d w1 => (fb ρ w1).bind fun e w2 => match d, e with
  | .int m, .int n => if okI m ∧ okI n then .ok (rgD m n) w2 else .stuck
  | _, _ => .stuck
theorem i_range1 {tg : Expr} {p : Pos} (hm : X.mg "range" = none) (ha : DE X Z E a ta fa) (hg : Gl X "range" := by rfl) (hs1 : starEach (a :: []) X.env = (false, eval a X.env) :: starEach [] X.env := by rfl) (hs : starEach [a] X.env = [(false, eval a X.env)] := by rfl) :
    DI X Z E tg (.Call (.Name "range" p) [a] [] pos) (iRng1 (tCons ta tNil)) (fIr1 fa) := ⟨pi_range1 hg hm (pa_cons ha.pe pa_nil hs1) hs, fun F ow σ H ρ w Q R q =>
  ha.sn.seq R q fun d w1 x H1 F1 ow1 s1 R1 r1 q1 => by
    cases d with
    | int n =>
      cases r1
      have q1 : Post X.K Z E σ ρ (QI X.K Z F σ Q ρ) (if okI n then .ok (rgD 0 n) w1 else .stuck) := q1
      split at q1
      · rename_i hk
        refine ⟨n, rfl, hk.1, hk.2, ?_⟩
        have wk := walk_rng (K := X.K) (F := F1) 0 n
        rw [Int.sub_zero] at wk
        exact q1 _ H1 F1 ow1 s1 R1 wk
      · exact q1.elim
    | _ => exact q1.elim⟩
theorem i_range2 {tg : Expr} {p : Pos} (hm : X.mg "range" = none) (ha : DE X Z E a ta fa) (hb : DE X Z E b tb fb) (hg : Gl X "range" := by rfl) (hs1 : starEach (a :: [b]) X.env = (false, eval a X.env) :: starEach [b] X.env := by rfl) (hs2 : starEach (b :: []) X.env = (false, eval b X.env) :: starEach [] X.env := by rfl)
    (hs : starEach [a, b] X.env = [(false, eval a X.env), (false, eval b X.env)] := by rfl) (hs3 : starEach [b] X.env = [(false, eval b X.env)] := by rfl) :
    DI X Z E tg (.Call (.Name "range" p) [a, b] [] pos) (iRng2 (tCons ta (tCons tb tNil))) (fIr2 fa fb) := ⟨pi_range2 hg hm (pa_cons ha.pe (pa_cons hb.pe pa_nil hs2) hs1) hs hs3, fun F ow σ H ρ w Q R q =>
  ha.sn.seq R q fun d w1 x H1 F1 ow1 s1 R1 r1 q1 => hb.sn.seq R1 q1 fun e w2 y H2 F2 ow2 s2 R2 r2 q2 => by
    cases d with
    | int m =>
      cases e with
      | int n =>
        cases r1; cases r2
        have q2 : Post X.K Z E σ ρ (QI X.K Z F σ Q ρ) (if okI m ∧ okI n then .ok (rgD m n) w2 else .stuck) := q2
        split at q2
        · rename_i hk
          exact ⟨m, n, rfl, ⟨hk.1.1, hk.1.2, hk.2.1, hk.2.2⟩, q2 _ H2 F2 ow2 (s1.trans s2) R2 (walk_rng m n)⟩
        · exact q2.elim
      | _ => exact q2.elim
    | _ => exact q2.elim⟩
/-- range(a, b, -1) -/
def downD (m n : Int) : List Dv := (List.range (m - n).toNat).map fun i => .int (m - (i : Nat))
noncomputable def fIrD (fa fb : Sx) : Sl := fun ρ w => (fa ρ w).bind fun d w1 => (fb ρ w1).bind fun e w2 => match d, e with
  | .int m, .int n => if okI m ∧ okI n then .ok (downD m n) w2 else .stuck
  | _, _ => .stuck
/-! enumerate -/
def enumD (k : Nat) : List Dv → List Dv
  | [] => []
  | d :: ds => .tup [.int k, d] :: enumD (k + 1) ds
theorem enumD_length : ∀ (k : Nat) (ds : List Dv), (enumD k ds).length = ds.length
  | _, [] => rfl
  | k, d :: ds => by show (enumD (k + 1) ds).length + 1 = ds.length + 1; rw [enumD_length]
theorem enumD_get : ∀ (k : Nat) (ds : List Dv) (i : Nat), (enumD k ds)[i]? = ds[i]?.map fun d => .tup [.int ((k + i : Nat) : Int), d]
  | k, [], i => by simp [enumD]
  | k, d :: ds, 0 => by simp [enumD]
  | k, d :: ds, i + 1 => by
    show (enumD (k + 1) ds)[i]? = _
    rw [enumD_get (k + 1) ds i]
    have : k + 1 + i = k + (i + 1) := by omega
    rw [this]; simp
def fEnum (fa : Sx) : Sl := fun ρ w => (fa ρ w).bind fun d w1 => .of ((itemsOf d).map (enumD 0)) w1
theorem new_pair {K : W.Frag} {F : Hp} {ow : Addr → Option Nat} {σ : L2.St} {H : Hp} {ρ : List EV} {w : DS} {T : Addr} {x y : V} {d e : Dv} (R : Rep K Z F ow σ H ρ w) (n : H T = none) (r1 : Rp K F x d) (r2 : Rp K F y e) :
    ∃ F' ow', Same F F' ∧ Rep K Z F' ow' σ (upd H T (.tup [x, y])) ρ w ∧ Rp K F' (.ref T) (.tup [d, e]) := by
  have g := Gr.new R.sub (.tup [x, y]) n
  exact ⟨_, ow, g.ff, R.grow g, .tup (.of upd_same) (.cons (r1.mono g.ff) (.cons (r2.mono g.ff) .nil))⟩
theorem walk_enumL {K : W.Frag} {F : Hp} {a : Addr} {vs : List V} {ds : List Dv} (hs : SqL K F a vs) (ra : RpAll K F vs ds) : WalkD K (Ite K a) F (enumD 0 ds) where
  stop := fun Z F1 ow σ H ρ w i s R hn => ⟨vs, (s.trans R.sub).seq hs, by
    have := List.getElem?_eq_none_iff.mp hn
    rw [enumD_length] at this
    rw [ra.length]; exact this⟩
  item := fun Z F1 ow σ H ρ w i d s R hd => by
    rw [enumD_get] at hd
    obtain ⟨e, he, rfl⟩ := Option.map_eq_some_iff.mp hd
    obtain ⟨v, hv, r⟩ := ra.get he
    refine ⟨⟨vs, v, (s.trans R.sub).seq hs, hv⟩, fun x H' ⟨T, y, ex, nT, eH, yy⟩ => ?_⟩
    subst ex eH
    have := yy vs ((s.trans R.sub).seq hs)
    rw [hv] at this; cases this
    rw [Nat.zero_add]
    exact new_pair R nT (.int _) (r.mono s)
theorem walk_enumT {K : W.Frag} {F : Hp} {a : Addr} {vs : List V} {ds : List Dv} (hs : SqT K F a vs) (ra : RpAll K F vs ds) : WalkD K (IteT K a) F (enumD 0 ds) where
  stop := fun Z F1 ow σ H ρ w i s R hn => ⟨vs, sameT (s.trans R.sub) hs, by
    have := List.getElem?_eq_none_iff.mp hn
    rw [enumD_length] at this
    rw [ra.length]; exact this⟩
  item := fun Z F1 ow σ H ρ w i d s R hd => by
    rw [enumD_get] at hd
    obtain ⟨e, he, rfl⟩ := Option.map_eq_some_iff.mp hd
    obtain ⟨v, hv, r⟩ := ra.get he
    refine ⟨⟨vs, v, sameT (s.trans R.sub) hs, hv⟩, fun x H' ⟨T, y, ex, nT, eH, yy⟩ => ?_⟩
    subst ex eH
    have := yy vs (sameT (s.trans R.sub) hs)
    rw [hv] at this; cases this
    rw [Nat.zero_add]
    exact new_pair R nT (.int _) (r.mono s)
theorem i_enum {p tpos : Pos} {elts : List Expr} {kk : Nat} (hm : X.mg "enumerate" = none) (ha : DE X Z E a ta fa) (hg : Gl X "enumerate" := by rfl) (hs1 : starEach (a :: []) X.env = (false, eval a X.env) :: starEach [] X.env := by rfl) (hs : starEach [a] X.env = [(false, eval a X.env)] := by rfl) {K0 : W.Frag} (hK0 : X.K = K0 := by rfl) :
    DI X Z E (.Tuple elts kk tpos) (.Call (.Name "enumerate" p) [a] [] pos) (iEnumA K0 (tCons ta tNil)) (fEnum fa) := by subst hK0; exact ⟨pi_enumA hg hm (pa_cons ha.pe pa_nil hs1) hs, fun F ow σ H ρ w Q R q =>
  ha.sn.seq R q fun d w1 x H1 F1 ow1 s1 R1 r1 q1 => by
    cases d with
    | lst ds => cases r1 with
      | @lst a vs _ hs ra => exact ⟨a, vs, rfl, .inl ⟨R1.sub.seq (SqL.of hs), q1 _ H1 F1 ow1 s1 R1 (walk_enumL (SqL.of hs) ra)⟩⟩
    | tup ds => cases r1 with
      | @tup a vs _ hs ra => exact ⟨a, vs, rfl, .inr ⟨sameT R1.sub hs, q1 _ H1 F1 ow1 s1 R1 (walk_enumT hs ra)⟩⟩
    | _ => exact q1.elim⟩
/-! zip of two lists, of two tuples -/
def zipD (xs ys : List Dv) : List Dv := List.zipWith (fun x y => .tup [x, y]) xs ys
def dZip : Dv → Dv → Option (List Dv)
  | .lst xs, .lst ys => some (zipD xs ys)
  | .tup xs, .tup ys => some (zipD xs ys)
  | _, _ => none
def fZip (fa fb : Sx) : Sl := fun ρ w => (fa ρ w).bind fun d w1 => (fb ρ w1).bind fun e w2 => .of (dZip d e) w2
theorem zipD_get {xs ys : List Dv} {i : Nat} : (zipD xs ys)[i]? = match xs[i]?, ys[i]? with
    | some x, some y => some (.tup [x, y])
    | _, _ => none := by
  unfold zipD
  rw [List.getElem?_zipWith]
  cases xs[i]? <;> cases ys[i]? <;> rfl
theorem zip_none {xs ys : List Dv} {i : Nat} (h : (zipD xs ys)[i]? = none) : xs.length ≤ i ∨ ys.length ≤ i := by
  have := List.getElem?_eq_none_iff.mp h
  unfold zipD at this
  rw [List.length_zipWith] at this
  omega
theorem walk_zipL {K : W.Frag} {F : Hp} {a b : Addr} {vs us : List V} {ds es : List Dv} (hs : SqL K F a vs) (ra : RpAll K F vs ds) (hs2 : SqL K F b us) (rb : RpAll K F us es) : WalkD K (Itz K a b) F (zipD ds es) where
  stop := fun Z F1 ow σ H ρ w i s R hn => ⟨vs, us, (s.trans R.sub).seq hs, (s.trans R.sub).seq hs2, by rw [ra.length, rb.length]; exact zip_none hn⟩
  item := fun Z F1 ow σ H ρ w i d s R hd => by
    rw [zipD_get] at hd
    cases e1 : ds[i]? with
    | none => rw [e1] at hd; cases hd
    | some x =>
      cases e2 : es[i]? with
      | none => rw [e1, e2] at hd; cases hd
      | some y =>
        rw [e1, e2] at hd; cases hd
        obtain ⟨v, hv, r⟩ := ra.get e1
        obtain ⟨u, hu, r'⟩ := rb.get e2
        refine ⟨⟨vs, us, v, u, (s.trans R.sub).seq hs, (s.trans R.sub).seq hs2, hv, hu⟩, fun z H' ⟨T, p, q, ez, nT, eH, y1, y2⟩ => ?_⟩
        subst ez eH
        have k1 := y1 vs ((s.trans R.sub).seq hs)
        have k2 := y2 us ((s.trans R.sub).seq hs2)
        rw [hv] at k1; cases k1
        rw [hu] at k2; cases k2
        exact new_pair R nT (r.mono s) (r'.mono s)
theorem walk_zipT {K : W.Frag} {F : Hp} {a b : Addr} {vs us : List V} {ds es : List Dv} (hs : SqT K F a vs) (ra : RpAll K F vs ds) (hs2 : SqT K F b us) (rb : RpAll K F us es) : WalkD K (RZ.ItzT K a b) F (zipD ds es) where
  stop := fun Z F1 ow σ H ρ w i s R hn => ⟨vs, us, sameT (s.trans R.sub) hs, sameT (s.trans R.sub) hs2, by rw [ra.length, rb.length]; exact zip_none hn⟩
  item := fun Z F1 ow σ H ρ w i d s R hd => by
    rw [zipD_get] at hd
    cases e1 : ds[i]? with
    | none => rw [e1] at hd; cases hd
    | some x =>
      cases e2 : es[i]? with
      | none => rw [e1, e2] at hd; cases hd
      | some y =>
        rw [e1, e2] at hd; cases hd
        obtain ⟨v, hv, r⟩ := ra.get e1
        obtain ⟨u, hu, r'⟩ := rb.get e2
        refine ⟨⟨vs, us, v, u, sameT (s.trans R.sub) hs, sameT (s.trans R.sub) hs2, hv, hu⟩, fun z H' ⟨T, p, q, ez, nT, eH, y1, y2⟩ => ?_⟩
        subst ez eH
        have k1 := y1 vs (sameT (s.trans R.sub) hs)
        have k2 := y2 us (sameT (s.trans R.sub) hs2)
        rw [hv] at k1; cases k1
        rw [hu] at k2; cases k2
        exact new_pair R nT (r.mono s) (r'.mono s)
theorem i_zip {p tpos : Pos} {elts : List Expr} {kk : Nat} (hm : X.mg "zip" = none) (ha : DE X Z E a ta fa) (hb : DE X Z E b tb fb) (hg : Gl X "zip" := by rfl) (hs1 : starEach (a :: [b]) X.env = (false, eval a X.env) :: starEach [b] X.env := by rfl) (hs2 : starEach (b :: []) X.env = (false, eval b X.env) :: starEach [] X.env := by rfl)
    (hpl : (backTo pos (starEach [b] X.env)).any (·.1) = false := by rfl) {K0 : W.Frag} (hK0 : X.K = K0 := by rfl) :
    DI X Z E (.Tuple elts kk tpos) (.Call (.Name "zip" p) [a, b] [] pos) (RZ.iZipA K0 (tCons ta (tCons tb tNil))) (fZip fa fb) := by subst hK0; exact ⟨RZ.pi_zipA hg hm (pa_cons ha.pe (pa_cons hb.pe pa_nil hs2) hs1) hs1 hpl, fun F ow σ H ρ w Q R q =>
  ha.sn.seq R q fun d w1 x H1 F1 ow1 s1 R1 r1 q1 => hb.sn.seq R1 q1 fun e w2 y H2 F2 ow2 s2 R2 r2 q2 => by
    cases d with
    | lst ds =>
      cases e with
      | lst es => cases r1 with
        | @lst a vs _ hs ra => cases r2 with
          | @lst b us _ hs' rb => exact ⟨a, b, vs, us, rfl, .inl ⟨(s2.trans R2.sub).seq (SqL.of hs), R2.sub.seq (SqL.of hs'), q2 _ H2 F2 ow2 (s1.trans s2) R2 (walk_zipL (s2.seq (SqL.of hs)) (ra.mono s2) (SqL.of hs') rb)⟩⟩
      | _ => exact q2.elim
    | tup ds =>
      cases e with
      | tup es => cases r1 with
        | @tup a vs _ hs ra => cases r2 with
          | @tup b us _ hs' rb => exact ⟨a, b, vs, us, rfl, .inr ⟨sameT (s2.trans R2.sub) hs, sameT R2.sub hs', q2 _ H2 F2 ow2 (s1.trans s2) R2 (walk_zipT (sameT s2 hs) (ra.mono s2) hs' rb)⟩⟩
      | _ => exact q2.elim
    | _ => exact q2.elim⟩
/-! reversed -/
def fRev (fa : Sx) : Sl := fun ρ w => (fa ρ w).bind fun d w1 => .of ((itemsOf d).map List.reverse) w1
theorem rev_get {α : Type} {xs : List α} {i : Nat} (h : i < xs.length) : xs.reverse[i]? = xs[xs.length - 1 - i]? := by rw [List.getElem?_reverse h]
theorem walk_revL {K : W.Frag} {F : Hp} {a : Addr} {vs : List V} {ds : List Dv} (hs : SqL K F a vs) (ra : RpAll K F vs ds) : WalkD K (Itv K a vs.length) F ds.reverse where
  stop := fun Z F1 ow σ H ρ w i s R hn => by
    have := List.getElem?_eq_none_iff.mp hn
    rw [List.length_reverse, ← ra.length] at this
    exact this
  item := fun Z F1 ow σ H ρ w i d s R hd => by
    have hl : i < ds.length := by have := (List.getElem?_eq_some_iff.mp hd).1; rwa [List.length_reverse] at this
    rw [rev_get hl, ← ra.length] at hd
    obtain ⟨v, hv, r⟩ := ra.get hd
    refine ⟨⟨by rw [ra.length]; exact hl, vs, v, (s.trans R.sub).seq hs, hv⟩, fun x H' ⟨e, y⟩ => ?_⟩
    subst e
    have := y vs ((s.trans R.sub).seq hs)
    rw [hv] at this; cases this
    exact ⟨F1, ow, Same.refl _, R, r.mono s⟩
theorem walk_revT {K : W.Frag} {F : Hp} {a : Addr} {vs : List V} {ds : List Dv} (hs : SqT K F a vs) (ra : RpAll K F vs ds) : WalkD K (RT.ItvT K a vs.length) F ds.reverse where
  stop := fun Z F1 ow σ H ρ w i s R hn => by
    have := List.getElem?_eq_none_iff.mp hn
    rw [List.length_reverse, ← ra.length] at this
    exact this
  item := fun Z F1 ow σ H ρ w i d s R hd => by
    have hl : i < ds.length := by have := (List.getElem?_eq_some_iff.mp hd).1; rwa [List.length_reverse] at this
    rw [rev_get hl, ← ra.length] at hd
    obtain ⟨v, hv, r⟩ := ra.get hd
    refine ⟨⟨by rw [ra.length]; exact hl, vs, v, sameT (s.trans R.sub) hs, hv⟩, fun x H' ⟨e, y⟩ => ?_⟩
    subst e
    have := y vs (sameT (s.trans R.sub) hs)
    rw [hv] at this; cases this
    exact ⟨F1, ow, Same.refl _, R, r.mono s⟩
theorem i_rev {tg : Expr} {p : Pos} (hm : X.mg "reversed" = none) (ha : DE X Z E a ta fa) (hg : Gl X "reversed" := by rfl) (hs : starEach [a] X.env = (false, eval a X.env) :: starEach [] X.env := by rfl) {K0 : W.Frag} (hK0 : X.K = K0 := by rfl) : DI X Z E tg (.Call (.Name "reversed" p) [a] [] pos) (RT.iRevA K0 ta) (fRev fa) := by subst hK0; exact ⟨RT.pi_revA hg hm ha.pe hs, fun F ow σ H ρ w Q R q =>
  ha.sn.seq R q fun d w1 x H1 F1 ow1 s1 R1 r1 q1 => by
    cases d with
    | lst ds => cases r1 with
      | @lst a vs _ hs ra => exact ⟨a, vs, rfl, .inl ⟨R1.sub.seq (SqL.of hs), q1 _ H1 F1 ow1 s1 R1 (walk_revL (SqL.of hs) ra)⟩⟩
    | tup ds => cases r1 with
      | @tup a vs _ hs ra => exact ⟨a, vs, rfl, .inr ⟨sameT R1.sub hs, q1 _ H1 F1 ow1 s1 R1 (walk_revT hs ra)⟩⟩
    | _ => exact q1.elim⟩
end
end DL

namespace DL
open PySem PySem.Spec PyProof.Rows L2

/-! ### isinstance -/
def tyN : Dv → Option String
  | .non => some "NoneType"
  | .bl _ => some "bool"
  | .int _ => some "int"
  | .str _ => some "str"
  | .tup _ => some "tuple"
  | .lst _ => some "list"
  | .dct _ => some "dict"
  | .obj _ => none
  | .scr _ => none
def tyNs : List String := ["NoneType", "bool", "int", "str", "tuple", "list", "dict"]
def isB (t n : String) : Bool := t == n || (t == "bool" && n == "int")
theorem kitB_all : ∀ t ∈ tyNs, ∀ n ∈ tyNs, kitB t n = some (isB t n) := by decide +kernel
theorem tyN_mem {d : Dv} {t : String} (h : tyN d = some t) : t ∈ tyNs := by
  cases d <;> cases h <;> decide
theorem tyX_of {K : W.Frag} {F H : Hp} {x : V} {d : Dv} {t : String} (sub : Same F H) (r : Rp K F x d) (h : tyN d = some t) : TyX K H x (.type t) := by
  cases r with
  | non => cases h; exact .base .non
  | bl b => cases h; exact .base (.bl b)
  | int b => cases h; exact .base (.int b)
  | str b => cases h; exact .base (.str b)
  | tup hs _ =>
    cases h
    rcases hs with (hs | ⟨o, hs⟩) | ⟨o, its, n, e, c, _⟩
    · exact .base (.tup (sub _ _ hs))
    · exact .fTuple (sub _ _ hs)
    · exact .kTuple e c
  | lst hs _ => cases h; exact .base (.lst (sub _ _ hs))
  | dct hs _ =>
    cases h
    rcases hs with hs | ⟨o, hs⟩
    · exact .base (.dK (sub _ _ hs))
    · exact .fDict (sub _ _ hs)
  | dctT hs _ => cases h; exact .base (.dT (sub _ _ hs))
  | obj v => cases h
  | scr hs => cases h
section
variable {X : Cx} {Z : Z0} {E : XK} {pos : Pos} {a b : Expr} {ta tb : TE} {fa fb : Sx}
def fIsi (ns : List String) (fa : Sx) : Sx := fun ρ w => (fa ρ w).bind fun d w1 => .of ((tyN d).map fun t => .bl (ns.any fun n => isB t n)) w1
theorem e_isi {p p2 : Pos} {T : Str} {T' : String} (hm : X.mg "isinstance" = none) (ha : DE X Z E a ta fa) (hmT : X.mg T = none) (hv : bootBuiltins T = some (.type T')) (hT : T' ∈ tyNs) (hg : Gl X "isinstance" := by rfl) (hgT : Gl X T := by rfl) (hn : T ≠ "__name__" := by decide) (hd : (T == ("__debug__" : Str)) = false := by decide)
    (hs1 : starEach (a :: [.Name T p2]) X.env = (false, eval a X.env) :: starEach [.Name T p2] X.env := by rfl) (hs2 : starEach (.Name T p2 :: []) X.env = (false, eval (.Name T p2) X.env) :: starEach [] X.env := by rfl) (hpl : (backTo pos (starEach [.Name T p2] X.env)).any (·.1) = false := by rfl) {K0 : W.Frag} (hK0 : X.K = K0 := by rfl) :
    DE X Z E (.Call (.Name "isinstance" p) [a, .Name T p2] [] pos) (tCB (rIsi K0) (tCons ta (tCons (tC (.ty T')) tNil))) (fIsi [T'] fa) := by subst hK0; exact 
  ⟨pe_callB call_isi hg hm boot_isinstance (pa_cons ha.pe (pa_cons (pe_bltn hgT hmT hv rfl hn hd) pa_nil hs2) hs1) (by decide) (by decide) hs1 hpl, fun F ow σ H ρ w Q R q => ha.sn.seq R q fun d w1 x H1 F1 ow1 s1 R1 r1 q1 => by
    cases e : tyN d with
    | none => rw [e] at q1; exact q1.elim
    | some t =>
      rw [e] at q1
      have q1 : QE X.K Z F σ Q ρ (.bl ([T'].any fun n => isB t n)) w1 := q1
      have e2 : ([T'].any fun n => isB t n) = isB t T' := by simp
      rw [e2] at q1
      exact ⟨x, .ty T', .type t, .type T', isB t T', rfl, .ty _, tyX_of R1.sub r1 e, kit_ty (kitB_all t (tyN_mem e) T' hT), q1 _ H1 F1 ow1 s1 R1 (.bl _)⟩⟩
theorem kitAny_ns {K : W.Frag} {t : String} (ht : t ∈ tyNs) : ∀ {ns : List String}, (∀ n ∈ ns, n ∈ tyNs) → W.kitAny K (.type t) (ns.map Value.type) = some (ns.any fun n => isB t n)
  | [], _ => kitAny_nil
  | n :: ns, h => by
    rw [List.map_cons, List.any_cons]
    refine kitAny_cons (kit_ty (kitB_all t ht n (h n List.mem_cons_self))) (fun e => ?_) fun e => by rw [e]; rfl
    rw [e, Bool.false_or]
    exact kitAny_ns ht fun m hm => h m (List.mem_cons_of_mem _ hm)
theorem clsV_ns : ∀ ns : List String, Paired ClsV (ns.map V.ty) (ns.map Value.type)
  | [] => .nil
  | n :: ns => .cons (.ty n) (clsV_ns ns)
/-- isinstance(x, (T1, T2, ..)) -/
theorem e_isiT {p p2 : Pos} {es : List Expr} {k : Nat} {ns : List String} {t : TA} (hm : X.mg "isinstance" = none) (ha : DE X Z E a ta fa) (ht : PA X es t) (st : ∀ σ H (Q : List V → Hp → Prop), Q (ns.map V.ty) H → t σ H Q) (hT : ∀ n ∈ ns, n ∈ tyNs) (hz : ns.length ≤ 100) (hg : Gl X "isinstance" := by rfl)
    (hs1 : starEach (a :: [.Tuple es k p2]) X.env = (false, eval a X.env) :: starEach [.Tuple es k p2] X.env := by rfl) (hs2 : starEach (.Tuple es k p2 :: []) X.env = (false, eval (.Tuple es k p2) X.env) :: starEach [] X.env := by rfl) (hpl : (backTo pos (starEach [.Tuple es k p2] X.env)).any (·.1) = false := by rfl) {K0 : W.Frag} (hK0 : X.K = K0 := by rfl) :
    DE X Z E (.Call (.Name "isinstance" p) [a, .Tuple es k p2] [] pos) (tCB (rIsiT K0) (tCons ta (tCons (tTup t) tNil))) (fIsi ns fa) := by subst hK0; exact 
  ⟨pe_callB call_isiT hg hm boot_isinstance (pa_cons ha.pe (pa_cons (pe_tup ht) pa_nil hs2) hs1) (by decide) (by decide) hs1 hpl, fun F ow σ H ρ w Q R q => ha.sn.seq R q fun d w1 x H1 F1 ow1 s1 R1 r1 q1 => by
    cases e : tyN d with
    | none => rw [e] at q1; exact q1.elim
    | some t =>
      rw [e] at q1
      refine st σ H1 _ ⟨by rw [List.length_map, sizeLine_big]; exact Nat.le_trans hz (by decide), fun tp np => ?_⟩
      have g := Gr.new R1.sub (.tup (ns.map V.ty)) np
      have R2 := R1.grow g
      exact ⟨x, tp, ns.map V.ty, .type t, ns.map Value.type, _, rfl, upd_same, clsV_ns ns, tyX_of R2.sub (r1.mono g.ff) e, kitAny_ns (tyN_mem e) hT, q1 _ _ _ ow1 (s1.trans g.ff) R2 (.bl _)⟩⟩
theorem at_nil : ∀ σ H (Q : List V → Hp → Prop), Q (([] : List String).map V.ty) H → tNil σ H Q := fun _ _ _ q => q
theorem at_cons {n : String} {ns : List String} {t : TA} (h : ∀ σ H (Q : List V → Hp → Prop), Q (ns.map V.ty) H → t σ H Q) : ∀ σ H (Q : List V → Hp → Prop), Q ((n :: ns).map V.ty) H → tCons (tC (.ty n)) t σ H Q := fun σ H Q q => h σ H _ q

/-! ### slices -/
def SndO (K : W.Frag) (Z : Z0) (E : XK) (t : TO) (f : List EV → DS → RR (Option Int)) : Prop := ∀ F ow σ H ρ w (C : Option Int → Hp → Prop), Rep K Z F ow σ H ρ w → Post K Z E σ ρ (fun o w' => ∀ H' F' ow', Same F F' → Rep K Z F' ow' σ H' ρ w' → C o H') (f ρ w) → t σ H C
structure DO (X : Cx) (Z : Z0) (E : XK) (e : Option Expr) (t : TO) (f : List EV → DS → RR (Option Int)) : Prop where
  po : PO X e t
  sn : SndO X.K Z E t f
def oNone : List EV → DS → RR (Option Int) := fun _ w => .ok none w
def oSome (fa : Sx) : List EV → DS → RR (Option Int) := fun ρ w => (fa ρ w).bind fun d w1 => match d with
  | .int i => .ok (some i) w1
  | _ => .stuck
theorem o_none : DO X Z E none tNoPart oNone := ⟨po_none, fun F ow σ H ρ w C R q => q H F ow (Same.refl _) R⟩
theorem o_some (ha : DE X Z E a ta fa) : DO X Z E (some a) (tPart ta) (oSome fa) := ⟨po_some ha.pe, fun F ow σ H ρ w C R q => ha.sn.seq R q fun d w1 x H1 F1 ow1 s1 R1 r1 q1 => by
  cases d with
  | int i => cases r1; exact ⟨i, rfl, q1 H1 F1 ow1 s1 R1⟩
  | _ => exact q1.elim⟩
def cutD (xs : List Dv) (lo hi : Option Int) : List Dv := (xs.drop (HT.sIx xs.length 0 lo)).take (HT.sIx xs.length xs.length hi - HT.sIx xs.length 0 lo)
theorem cut_rp {K : W.Frag} {F : Hp} {xs : List V} {ds : List Dv} (r : RpAll K F xs ds) (lo hi : Option Int) : RpAll K F (cutV xs lo hi) (cutD ds lo hi) := by
  unfold cutV cutD
  rw [r.length]
  exact (r.drop _).take _
theorem cutD_whole {ds : List Dv} {lo hi : Option Int} (h : HT.sIx ds.length 0 lo = 0 ∧ HT.sIx ds.length ds.length hi = ds.length) : cutD ds lo hi = ds := by
  unfold cutD
  rw [h.1, h.2]; simp
def dSl (lo hi : Option Int) : Dv → Option Dv
  | .lst ds => some (.lst (cutD ds lo hi))
  | .tup ds => some (.tup (cutD ds lo hi))
  | _ => none
def fSl (fa : Sx) (fl fh : List EV → DS → RR (Option Int)) : Sx := fun ρ w => (fa ρ w).bind fun d w1 => (fl ρ w1).bind fun lo w2 => (fh ρ w2).bind fun hi w3 => .of (dSl lo hi d) w3
theorem SndO.seq {K : W.Frag} {F : Hp} {ow : Addr → Option Nat} {σ : L2.St} {H : Hp} {ρ : List EV} {w : DS} {t : TO} {f : List EV → DS → RR (Option Int)} {C : Option Int → Hp → Prop} {α : Type} {P : α → DS → Prop} {k : Option Int → DS → RR α} (h : SndO K Z E t f) (R : Rep K Z F ow σ H ρ w) (hp : Post K Z E σ ρ P ((f ρ w).bind k))
    (c : ∀ o w' H' F' ow', Same F F' → Rep K Z F' ow' σ H' ρ w' → Post K Z E σ ρ P (k o w') → C o H') : t σ H C := by
  refine h F ow σ H ρ w C R ?_
  cases e : f ρ w with
  | ok d w' => rw [e] at hp; exact fun H' F' ow' s R' => c d w' H' F' ow' s R' hp
  | rz y w' => rw [e] at hp; exact hp
  | stuck => rw [e] at hp; exact hp
theorem e_sl {lo hi : Option Expr} {p2 : Pos} {tl th : TO} {fl fh : List EV → DS → RR (Option Int)} (ha : DE X Z E a ta fa) (hl : DO X Z E lo tl fl) (hh : DO X Z E hi th fh) {K0 : W.Frag} (hK0 : X.K = K0 := by rfl) : DE X Z E (.Subscript a (.Slice lo hi none p2) pos) (tSl (fun x lo hi H Q => rSlL K0 x lo hi H Q ∨ rSlA K0 x lo hi H Q) ta tl th) (fSl fa fl fh) := by subst hK0; exact 
  ⟨pe_slice (SlR.or sl_list sl_tupA) ha.pe hl.po hh.po, fun F ow σ H ρ w Q R q => ha.sn.seq R q fun d w1 x H1 F1 ow1 s1 R1 r1 q1 => hl.sn.seq R1 q1 fun l w2 H2 F2 ow2 s2 R2 q2 => hh.sn.seq R2 q2 fun u w3 H3 F3 ow3 s3 R3 q3 => by
    have r3 := r1.mono (s2.trans s3)
    have s := (s1.trans s2).trans s3
    cases d with
    | lst ds =>
      cases r3 with
      | @lst a vs _ hs ra =>
        refine .inl ⟨a, vs, rfl, R3.sub.seq (SqL.of hs), fun p np => ?_⟩
        have g := Gr.new R3.sub (.lst (cutV vs l u)) np
        exact q3 _ _ _ ow3 (s.trans g.ff) (R3.grow g) (.lst upd_same ((cut_rp ra l u).mono g.ff))
    | tup ds =>
      cases r3 with
      | @tup a vs _ hs ra =>
        refine .inr ⟨a, vs, rfl, sameT R3.sub hs, fun hw => ?_, fun hw p np => ?_⟩
        · rw [ra.length] at hw
          have e := cutD_whole hw
          have q3 : QE X.K Z F σ Q ρ (.tup (cutD ds l u)) w3 := q3
          rw [e] at q3
          exact q3 _ H3 F3 ow3 s R3 (.tup hs ra)
        · have g := Gr.new R3.sub (.tup (cutV vs l u)) np
          exact q3 _ _ _ ow3 (s.trans g.ff) (R3.grow g) (.tup (.of upd_same) ((cut_rp ra l u).mono g.ff))
    | _ => exact q3.elim⟩
def dRevL : Dv → Option Dv
  | .lst ds => some (.lst ds.reverse)
  | _ => none
theorem e_revL {k : Nat} {p1 p2 p3 : Pos} (ha : DE X Z E a ta fa) {K0 : W.Frag} (hK0 : X.K = K0 := by rfl) : DE X Z E (.Subscript a (.Slice none none (some (.UnaryOp .USub (.Constant (.int 1) k p1) p2)) p3) pos) (tRevL K0 ta) (fUn dRevL fa) := by subst hK0; exact ⟨pe_revL ha.pe, fun F ow σ H ρ w Q R q => ha.sn.seq R q fun d w1 x H1 F1 ow1 s1 R1 r1 q1 => by
  cases d with
  | lst ds =>
    cases r1 with
    | @lst a vs _ hs ra =>
      refine ⟨a, vs, rfl, R1.sub.seq (SqL.of hs), fun p np => ?_⟩
      have g := Gr.new R1.sub (.lst vs.reverse) np
      exact q1 _ _ _ ow1 (s1.trans g.ff) (R1.grow g) (.lst upd_same (ra.reverse.mono g.ff))
  | _ => exact q1.elim⟩
/-! list * int, list + list: new lists -/
def okRp (k : Int) (n : Nat) : Prop := -(2 ^ 63) ≤ k ∧ k < 2 ^ 63 ∧ n * k.toNat ≤ big
noncomputable instance (k : Int) (n : Nat) : Decidable (okRp k n) := Classical.propDecidable _
noncomputable def fRep (fa : Sl) (fb : Sx) : Sl := fun ρ w => (fa ρ w).bind fun ds w1 => (fb ρ w1).bind fun e w2 => match e with
  | .int k => if okRp k ds.length then .ok (List.replicate k.toNat ds).flatten w2 else .stuck
  | _ => .stuck
theorem flat_rep {K : W.Frag} {F : Hp} {vs : List V} {ds : List Dv} (r : RpAll K F vs ds) : ∀ n : Nat, RpAll K F (List.replicate n vs).flatten (List.replicate n ds).flatten
  | 0 => .nil
  | n + 1 => by rw [List.replicate_succ, List.replicate_succ, List.flatten_cons, List.flatten_cons]; exact r.append (flat_rep r n)
theorem n_rep {fl : Sl} (ha : DN X Z E a ta fl) (hb : DE X Z E b tb fb) : DN X Z E (.BinOp a .Mult b pos) (tOp rRep ta tb) (fRep fl fb) := ⟨pe_op op_rep ha.pe hb.pe, fun F ow σ H ρ w Q R q =>
  ha.sn.seq R q fun ds w1 p vs H1 F1 ow1 s1 R1 h1 h2 h3 h4 r q1 => by
    have ef : Same F1 (upd F1 p (.lst vs)) := same_upd h3
    refine hb.sn.seq (freezeRep R1 h1 h2 h3 h4) q1 fun e w2 y H2 F2 ow2 s2 R2 r2 q2 => ?_
    have hp : H2 p = some (.lst vs) := R2.sub _ _ (s2 _ _ upd_same)
    cases e with
    | int k =>
      cases r2
      have q2 : Post X.K Z E σ ρ (QN X.K Z F σ Q ρ) (if okRp k ds.length then .ok (List.replicate k.toNat ds).flatten w2 else .stuck) := q2
      split at q2
      · rename_i hk
        refine ⟨p, k, vs, rfl, rfl, hp, hk.1, hk.2.1, by rw [r.length, sizeLine_big]; exact hk.2.2, fun l nl => ?_⟩
        obtain ⟨g1, g2, g3⟩ := R2.fresh nl
        exact q2 l _ _ F2 ow2 ((s1.trans ef).trans s2) (R2.grow (Gr.apart R2.sub _ nl)) upd_same g1 g2 g3 (flat_rep (r.mono (ef.trans s2)) _)
      · exact q2.elim
    | _ => exact q2.elim⟩
def fCat (fa fb : Sl) : Sl := fun ρ w => (fa ρ w).bind fun ds w1 => (fb ρ w1).bind fun es w2 => if ds.length + es.length ≤ big then .ok (ds ++ es) w2 else .stuck
theorem n_cat {fl fm : Sl} (ha : DN X Z E a ta fl) (hb : DN X Z E b tb fm) : DN X Z E (.BinOp a .Add b pos) (tOp rCat ta tb) (fCat fl fm) := ⟨pe_op op_cat ha.pe hb.pe, fun F ow σ H ρ w Q R q =>
  ha.sn.seq R q fun ds w1 p vs H1 F1 ow1 s1 R1 h1 h2 h3 h4 r q1 => by
    have ef : Same F1 (upd F1 p (.lst vs)) := same_upd h3
    refine hb.sn.seq (freezeRep R1 h1 h2 h3 h4) q1 fun es w2 p2 us H2 F2 ow2 s2 R2 k1 k2 k3 k4 r2 q2 => ?_
    have hp : H2 p = some (.lst vs) := R2.sub _ _ (s2 _ _ upd_same)
    have q2 : Post X.K Z E σ ρ (QN X.K Z F σ Q ρ) (if ds.length + es.length ≤ big then .ok (ds ++ es) w2 else .stuck) := q2
    split at q2
    · rename_i hk
      refine ⟨p, p2, vs, us, rfl, rfl, hp, k1, by rw [r.length, r2.length, sizeLine_big]; exact hk, fun l nl => ?_⟩
      obtain ⟨g1, g2, g3⟩ := R2.fresh nl
      exact q2 l _ _ F2 ow2 ((s1.trans ef).trans s2) (R2.grow (Gr.apart R2.sub _ nl)) upd_same g1 g2 g3 ((r.mono (ef.trans s2)).append r2)
    · exact q2.elim⟩
/-- an old list, or a slice, as the left or right of a sum: copied by its own rule -/
def fOld (fa : Sx) : Sl := fun ρ w => (fa ρ w).bind fun d w1 => match d with
  | .lst ds => .ok ds w1
  | _ => .stuck

/-! ### owned objects: lending, freezing -/
def immKv : List (Dv × Dv) → Bool
  | [] => true
  | (_, d) :: r => imm d && immKv r
section
variable {K : W.Frag} {F F' : Hp}
mutual
theorem imm_rp (k : ∀ a xs, SqT K F a xs → SqT K F' a xs) : ∀ {v : V} {d : Dv}, Rp K F v d → imm d = true → Rp K F' v d
  | _, _, .non, _ => .non
  | _, _, .bl b, _ => .bl b
  | _, _, .int b, _ => .int b
  | _, _, .str b, _ => .str b
  | _, _, .tup h r, c => .tup (k _ _ h) (immAll_rp k r (by simpa [imm] using c))
  | _, _, .lst _ _, c => by simp [imm] at c
  | _, _, .dct _ _, c => by simp [imm] at c
  | _, _, .dctT _ _, c => by simp [imm] at c
  | _, _, .obj v, _ => .obj v
  | _, _, .scr _, c => by simp [imm] at c
theorem immAll_rp (k : ∀ a xs, SqT K F a xs → SqT K F' a xs) : ∀ {v : List V} {d : List Dv}, RpAll K F v d → immAll d = true → RpAll K F' v d
  | _, _, .nil, _ => .nil
  | v :: vs, d :: ds, .cons h r, c => by
    have c' : imm d = true ∧ immAll ds = true := by simpa [immAll] using c
    exact .cons (imm_rp k h c'.1) (immAll_rp k r c'.2)
end
theorem immKv_rp (k : ∀ a xs, SqT K F a xs → SqT K F' a xs) : ∀ {v : List (Key × V)} {d : List (Dv × Dv)}, RpKv K F v d → immKv d = true → RpKv K F' v d
  | _, _, .nil, _ => .nil
  | _, (_, d) :: ds, .cons h r, c => by
    have c' : imm d = true ∧ immKv ds = true := by simpa [immKv] using c
    exact .cons (imm_rp k h c'.1) (immKv_rp k r c'.2)
theorem immKvT_rp (k : ∀ a xs, SqT K F a xs → SqT K F' a xs) : ∀ {v : List (List Key × V)} {d : List (Dv × Dv)}, RpKvT K F v d → immKv d = true → RpKvT K F' v d
  | _, _, .nil, _ => .nil
  | _, (_, d) :: ds, .cons h r, c => by
    have c' : imm d = true ∧ immKv ds = true := by simpa [immKv] using c
    exact .cons (imm_rp k h c'.1) (immKvT_rp k r c'.2)
end
def immEV : EV → Bool
  | .lst ds => immAll ds
  | .dct ds => immKv ds
  | .dctT ds => immKv ds
  | _ => true
def okLend (ρ : List EV) (i : Nat) : Bool := (ρ.set i .un).all immEV
theorem okLend_at {ρ : List EV} {i j : Nat} {e : EV} (h : okLend ρ i = true) (hj : i ≠ j) (he : ρ[j]? = some e) : immEV e = true :=
  List.all_eq_true.mp h e (List.mem_of_getElem? (by rw [List.getElem?_set_ne hj]; exact he))
/-- what an owned slot is as data -/
def lent : EV → Option Dv
  | .lst ds => some (.lst ds)
  | .dct ds => some (.dct ds)
  | .dctT ds => some (.dct ds)
  | _ => none
theorem Rep.freeze {K : W.Frag} {F : Hp} {ow : Addr → Option Nat} {σ : L2.St} {H : Hp} {ρ : List EV} {w : DS} {i : Nat} {e : EV} {d : Dv} (R : Rep K Z F ow σ H ρ w) (he : ρ[i]? = some e) (hd : lent e = some d) :
    ∃ a u, H a = some u ∧ ow a = some (i + 1) ∧ Z.H a = none ∧ F a = none ∧ (∀ xs, u ≠ .tup xs) ∧ (∀ o x, u ≠ .frz o x) ∧ σ[i]? = some (some (.ref a)) ∧ Rep K Z (upd F a u) (fun b => if b = a then none else ow b) σ H (ρ.set i (.dat d)) w := by
  have main : ∀ a u, H a = some u → ow a = some (i + 1) → Z.H a = none → F a = none → σ[i]? = some (some (.ref a)) → (∃ v, σ[i]? = some (some v) ∧ Rp K (upd F a u) v d) → Rep K Z (upd F a u) (fun b => if b = a then none else ow b) σ H (ρ.set i (.dat d)) w := fun a u h1 h2 h3 h4 h5 h6 =>
    have ef : Same F (upd F a u) := same_upd h4
    have hi : i < ρ.length := (List.getElem?_eq_some_iff.mp he).1
    have nz : ∀ b j, ow b = some j → j ≠ i + 1 → (if b = a then none else ow b) = some j := fun b j hb n => by
      rw [if_neg (fun z => by rw [z, h2] at hb; cases hb; exact n rfl)]; exact hb
    { sub := fun b x eb => by
        by_cases z : b = a
        · subst z; rw [upd_same] at eb; cases eb; exact h1
        · rw [upd_ne z] at eb; exact R.sub _ _ eb
      keepF := R.keepF.trans ef
      newF := fun b x eb => by
        by_cases z : b = a
        · subst z; exact .inr h3
        · rw [upd_ne z] at eb; exact R.newF _ _ eb
      keep := fun b o e z => by
        obtain ⟨k1, k2⟩ := R.keep b o e z
        refine ⟨k1, ?_⟩
        show (if b = a then none else ow b) = none
        split
        · rfl
        · exact k2
      fzo := fun b x eb => by
        show (if b = a then none else ow b) = none
        by_cases z : b = a
        · rw [if_pos z]
        · rw [upd_ne z] at eb; rw [if_neg z]; exact R.fzo _ _ eb
      owh := fun b j e => by
        have e : (if b = a then none else ow b) = some j := e
        split at e
        · cases e
        · exact R.owh b j e
      len := by rw [List.length_set]; exact R.len
      slots := fun j e' h => by
        by_cases hj : i = j
        · subst hj
          rw [List.getElem?_set_self hi] at h
          cases h; exact h6
        · rw [List.getElem?_set_ne hj] at h
          have h' := (R.slots j e' h).grow e' ef fun _ _ _ q => q
          have nj : j + 1 ≠ i + 1 := by omega
          cases e' with
          | un => trivial
          | dat d => exact h'
          | lst ds => obtain ⟨b, vs, e, g1, g2, g3, r⟩ := h'; exact ⟨b, vs, e, g1, nz b _ g2 nj, g3, r⟩
          | dct ds => obtain ⟨b, vs, e, g1, g2, g3, r⟩ := h'; exact ⟨b, vs, e, g1, nz b _ g2 nj, g3, r⟩
          | dctT ds => obtain ⟨b, vs, e, g1, g2, g3, r⟩ := h'; exact ⟨b, vs, e, g1, nz b _ g2 nj, g3, r⟩
          | drw => exact h'
      dr := fun x g c e => by
        obtain ⟨h, o1, o2, o3⟩ := R.dr x g c e
        exact ⟨h, nz _ _ o1 (by omega), nz _ _ o2 (by omega), nz _ _ o3 (by omega)⟩ }
  have fn : ∀ a, ow a = some (i + 1) → F a = none := fun a h => by
    cases q : F a with
    | none => rfl
    | some u => have := R.fzo a u q; rw [this] at h; cases h
  have hs := R.slots i e he
  cases e with
  | lst ds =>
    cases hd
    obtain ⟨a, vs, e, g1, g2, g3, r⟩ := hs
    exact ⟨a, _, g1, g2, g3, fn a g2, (fun _ z => by cases z), (fun _ _ z => by cases z), e, main a _ g1 g2 g3 (fn a g2) e ⟨_, e, .lst upd_same (r.mono (same_upd (fn a g2)))⟩⟩
  | dct ds =>
    cases hd
    obtain ⟨a, vs, e, g1, g2, g3, r⟩ := hs
    exact ⟨a, _, g1, g2, g3, fn a g2, (fun _ z => by cases z), (fun _ _ z => by cases z), e, main a _ g1 g2 g3 (fn a g2) e ⟨_, e, .dct (.inl upd_same) (r.mono (same_upd (fn a g2)))⟩⟩
  | dctT ds =>
    cases hd
    obtain ⟨a, vs, e, g1, g2, g3, r⟩ := hs
    exact ⟨a, _, g1, g2, g3, fn a g2, (fun _ z => by cases z), (fun _ _ z => by cases z), e, main a _ g1 g2 g3 (fn a g2) e ⟨_, e, .dctT upd_same (r.mono (same_upd (fn a g2)))⟩⟩
  | _ => cases hd
def delF (F : Hp) (a : Addr) : Hp := fun b => if b = a then none else F b
/-- back from lending -/
theorem Rep.thaw {K : W.Frag} {F F' : Hp} {ow ow' : Addr → Option Nat} {σ : L2.St} {H H' : Hp} {ρ : List EV} {w w' : DS} {i : Nat} {e : EV} {d : Dv} {a : Addr} {u : HO} (R : Rep K Z F ow σ H ρ w) (he : ρ[i]? = some e) (hd : lent e = some d) (h1 : H a = some u) (h3 : Z.H a = none) (h4 : F a = none)
    (h5 : σ[i]? = some (some (.ref a))) (R' : Rep K Z F' ow' σ H' (ρ.set i (.dat d)) w') (s : Same (upd F a u) F') (nt : ∀ xs, u ≠ .tup xs) (nf : ∀ o x, u ≠ .frz o x) (ok : okLend ρ i = true) :
    Rep K Z (delF F' a) (fun b => if b = a then some (i + 1) else ow' b) σ H' ρ w' ∧ Same F (delF F' a) ∧ ∀ b xs, SqT K F' b xs → SqT K (delF F' a) b xs := by
  have hu : F' a = some u := s _ _ upd_same
  have ha : ow' a = none := R'.fzo a u hu
  have ef : Same F (delF F' a) := fun b x eb => by
    have nb : b ≠ a := fun z => by rw [z, h4] at eb; cases eb
    show (if b = a then none else F' b) = some x
    rw [if_neg nb]
    exact s _ _ (by rw [upd_ne nb]; exact eb)
  have dl : ∀ b x, delF F' a b = some x → b ≠ a ∧ F' b = some x := fun b x eb => by
    have eb : (if b = a then none else F' b) = some x := eb
    split at eb
    · cases eb
    · rename_i z; exact ⟨z, eb⟩
  have hi : i < ρ.length := (List.getElem?_eq_some_iff.mp he).1
  have no : ∀ b j, ow' b = some j → (if b = a then some (i + 1) else ow' b) = some j := fun b j hb => by
    rw [if_neg (fun z => by rw [z, ha] at hb; cases hb)]; exact hb
  have kt : ∀ b xs, SqT K F' b xs → SqT K (delF F' a) b xs := fun b xs h => by
    have keep : ∀ x, F' b = some x → (∀ xs, x ≠ .tup xs) ∧ (∀ o y, x ≠ .frz o y) ∨ delF F' a b = some x := fun x e => by
      by_cases z : b = a
      · rw [z, hu] at e; cases e; exact .inl ⟨nt, nf⟩
      · right; show (if b = a then none else F' b) = some x; rw [if_neg z]; exact e
    rcases h with (h | ⟨o, h⟩) | h
    · rcases keep _ h with z | z
      · exact (z.1 _ rfl).elim
      · exact .inl (.inl z)
    · rcases keep _ h with z | z
      · exact (z.2 _ _ rfl).elim
      · exact .inl (.inr ⟨o, z⟩)
    · exact .inr h
  refine ⟨{
    sub := fun b x eb => R'.sub b x (dl b x eb).2
    keepF := R.keepF.trans ef
    newF := fun b x eb => R'.newF b x (dl b x eb).2
    keep := fun b o e z => by
      obtain ⟨k1, k2⟩ := R'.keep b o e z
      refine ⟨k1, ?_⟩
      show (if b = a then some (i + 1) else ow' b) = none
      rw [if_neg (fun z => by rw [z, h3] at e; cases e)]; exact k2
    fzo := fun b x eb => by
      show (if b = a then some (i + 1) else ow' b) = none
      rw [if_neg (dl b x eb).1]
      exact R'.fzo b x (dl b x eb).2
    owh := fun b j e => by
      by_cases z : b = a
      · exact ⟨u, by rw [z]; exact R'.sub _ _ hu⟩
      · rw [if_neg z] at e; exact R'.owh b j e
    len := R.len
    slots := fun j e' h => by
      by_cases hj : i = j
      · subst hj
        have hs := R.slots i e' h
        rw [he] at h
        cases h
        cases e with
        | lst ds =>
          obtain ⟨b, vs, e, g1, g2, g3, r⟩ := hs
          rw [h5] at e; cases e
          rw [h1] at g1; cases g1
          exact ⟨_, vs, h5, R'.sub _ _ hu, if_pos rfl, g3, r.mono ef⟩
        | dct ds =>
          obtain ⟨b, vs, e, g1, g2, g3, r⟩ := hs
          rw [h5] at e; cases e
          rw [h1] at g1; cases g1
          exact ⟨_, vs, h5, R'.sub _ _ hu, if_pos rfl, g3, r.mono ef⟩
        | dctT ds =>
          obtain ⟨b, vs, e, g1, g2, g3, r⟩ := hs
          rw [h5] at e; cases e
          rw [h1] at g1; cases g1
          exact ⟨_, vs, h5, R'.sub _ _ hu, if_pos rfl, g3, r.mono ef⟩
        | _ => cases hd
      · have hs := R.slots j e' h
        have hs' := R'.slots j e' (by rw [List.getElem?_set_ne hj]; exact h)
        cases e' with
        | un => trivial
        | dat d => obtain ⟨v, e, r⟩ := hs; exact ⟨v, e, r.mono ef⟩
        | lst ds =>
          obtain ⟨b, vs, e, g1, g2, g3, r⟩ := hs'
          exact ⟨b, vs, e, g1, no _ _ g2, g3, immAll_rp kt r (okLend_at ok hj h)⟩
        | dct ds =>
          obtain ⟨b, vs, e, g1, g2, g3, r⟩ := hs'
          exact ⟨b, vs, e, g1, no _ _ g2, g3, immKv_rp kt r (okLend_at ok hj h)⟩
        | dctT ds =>
          obtain ⟨b, vs, e, g1, g2, g3, r⟩ := hs'
          exact ⟨b, vs, e, g1, no _ _ g2, g3, immKvT_rp kt r (okLend_at ok hj h)⟩
        | drw => exact hs
    dr := fun x g c e => by
      obtain ⟨h, o1, o2, o3⟩ := R'.dr x g c e
      exact ⟨h, no _ _ o1, no _ _ o2, no _ _ o3⟩ }, ef, kt⟩
/-- an expression that reads the owned object of a slot -/
def lendE (i : Nat) (f : Sx) : Sx := fun ρ w => match (ρ[i]?).bind lent with
  | some d => if okLend ρ i = true then (match f (ρ.set i (.dat d)) w with
    | .ok z w1 => if imm z = true then .ok z w1 else .stuck
    | _ => .stuck) else .stuck
  | none => .stuck
def lendT (i : Nat) (f : Sb) : Sb := fun ρ w => match (ρ[i]?).bind lent with
  | some d => if okLend ρ i = true then (match f (ρ.set i (.dat d)) w with
    | .ok z w1 => .ok z w1
    | _ => .stuck) else .stuck
  | none => .stuck
def lendN (i : Nat) (f : Sl) : Sl := fun ρ w => match (ρ[i]?).bind lent with
  | some d => if okLend ρ i = true then (match f (ρ.set i (.dat d)) w with
    | .ok z w1 => if immAll z = true then .ok z w1 else .stuck
    | _ => .stuck) else .stuck
  | none => .stuck
theorem lent_some {ρ : List EV} {i : Nat} {d : Dv} (h : (ρ[i]?).bind lent = some d) : ∃ e, ρ[i]? = some e ∧ lent e = some d := by
  cases q : ρ[i]? with
  | none => rw [q] at h; cases h
  | some e => rw [q] at h; exact ⟨e, rfl, h⟩
theorem s_lendE {K : W.Frag} {t : TE} {f : Sx} (i : Nat) (h : Snd K Z E t f) : Snd K Z E t (lendE i f) := fun F ow σ H ρ w Q R q => by
  unfold lendE at q
  cases ed : (ρ[i]?).bind lent with
  | none => rw [ed] at q; exact q.elim
  | some d =>
    rw [ed] at q
    dsimp only at q
    split at q
    case isFalse => exact q.elim
    rename_i ok
    obtain ⟨e, he, hd⟩ := lent_some ed
    obtain ⟨a, u, h1, h2, h3, h4, nt, nf, h5, R1⟩ := R.freeze he hd
    refine h _ _ σ H _ w Q R1 ?_
    cases ef : f (ρ.set i (.dat d)) w with
    | stuck => rw [ef] at q; exact q.elim
    | rz x w1 => rw [ef] at q; exact q.elim
    | ok z w1 =>
      rw [ef] at q
      have q : Post K Z E σ ρ (QE K Z F σ Q ρ) (if imm z = true then .ok z w1 else .stuck) := q
      split at q
      · rename_i hz
        intro v H' F' ow' s R' r
        obtain ⟨R2, sf, kt⟩ := Rep.thaw R he hd h1 h3 h4 h5 R' s nt nf ok
        exact q v H' _ _ sf R2 (imm_rp kt r hz)
      · exact q.elim
theorem s_lendT {K : W.Frag} {t : TT} {f : Sb} (i : Nat) (h : SndT K Z E t f) : SndT K Z E t (lendT i f) := fun F ow σ H ρ w Q R q => by
  unfold lendT at q
  cases ed : (ρ[i]?).bind lent with
  | none => rw [ed] at q; exact q.elim
  | some d =>
    rw [ed] at q
    dsimp only at q
    split at q
    case isFalse => exact q.elim
    rename_i ok
    obtain ⟨e, he, hd⟩ := lent_some ed
    obtain ⟨a, u, h1, h2, h3, h4, nt, nf, h5, R1⟩ := R.freeze he hd
    refine h _ _ σ H _ w Q R1 ?_
    cases ef : f (ρ.set i (.dat d)) w with
    | stuck => rw [ef] at q; exact q.elim
    | rz x w1 => rw [ef] at q; exact q.elim
    | ok z w1 =>
      rw [ef] at q
      intro H' F' ow' s R'
      obtain ⟨R2, sf, kt⟩ := Rep.thaw R he hd h1 h3 h4 h5 R' s nt nf ok
      exact q H' _ _ sf R2
theorem s_lendN {K : W.Frag} {t : TE} {f : Sl} (i : Nat) (h : SndN K Z E t f) : SndN K Z E t (lendN i f) := fun F ow σ H ρ w Q R q => by
  unfold lendN at q
  cases ed : (ρ[i]?).bind lent with
  | none => rw [ed] at q; exact q.elim
  | some d =>
    rw [ed] at q
    dsimp only at q
    split at q
    case isFalse => exact q.elim
    rename_i ok
    obtain ⟨e, he, hd⟩ := lent_some ed
    obtain ⟨a, u, h1, h2, h3, h4, nt, nf, h5, R1⟩ := R.freeze he hd
    refine h _ _ σ H _ w Q R1 ?_
    cases ef : f (ρ.set i (.dat d)) w with
    | stuck => rw [ef] at q; exact q.elim
    | rz x w1 => rw [ef] at q; exact q.elim
    | ok z w1 =>
      rw [ef] at q
      have q : Post K Z E σ ρ (QN K Z F σ Q ρ) (if immAll z = true then .ok z w1 else .stuck) := q
      split at q
      · rename_i hz
        intro p vs H' F' ow' s R' hp hw hf hzp r
        obtain ⟨R2, sf, kt⟩ := Rep.thaw R he hd h1 h3 h4 h5 R' s nt nf ok
        have pa : p ≠ a := fun z => by
          have := s a u upd_same
          rw [← z, hf] at this; cases this
        exact q p vs H' _ _ sf R2 hp (by show (if p = a then some (i + 1) else ow' p) = none; rw [if_neg pa]; exact hw) (by show (if p = a then none else F' p) = none; rw [if_neg pa]; exact hf) hzp (immAll_rp kt r hz)
      · exact q.elim
theorem e_lend {e : Expr} {t : TE} {f : Sx} (i : Nat) (h : DE X Z E e t f) : DE X Z E e t (lendE i f) := ⟨h.pe, s_lendE i h.sn⟩
theorem t_lend {e : Expr} {t : TT} {f : Sb} (i : Nat) (h : DT X Z E e t f) : DT X Z E e t (lendT i f) := ⟨h.pt, s_lendT i h.sn⟩
theorem n_lend {e : Expr} {t : TE} {f : Sl} (i : Nat) (h : DN X Z E e t f) : DN X Z E e t (lendN i f) := ⟨h.pe, s_lendN i h.sn⟩
/-- a statement ahead of which the owned object of a slot is frozen for good -/
def gFrz (i : Nat) (g : Ss) : Ss := fun ρ w => match (ρ[i]?).bind lent with
  | some d => g (ρ.set i (.dat d)) w
  | none => .stuck
theorem s_frz {K : W.Frag} {t : TS} {g : Ss} (i : Nat) (h : SndS K Z E t g) : SndS K Z E t (gFrz i g) := fun F ow σ H ρ w D R q => by
  unfold gFrz at q
  cases ed : (ρ[i]?).bind lent with
  | none => rw [ed] at q; exact q.elim
  | some d =>
    rw [ed] at q
    obtain ⟨e, he, hd⟩ := lent_some ed
    obtain ⟨a, u, h1, h2, h3, h4, nt, nf, h5, R1⟩ := R.freeze he hd
    exact h _ _ σ H _ w D R1 (PostS.up (same_upd h4) q)
theorem d_frz {st : Stmt} {t : TS} {g : Ss} (i : Nat) (h : DSt X Z E st t g) : DSt X Z E st t (gFrz i g) := ⟨h.ps, s_frz i h.sn⟩
theorem b_frz {sts : List Stmt} {t : TS} {g : Ss} (i : Nat) (h : DB X Z E sts t g) : DB X Z E sts t (gFrz i g) := ⟨h.ps, s_frz i h.sn⟩
end
end DL

namespace DL
open PySem PySem.Spec PyProof.Rows L2

/-! ### expressions that change the owned lists -/
abbrev Sf := List EV → DS → RR (Dv × List EV)
def PostF (K : W.Frag) (Z : Z0) (E : XK) (F : Hp) (σ : L2.St) (Q : VK) : RR (Dv × List EV) → Prop
  | .ok (d, ρ') w => ∀ v H' F' ow', Same F F' → Rep K Z F' ow' σ H' ρ' w → Rp K F' v d → Q v H'
  | .rz x w => ∀ cls dx H F ow ρ, Rep K Z F ow σ H ρ w → XR K F H x cls dx → E cls dx H
  | .stuck => False
def SndF (K : W.Frag) (Z : Z0) (E : XK) (t : TE) (f : Sf) : Prop := ∀ F ow σ H ρ w Q, Rep K Z F ow σ H ρ w → PostF K Z E F σ Q (f ρ w) → t σ H Q
structure DF (X : Cx) (Z : Z0) (E : XK) (e : Expr) (t : TE) (f : Sf) : Prop where
  pe : PE X e t
  sn : SndF X.K Z E t f
def fPure (f : Sx) : Sf := fun ρ w => (f ρ w).bind fun d w1 => .ok (d, ρ) w1
section
variable {K : W.Frag} {X : Cx} {Z : Z0} {E : XK} {F : Hp} {ow : Addr → Option Nat} {σ : L2.St} {H : Hp} {ρ : List EV} {w : DS} {pos : Pos} {e a b : Expr} {te ta tb : TE} {f fa fb : Sx} {ff : Sf}
theorem PostF.up {F1 : Hp} {Q : VK} {r : RR (Dv × List EV)} (s : Same F F1) (h : PostF K Z E F σ Q r) : PostF K Z E F1 σ Q r := by
  cases r with
  | stuck => exact h
  | rz x w => exact h
  | ok p w => exact fun v H' F' ow' s' => h v H' F' ow' (s.trans s')
/-- an expression, then what hangs on it -/
theorem Snd.seqF {t : TE} {f : Sx} {C Q : VK} {k : Dv → DS → RR (Dv × List EV)} (h : Snd K Z E t f) (R : Rep K Z F ow σ H ρ w) (hp : PostF K Z E F σ Q ((f ρ w).bind k))
    (c : ∀ d w' v H' F' ow', Same F F' → Rep K Z F' ow' σ H' ρ w' → Rp K F' v d → PostF K Z E F' σ Q (k d w') → C v H') : t σ H C := by
  refine h F ow σ H ρ w C R ?_
  cases e : f ρ w with
  | ok d w' => rw [e] at hp; exact fun v H' F' ow' s R' r => c d w' v H' F' ow' s R' r (hp.up s)
  | rz y w' => rw [e] at hp; exact fun cls dx H F ow R x => hp cls dx H F ow ρ R x
  | stuck => rw [e] at hp; exact hp
theorem SndF.seqF {t : TE} {f : Sf} {C Q : VK} {k : Dv → List EV → DS → RR (Dv × List EV)} (h : SndF K Z E t f) (R : Rep K Z F ow σ H ρ w) (hp : PostF K Z E F σ Q ((f ρ w).bind fun p w1 => k p.1 p.2 w1))
    (c : ∀ d ρ' w' v H' F' ow', Same F F' → Rep K Z F' ow' σ H' ρ' w' → Rp K F' v d → PostF K Z E F' σ Q (k d ρ' w') → C v H') : t σ H C := by
  refine h F ow σ H ρ w C R ?_
  cases e : f ρ w with
  | ok p w' => rw [e] at hp; obtain ⟨d, ρ'⟩ := p; exact fun v H' F' ow' s R' r => c d ρ' w' v H' F' ow' s R' r (hp.up s)
  | rz y w' => rw [e] at hp; exact hp
  | stuck => rw [e] at hp; exact hp
theorem SndF.seqS {t : TE} {f : Sf} {C : VK} {D : Ends} {k : Dv → List EV → DS → RR SF} (h : SndF K Z E t f) (R : Rep K Z F ow σ H ρ w) (hp : PostS K Z E F D ((f ρ w).bind fun p w1 => k p.1 p.2 w1))
    (c : ∀ d ρ' w' v H' F' ow', Same F F' → Rep K Z F' ow' σ H' ρ' w' → Rp K F' v d → PostS K Z E F' D (k d ρ' w') → C v H') : t σ H C := by
  refine h F ow σ H ρ w C R ?_
  cases e : f ρ w with
  | ok p w' => rw [e] at hp; obtain ⟨d, ρ'⟩ := p; exact fun v H' F' ow' s R' r => c d ρ' w' v H' F' ow' s R' r (hp.up s)
  | rz y w' => rw [e] at hp; exact fun cls dx H F ow ρ R x => hp cls dx σ H F ow ρ R x
  | stuck => rw [e] at hp; exact hp
theorem f_of (h : DE X Z E e te f) : DF X Z E e te (fPure f) := ⟨h.pe, fun F ow σ H ρ w Q R q =>
  h.sn.seqF R q fun d w' v H' F' ow' s R' r q' => q' v H' F' ow' (Same.refl _) R' r⟩
/-- the owned list of a slot -/
theorem Rep.own_at {i : Nat} {ds : List Dv} (R : Rep K Z F ow σ H ρ w) (h : ρ[i]? = some (.lst ds)) : ∃ l xs, σ[i]? = some (some (.ref l)) ∧ H l = some (.lst xs) ∧ ow l = some (i + 1) ∧ Z.H l = none ∧ RpAll K F xs ds ∧ i < ρ.length := by
  obtain ⟨l, xs, h1, h2, h3, h4, r⟩ := R.slots i _ h
  exact ⟨l, xs, h1, h2, h3, h4, r, (List.getElem?_eq_some_iff.mp h).1⟩
theorem Rep.writeL {i : Nat} {ds es : List Dv} {l : Addr} {ys : List V} (R : Rep K Z F ow σ H ρ w) (h : ρ[i]? = some (.lst ds)) (hs : σ[i]? = some (some (.ref l))) (r : RpAll K F ys es) : Rep K Z F ow σ (upd H l (.lst ys)) (ρ.set i (.lst es)) w := by
  obtain ⟨l', xs, h1, h2, h3, h4, _, hi⟩ := R.own_at h
  rw [hs] at h1; cases h1
  exact R.write h3 hi ⟨l, ys, hs, upd_same, h3, h4, r⟩

/-! #### pop -/
def fPop0 (i : Nat) : Sf := fun ρ w => match ρ[i]? with
  | some (.lst ds) => match ds[ds.length - 1]? with
    | some d => .ok (d, ρ.set i (.lst ds.dropLast)) w
    | none => .stuck
  | _ => .stuck
theorem f_pop0 (i : Nat) {x : Str} {p apos : Pos} (hN : X.N[i]? = some x := by rfl) (hv : Vis X.env.scope x := by first | exact Or.inl rfl | exact Or.inr (Or.inl rfl) | exact Or.inr (Or.inr rfl)) (hd : (x == ("__debug__" : Str)) = false := by decide)
    (hcd : (x == ("__classdict__" : Str)) = false := by decide) (hbase : attributeBase (.Name x p) "pop" X.env (eval (.Name x p) X.env) = eval (.Name x p) X.env := by rfl) (hline : (apos.endLine == pos.line) = true := by rfl) :
    DF X Z E (.Call (.Attribute (.Name x p) "pop" apos) [] [] pos) (tBM0 X.K "list" rPop (tVar i)) (fPop0 i) := ⟨pe_bm0 PySem.F.plainAttrs_list PySem.F.slot_list_pop PySem.F.type_list_pop mt_pop (pe_var hN hv hd hcd) hbase hline, fun F ow σ H ρ w Q R q => by
  unfold fPop0 at q
  cases e : ρ[i]? with
  | none => rw [e] at q; exact q.elim
  | some s =>
    rw [e] at q
    cases s with
    | lst ds =>
      obtain ⟨l, xs, h1, h2, h3, h4, r, hi⟩ := R.own_at e
      dsimp only at q
      cases ed : ds[ds.length - 1]? with
      | none => rw [ed] at q; exact q.elim
      | some d =>
        rw [ed] at q
        obtain ⟨u, hu, ru⟩ := r.get ed
        refine ⟨_, h1, .inl ⟨rfl, _, SqL.of h2⟩, l, xs, u, rfl, rfl, h2, by rw [r.length]; exact hu, ?_⟩
        exact q u _ F ow (Same.refl _) (R.writeL e h1 r.dropLast) ru
    | _ => exact q.elim⟩
def fPopAt (i : Nat) (fe : Sx) : Sf := fun ρ w => match ρ[i]? with
  | some (.lst _) => (fe ρ w).bind fun k w1 => match k, ρ[i]? with
    | .int k, some (.lst ds) => match (if ds.length ≤ big then ixN ds.length k else none) with
      | some j => match ds[j]? with
        | some d => .ok (d, ρ.set i (.lst (ds.eraseIdx j))) w1
        | none => .stuck
      | none => .stuck
    | _, _ => .stuck
  | _ => .stuck
theorem f_popAt (i : Nat) {x : Str} {p apos : Pos} (he : DE X Z E e te f) (hN : X.N[i]? = some x := by rfl) (hv : Vis X.env.scope x := by first | exact Or.inl rfl | exact Or.inr (Or.inl rfl) | exact Or.inr (Or.inr rfl)) (hd : (x == ("__debug__" : Str)) = false := by decide)
    (hcd : (x == ("__classdict__" : Str)) = false := by decide) (hbase : attributeBase (.Name x p) "pop" X.env (eval (.Name x p) X.env) = eval (.Name x p) X.env := by rfl)
    (hfew : ((backTo pos (starEach [e] X.env)).all (fun x => !x.1) && (backToKw pos (keywordEach [] X.env)).all (fun x => x.1.isSome) && decide ([e].length + ([] : List Keyword).length + (if ([] : List Keyword).isEmpty then 0 else 1) < 30)) = true := by rfl)
    (hline : (apos.endLine == pos.line) = true := by rfl) (hs : starEach [e] X.env = (false, eval e X.env) :: starEach [] X.env := by rfl) (hplain : (backTo pos (starEach [] X.env)).any (·.1) = false := by rfl) :
    DF X Z E (.Call (.Attribute (.Name x p) "pop" apos) [e] [] pos) (tBM X.K "list" rPopAt (tVar i) (tCons te tNil)) (fPopAt i f) := ⟨pe_bm PySem.F.plainAttrs_list PySem.F.slot_list_pop PySem.F.type_list_pop mt_popAt (pe_var hN hv hd hcd) (pa_cons he.pe pa_nil hs) hbase hfew hline hs hplain, fun F ow σ H ρ w Q R q => by
  unfold fPopAt at q
  cases e : ρ[i]? with
  | none => rw [e] at q; exact q.elim
  | some s =>
    cases s with
    | lst ds =>
      obtain ⟨l, xs, h1, h2, h3, h4, r, hi⟩ := R.own_at e
      simp only [e] at q
      refine ⟨_, h1, .inl ⟨rfl, _, SqL.of h2⟩, ?_⟩
      refine he.sn.seqF R q fun k w1 y H1 F1 ow1 s1 R1 r1 q1 => ?_
      cases k with
      | int k =>
        cases r1
        obtain ⟨l1, xs1, g1, g2, g3, g4, rr, _⟩ := R1.own_at e
        rw [h1] at g1; cases g1
        dsimp only at q1
        cases ek : (if ds.length ≤ big then ixN ds.length k else none) with
        | none => rw [ek] at q1; exact q1.elim
        | some j =>
          rw [ek] at q1
          dsimp only at q1
          cases ed : ds[j]? with
          | none => rw [ed] at q1; exact q1.elim
          | some d =>
            rw [ed] at q1
            obtain ⟨u, hu, ru⟩ := rr.get ed
            split at ek
            case isFalse => cases ek
            rename_i hbig
            obtain ⟨z1, z2, z3, z4⟩ := ixN_seq ek
            unfold big at hbig
            refine ⟨_, xs1, k, j, u, rfl, rfl, g2, ?_, ?_, by rw [rr.length]; exact z1, hu, ?_⟩
            · omega
            · omega
            · exact q1 u _ F1 ow1 (Same.refl _) (R1.writeL e h1 (rr.eraseIdx j)) ru
      | _ => exact q1.elim
    | _ => simp only [e] at q; exact q.elim⟩

/-! #### statements over them -/
def gSetF (i : Nat) (f : Sf) : Ss := fun ρ w => (f ρ w).bind fun p w1 => .ok (.nx (p.2.set i (.dat p.1))) w1
def gAsgF (f : Sf) (g : Sg) : Ss := fun ρ w => (f ρ w).bind fun p w1 => match g p.1 p.2 with
  | some ρ1 => .ok (.nx ρ1) w1
  | none => .stuck
def gDropF (f : Sf) : Ss := fun ρ w => (f ρ w).bind fun p w1 => .ok (.nx p.2) w1
def gApp (i : Nat) (f : Sf) : Ss := fun ρ w => match ρ[i]? with
  | some (.lst _) => (f ρ w).bind fun p w1 => match p.2[i]? with
    | some (.lst ds) => if ds.length < big then .ok (.nx (p.2.set i (.lst (ds ++ [p.1])))) w1 else .stuck
    | _ => .stuck
  | _ => .stuck
def gExtN (i : Nat) (f : Sl) : Ss := fun ρ w => match ρ[i]? with
  | some (.lst _) => (f ρ w).bind fun es w1 => match ρ[i]? with
    | some (.lst ds) => if ds.length + es.length ≤ big then .ok (.nx (ρ.set i (.lst (ds ++ es)))) w1 else .stuck
    | _ => .stuck
  | _ => .stuck
/-- xs[i] = v -/
def gPutL (i : Nat) (fi fv : Sx) : Ss := fun ρ w => (fv ρ w).bind fun d w1 => match ρ[i]? with
  | some (.lst _) => (fi ρ w1).bind fun k w2 => match k, ρ[i]? with
    | .int k, some (.lst ds) => match ixN ds.length k with
      | some j => .ok (.nx (ρ.set i (.lst (ds.set j d)))) w2
      | none => .stuck
    | _, _ => .stuck
  | _ => .stuck
theorem d_setF (i : Nat) {x : Str} {pos' : Pos} (hN : X.N.Nodup) (he : DF X Z E e te ff) (hi : X.N[i]? = some x := by rfl) (hx : Loc X.env.scope x := by first | exact Or.inl rfl | exact Or.inr rfl) (hs : swapsWith e (some (.Name x pos')) pos.line X.env = pure false := by rfl) (hf : X.fn x = true ∨ X.env.scope.names.lookup x = some .local := by first | exact .inl rfl | exact .inr rfl | assumption) :
    DSt X Z E (.Assign [.Name x pos'] e pos) (tAsg te (gName i)) (gSetF i ff) := ⟨ps_set hN hi hx he.pe hs hf, fun F ow σ H ρ w D R q =>
  he.sn.seqS (k := fun d ρ' w' => .ok (.nx (ρ'.set i (.dat d))) w') R q fun d ρ' w1 v H1 F1 ow1 s R1 r q1 => q1 _ H1 F1 ow1 (Same.refl _) (R1.set ⟨v, rfl, r⟩)⟩
theorem d_asgF {tg : Expr} {gg : TG} {k : Sg} {l : List Nat} (he : DF X Z E e te ff) (hg : DG X Z tg gg k l) (hs : swapsWithSole [tg] e pos.line X.env = pure false := by rfl) (hw : swappedStores [tg] e X.env = pure none := by rfl)
    (h1 : (assignEach [tg] X.env).map (·.2) = [assign tg X.env] := by rfl) : DSt X Z E (.Assign [tg] e pos) (tAsg te gg) (gAsgF ff k) := ⟨ps_asg he.pe hg.pg hs hw h1, fun F ow σ H ρ w D R q =>
  he.sn.seqS (k := fun d ρ' w' => match k d ρ' with
    | some ρ1 => .ok (.nx ρ1) w'
    | none => .stuck) R q fun d ρ' w1 v H1 F1 ow1 s R1 r q1 => by
    cases e1 : k d ρ' with
    | none => rw [e1] at q1; exact q1.elim
    | some ρ1 => rw [e1] at q1; exact hg.sn F1 ow1 σ H1 ρ' w1 v d ρ1 _ e1 R1 r fun σ1 R2 _ => q1 σ1 H1 F1 ow1 (Same.refl _) R2⟩
theorem d_dropF (he : DF X Z E e te ff) (hs : swapsWith e none pos.line X.env = pure false := by rfl) : DSt X Z E (.Expr e pos) (tDrop te) (gDropF ff) := ⟨ps_expr he.pe hs, fun F ow σ H ρ w D R q =>
  he.sn.seqS (k := fun d ρ' w' => .ok (.nx ρ') w') R q fun d ρ' w1 v H1 F1 ow1 s R1 r q1 => q1 σ H1 F1 ow1 (Same.refl _) R1⟩
theorem d_app (i : Nat) {x : Str} {p apos pos2 : Pos} (he : DF X Z E e te ff) (hN : X.N[i]? = some x := by rfl) (hv : Vis X.env.scope x := by first | exact Or.inl rfl | exact Or.inr (Or.inl rfl) | exact Or.inr (Or.inr rfl)) (hd : (x == ("__debug__" : Str)) = false := by decide)
    (hcd : (x == ("__classdict__" : Str)) = false := by decide) (hbase : attributeBase (.Name x p) "append" X.env (eval (.Name x p) X.env) = eval (.Name x p) X.env := by rfl)
    (hfew : ((backTo pos (starEach [e] X.env)).all (fun x => !x.1) && (backToKw pos (keywordEach [] X.env)).all (fun x => x.1.isSome) && decide ([e].length + ([] : List Keyword).length + (if ([] : List Keyword).isEmpty then 0 else 1) < 30)) = true := by rfl)
    (hline : (apos.endLine == pos.line) = true := by rfl) (hs : starEach [e] X.env = (false, eval e X.env) :: starEach [] X.env := by rfl) (hplain : (backTo pos (starEach [] X.env)).any (·.1) = false := by rfl)
    (hsw : swapsWith (.Call (.Attribute (.Name x p) "append" apos) [e] [] pos) none pos2.line X.env = pure false := by rfl) :
    DSt X Z E (.Expr (.Call (.Attribute (.Name x p) "append" apos) [e] [] pos) pos2) (tDrop (tBM X.K "list" rAppend (tVar i) (tCons te tNil))) (gApp i ff) := ⟨ps_expr (pe_bm PySem.F.plainAttrs_list PySem.F.slot_list_append PySem.F.type_list_append mt_append (pe_var hN hv hd hcd) (pa_cons he.pe pa_nil hs) hbase hfew hline hs hplain) hsw, fun F ow σ H ρ w D R q => by
  unfold gApp at q
  cases e : ρ[i]? with
  | none => rw [e] at q; exact q.elim
  | some s =>
    cases s with
    | lst ds0 =>
      obtain ⟨l, xs, h1, h2, h3, h4, r, hi⟩ := R.own_at e
      simp only [e] at q
      refine ⟨_, h1, .inl ⟨rfl, _, SqL.of h2⟩, ?_⟩
      refine he.sn.seqS (k := fun d ρ' w' => match ρ'[i]? with
        | some (.lst ds) => if ds.length < big then .ok (.nx (ρ'.set i (.lst (ds ++ [d])))) w' else .stuck
        | _ => .stuck) R q fun d ρ' w1 v H1 F1 ow1 s R1 r1 q1 => ?_
      cases e1 : ρ'[i]? with
      | none => rw [e1] at q1; exact q1.elim
      | some s1 =>
        rw [e1] at q1
        cases s1 with
        | lst ds =>
          obtain ⟨l1, xs1, g1, g2, g3, g4, rr, _⟩ := R1.own_at e1
          rw [h1] at g1; cases g1
          have q1 : PostS X.K Z E F1 D (if ds.length < big then .ok (.nx (ρ'.set i (.lst (ds ++ [d])))) w1 else .stuck) := q1
          split at q1
          case isFalse => exact q1.elim
          rename_i hb
          refine ⟨_, xs1, v, rfl, rfl, g2, by rw [rr.length, sizeLine_big]; exact hb, ?_⟩
          exact q1 σ _ F1 ow1 (Same.refl _) (R1.writeL e1 h1 (rr.append (.cons r1 .nil)))
        | _ => exact q1.elim
    | _ => simp only [e] at q; exact q.elim⟩
theorem d_extN (i : Nat) {x : Str} {p apos pos2 : Pos} {fl : Sl} (he : ∀ Z', DN X Z' E e te fl) (hN : X.N[i]? = some x := by rfl) (hv : Vis X.env.scope x := by first | exact Or.inl rfl | exact Or.inr (Or.inl rfl) | exact Or.inr (Or.inr rfl)) (hd : (x == ("__debug__" : Str)) = false := by decide)
    (hcd : (x == ("__classdict__" : Str)) = false := by decide) (hbase : attributeBase (.Name x p) "extend" X.env (eval (.Name x p) X.env) = eval (.Name x p) X.env := by rfl)
    (hfew : ((backTo pos (starEach [e] X.env)).all (fun x => !x.1) && (backToKw pos (keywordEach [] X.env)).all (fun x => x.1.isSome) && decide ([e].length + ([] : List Keyword).length + (if ([] : List Keyword).isEmpty then 0 else 1) < 30)) = true := by rfl)
    (hline : (apos.endLine == pos.line) = true := by rfl) (hs : starEach [e] X.env = (false, eval e X.env) :: starEach [] X.env := by rfl) (hplain : (backTo pos (starEach [] X.env)).any (·.1) = false := by rfl)
    (hsw : swapsWith (.Call (.Attribute (.Name x p) "extend" apos) [e] [] pos) none pos2.line X.env = pure false := by rfl) :
    DSt X Z E (.Expr (.Call (.Attribute (.Name x p) "extend" apos) [e] [] pos) pos2) (tDrop (tBM X.K "list" rExtend (tVar i) (tCons te tNil))) (gExtN i fl) := ⟨ps_expr (pe_bm PySem.F.plainAttrs_list PySem.F.slot_list_extend PySem.F.type_list_extend mt_extend (pe_var hN hv hd hcd) (pa_cons (he Z).pe pa_nil hs) hbase hfew hline hs hplain) hsw, fun F ow σ H ρ w D R q => by
  unfold gExtN at q
  cases e : ρ[i]? with
  | none => rw [e] at q; exact q.elim
  | some s =>
    cases s with
    | lst ds =>
      obtain ⟨l, xs, h1, h2, h3, h4, r, hi⟩ := R.own_at e
      simp only [e] at q
      refine ⟨_, h1, .inl ⟨rfl, _, SqL.of h2⟩, ?_⟩
      refine (he Z).sn.seqS R q fun es w1 p vs H1 F1 ow1 s R1 k1 k2 k3 k4 r1 q1 => ?_
      obtain ⟨l1, xs1, g1, g2, g3, g4, rr, _⟩ := R1.own_at e
      rw [h1] at g1; cases g1
      have q1 : PostS X.K Z E F1 D (if ds.length + es.length ≤ big then .ok (.nx (ρ.set i (.lst (ds ++ es)))) w1 else .stuck) := q1
      split at q1
      case isFalse => exact q1.elim
      rename_i hb
      refine ⟨_, p, xs1, vs, rfl, rfl, g2, k1, by rw [rr.length, r1.length, sizeLine_big]; exact hb, ?_⟩
      exact q1 σ _ F1 ow1 (Same.refl _) (R1.writeL e h1 (rr.append r1))
    | _ => simp only [e] at q; exact q.elim⟩
theorem d_putL (i : Nat) {x : Str} {p pos' : Pos} {ei ev : Expr} {ti tv : TE} {fi fv : Sx} (hi : DE X Z E ei ti fi) (he : DE X Z E ev tv fv) (hN : X.N[i]? = some x := by rfl) (hv : Vis X.env.scope x := by first | exact Or.inl rfl | exact Or.inr (Or.inl rfl) | exact Or.inr (Or.inr rfl)) (hd : (x == ("__debug__" : Str)) = false := by decide)
    (hcd : (x == ("__classdict__" : Str)) = false := by decide)
    (ha : ∀ v, assign (.Subscript (.Name x p) ei pos') X.env v = (do
      let ov ← holding [v] (eval (.Name x p) X.env)
      let iv ← holding [v, ov] (eval ei X.env)
      standAt pos'
      holding [v, ov, iv] (setItem ov iv v)
      release [v, ov, iv] []) := by intro _; rfl)
    (hs : swapsWithSole [.Subscript (.Name x p) ei pos'] ev pos.line X.env = pure false := by rfl) (hw : swappedStores [.Subscript (.Name x p) ei pos'] ev X.env = pure none := by rfl)
    (h1 : (assignEach [.Subscript (.Name x p) ei pos'] X.env).map (·.2) = [assign (.Subscript (.Name x p) ei pos') X.env] := by rfl) :
    DSt X Z E (.Assign [.Subscript (.Name x p) ei pos'] ev pos) (tAsg tv (gSub (tVar i) ti rSetL)) (gPutL i fi fv) := ⟨ps_asg he.pe (pg_sub (pe_var hN hv hd hcd) hi.pe set_list ha) hs hw h1, fun F ow σ H ρ w D R q => by
  refine he.sn.seqS R q fun d w1 v H1 F1 ow1 s1 R1 r1 q1 => ?_
  cases e : ρ[i]? with
  | none => rw [e] at q1; exact q1.elim
  | some s =>
    cases s with
    | lst ds =>
      obtain ⟨l, xs, h1, h2, h3, h4, r, hl⟩ := R1.own_at e
      simp only [e] at q1
      refine ⟨_, h1, ?_⟩
      refine hi.sn.seqS R1 q1 fun k w2 y H2 F2 ow2 s2 R2 r2 q2 => ?_
      cases k with
      | int k =>
        cases r2
        obtain ⟨l1, xs1, g1, g2, g3, g4, rr, _⟩ := R2.own_at e
        rw [h1] at g1; cases g1
        dsimp only at q2
        cases ek : ixN ds.length k with
        | none => rw [ek] at q2; exact q2.elim
        | some j =>
          rw [ek] at q2
          refine ⟨_, xs1, k, j, rfl, rfl, g2, by rw [rr.length]; exact ek, ?_⟩
          exact q2 σ _ F2 ow2 (Same.refl _) (R2.writeL e h1 (rr.set (r1.mono s2) j))
      | _ => exact q2.elim
    | _ => simp only [e] at q1; exact q1.elim⟩
end
end DL

namespace DL
open PySem PySem.Spec PyProof.Rows L2

/-! ### values some of which are new lists -/
inductive PendR (K : W.Frag) (Z : Z0) (F H : Hp) (ow : Addr → Option Nat) : List V → List EV → List Addr → Prop
  | nil : PendR K Z F H ow [] [] []
  | dat {v : V} {d : Dv} {vs : List V} {es : List EV} {ps : List Addr} : Rp K F v d → PendR K Z F H ow vs es ps → PendR K Z F H ow (v :: vs) (.dat d :: es) ps
  | lst {p : Addr} {xs : List V} {ds : List Dv} {vs : List V} {es : List EV} {ps : List Addr} : H p = some (.lst xs) → ow p = none → F p = none → Z.H p = none → RpAll K F xs ds → p ∉ ps → PendR K Z F H ow vs es ps → PendR K Z F H ow (.ref p :: vs) (.lst ds :: es) (p :: ps)
def QM (K : W.Frag) (Z : Z0) (F : Hp) (σ : L2.St) (Q : List V → Hp → Prop) (ρ : List EV) (es : List EV) (w : DS) : Prop := ∀ vs H' F' ow' ps, Same F F' → Rep K Z F' ow' σ H' ρ w → PendR K Z F' H' ow' vs es ps → Q vs H'
def SndM (K : W.Frag) (Z : Z0) (E : XK) (t : TA) (f : Sa) : Prop := ∀ F ow σ H ρ w Q, Rep K Z F ow σ H ρ w → Post K Z E σ ρ (QM K Z F σ Q ρ) (f ρ w) → t σ H Q
structure DM (X : Cx) (Z : Z0) (E : XK) (es : List Expr) (t : TA) (f : Sa) : Prop where
  pa : PA X es t
  sn : SndM X.K Z E t f
def aNew (fl : Sl) (fr : Sa) : Sa := fun ρ w => (fl ρ w).bind fun ds w1 => (fr ρ w1).bind fun ps w2 => .ok (.lst ds :: ps) w2
section
variable {K : W.Frag} {X : Cx} {Z : Z0} {E : XK} {F : Hp} {ow : Addr → Option Nat} {σ : L2.St} {H : Hp} {ρ : List EV} {w : DS} {pos : Pos} {e a b : Expr} {es : List Expr} {te ta tb : TE} {fe fa fb : Sx} {fl : Sl} {t : TA} {f : Sa}
theorem SndM.seq {C : List V → Hp → Prop} {α : Type} {P : α → DS → Prop} {k : List EV → DS → RR α} (h : SndM K Z E t f) (R : Rep K Z F ow σ H ρ w) (hp : Post K Z E σ ρ P ((f ρ w).bind k))
    (c : ∀ d w' v H' F' ow' ps, Same F F' → Rep K Z F' ow' σ H' ρ w' → PendR K Z F' H' ow' v d ps → Post K Z E σ ρ P (k d w') → C v H') : t σ H C := by
  refine h F ow σ H ρ w C R ?_
  cases e : f ρ w with
  | ok d w' => rw [e] at hp; exact fun v H' F' ow' ps s R' r => c d w' v H' F' ow' ps s R' r hp
  | rz y w' => rw [e] at hp; exact hp
  | stuck => rw [e] at hp; exact hp
theorem SndM.seqS {C : List V → Hp → Prop} {D : Ends} {k : List EV → DS → RR SF} (h : SndM K Z E t f) (R : Rep K Z F ow σ H ρ w) (hp : PostS K Z E F D ((f ρ w).bind k))
    (c : ∀ es w' vs H' F' ow' ps, Same F F' → Rep K Z F' ow' σ H' ρ w' → PendR K Z F' H' ow' vs es ps → PostS K Z E F' D (k es w') → C vs H') : t σ H C := by
  refine h F ow σ H ρ w C R ?_
  cases e : f ρ w with
  | ok d w' => rw [e] at hp; exact fun v H' F' ow' ps s R' r => c d w' v H' F' ow' ps s R' r (hp.up s)
  | rz y w' => rw [e] at hp; exact fun cls dx H F ow R x => hp cls dx σ H F ow ρ R x
  | stuck => rw [e] at hp; exact hp
theorem m_nil : DM X Z E [] tNil aNil := ⟨pa_nil, fun F ow σ H ρ w Q R q => q [] H F ow [] (Same.refl _) R .nil⟩
theorem m_dat (ha : DE X Z E e te fe) (hr : DM X Z E es t f) (hs : starEach (e :: es) X.env = (false, eval e X.env) :: starEach es X.env := by rfl) : DM X Z E (e :: es) (tCons te t) (aCons fe f) :=
  ⟨pa_cons ha.pe hr.pa hs, fun F ow σ H ρ w Q R q => ha.sn.seq R q fun d w1 x H1 F1 ow1 s1 R1 r1 q1 => hr.sn.seq R1 q1 fun ps w2 vs H2 F2 ow2 _ s2 R2 r2 q2 =>
    q2 (x :: vs) H2 F2 ow2 _ (s1.trans s2) R2 (.dat (r1.mono s2) r2)⟩
/-- what a new object's guard needs -/
theorem Rep.pend {p : Addr} (R : Rep K Z F ow σ H ρ w) (h2 : ow p = none) (h3 : F p = none) : Z.F p = none ∧ ¬ Z.foot p := by
  refine ⟨?_, fun ⟨x, g, c, e1, e2⟩ => ?_⟩
  · cases q : Z.F p with
    | none => rfl
    | some u => rw [R.keepF _ _ q] at h3; cases h3
  · obtain ⟨_, o1, o2, o3⟩ := R.dr _ _ _ e1
    rcases e2 with rfl | rfl | rfl
    · rw [o1] at h2; cases h2
    · rw [o2] at h2; cases h2
    · rw [o3] at h2; cases h2
theorem m_new (ha : DN X Z E e te fl) (hr : ∀ Z', DM X Z' E es t f) (hs : starEach (e :: es) X.env = (false, eval e X.env) :: starEach es X.env := by rfl) : DM X Z E (e :: es) (tCons te t) (aNew fl f) :=
  ⟨pa_cons ha.pe (hr Z).pa hs, fun F ow σ H ρ w Q R q => ha.sn.seq R q fun ds w1 p xs H1 F1 ow1 s1 R1 h1 h2 h3 h4 r1 q1 => by
    obtain ⟨hf, nf⟩ := R1.pend h2 h3
    have un : ∀ {F' : Hp} {ow' : Addr → Option Nat} {σ' : L2.St} {H' : Hp} {ρ' : List EV} {w' : DS}, Rep X.K ⟨upd Z.H p (.lst xs), Z.F, Z.dr⟩ F' ow' σ' H' ρ' w' → Rep X.K Z F' ow' σ' H' ρ' w' ∧ H' p = some (.lst xs) ∧ ow' p = none ∧ F' p = none := fun R' => R'.unguard h4 nf hf
    have R2 := R1.guard h1 h2 h3
    refine (hr ⟨upd Z.H p (.lst xs), Z.F, Z.dr⟩).sn F1 ow1 σ H1 ρ w1 _ R2 ?_
    cases er : f ρ w1 with
    | stuck => rw [er] at q1; exact q1
    | rz y w2 => rw [er] at q1; exact fun cls dx H F ow R x => q1 cls dx H F ow (un R).1 x
    | ok es2 w2 =>
      rw [er] at q1
      intro vs H2 F2 ow2 ps s2 R3 r3
      obtain ⟨R4, g1, g2, g3⟩ := un R3
      have key : ∀ {vs : List V} {es : List EV} {ps : List Addr}, PendR X.K ⟨upd Z.H p (.lst xs), Z.F, Z.dr⟩ F2 H2 ow2 vs es ps → PendR X.K Z F2 H2 ow2 vs es ps ∧ p ∉ ps := fun h => by
        induction h with
        | nil => exact ⟨.nil, fun h => nomatch h⟩
        | dat r _ ih => exact ⟨.dat r ih.1, ih.2⟩
        | @lst p2 ys ds2 vs es ps k1 k2 k3 k4 r nm _ ih =>
          have k4 : upd Z.H p (.lst xs) p2 = none := k4
          have ne : p2 ≠ p := fun z => by rw [z, upd_same] at k4; cases k4
          rw [upd_ne ne] at k4
          refine ⟨.lst k1 k2 k3 k4 r nm ih.1, fun h => ?_⟩
          rcases List.mem_cons.mp h with z | z
          · exact ne z.symm
          · exact ih.2 z
      exact q1 _ H2 F2 ow2 _ (s1.trans s2) R4 (.lst g1 g2 g3 h4 (r1.mono s2) (key r3).2 (key r3).1)⟩
/-- stored one by one -/
def setsE : List Nat → List EV → List EV → List EV
  | i :: is, e :: es, ρ => setsE is es (ρ.set i e)
  | _, _, ρ => ρ
def setsV : List Nat → List V → L2.St → L2.St
  | i :: is, v :: vs, σ => setsV is vs (σ.set i (some v))
  | _, _, σ => σ
theorem Rep.sets : ∀ {is : List Nat} {vs : List V} {es : List EV} {ps : List Addr} {ow : Addr → Option Nat} {σ : L2.St} {ρ : List EV}, Rep K Z F ow σ H ρ w → PendR K Z F H ow vs es ps → ∃ ow', Rep K Z F ow' (setsV is vs σ) H (setsE is es ρ) w
  | [], vs, es, ps, ow, σ, ρ, R, h => ⟨ow, by cases vs <;> exact R⟩
  | i :: is, _, _, _, ow, σ, ρ, R, .nil => ⟨ow, R⟩
  | i :: is, _, _, _, ow, σ, ρ, R, @PendR.dat _ _ _ _ _ v d vs es ps r h => Rep.sets (is := is) (R.set (i := i) (v := v) (e := .dat d) ⟨v, rfl, r⟩) h
  | i :: is, _, _, _, ow, σ, ρ, R, @PendR.lst _ _ _ _ _ p xs ds vs es ps k1 k2 k3 k4 r nm h => by
    refine Rep.sets (is := is) (R.setNew (i := i) k1 k2 k3 k4 r) ?_ (ps := ps)
    have gen : ∀ {vs : List V} {es : List EV} {ps : List Addr}, PendR K Z F H ow vs es ps → p ∉ ps → PendR K Z F H (fun a => if a = p then some (i + 1) else ow a) vs es ps := fun h => by
      induction h with
      | nil => exact fun _ => .nil
      | dat r _ ih => exact fun n => .dat r (ih n)
      | @lst p2 ys ds2 vs es ps k1 k2 k3 k4 r nm _ ih =>
        intro n
        refine .lst k1 ?_ k3 k4 r nm (ih fun z => n (List.mem_cons_of_mem _ z))
        show (if p2 = p then some (i + 1) else ow p2) = none
        rw [if_neg (fun z => n (by rw [z]; exact List.mem_cons_self))]; exact k2
    exact gen h nm
def gPar (is : List Nat) (f : Sa) : Ss := fun ρ w => (f ρ w).bind fun es w1 => if es.length = is.length then .ok (.nx (setsE is es ρ)) w1 else .stuck
theorem PendR.length {vs : List V} {es : List EV} {ps : List Addr} (h : PendR K Z F H ow vs es ps) : vs.length = es.length := by
  induction h with
  | nil => rfl
  | dat _ _ ih => rw [List.length_cons, List.length_cons, ih]
  | lst _ _ _ _ _ _ _ ih => rw [List.length_cons, List.length_cons, ih]
theorem d_par2 (i j : Nat) {x y : Str} {px py pt : Pos} {kt k2 pt2} (hc : X.calm = true) (hN : X.N.Nodup) (ha : DM X Z E [a, b] t f) (hij : i ≠ j := by decide) (hi : X.N[i]? = some x := by rfl) (hj : X.N[j]? = some y := by rfl)
    (hx : X.env.scope.names.lookup x = some .local := by rfl) (hy : X.env.scope.names.lookup y = some .local := by rfl)
    (hw : swappedStores [.Tuple [.Name x px, .Name y py] kt pt] (.Tuple [a, b] k2 pt2) X.env = pure (some [x, y]) := by rfl)
    (hs : swapsWithSole [.Tuple [.Name x px, .Name y py] kt pt] (.Tuple [a, b] k2 pt2) pos.line X.env = pure false := by rfl) :
    DSt X Z E (.Assign [.Tuple [.Name x px, .Name y py] kt pt] (.Tuple [a, b] k2 pt2) pos) (tPar i j t) (gPar [i, j] f) := ⟨ps_par hc hN hi hj hij hx hy ha.pa hw hs, fun F ow σ H ρ w D R q => by
  refine ha.sn.seqS R q fun es w1 vs H1 F1 ow1 ps s R1 r1 q1 => ?_
  have q1 : PostS X.K Z E F1 D (if es.length = [i, j].length then .ok (.nx (setsE [i, j] es ρ)) w1 else .stuck) := q1
  split at q1
  case isFalse => exact q1.elim
  rename_i hl
  rw [← r1.length] at hl
  obtain ⟨ow2, R2⟩ := R1.sets (is := [i, j]) r1
  match vs, hl with
  | [v, w], _ => exact ⟨v, w, rfl, q1 _ H1 F1 ow2 (Same.refl _) R2⟩⟩
theorem d_par3 (i j l : Nat) {x y z : Str} {c : Expr} {px py pz pt : Pos} {kt k2 pt2} (hc : X.calm = true) (hN : X.N.Nodup) (ha : DM X Z E [a, b, c] t f) (hij : i ≠ j := by decide) (hil : i ≠ l := by decide) (hjl : j ≠ l := by decide) (hi : X.N[i]? = some x := by rfl) (hj : X.N[j]? = some y := by rfl) (hl : X.N[l]? = some z := by rfl)
    (hx : X.env.scope.names.lookup x = some .local := by rfl) (hy : X.env.scope.names.lookup y = some .local := by rfl) (hz : X.env.scope.names.lookup z = some .local := by rfl)
    (hw : swappedStores [.Tuple [.Name x px, .Name y py, .Name z pz] kt pt] (.Tuple [a, b, c] k2 pt2) X.env = pure (some [x, y, z]) := by rfl)
    (hs : swapsWithSole [.Tuple [.Name x px, .Name y py, .Name z pz] kt pt] (.Tuple [a, b, c] k2 pt2) pos.line X.env = pure false := by rfl) :
    DSt X Z E (.Assign [.Tuple [.Name x px, .Name y py, .Name z pz] kt pt] (.Tuple [a, b, c] k2 pt2) pos) (tPar3 i j l t) (gPar [i, j, l] f) := ⟨ps_par3 hc hN hi hj hl hij hil hjl hx hy hz ha.pa hw hs, fun F ow σ H ρ w D R q => by
  refine ha.sn.seqS R q fun es w1 vs H1 F1 ow1 ps s R1 r1 q1 => ?_
  have q1 : PostS X.K Z E F1 D (if es.length = [i, j, l].length then .ok (.nx (setsE [i, j, l] es ρ)) w1 else .stuck) := q1
  split at q1
  case isFalse => exact q1.elim
  rename_i hl
  rw [← r1.length] at hl
  obtain ⟨ow2, R2⟩ := R1.sets (is := [i, j, l]) r1
  match vs, hl with
  | [v, w, u], _ => exact ⟨v, w, u, rfl, q1 _ H1 F1 ow2 (Same.refl _) R2⟩⟩
end
end DL

namespace DL
open PySem PySem.Spec PyProof.Rows L2

section
variable {K : W.Frag} {X : Cx} {Z : Z0} {E : XK} {F : Hp} {ow : Addr → Option Nat} {σ : L2.St} {H : Hp} {ρ : List EV} {w : DS} {pos : Pos} {e a b : Expr} {es : List Expr} {te ta tb : TE} {fe fa fb : Sx} {fl : Sl} {t : TA} {f : Sa}
/-- list + list -/
def fCatE (fa fb : Sx) : Sl := fun ρ w => (fa ρ w).bind fun d w1 => (fb ρ w1).bind fun e w2 => match d, e with
  | .lst ds, .lst es => if ds.length + es.length ≤ big then .ok (ds ++ es) w2 else .stuck
  | _, _ => .stuck
theorem n_catE (ha : DE X Z E a ta fa) (hb : DE X Z E b tb fb) : DN X Z E (.BinOp a .Add b pos) (tOp rCat ta tb) (fCatE fa fb) := ⟨pe_op op_cat ha.pe hb.pe, fun F ow σ H ρ w Q R q =>
  ha.sn.seq R q fun d w1 x H1 F1 ow1 s1 R1 r1 q1 => hb.sn.seq R1 q1 fun e w2 y H2 F2 ow2 s2 R2 r2 q2 => by
    cases d with
    | lst ds =>
      cases e with
      | lst es =>
        have q2 : Post X.K Z E σ ρ (QN X.K Z F σ Q ρ) (if ds.length + es.length ≤ big then .ok (ds ++ es) w2 else .stuck) := q2
        split at q2
        case isFalse => exact q2.elim
        rename_i hk
        cases r1 with
        | @lst p vs _ ha ra =>
          cases r2 with
          | @lst p2 us _ hb rb =>
            refine ⟨p, p2, vs, us, rfl, rfl, R2.sub _ _ (s2 _ _ ha), R2.sub _ _ hb, by rw [ra.length, rb.length, sizeLine_big]; exact hk, fun l nl => ?_⟩
            obtain ⟨g1, g2, g3⟩ := R2.fresh nl
            exact q2 l _ _ F2 ow2 (s1.trans s2) (R2.grow (Gr.apart R2.sub _ nl)) upd_same g1 g2 g3 ((ra.mono s2).append rb)
      | _ => exact q2.elim
    | _ => exact q2.elim⟩
/-- a.split(b) -/
def fSplit (fa fb : Sx) : Sl := fun ρ w => (fa ρ w).bind fun d w1 => match d with
  | .str a => (fb ρ w1).bind fun e w2 => match e with
    | .str b => if (b.length == 0) = false ∧ a.length + 2 ≤ big then .ok ((Txt.split a b).map .str) w2 else .stuck
    | _ => .stuck
  | _ => .stuck
theorem strs_rp {F : Hp} : ∀ xs : List Str, RpAll K F (xs.map V.str) (xs.map Dv.str)
  | [] => .nil
  | x :: xs => .cons (.str x) (strs_rp xs)
theorem n_split {apos : Pos} (ha : DE X Z E a ta fa) (hb : DE X Z E b tb fb) (hs : starEach [b] X.env = [(false, eval b X.env)] := by rfl) (hbase : attributeBase a "split" X.env (eval a X.env) = eval a X.env := by rfl) (hline : (apos.endLine == pos.line) = true := by rfl) :
    DN X Z E (.Call (.Attribute a "split" apos) [b] [] pos) (tM1 (fun x xs H Q => ∃ a b, x = .str a ∧ xs = [.str b] ∧ (b.length == 0) = false ∧ a.length + 2 ≤ sizeLine ∧ rNewStrs (Txt.split a b) H Q) ta tb) (fSplit fa fb) := ⟨pe_split ha.pe hb.pe hs hbase hline, fun F ow σ H ρ w Q R q =>
  ha.sn.seq R q fun d w1 x H1 F1 ow1 s1 R1 r1 q1 => by
    cases d with
    | str a =>
      cases r1
      refine ⟨⟨a, rfl⟩, hb.sn.seq R1 q1 fun e w2 y H2 F2 ow2 s2 R2 r2 q2 => ?_⟩
      cases e with
      | str b =>
        cases r2
        have q2 : Post X.K Z E σ ρ (QN X.K Z F σ Q ρ) (if (b.length == 0) = false ∧ a.length + 2 ≤ big then .ok ((Txt.split a b).map .str) w2 else .stuck) := q2
        split at q2
        case isFalse => exact q2.elim
        rename_i hk
        refine ⟨a, b, rfl, rfl, hk.1, by rw [sizeLine_big]; exact hk.2, fun p np => ?_⟩
        obtain ⟨g1, g2, g3⟩ := R2.fresh np
        exact q2 p _ _ F2 ow2 (s1.trans s2) (R2.grow (Gr.apart R2.sub _ np)) upd_same g1 g2 g3 (strs_rp _)
      | _ => exact q2.elim
    | _ => exact q1.elim⟩

/-! ### dicts -/
def hasKey (k : Dv) (p : Dv × Dv) : Bool := decide ((keyOf p.1).isSome = true ∧ keyOf p.1 = keyOf k)
def dPutD (kvs : List (Dv × Dv)) (k v : Dv) : List (Dv × Dv) := if kvs.any (hasKey k) = true then kvs.map (fun p => if hasKey k p = true then (p.1, v) else p) else kvs ++ [(k, v)]
def dMerge (kvs more : List (Dv × Dv)) : List (Dv × Dv) := more.foldl (fun acc kv => dPutD acc kv.1 kv.2) kvs
theorem hasKey_kD {k j : Key} {d : Dv} : hasKey (kD k) (kD j, d) = decide (j = k) := by
  unfold hasKey
  rw [keyOf_kD, keyOf_kD]
  simp
theorem RpKv.append {F : Hp} : ∀ {v v' : List (Key × V)} {d d' : List (Dv × Dv)}, RpKv K F v d → RpKv K F v' d' → RpKv K F (v ++ v') (d ++ d')
  | _, _, _, _, .nil, s => s
  | _, _, _, _, .cons h r, s => .cons h (RpKv.append r s)
theorem RpKv.any {F : Hp} {k : Key} : ∀ {kvs : List (Key × V)} {ds : List (Dv × Dv)}, RpKv K F kvs ds → ds.any (hasKey (kD k)) = kvs.any fun kv => decide (kv.1 = k)
  | _, _, .nil => rfl
  | _, _, .cons h r => by rw [List.any_cons, List.any_cons, RpKv.any r, hasKey_kD]
theorem RpKv.mapPut {F : Hp} {k : Key} {v : V} {d : Dv} (q : Rp K F v d) : ∀ {kvs : List (Key × V)} {ds : List (Dv × Dv)}, RpKv K F kvs ds → RpKv K F (kvs.map fun kv => if kv.1 = k then (kv.1, v) else kv) (ds.map fun p => if hasKey (kD k) p = true then (p.1, d) else p)
  | _, _, .nil => .nil
  | _, _, .cons (k := j) (d := d2) h r => by
    rw [List.map_cons, List.map_cons, hasKey_kD]
    by_cases e : j = k
    · rw [if_pos e, if_pos (decide_eq_true e)]; exact .cons q (RpKv.mapPut q r)
    · rw [if_neg e, if_neg (by rw [decide_eq_false e]; exact Bool.false_ne_true)]; exact .cons h (RpKv.mapPut q r)
theorem RpKv.put {F : Hp} {k : Key} {v : V} {d : Dv} {kvs : List (Key × V)} {ds : List (Dv × Dv)} (h : RpKv K F kvs ds) (q : Rp K F v d) : RpKv K F (putK kvs k v) (dPutD ds (kD k) d) := by
  unfold putK dPutD
  rw [h.any]
  split
  · exact h.mapPut q
  · exact h.append (.cons q .nil)
theorem RpKv.merge {F : Hp} : ∀ {more : List (Key × V)} {dm : List (Dv × Dv)} {kvs : List (Key × V)} {ds : List (Dv × Dv)}, RpKv K F kvs ds → RpKv K F more dm → RpKv K F (mergeK kvs more) (dMerge ds dm)
  | _, _, _, _, h, .nil => h
  | _, _, kvs, ds, h, @RpKv.cons _ _ k v vs d ds2 r t => RpKv.merge (kvs := putK kvs k v) (ds := dPutD ds (kD k) d) (RpKv.put h r) t
theorem RpKv.length {F : Hp} : ∀ {v : List (Key × V)} {d : List (Dv × Dv)}, RpKv K F v d → v.length = d.length
  | _, _, .nil => rfl
  | _, _, .cons h r => by rw [List.length_cons, List.length_cons, RpKv.length r]
/-- pairs of a display -/
abbrev Sps := List EV → DS → RR (List (Dv × Dv))
def pNil : Sps := fun _ w => .ok [] w
def pCons (fk fv : Sx) (fr : Sps) : Sps := fun ρ w => (fk ρ w).bind fun k w1 => (fv ρ w1).bind fun v w2 => (fr ρ w2).bind fun ps w3 => if (toKey k).isSome = true then .ok ((k, v) :: ps) w3 else .stuck
def SndP (K : W.Frag) (Z : Z0) (E : XK) (trs : List (TE × TE)) (f : Sps) : Prop := ∀ F ow σ H ρ w (Q : List (V × V) → Hp → Prop), Rep K Z F ow σ H ρ w →
  Post K Z E σ ρ (fun ds w' => ∀ (kvs : List (Key × V)) H' F' ow', Same F F' → Rep K Z F' ow' σ H' ρ w' → RpKv K F' kvs ds → Q (kvs.map fun kv => (kV kv.1, kv.2)) H') (f ρ w) → tPairs trs σ H Q
structure DP (X : Cx) (Z : Z0) (E : XK) (pos : Pos) (ks : List (Option Expr)) (vs : List Expr) (trs : List (TE × TE)) (f : Sps) : Prop where
  pp : PPs X pos ks vs trs
  sn : SndP X.K Z E trs f
theorem p_nil : DP X Z E pos [] [] [] pNil := ⟨pps_nil, fun F ow σ H ρ w Q R q => q [] H F ow (Same.refl _) R .nil⟩
theorem RpKv.len {F : Hp} {v : List (Key × V)} {d : List (Dv × Dv)} (h : RpKv K F v d) : v.length = d.length := h.length
theorem toKey_rp {F : Hp} {v : V} {d : Dv} (r : Rp K F v d) (h : (toKey d).isSome = true) : ∃ k, d = kD k ∧ v = kV k := by
  cases e : toKey d with
  | none => rw [e] at h; cases h
  | some k => have := toKey_inv e; subst this; exact ⟨k, rfl, kD_V r⟩
theorem p_cons {k v : Expr} {ks : List (Option Expr)} {vs : List Expr} {tk tv : TE} {fk fv : Sx} {trs : List (TE × TE)} {fr : Sps} (hk : DE X Z E k tk fk) (hv : DE X Z E v tv fv) (hr : DP X Z E pos ks vs trs fr) : DP X Z E pos (some k :: ks) (v :: vs) ((tk, tv) :: trs) (pCons fk fv fr) :=
  ⟨pps_cons hk.pe hv.pe hr.pp, fun F ow σ H ρ w Q R q => hk.sn.seq R q fun d w1 x H1 F1 ow1 s1 R1 r1 q1 => hv.sn.seq R1 q1 fun e w2 y H2 F2 ow2 s2 R2 r2 q2 => by
    refine hr.sn F2 ow2 σ H2 ρ w2 _ R2 ?_
    cases er : fr ρ w2 with
    | stuck => rw [er] at q2; exact q2
    | rz z w3 => rw [er] at q2; exact q2
    | ok ps w3 =>
      rw [er] at q2
      intro kvs H3 F3 ow3 s3 R3 r3
      simp only [RR.bind_ok] at q2
      split at q2
      case isFalse => exact q2.elim
      rename_i hk
      obtain ⟨k, rfl, rfl⟩ := toKey_rp r1 hk
      exact q2 ((k, y) :: kvs) H3 F3 ow3 ((s1.trans s2).trans s3) R3 (.cons (r2.mono s3) r3)⟩
def fDisp (f : Sps) : Sx := fun ρ w => (f ρ w).bind fun ps w1 => if ps.length ≤ 15 then .ok (.dct (dMerge [] ps)) w1 else .stuck
theorem e_disp {keys : List (Option Expr)} {values : List Expr} {trs : List (TE × TE)} {f : Sps} (h : ∀ Z', DP X Z' E pos keys values trs f) (hall : keys.all (·.isSome) = true := by rfl) (hl : keys.length = values.length := by rfl) (h0 : keys ≠ [] := by exact fun h => nomatch h)
    (h15 : keys.length ≤ 15 := by decide) : DE X Z E (.Dict keys values pos) (tDisp trs) (fDisp f) := ⟨pe_disp (h Z).pp hall hl h0 h15, fun F ow σ H ρ w Q R q p np => by
  obtain ⟨h1, h2, h3⟩ := R.fresh np
  have R1 := R.grow (Gr.apart R.sub (.dK []) np)
  obtain ⟨hf, nf⟩ := R1.pend h1 h2
  have un : ∀ {F' : Hp} {ow' : Addr → Option Nat} {σ' : L2.St} {H' : Hp} {ρ' : List EV} {w' : DS}, Rep X.K ⟨upd Z.H p (.dK []), Z.F, Z.dr⟩ F' ow' σ' H' ρ' w' → Rep X.K Z F' ow' σ' H' ρ' w' ∧ H' p = some (.dK []) ∧ ow' p = none ∧ F' p = none := fun R' => R'.unguard h3 nf hf
  have R2 := R1.guard upd_same h1 h2
  refine (h ⟨upd Z.H p (.dK []), Z.F, Z.dr⟩).sn F ow σ _ ρ w _ R2 ?_
  unfold fDisp at q
  cases er : f ρ w with
  | stuck => rw [er] at q; exact q
  | rz y w2 => rw [er] at q; exact fun cls dx H F ow R x => q cls dx H F ow (un R).1 x
  | ok ps w2 =>
    rw [er] at q
    intro kvs H2 F2 ow2 s2 R3 r3
    obtain ⟨R4, g1, g2, g3⟩ := un R3
    simp only [RR.bind_ok] at q
    split at q
    case isFalse => exact q.elim
    rename_i hz
    refine ⟨g1, kvs, rfl, by rw [r3.length]; exact hz, ?_⟩
    have R5 := R4.mark (o := .dK (mergeK [] kvs)) g2 g3 h3 nf
    have ef : Same F2 (upd F2 p (.dK (mergeK [] kvs))) := same_upd g3
    exact q (.ref p) _ _ ow2 (s2.trans ef) (freezeRep R5 upd_same g2 g3 h3) (.dct (.inl upd_same) (RpKv.merge .nil (r3.mono ef)))⟩
end
end DL

namespace DL
open PySem PySem.Spec PyProof.Rows L2

/-! ### the draws of a law -/
def stK (g c : Addr) (w : DS) : List (Key × V) := [(.inr "great", .ref g), (.inr "cells", .ref c), (.inr "rest", .int w.rest), (.inr "turn", .int w.turn)]
theorem stK_great {g c : Addr} {w : DS} : valV (stK g c w) (.inr "great") = some (.ref g) := rfl
theorem stK_cells {g c : Addr} {w : DS} : valV (stK g c w) (.inr "cells") = some (.ref c) := rfl
theorem stK_rest {g c : Addr} {w : DS} : valV (stK g c w) (.inr "rest") = some (.int w.rest) := rfl
theorem stK_turn {g c : Addr} {w : DS} : valV (stK g c w) (.inr "turn") = some (.int w.turn) := rfl
theorem stK_putR {g c : Addr} {w : DS} {i : Int} : putK (stK g c w) (.inr "rest") (.int i) = stK g c { w with rest := i } := rfl
theorem stK_putT {g c : Addr} {w : DS} {i : Int} : putK (stK g c w) (.inr "turn") (.int i) = stK g c { w with turn := i } := rfl
theorem stK_merge {g c : Addr} {w : DS} : mergeK [] (stK g c w) = stK g c w := rfl
theorem StH.dict {H : Hp} {a g c : Addr} {w : DS} (h : StH H a g c w) : H a = some (.dK (stK g c w)) := h.1

/-- one blend -/
def blendOne (turn prime : Int) (cells : List Int) : Int := cells.foldl (fun b c => (b * 69621 + c + turn) % prime) (48271 * turn + prime / 53)
def blendAll (turn : Int) (cells : List Int) : List Int → Int → Int
  | [], f => f
  | p :: ps, f => blendAll turn cells ps (f * 2147483647 + blendOne turn p cells ^ 5 % p)
def primes : List Int := [2147483579, 2147483629, 2147483563]
def blend (turn : Int) (cells : List Int) : Int := blendAll turn cells primes 0
def most : Int := 1000000000000
/-- a draw from room many -/
def refill (w : DS) : DS := if w.rest = 0 then match w.great with
    | g :: gs => { w with great := gs, rest := g }
    | [] => { w with rest := blend (w.turn + 1) w.cells, turn := w.turn + 1 }
  else w
def drawW (w : DS) (room : Int) : DS := { refill w with rest := (refill w).rest / room }
def drawV (w : DS) (room : Int) : Int := (refill w).rest % room
def okDraw (room : Int) (w : DS) : Prop := 0 < room ∧ room < most ∧ 0 ≤ w.turn ∧ w.turn < most
noncomputable instance (room : Int) (w : DS) : Decidable (okDraw room w) := Classical.propDecidable _
noncomputable def semDraw : Fsem := fun ps w => match ps with
  | [.drw, .dat (.int room)] => if okDraw room w then .ok (.int (drawV w room)) (drawW w room) else .stuck
  | _ => .stuck
/-- how far the draws have gone -/
def Adv (n : Int) (w w' : DS) : Prop := w.turn ≤ w'.turn ∧ w'.turn ≤ w.turn + n
theorem Adv.refl {w : DS} : Adv 0 w w := ⟨by omega, by omega⟩
theorem Adv.trans {a b : Int} {w w1 w2 : DS} (h1 : Adv a w w1) (h2 : Adv b w1 w2) : Adv (a + b) w w2 := ⟨by have := h1.1; have := h2.1; omega, by have := h1.2; have := h2.2; omega⟩
theorem Adv.le {a b : Int} {w w' : DS} (h : Adv a w w') (l : a ≤ b) : Adv b w w' := ⟨h.1, by have := h.2; omega⟩
theorem adv_draw {w : DS} {room : Int} : Adv 1 w (drawW w room) := by
  unfold Adv drawW refill
  split
  · split <;> simp <;> omega
  · simp; omega
theorem draw_range {w : DS} {room : Int} (h : 0 < room) : 0 ≤ drawV w room ∧ drawV w room < room := ⟨Int.emod_nonneg _ (by omega), Int.emod_lt_of_pos _ h⟩
theorem semDraw_ok {w : DS} {room : Int} (h : 0 < room) (h1 : room < most) (h2 : 0 ≤ w.turn) (h3 : w.turn < most) : semDraw [.drw, .dat (.int room)] w = .ok (.int (drawV w room)) (drawW w room) := if_pos ⟨h, h1, h2, h3⟩
/-- how the state begins -/
def beginW (ns : List Int) : DS := ⟨(ns.map fun i : Int => ((i.natAbs : Int))).filterMap (fun a => if (10 : Int) ^ 18 ≤ a then some (a - 10 ^ 18) else none), ns.map fun i : Int => (i.natAbs : Int), 0, 0⟩
end DL

namespace DL
open PySem PySem.Spec PyProof.Rows L2

/-! ### equality of clean data: nothing but None, ints, texts, and tuples and lists of them -/
mutual
def cln : Dv → Bool
  | .non => true
  | .int _ => true
  | .str s => PyData.strOk s
  | .tup ds => clnAll ds
  | .lst ds => clnAll ds
  | _ => false
def clnAll : List Dv → Bool
  | [] => true
  | d :: ds => cln d && clnAll ds
end
mutual
def deep : Dv → Nat
  | .tup ds => deepAll ds + 1
  | .lst ds => deepAll ds + 1
  | _ => 0
def deepAll : List Dv → Nat
  | [] => 0
  | d :: ds => max (deep d) (deepAll ds)
end
mutual
theorem cln_lay : ∀ d : Dv, cln d = true → (toPy d).canLay0 = true ∧ (toPy d).depth = deep d
  | .non, _ => ⟨rfl, rfl⟩
  | .int _, _ => ⟨rfl, rfl⟩
  | .str s, h => ⟨h, rfl⟩
  | .tup ds, h => by
    have h : clnAll ds = true := h
    obtain ⟨a, b⟩ := clnAll_lay ds h
    exact ⟨a, by show PyData.depthAll (toPys ds) + 1 = deepAll ds + 1; rw [b]⟩
  | .lst ds, h => by
    have h : clnAll ds = true := h
    obtain ⟨a, b⟩ := clnAll_lay ds h
    exact ⟨a, by show PyData.depthAll (toPys ds) + 1 = deepAll ds + 1; rw [b]⟩
  | .bl _, h => nomatch h
  | .dct _, h => nomatch h
  | .obj _, h => nomatch h
  | .scr _, h => nomatch h
theorem clnAll_lay : ∀ ds : List Dv, clnAll ds = true → PyData.canLayAll0 (toPys ds) = true ∧ PyData.depthAll (toPys ds) = deepAll ds
  | [], _ => ⟨rfl, rfl⟩
  | d :: ds, h => by
    have h : (cln d && clnAll ds) = true := h
    rw [Bool.and_eq_true] at h
    obtain ⟨a, b⟩ := cln_lay d h.1
    obtain ⟨a', b'⟩ := clnAll_lay ds h.2
    refine ⟨?_, ?_⟩
    · show ((toPy d).canLay0 && PyData.canLayAll0 (toPys ds)) = true
      rw [a, a']; rfl
    · show max (toPy d).depth (PyData.depthAll (toPys ds)) = max (deep d) (deepAll ds)
      rw [b, b']
end
mutual
theorem cln_eqv : ∀ d e : Dv, cln d = true → cln e = true → (PyData.eqv (toPy d) (toPy e) = true ↔ d = e)
  | .non, e, _, he => by cases e <;> first | (simp [toPy, PyData.eqv]; done) | (simp [cln] at he)
  | .int i, e, _, he => by cases e <;> first | (simp [toPy, PyData.eqv]; done) | (simp [cln] at he)
  | .str s, e, _, he => by cases e <;> first | (simp [toPy, PyData.eqv]; done) | (simp [cln] at he)
  | .tup ds, e, h, he => by
    cases e with
    | tup es =>
      have h : clnAll ds = true := h
      have he : clnAll es = true := he
      show PyData.eqvAll (toPys ds) (toPys es) = true ↔ _
      rw [clnAll_eqv ds es h he, Dv.tup.injEq]
    | bl _ => exact nomatch he
    | dct _ => exact nomatch he
    | obj _ => exact nomatch he
    | scr _ => exact nomatch he
    | _ => simp [toPy, PyData.eqv]
  | .lst ds, e, h, he => by
    cases e with
    | lst es =>
      have h : clnAll ds = true := h
      have he : clnAll es = true := he
      show PyData.eqvAll (toPys ds) (toPys es) = true ↔ _
      rw [clnAll_eqv ds es h he, Dv.lst.injEq]
    | bl _ => exact nomatch he
    | dct _ => exact nomatch he
    | obj _ => exact nomatch he
    | scr _ => exact nomatch he
    | _ => simp [toPy, PyData.eqv]
  | .bl _, _, h, _ => nomatch h
  | .dct _, _, h, _ => nomatch h
  | .obj _, _, h, _ => nomatch h
  | .scr _, _, h, _ => nomatch h
theorem clnAll_eqv : ∀ ds es : List Dv, clnAll ds = true → clnAll es = true → (PyData.eqvAll (toPys ds) (toPys es) = true ↔ ds = es)
  | [], [], _, _ => by simp [toPys, PyData.eqvAll]
  | [], e :: es, _, _ => by simp [toPys, PyData.eqvAll]
  | d :: ds, [], _, _ => by simp [toPys, PyData.eqvAll]
  | d :: ds, e :: es, h, he => by
    have h : (cln d && clnAll ds) = true := h
    have he : (cln e && clnAll es) = true := he
    rw [Bool.and_eq_true] at h he
    have h1 := cln_eqv d e h.1 he.1
    have h2 := clnAll_eqv ds es h.2 he.2
    show (PyData.eqv (toPy d) (toPy e) && PyData.eqvAll (toPys ds) (toPys es)) = true ↔ _
    rw [Bool.and_eq_true, h1, h2, List.cons.injEq]
end
/-- what may be compared -/
def okc (d : Dv) : Prop := cln d = true ∧ deep d ≤ 60
theorem shaped_of {d : Dv} (h : okc d) : SeqAt.shaped (toPy d) = true := by
  obtain ⟨a, b⟩ := cln_lay d h.1
  unfold SeqAt.shaped
  rw [a, b, Bool.true_and]
  have := h.2
  exact decide_eq_true (by omega)
open Classical in
theorem dEq_of {d e : Dv} (h : okc d) (h' : okc e) : dEq d e = some (.bl (decide (d = e))) := by
  unfold dEq
  rw [if_pos ⟨shaped_of h, shaped_of h'⟩]
  congr 2
  rw [Bool.eq_iff_iff, cln_eqv d e h.1 h'.1, decide_eq_true_iff]
open Classical in
theorem dNe_of {d e : Dv} (h : okc d) (h' : okc e) : dNe d e = some (.bl (!decide (d = e))) := by
  unfold dNe
  rw [if_pos ⟨shaped_of h, shaped_of h'⟩]
  congr 3
  rw [Bool.eq_iff_iff, cln_eqv d e h.1 h'.1, decide_eq_true_iff]
theorem okc_int (i : Int) : okc (.int i) := ⟨rfl, Nat.zero_le _⟩
theorem okc_non : okc .non := ⟨rfl, Nat.zero_le _⟩
theorem okc_str {s : Str} (h : PyData.strOk s = true) : okc (.str s) := ⟨h, Nat.zero_le _⟩
/-- a bound on the depth -/
def okn (n : Nat) (d : Dv) : Prop := cln d = true ∧ deep d ≤ n
theorem okn.c {n : Nat} {d : Dv} (h : okn n d) (hn : n ≤ 60 := by decide) : okc d := ⟨h.1, Nat.le_trans h.2 hn⟩
theorem okn.le {n m : Nat} {d : Dv} (h : okn n d) (hn : n ≤ m := by omega) : okn m d := ⟨h.1, Nat.le_trans h.2 hn⟩
theorem okn_all {n : Nat} : ∀ {ds : List Dv}, (∀ d ∈ ds, okn n d) → clnAll ds = true ∧ deepAll ds ≤ n
  | [], _ => ⟨rfl, Nat.zero_le _⟩
  | d :: ds, h => by
    obtain ⟨a, b⟩ := h d List.mem_cons_self
    obtain ⟨a', b'⟩ := okn_all fun x hx => h x (List.mem_cons_of_mem _ hx)
    refine ⟨?_, ?_⟩
    · show (cln d && clnAll ds) = true
      rw [a, a']; rfl
    · show max (deep d) (deepAll ds) ≤ n
      omega
theorem okn_tup {n : Nat} {ds : List Dv} (h : ∀ d ∈ ds, okn n d) : okn (n + 1) (.tup ds) := ⟨(okn_all h).1, Nat.succ_le_succ (okn_all h).2⟩
theorem okn_lst {n : Nat} {ds : List Dv} (h : ∀ d ∈ ds, okn n d) : okn (n + 1) (.lst ds) := ⟨(okn_all h).1, Nat.succ_le_succ (okn_all h).2⟩
theorem okn_int {n : Nat} (i : Int) : okn n (.int i) := ⟨rfl, Nat.zero_le _⟩
theorem okn_str {n : Nat} {s : Str} (h : PyData.strOk s = true) : okn n (.str s) := ⟨h, Nat.zero_le _⟩
theorem okn_ints {n : Nat} (l : List Int) : okn (n + 1) (.tup (l.map .int)) := okn_tup fun d h => by
  obtain ⟨i, _, rfl⟩ := List.mem_map.mp h
  exact okn_int i
theorem okn_intsL {n : Nat} (l : List Int) : okn (n + 1) (.lst (l.map .int)) := okn_lst fun d h => by
  obtain ⟨i, _, rfl⟩ := List.mem_map.mp h
  exact okn_int i
theorem shaped_ints (ns : List Int) : SeqAt.shaped (PyData.list (ns.map PyData.int)) = true := by
  have h := shaped_of (okn_intsL (n := 0) ns).c
  have e : toPy (.lst (ns.map .int)) = PyData.list (ns.map PyData.int) := by
    show PyData.list (toPys _) = _
    rw [toPys_map, List.map_map]
    rfl
  rwa [e] at h
theorem int_inj {a b : Int} : (Dv.int a = Dv.int b) ↔ a = b := ⟨fun h => by cases h; rfl, fun h => by rw [h]⟩
theorem ints_inj {a b : List Int} : a.map Dv.int = b.map Dv.int ↔ a = b := ⟨fun h => List.map_inj_right (fun x y e => by cases e; rfl) |>.mp h, fun h => by rw [h]⟩
end DL

namespace DL
open PySem PySem.Spec PyProof.Rows L2

/-- a block's own names, told by a test -/
def blkB (N : List Str) (sc scope : Scope) (own : List (Str × Nat)) : Bool :=
  (scope.kind == .function) && (scope.names.all fun y => scope.names.lookup y.1 == some y.2) && (own.all fun p => N[p.2]? == some p.1) &&
  (scope.names.all fun y => !(y.2 == .free) || (sc.names.lookup y.1 == some .cell) || (sc.names.lookup y.1 == some .free)) &&
  (scope.names.all fun y => !(y.2 == .local || y.2 == .cell) || (own.map (·.1)).contains y.1 || !(N.contains y.1))
theorem nk_eq {a b : NameKind} (h : (a == b) = true) : a = b := by cases a <;> cases b <;> first | rfl | exact nomatch h
theorem ok_eq {a b : Option NameKind} (h : (a == b) = true) : a = b := by
  cases a with
  | none => cases b with
    | none => rfl
    | some _ => exact nomatch h
  | some x => cases b with
    | none => exact nomatch h
    | some y => rw [nk_eq (a := x) (b := y) h]
theorem sk_eq {a b : ScopeKind} (h : (a == b) = true) : a = b := by cases a <;> cases b <;> first | rfl | exact nomatch h
theorem nk_self (a : NameKind) : (a == a) = true := by cases a <;> rfl
theorem blk_ok {N : List Str} {sc scope : Scope} {own : List (Str × Nat)} (h : blkB N sc scope own = true) : BlkOk N sc scope own := by
  unfold blkB at h
  simp only [Bool.and_eq_true, List.all_eq_true, Bool.or_eq_true, Bool.not_eq_true'] at h
  obtain ⟨⟨⟨⟨h1, h2⟩, h3⟩, h4⟩, h5⟩ := h
  refine ⟨sk_eq h1, fun y hy => ok_eq (h2 y hy), fun p hp => by simpa using h3 p hp, fun y hy e => ?_, fun y hy e => ?_⟩
  · rcases h4 y hy with (z | z) | z
    · rw [e] at z; exact nomatch z
    · exact .inl (ok_eq z)
    · exact .inr (ok_eq z)
  · rcases h5 y hy with (z | z) | z
    · rcases e with e | e <;> rw [e] at z <;> exact nomatch z
    · exact .inl (by simpa using z)
    · exact .inr (by simpa using z)
section
variable {X : Cx} {Z : Z0} {E : XK} {pos : Pos}
theorem d_setLc (i : Nat) {y : Str} {py spos : Pos} {elt tg iter : Expr} {ifs : List Expr} {scope : Scope} {own : List (Str × Nat)} {wi : TI} {g : TG} {tt : TT} {te : TE} {fi : Sl} {k : Sg} {ft : Sb} {fe : Sx} {l : List Nat} (hc : X.calm = true) (hN : X.N.Nodup) (hi : DI X Z E tg iter wi fi) (ok : BlkOk X.N X.env.scope scope own)
    (hg : ∀ (Z' : Z0) (s : Shared) (H : Hp) (C : Addr) (cl : List (Str × Addr)) (fp : List Addr), DG (X.blk s H scope (compEnvC scope cl C X.env) fp) Z' tg g k l) (ht : ∀ (Z' : Z0) (s : Shared) (H : Hp) (C : Addr) (cl : List (Str × Addr)) (fp : List Addr), DTs (X.blk s H scope (compEnvC scope cl C X.env) fp) Z' E0 ifs tt ft)
    (he : ∀ (Z' : Z0) (s : Shared) (H : Hp) (C : Addr) (cl : List (Str × Addr)) (fp : List Addr), DE (X.blk s H scope (compEnvC scope cl C X.env) fp) Z' E0 elt te fe) (hl : ∀ i ∈ l, i ∈ own.map (·.2)) (hs : ∀ x, foldedSetIterable iter X.env x = pure x := by intro _; rfl)
    (hy : X.N[i]? = some y := by rfl) (hyl : X.env.scope.names.lookup y = some .local := by rfl) (hk : X.env.scope.kind = .function := by rfl) (hln : (py.line == pos.line) = true := by rfl)
    (ha : (scope.names.any fun (n, k) => n == y && (k == .local || k == .cell)) = false := by decide +kernel) :
    DSt X Z E (.Assign [.Name y py] (.ListComp elt [⟨tg, iter, ifs, 0⟩] scope pos) spos) (tAsg (tLc wi g tt te (own.map (·.2))) (gName i)) (gSetN i (fLcW fi k ft fe (own.map (·.2)))) :=
  ⟨ps_setLc hc hN hy hyl (sw_true hk hyl hln ha) hi.pi ok (fun s H C cl fp => (hg Z s H C cl fp).pg) (fun s H C cl fp => (ht Z s H C cl fp).pt) (fun s H C cl fp => (he Z s H C cl fp).pe) hs, fun F ow σ H ρ w D R q =>
    (n_lc (pos := pos) hc hN hi ok hg ht he hl hs).sn.seqS R q fun ds w1 p vs H1 F1 ow1 s R1 h1 h2 h3 h4 r q1 => q1 _ H1 F1 _ (Same.refl _) (R1.setNew h1 h2 h3 h4 r)⟩
end
end DL
namespace DL
open PySem PySem.Spec PyProof.Rows L2
/-! ### how a state begins -/
theorem pw1018 : dIC CPow (fun i j => .int (i ^ j.toNat)) (.int 10) (.int 18) = some (.int (10 ^ 18)) := if_pos ⟨by decide, by decide, by decide⟩
theorem dAbs_int (i : Int) : dAbs [.int i] = some (.int (i.natAbs : Int)) := by
  show some (Dv.int (if i < 0 then -i else i)) = _
  congr 2
  split <;> omega
/-- a comprehension that changes nothing -/
theorem lcD_of {α : Type} {k : Sg} {ft : Sb} {fe : Sx} {ρ : List EV} {w : DS} (c : α → Dv) (p : α → Bool) (h : α → Dv) : ∀ (l : List α), (∀ x ∈ l, ∃ ρ1, k (c x) ρ = some ρ1 ∧ ft ρ1 w = .ok (p x) w ∧ (p x = true → fe ρ1 w = .ok (h x) w)) →
    lcD k ft fe ρ (l.map c) w = .ok ((l.filter p).map h) w
  | [], _ => rfl
  | x :: l, hyp => by
    obtain ⟨ρ1, h1, h2, h3⟩ := hyp x List.mem_cons_self
    have ih := lcD_of c p h l fun y hy => hyp y (List.mem_cons_of_mem _ hy)
    rw [List.map_cons]
    by_cases hp : p x = true
    · rw [hp] at h2
      simp only [lcD, h1, h2, h3 hp, ih, RR.bind_ok, List.filter_cons, hp, if_true, List.map_cons]
    · have hp : p x = false := by simpa using hp
      rw [hp] at h2
      simp only [lcD, h1, h2, ih, List.filter_cons, hp, if_false, Bool.false_eq_true]
theorem lcW_of {α : Type} {fi : Sl} {k : Sg} {ft : Sb} {fe : Sx} {vs : List Nat} {ρ : List EV} {w w1 : DS} (c : α → Dv) (p : α → Bool) (h : α → Dv) (l : List α) (hi : fi ρ w = .ok (l.map c) w1) (hb : l.length ≤ big) (hw : okW ρ vs = true)
    (hyp : ∀ x ∈ l, ∃ ρ1, k (c x) (wipeE ρ vs) = some ρ1 ∧ ft ρ1 w1 = .ok (p x) w1 ∧ (p x = true → fe ρ1 w1 = .ok (h x) w1)) : fLcW fi k ft fe vs ρ w = .ok ((l.filter p).map h) w1 := by
  unfold fLcW
  rw [hi]
  show (if _ then _ else _) = _
  rw [if_pos ⟨by rw [List.length_map]; exact hb, hw⟩]
  exact lcD_of c p h l hyp
theorem begin_great {ns : List Int} {x : EV} {w : DS} (hb : ns.length ≤ big) (hx : plainEV x = true) :
    fLcW (fItems (fVar 0)) (kName 2) (fBool (fOp (dI fun i j => .bl (decide (j ≤ i))) (fCB dAbs (aCons (fVar 2) aNil)) (fOp (dIC CPow fun i j => .int (i ^ j.toNat)) (fC (.int 10)) (fC (.int 18)))))
      (fOp (dI fun i j => .int (i - j)) (fCB dAbs (aCons (fVar 2) aNil)) (fOp (dIC CPow fun i j => .int (i ^ j.toNat)) (fC (.int 10)) (fC (.int 18)))) [2] [.dat (.scr ns), x, .un] w = .ok ((beginW ns).great.map .int) w := by
  rw [lcW_of Dv.int (fun n => decide ((10 : Int) ^ 18 ≤ (n.natAbs : Int))) (fun n => .int ((n.natAbs : Int) - 10 ^ 18)) ns rfl hb rfl fun n _ => ⟨_, rfl, by simp [fBool, fOp, fCB, fDats, aCons, aNil, fVar, fC, wipeE, datsOf, dAbs_int, pw1018, dI], fun _ => by simp [fOp, fCB, fDats, aCons, aNil, fVar, fC, wipeE, datsOf, dAbs_int, pw1018, dI]⟩]
  congr 1
  clear hb
  unfold beginW
  simp only
  induction ns with
  | nil => rfl
  | cons n ns ih =>
    by_cases hn : (10 : Int) ^ 18 ≤ (n.natAbs : Int)
    · simp only [List.filter_cons, List.map_cons, List.filterMap_cons, hn, decide_true, if_true]; rw [ih]
    · simp only [List.filter_cons, List.map_cons, List.filterMap_cons, hn, decide_false, if_false, Bool.false_eq_true]; exact ih
theorem begin_cells {ns : List Int} {x : EV} {w : DS} (hb : ns.length ≤ big) :
    fLcW (fItems (fVar 0)) (kName 2) fYes (fCB dAbs (aCons (fVar 2) aNil)) [2] [.dat (.scr ns), x, .un] w = .ok ((beginW ns).cells.map .int) w := by
  rw [lcW_of Dv.int (fun _ => true) (fun n => .int (n.natAbs : Int)) ns rfl hb rfl fun n _ => ⟨_, rfl, rfl, fun _ => by simp [fCB, fDats, aCons, aNil, fVar, wipeE, datsOf, dAbs_int]⟩]
  unfold beginW
  simp only [List.map_map]
  rw [List.filter_eq_self.mpr fun _ _ => rfl]
  rfl
end DL

namespace DL
open PySem PySem.Spec PyProof.Rows L2

section
variable {X : Cx} {Z : Z0} {E : XK} {pos : Pos}
/-- a comprehension's list that is never written -/
theorem d_setLcF (i : Nat) {y : Str} {py spos : Pos} {elt tg iter : Expr} {ifs : List Expr} {scope : Scope} {own : List (Str × Nat)} {wi : TI} {g : TG} {tt : TT} {te : TE} {fi : Sl} {k : Sg} {ft : Sb} {fe : Sx} {l : List Nat} (hc : X.calm = true) (hN : X.N.Nodup) (hi : DI X Z E tg iter wi fi) (ok : BlkOk X.N X.env.scope scope own)
    (hg : ∀ (Z' : Z0) (s : Shared) (H : Hp) (C : Addr) (cl : List (Str × Addr)) (fp : List Addr), DG (X.blk s H scope (compEnvC scope cl C X.env) fp) Z' tg g k l) (ht : ∀ (Z' : Z0) (s : Shared) (H : Hp) (C : Addr) (cl : List (Str × Addr)) (fp : List Addr), DTs (X.blk s H scope (compEnvC scope cl C X.env) fp) Z' E0 ifs tt ft)
    (he : ∀ (Z' : Z0) (s : Shared) (H : Hp) (C : Addr) (cl : List (Str × Addr)) (fp : List Addr), DE (X.blk s H scope (compEnvC scope cl C X.env) fp) Z' E0 elt te fe) (hl : ∀ i ∈ l, i ∈ own.map (·.2)) (hs : ∀ x, foldedSetIterable iter X.env x = pure x := by intro _; rfl)
    (hy : X.N[i]? = some y := by rfl) (hyl : X.env.scope.names.lookup y = some .local := by rfl) (hk : X.env.scope.kind = .function := by rfl) (hln : (py.line == pos.line) = true := by rfl)
    (ha : (scope.names.any fun (n, k) => n == y && (k == .local || k == .cell)) = false := by decide +kernel) :
    DSt X Z E (.Assign [.Name y py] (.ListComp elt [⟨tg, iter, ifs, 0⟩] scope pos) spos) (tAsg (tLc wi g tt te (own.map (·.2))) (gName i)) (gSet i (fFrz (fLcW fi k ft fe (own.map (·.2))))) :=
  ⟨ps_setLc hc hN hy hyl (sw_true hk hyl hln ha) hi.pi ok (fun s H C cl fp => (hg Z s H C cl fp).pg) (fun s H C cl fp => (ht Z s H C cl fp).pt) (fun s H C cl fp => (he Z s H C cl fp).pe) hs, fun F ow σ H ρ w D R q =>
    (e_frz (n_lc (pos := pos) hc hN hi ok hg ht he hl hs)).sn.seqS R q fun d w1 v H1 F1 ow1 s R1 r q1 => q1 _ H1 F1 ow1 (Same.refl _) (R1.set ⟨v, rfl, r⟩)⟩
end
/-- the body of a law behind the line that makes the state of its draws -/
theorem law_rd {K : W.Frag} {N : List Str} {t : TS} {g : Ss} {a st gr c : Addr} {ns : List Int} {H H' : Hp} {Q : VK} {E : XK} (hn : 2 ≤ N.length) (hb : ∀ Z, SndS K Z E t g) (hg : ∃ w', semOf N.length g [.dat (.scr ns), .drw] (beginW ns) = .ok (.bl true) w')
    (hS : SqL K H a (ns.map V.int)) (sm : Same H H') (n1 : H st = none) (n2 : H gr = none) (n3 : H c = none) (sh : StH H' st gr c (beginW ns)) (q : ∀ H', Q (.bl true) H') :
    t { nx := fun _ H' => Q .non H', rt := Q } ((L2.start N [.ref a]).set 1 (some (.ref st))) H' := by
  obtain ⟨w', hw⟩ := hg
  have e : (L2.start N [.ref a]).set 1 (some (.ref st)) = L2.start N [.ref a, .ref st] := by
    unfold L2.start
    match N, hn with
    | x :: y :: N, _ => rfl
  rw [e]
  refine body_of (n := 2) hn ⟨H, some (st, gr, c), [.dat (.scr ns), .drw], beginW ns, rfl, sm, .dat (.scr hS) (.drw rfl .nil), fun a' g' c' e => by cases e; exact sh, fun b ⟨x, g', c', e, h⟩ => ?_, ?_⟩ hb
  · cases e
    rcases h with rfl | rfl | rfl
    · exact n1
    · exact n2
    · exact n3
  · rw [hw]
    intro v H1 F1 _ _ r
    cases r
    exact q H1
def spLaw (K : W.Frag) : Sp := fun vs H Q _ => ∃ (a : Addr) (ns : List Int), vs = [.ref a] ∧ SqL K H a (ns.map V.int) ∧ ns.length ≤ 63 ∧ ∀ H', Q (.bl true) H'
end DL

namespace DL
open PySem PySem.Spec PyProof.Rows L2 RT

/-! ### tuple(reversed(a tuple)) -/
theorem slot_hint : Slot "reversed" "__length_hint__" "reversed.__length_hint__" :=
  .of (owner := "reversed") (n := "__length_hint__") (by rw [typeLookup_type, builtinLookup_eq_fast]; kernel_rfl) (by decide +kernel) (by decide +kernel) (by decide +kernel) (by first | exact .inl (by decide +kernel) | exact .inr (by decide +kernel)) (by rw [isSubtype_type]; kernel_rfl)
theorem entry_hint : entryFor table "reversed.__length_hint__" = some Builtin.«reversed.__length_hint__» := entryFor_of_tree (by kernel_rfl)
theorem args_hint (a : Value) : argsOk "reversed.__length_hint__" ⟨[a], []⟩ := by
  unfold argsOk; rw [signature?_of (id := "reversed.__length_hint__") (n := ['_', '_', 't', 'n', 'i', 'h', '_', 'h', 't', 'g', 'n', 'e', 'l', '_', '_']) (o := ['d', 'e', 's', 'r', 'e', 'v', 'e', 'r']) (by kernel_rfl) owner_rt]; kernel_rfl
theorem nolen_rt : typeLookup (.type "reversed") "__len__" = pure none := by rw [typeLookup_type, builtinLookup_eq_fast]; kernel_rfl
section
variable {prog : Program} {w : World} {A : Around} {E : Value → Shared → Prop} {s : Shared}
theorem hint_call {it t : Addr} {items : Array Value} {Q : Value → Shared → Prop} (hit : IsRt s.heap it t ((items.size : Int) - 1)) (ht : IsTup s.heap t items) (hz : items.size ≤ sizeLine)
    (h : ∀ tk u, Q (.int items.size u) { s with toks := tk }) : wpAny (model prog w) A (call (.builtin "reversed.__length_hint__") [.ref it]) Q E s := by
  obtain ⟨o, ho, hc, hd⟩ := id hit
  rw [sizeLine_eq] at hz
  refine wpAny_call_entry slot_hint hit.typeIs entry_hint ?_ (args_hint _)
  unfold Builtin.«reversed.__length_hint__»
  refine wpAny_bind (wpAny_of_eq (a := Value.ref it) rfl ?_)
  refine wpAny_bind (wpAny_field ho hd (x := .ref t) rfl ?_)
  show wpAny _ _ (call (.builtin "len") [.ref t] >>= _) _ _ s
  refine wpAny_bind (len_tuple ht (by omega) ?_)
  refine wpAny_bind (wpAny_of_eq (a := some ((items.size : Nat) : Int)) rfl ?_)
  try dsimp only
  refine wpAny_bind (wpAny_field (s := { s with toks := s.toks + 1 + 1 }) ho hd (x := rawInt ((items.size : Int) - 1)) rfl ?_)
  show wpAny _ _ (if ((items.size : Nat) : Int) < ((items.size : Int) - 1) + 1 then _ else _) _ _ _
  rw [if_neg (by omega)]
  have e : ((items.size : Int) - 1) + 1 = items.size := by omega
  rw [e]
  refine wpAny_bind (wpAny_mkInt ?_)
  exact wpAny_pure ⟨_, rfl, h _ _⟩
theorem hint_any {it t : Addr} {items : Array Value} {Q : Bool → Shared → Prop} (hit : IsRt s.heap it t ((items.size : Int) - 1)) (ht : IsTup s.heap t items) (hz : items.size ≤ sizeLine)
    (h : ∀ b tk, Q b { s with toks := tk }) : wpAny (model prog w) A (Builtin.List.listLengthHint (.ref it)) Q E s := by
  have hT := hit.typeIs
  unfold Builtin.List.listLengthHint
  refine wpAny_bind (wpAny_specialOf hT nolen_rt ?_)
  show wpAny _ A (specialOf (Value.ref it) (Str.ofString "__length_hint__") >>= _) _ _ _
  refine wpAny_bind (wpAny_specialOf hT slot_hint.lookup ?_)
  generalize hid : ("reversed.__length_hint__" : String) = id0
  wp_delta
  rw [show splitId id0 = some ("reversed", "__length_hint__") from by subst hid; decide +kernel]
  subst hid
  refine wpAny_bind (wpAny_isInstance (b := true) hT (by rw [isSubtype_type]; kernel_rfl) ?_)
  refine wpAny_ite_split (fun hab => absurd hab (by decide)) (fun _ => ?_)
  refine wpAny_ite_split (fun hab => absurd hab (by decide +kernel)) (fun _ => ?_)
  refine wpAny_bind (wpAny_rule ?_)
  rw [slot_hint.bind]
  refine wpAny_bind (wpAny_pure ?_)
  refine wpAny_bind (wpAny_attempt (hint_call hit ht hz fun tk u => ?_))
  have htl : Builtin.List.listTooLong ((items.size : Nat) : Int).toNat = false := by
    rw [Int.toNat_natCast]; exact notLongL hz
  have hft : Builtin.List.listFitsIndex ((items.size : Nat) : Int) = true := by
    rw [sizeLine_eq] at hz
    exact fitsIndex_of (by omega) (by omega)
  have ea : asInt? (Value.int ((items.size : Nat) : Int) u) = pure (some ((items.size : Nat) : Int)) := rfl
  have hm0 : (0 : Int) ≤ ((items.size : Nat) : Int) := by omega
  generalize ((items.size : Nat) : Int) = m at *
  show wpAny _ A (asInt? (.int m u) >>= _) _ _ _
  rw [ea]
  refine wpAny_bind (wpAny_pure ?_)
  refine wpAny_ite_split (fun hab => absurd hab (by rw [hft]; decide)) (fun _ => ?_)
  refine wpAny_ite_split (fun hab => absurd hab (by omega)) (fun _ => ?_)
  refine wpAny_ite_split (fun hab => absurd hab (by rw [htl]; decide)) (fun _ => ?_)
  exact wpAny_pure (h _ _)
/-- the walk of a reversed tuple -/
theorem walks_rt (hh : A.handled = none) (it t : Addr) (hne : t ≠ it) (items : Array Value) (hz : items.size ≤ sizeLine) :
    Walks prog w A it [it, t] [it] items.size (fun i v => items[items.size - 1 - i]? = some v) (fun i h => i ≤ items.size ∧ IsRt h it t ((items.size : Int) - 1 - (i : Int)) ∧ IsTup h t items) where
  sub := fun b hb => by simp at hb; simp [hb]
  frame := fun i h h' x hk => ⟨x.1, x.2.1.at fun o e => hk it (by simp) o e, by
    obtain ⟨o, ho, r⟩ := x.2.2
    exact ⟨o, hk t (by simp) o ho, r⟩⟩
  item := fun i s Q E hi x hQ => by
    have e : (items.size : Int) - 1 - (i : Int) = ((items.size - 1 - i : Nat) : Int) := by omega
    have hx : items[items.size - 1 - i]? = some (items[items.size - 1 - i]'(by omega)) := Array.getElem?_eq_getElem (by omega)
    refine next_rt_item (i := items.size - 1 - i) (e ▸ x.2.1) x.2.2 hx hz fun h' r' sb => ?_
    have e2 : ((items.size - 1 - i : Nat) : Int) - 1 = (items.size : Int) - 1 - ((i + 1 : Nat) : Int) := by omega
    refine hQ _ h' (s.toks + 1) hx ⟨hi, e2 ▸ r', ?_⟩ fun b o hb eo => sb.extBut b o (fun h => hb (by simp [h])) eo
    obtain ⟨o, ho, r⟩ := x.2.2
    exact ⟨o, (sb.2 t hne).trans ho, r⟩
  done := fun s Q E x hQ => by
    have e : (items.size : Int) - 1 - (items.size : Int) = -1 := by omega
    refine next_rt_end hh (e ▸ x.2.1) fun h' eb => hQ h' s.toks fun b o hb eo => eb b o (fun h => hb (by simp [h])) eo
  self := fun i s Q E x hQ => iter_rt x.2.1 hQ
theorem collect_rt {it t : Addr} {items : Array Value} {Q : List Value → Shared → Prop} (hh : A.handled = none) (hit : IsRt s.heap it t ((items.size : Int) - 1)) (ht : IsTup s.heap t items) (hne : t ≠ it) (hz : items.size ≤ sizeLine)
    (hQ : ∀ (h' : Heap) (tk : Nat) (acc : Array Value), (∀ b o, b ≠ it → s.heap.get? b = some o → h'.get? b = some o) → ItemsOf (fun i v => items[items.size - 1 - i]? = some v) acc items.size → Q acc.toList { s with heap := h', toks := tk }) :
    wpAny (model prog w) A (collect (.ref it)) Q E s := by
  have W := (walks_rt (prog := prog) (w := w) (A := A.in1) hh it t hne items hz).toS
  obtain ⟨oi, hoi, _⟩ := id hit
  obtain ⟨ot, hot, _⟩ := id ht
  have n1 : s.heap.objs.size ≠ it := Nat.ne_of_gt (Heap.lt_size hoi)
  have n2 : s.heap.objs.size ≠ t := Nat.ne_of_gt (Heap.lt_size hot)
  have n3 : s.heap.objs.size ∉ [it, t] := by simp [n1, n2]
  unfold collect
  refine wpAny_bind (wpAny_runValue (codeAny_builtin F.entry_proto_collect ?_))
  rw [Around.under_plainId F.plain_proto_collect _]
  show wpAny _ A.in1 (newList [] >>= fun z => again (.builtin "list.__iadd__" ⟨[z, .ref it], []⟩)) _ _ s
  refine wpAny_bind (wpAny_newObj_type ?_)
  refine wpAny_pure ⟨plainId_quiet F.plain_list_iadd _, codeAny_builtin F.entry_list_iadd ?_⟩
  rw [Around.under_plainId F.plain_list_iadd _]
  generalize hs1 : s.heap.push { cls := .type "list", data := .seq ([] : List Value).toArray } = h1
  have keep : ∀ b o, s.heap.get? b = some o → h1.get? b = some o := fun b o e => by rw [← hs1]; exact Heap.get?_push_of_some _ e
  have hS : h1.get? s.heap.objs.size = some { cls := .type "list", data := .seq ([] : List Value).toArray } := by rw [← hs1]; exact Heap.get?_push_size _ rfl
  have hit1 : IsRt h1 it t ((items.size : Int) - 1) := hit.at fun o e => keep _ _ e
  have ht1 : IsTup h1 t items := by
    obtain ⟨o, ho, r⟩ := ht
    exact ⟨o, keep _ _ ho, r⟩
  have hT : ({ s with heap := h1 } : Shared).TypeIs (.ref it) "reversed" := IsRt.typeIs (s := { s with heap := h1 }) hit1
  have same : Builtin.List.listSameRef (.ref s.heap.objs.size) (.ref it) = false := by simp [Builtin.List.listSameRef, n1]
  show wpAny _ A.in1 (Builtin.List.listExtendWith (.ref s.heap.objs.size) (.ref it) (.ref s.heap.objs.size)) _ _ _
  unfold Builtin.List.listExtendWith
  refine wpAny_bind (wpAny_typeOf hT ?_)
  rw [if_neg (by rw [same]; decide)]
  refine wpAny_bind (iter_rt (s := { s with heap := h1 }) hit1 ?_)
  refine wpAny_bind (wpAny_holding ?_)
  refine hint_any (s := { s with heap := h1 }) hit1 ht1 hz fun b tk => ?_
  have e0 : ((items.size : Nat) : Int) - 1 - ((0 : Nat) : Int) = (items.size : Int) - 1 := by omega
  refine wpAny_ite_split (fun _ => ?_) (fun _ => ?_)
  · refine wpAny_bind (wpAny_rule ?_)
    refine wpAny_bind ?_
    show wpAny _ A.in1 (updateSeq s.heap.objs.size (·.push .none) >>= fun _ => updateSeq s.heap.objs.size (·.pop)) _ _ _
    refine wpAny_bind (wpAny_updateSeq hS rfl ?_)
    have hS2 := Heap.get?_update_self (Obj.mapSeq (·.push Value.none)) hS rfl
    refine wpAny_updateSeq hS2 rfl ?_
    have hS3 := Heap.get?_update_self (Obj.mapSeq (·.pop)) hS2 rfl
    generalize hh3 : (h1.update s.heap.objs.size (Obj.mapSeq (·.push Value.none))).update s.heap.objs.size (Obj.mapSeq (·.pop)) = h3 at hS3
    have K2 : ∀ b o, b ≠ s.heap.objs.size → h1.get? b = some o → h3.get? b = some o := fun b o hb e => by
      rw [← hh3]
      exact (Heap.get?_update_other _ _ (Ne.symm hb)).trans ((Heap.get?_update_other _ _ (Ne.symm hb)).trans e)
    refine wpAny_pure ⟨plainId_quiet F.plain_extend_loop _, codeAny_extend_loopS W hz _ n3 _ items.size 0 { s with heap := h3, toks := tk } _ _ rfl (Nat.zero_le _) ⟨Nat.zero_le _, by
        rw [e0]; exact hit1.at fun o e => K2 _ _ n1.symm e, by
        obtain ⟨o, ho, r⟩ := ht1
        exact ⟨o, K2 _ _ n2.symm ho, r⟩⟩ hS3 (ItemsOf.nil _) fun s' acc' c' hm hS' hacc => ?_⟩
    show wpAny _ A (load s.heap.objs.size >>= _) _ _ s'
    refine wpAny_bind (wpAny_load hS' ?_)
    refine wpAny_pure ?_
    rw [Moved.eq_with hm]
    refine hQ s'.heap s'.toks acc' (fun b o hb e => hm.heap b o (fun hmem => ?_) (K2 b o (Nat.ne_of_lt (Heap.lt_size e)) (keep _ _ e))) hacc
    rcases List.mem_cons.mp hmem with e' | hmem
    · exact absurd (Heap.lt_size e) (by rw [e']; exact Nat.lt_irrefl _)
    · exact hb (List.mem_singleton.mp hmem)
  · have K2 : ∀ b o, b ≠ s.heap.objs.size → h1.get? b = some o → h1.get? b = some o := fun b o _ e => e
    refine wpAny_pure ⟨plainId_quiet F.plain_extend_loop _, codeAny_extend_loopS W hz _ n3 _ items.size 0 { s with heap := h1, toks := tk } _ _ rfl (Nat.zero_le _) ⟨Nat.zero_le _, by
        rw [e0]; exact hit1.at fun o e => K2 _ _ n1.symm e, by
        obtain ⟨o, ho, r⟩ := ht1
        exact ⟨o, K2 _ _ n2.symm ho, r⟩⟩ hS (ItemsOf.nil _) fun s' acc' c' hm hS' hacc => ?_⟩
    show wpAny _ A (load s.heap.objs.size >>= _) _ _ s'
    refine wpAny_bind (wpAny_load hS' ?_)
    refine wpAny_pure ?_
    rw [Moved.eq_with hm]
    refine hQ s'.heap s'.toks acc' (fun b o hb e => hm.heap b o (fun hmem => ?_) (K2 b o (Nat.ne_of_lt (Heap.lt_size e)) (keep _ _ e))) hacc
    rcases List.mem_cons.mp hmem with e' | hmem
    · exact absurd (Heap.lt_size e) (by rw [e']; exact Nat.lt_irrefl _)
    · exact hb (List.mem_singleton.mp hmem)
theorem code_tuple_rt {it t : Addr} {items : Array Value} {Q₁ : Value → Shared → Prop} (hh : A.handled = none) (hit : IsRt s.heap it t ((items.size : Int) - 1)) (ht : IsTup s.heap t items) (hne : t ≠ it) (hz : items.size ≤ sizeLine)
    (h : ∀ (h' : Heap) (tk : Nat) (acc : Array Value), (∀ b o, b ≠ it → s.heap.get? b = some o → h'.get? b = some o) → ItemsOf (fun i v => items[items.size - 1 - i]? = some v) acc items.size →
      Q₁ (.ref h'.objs.size) { s with heap := h'.push { cls := .type "tuple", data := .seq acc }, toks := tk }) :
    codeAny (model prog w) A (.call (.builtin "tuple.__new__") ⟨[.type "tuple", .ref it], []⟩) (wants Q₁ E) s := by
  refine codeAny_of_tree ?_
  show wpAny _ A.in1 (checkBuiltinCall "tuple.__new__" ⟨[.type "tuple", .ref it], []⟩ >>= fun _ => again (.builtin "tuple.__new__" ⟨[.type "tuple", .ref it], []⟩)) _ _ s
  refine wpAny_bind (wpAny_of_eq (F.newCall_tuple_1 _) (wpAny_pure ⟨plainId_quiet F.plain_tuple_new _, codeAny_builtin F.entry_tuple_new ?_⟩))
  rw [Around.under_plainId F.plain_tuple_new _]
  have f1 := sub_tuple_self
  have f2 := init_tuple_lookup
  have f3 := madeHere_tuple
  have hTI : s.TypeIs (.ref it) "reversed" := hit.typeIs
  have f4 : A.in1.handled = none := hh
  wp_walk using wpAny_typeOf hTI, collect_rt (A := A.in1) f4 hit ht hne hz
  intro h' tk acc hk hacc
  show wpAny _ _ (Builtin.Tuple.tupleExact acc.toList.toArray >>= fun v => ret v) _ _ _
  unfold Builtin.Tuple.tupleExact
  have e : acc.toList.toArray = acc := by simp
  rw [e]
  refine wpAny_bind (wpAny_newObj_type ?_ (by show acc.size ≤ sizeLine; rw [hacc.1]; exact hz))
  exact wpAny_pure (h h' tk acc hk hacc)
theorem call_tuple_rt {it t : Addr} {items : Array Value} {Q : Value → Shared → Prop} (hh : A.handled = none) (hit : IsRt s.heap it t ((items.size : Int) - 1)) (ht : IsTup s.heap t items) (hne : t ≠ it) (hz : items.size ≤ sizeLine)
    (hQ : ∀ (h' : Heap) (tk : Nat) (acc : Array Value), (∀ b o, b ≠ it → s.heap.get? b = some o → h'.get? b = some o) → ItemsOf (fun i v => items[items.size - 1 - i]? = some v) acc items.size →
      Q (.ref h'.objs.size) { s with heap := h'.push { cls := .type "tuple", data := .seq acc }, toks := tk }) :
    wpAny (model prog w) A (call (.type "tuple") [.ref it]) Q E s := by
  refine callType_codes (Q₁ := fun obj s₁ => s₁.TypeIs obj "tuple" ∧ Q obj s₁) F.called_tuple (F.typeCall_tuple_1 _) F.entry_object_init
    (code_tuple_rt (A := A.in1) hh hit ht hne hz fun h' tk acc hk hacc => ⟨⟨_, Heap.get?_push_size _ rfl, rfl⟩, hQ h' tk acc hk hacc⟩) fun obj s₁ h₁ => ?_
  exact ⟨h₁.1, F.args_object_init_2 obj _, object_init_meets F.called_tuple.init.lookup F.called_tuple.made (by decide) prog w A.in1 _ s₁ ⟨h₁.1, rfl, h₁.2⟩⟩
end
/-- tuple(reversed(x)), x a tuple -/
def tTupRevT (K : W.Frag) (te : TE) : TE := fun σ H Q => te σ H fun v H1 => ∃ (a : Addr) (xs : List V), v = .ref a ∧ SqT K H1 a xs ∧ ∀ q, H1 q = none → Q (.ref q) (upd H1 q (.tup xs.reverse))
theorem pe_tupRevT {X : Cx} {e : Expr} {te : TE} {p p2 pos pos2 : Pos} (hc : X.calm = true) (hg : Gl X "tuple") (hm : X.mg "tuple" = none) (hg2 : Gl X "reversed") (hm2 : X.mg "reversed" = none) (he : PE X e te)
    (hs : starEach [e] X.env = (false, eval e X.env) :: starEach [] X.env := by rfl)
    (hs2 : starEach [.Call (.Name "reversed" p2) [e] [] pos2] X.env = (false, eval (.Call (.Name "reversed" p2) [e] [] pos2) X.env) :: starEach [] X.env := by rfl) :
    PE X (.Call (.Name "tuple" p) [.Call (.Name "reversed" p2) [e] [] pos2] [] pos) (tTupRevT X.K te) := by
  refine ⟨fun pins s σ H Q I h => ?_⟩
  refine Call_ (ld_blt I hg hm boot_tuple (PyProof.Rows.callWith_type1 (args_cons (Call_ (ld_blt I hg2 hm2 PyProof.Rows.boot_reversed (PyProof.Rows.callWith_type1 (args_cons (thn (he.run pins s σ H _ I h) fun u s1 ⟨v, H1, I1, r1, q1⟩ => args_nil ?_) hs) hs rfl))) hs2) hs2 rfl))
  obtain ⟨a, xs, ev, hq, q⟩ := q1
  subst ev
  obtain rfl : u = Value.ref a := r1
  obtain ⟨its, rv, p', hz⟩ := I1.tuple hq
  have hl := rv.length
  have hn : its.toArray.size ≤ sizeLine := by rw [List.size_toArray, ← rv.length]; exact hz
  have h63 := line63
  refine call_reversed_tup p' (fun A E Q k => len_tuple p' (by simp only [List.size_toArray] <;> omega) k) (args_nil ?_)
  generalize hh2 : s1.heap.push (rtObj a (((its.toArray.size : Nat) : Int) - 1)) = h2
  have k0 : ∀ b o, s1.heap.get? b = some o → h2.get? b = some o := fun b o e => by rw [← hh2]; exact Heap.get?_push_of_some _ e
  have hr : h2.get? s1.heap.objs.size = some (rtObj a (((its.toArray.size : Nat) : Int) - 1)) := by rw [← hh2]; exact Heap.get?_push_size _ rfl
  have I2 : Inv X pins σ H1 { s1 with heap := h2, toks := s1.toks + 1 + 1 } := I1.kept k0
  obtain ⟨f0, f1, f2, f3, f4, f5⟩ := I1.fpOk (H' := H1) (b := s1.heap.objs.size) (Nat.le_refl _) (I1.hok.fresh (Nat.le_refl _))
  obtain ⟨ot, hot, rt⟩ := id p'
  have hne : a ≠ s1.heap.objs.size := Nat.ne_of_lt (Heap.lt_size hot)
  refine call_tuple_rt (s := { s1 with heap := h2, toks := s1.toks + 1 + 1 }) (I1.ok.hd hc) ⟨_, hr, rfl, rfl⟩ ⟨ot, k0 _ _ hot, rt⟩ hne hn fun h' tk acc hk hi => ?_
  have I3 : Inv X pins σ H1 { s1 with heap := h', toks := tk } := I2.turned (t' := tk) (fun b o hb e => hk b o hb e) f0 f1 f3 f4 f5
  refine ⟨.ref h'.objs.size, upd H1 h'.objs.size (.tup xs.reverse), I3.laid (t' := tk) (fun c o e => Heap.get?_push_of_some _ e) (Nat.le_refl _) (show ObjOk X.prog X.w _ _ _ (.tup xs.reverse) from ⟨by rw [List.length_reverse]; exact hz, acc.toList, vals_rev rv hi, ?_⟩), rfl, q _ (I3.hok.fresh (Nat.le_refl _))⟩
  rw [Array.toArray_toList]
  exact IsTup.new _ _
section
variable {X : Cx} {Z : Z0} {E : XK} {pos : Pos} {a : Expr} {ta : TE} {fa : Sx}
def dTupRev : Dv → Option Dv
  | .tup ds => some (.tup ds.reverse)
  | .lst ds => some (.tup ds.reverse)
  | _ => none
theorem e_tupRev {p p2 pos2 : Pos} (hc : X.calm = true) (hm : X.mg "tuple" = none) (hm2 : X.mg "reversed" = none) (ha : DE X Z E a ta fa) (hg : Gl X "tuple" := by rfl) (hg2 : Gl X "reversed" := by rfl) (hs : starEach [a] X.env = (false, eval a X.env) :: starEach [] X.env := by rfl)
    (hs2 : starEach [.Call (.Name "reversed" p2) [a] [] pos2] X.env = (false, eval (.Call (.Name "reversed" p2) [a] [] pos2) X.env) :: starEach [] X.env := by rfl) {K0 : W.Frag} (hK0 : X.K = K0 := by rfl) :
    DE X Z E (.Call (.Name "tuple" p) [.Call (.Name "reversed" p2) [a] [] pos2] [] pos) (fun σ H Q => tTupRev K0 ta σ H Q ∨ tTupRevT K0 ta σ H Q) (fUn dTupRev fa) := by subst hK0; exact ⟨pe_or2 (pe_tupRev hc hg hm hg2 hm2 ha.pe hs hs2) (pe_tupRevT hc hg hm hg2 hm2 ha.pe hs hs2), fun F ow σ H ρ w Q R q => by
  unfold fUn at q
  cases e : fa ρ w with
  | stuck => rw [e] at q; exact q.elim
  | rz x w1 =>
    left
    refine ha.sn F ow σ H ρ w _ R ?_
    rw [e] at q ⊢; exact q
  | ok d w1 =>
    cases d with
    | lst ds =>
      left
      refine ha.sn F ow σ H ρ w _ R ?_
      rw [e] at q ⊢
      intro v H1 F1 ow1 s1 R1 r1
      cases r1 with
      | @lst b vs _ hs ra =>
        refine ⟨b, vs, rfl, R1.sub.seq (SqL.of hs), fun q' nq => ?_⟩
        have g := Gr.new R1.sub (.tup vs.reverse) nq
        exact q _ _ _ ow1 (s1.trans g.ff) (R1.grow g) (.tup (.of upd_same) (ra.reverse.mono g.ff))
    | tup ds =>
      right
      refine ha.sn F ow σ H ρ w _ R ?_
      rw [e] at q ⊢
      intro v H1 F1 ow1 s1 R1 r1
      cases r1 with
      | @tup b vs _ hs ra =>
        refine ⟨b, vs, rfl, sameT R1.sub hs, fun q' nq => ?_⟩
        have g := Gr.new R1.sub (.tup vs.reverse) nq
        exact q _ _ _ ow1 (s1.trans g.ff) (R1.grow g) (.tup (.of upd_same) (ra.reverse.mono g.ff))
    | _ => rw [e] at q; exact q.elim⟩
end
end DL

namespace DL
open PySem PySem.Spec PyProof.Rows L2
/-! ### constants of the module -/
structure Glo (K : W.Frag) (mg : Str → Option Value) (x : Str) (v : V) (d : Dv) : Prop where
  at' : ∃ u, mg x = some u ∧ RelV v u
  rp : ∀ F, Rp K F v d
section
variable {X : Cx} {Z : Z0} {E : XK} {pos : Pos}
theorem e_gl {x : Str} {v : V} {d : Dv} (c : Glo X.K X.mg x v d) (hg : Gl X x := by rfl) (hd : (x == ("__debug__" : Str)) = false := by decide) : DE X Z E (.Name x pos) (tC v) (fC d) := by
  obtain ⟨u, hm, r⟩ := c.at'
  exact e_glob hg hm r c.rp hd
end
theorem glo_int {K : W.Frag} {mg : Str → Option Value} {x : Str} {i : Int} {t : Tok} (h : mg x = some (.int i t)) : Glo K mg x (.int i) (.int i) := ⟨⟨_, h, ⟨t, rfl⟩⟩, fun _ => .int i⟩
theorem glo_str {K : W.Frag} {mg : Str → Option Value} {x : Str} {i : Str} {t : Tok} (h : mg x = some (.str i t)) : Glo K mg x (.str i) (.str i) := ⟨⟨_, h, ⟨t, rfl⟩⟩, fun _ => .str i⟩

mutual
inductive KRp (K : W.Frag) : Value → Dv → Prop
  | int (i : Int) (t : Tok) : KRp K (.int i t) (.int i)
  | str (s : Str) (t : Tok) : KRp K (.str s t) (.str s)
  | tup {a : Addr} {o : Obj} {its : Array Value} {n : Nat} {ds : List Dv} : K.lookup a = some o → o.cls = .type "tuple" → o.data = .seq its n → its.size ≤ sizeLine → KRps K its.toList ds → KRp K (.ref a) (.tup ds)
inductive KRps (K : W.Frag) : List Value → List Dv → Prop
  | nil : KRps K [] []
  | cons {u : Value} {us : List Value} {d : Dv} {ds : List Dv} : KRp K u d → KRps K us ds → KRps K (u :: us) (d :: ds)
end
def vOf : Value → V
  | .none => .non
  | .bool b => .bl b
  | .int i _ => .int i
  | .str s _ => .str s
  | .ref a => .ref a
  | _ => .non
mutual
theorem KRp.ok {K : W.Frag} : ∀ {u : Value} {d : Dv}, KRp K u d → RelV (vOf u) u ∧ ∀ F, Rp K F (vOf u) d
  | _, _, .int i t => ⟨⟨t, rfl⟩, fun _ => .int i⟩
  | _, _, .str s t => ⟨⟨t, rfl⟩, fun _ => .str s⟩
  | _, _, .tup (its := its) (ds := ds) h1 h2 h3 h4 h5 => ⟨rfl, fun F => .tup (xs := its.toList.map vOf) (.inr ⟨_, its, _, h1, h2, h3, h4, (KRps.ok h5).1⟩) ((KRps.ok h5).2 F)⟩
theorem KRps.ok {K : W.Frag} : ∀ {us : List Value} {ds : List Dv}, KRps K us ds → Vals (us.map vOf) us ∧ ∀ F, RpAll K F (us.map vOf) ds
  | _, _, .nil => ⟨.nil, fun _ => .nil⟩
  | _, _, .cons h t => ⟨.cons (KRp.ok h).1 (KRps.ok t).1, fun F => .cons ((KRp.ok h).2 F) ((KRps.ok t).2 F)⟩
end
theorem glo_tup {K : W.Frag} {mg : Str → Option Value} {x : Str} {u : Value} {d : Dv} (h : mg x = some u) (r : KRp K u d) : Glo K mg x (vOf u) d := ⟨⟨_, h, r.ok.1⟩, r.ok.2⟩
def dNeg : Dv → Option Dv
  | .int i => some (.int (-i))
  | _ => none
theorem u_negD {K : W.Frag} : UnS K (rU fun i => .int (-i)) dNeg := fun F H x d z Q ez sub rx h => by
  cases d with
  | int i => cases ez; cases rx; exact ⟨i, rfl, h _ F H (Gr.refl sub) (.int _)⟩
  | _ => cases ez
end DL
namespace DL
open PySem PySem.Spec PyProof.Rows L2
/-- THE RULE, with its numbers told -/
theorem fnE {P : Program} {w : World} {K : W.Frag} {mg : Str → Option Value} {base : Heap} {x qual : Str} {st : Stmt} {f : Addr} {fd : FuncData} {N ps : List Str} {k : Nat} (g : Ss) (nN n : Nat) (S : FnScope N ps (defScope st)) (hN : N.length = nN) (hn : ps.length = n) (F : Fun K x qual st f fd)
    (hb : ∀ (cdv : Value) (A : Around) (outer : List Env) (s : Shared) (H : Hp) (E : XK), Room k (A.deeper (envOfC qual (defScope st) s.heap.objs.size f cdv)) →
      ∃ t, ∀ Z, DB (cxOf (L2.CX P w) P w K mg base N qual (defScope st) f cdv A outer s H E) Z E (defBody st) t g) (hl : n ≤ nN) :
    FnOk P w K mg base (L2.CX P w) (k + 1) f fd ps (spD K n (semOf nN g)) := by
  subst hN hn
  exact fnD F S hb hl
end DL

namespace DL
open PySem PySem.Spec PyProof.Rows L2
/-! ### rules whose fragment is told apart (for the blocks of comprehensions) -/
section
variable {X : Cx} {K0 : W.Frag}
theorem k_eq (hu : X.A.units + 64 < cLine) (hK0 : X.K = K0 := by rfl) : OpR X (compareOp .Eq) (rEqD K0) := by subst hK0; exact op_eqD hu
theorem k_ne (hu : X.A.units + 64 < cLine) (hK0 : X.K = K0 := by rfl) : OpR X (compareOp .NotEq) (rNeD K0) := by subst hK0; exact op_neD hu
theorem k_in (hK0 : X.K = K0 := by rfl) : OpR X (compareOp .In) (rIn K0 false) := by subst hK0; exact op_in_seq
theorem k_notIn (hK0 : X.K = K0 := by rfl) : OpR X (compareOp .NotIn) (rIn K0 true) := by subst hK0; exact op_notIn_seq
theorem k_len (hK0 : X.K = K0 := by rfl) : CallR X (.builtin "len") (fun xs H Q => ∃ x n, xs = [x] ∧ LenV K0 x H n ∧ Q (.int n) H) := by subst hK0; exact call_len
theorem k_all (hc : X.calm = true) (hK0 : X.K = K0 := by rfl) : CallR X (.builtin "all") (rAll K0) := by subst hK0; exact cr_all hc
theorem k_any (hc : X.calm = true) (hK0 : X.K = K0 := by rfl) : CallR X (.builtin "any") (rAny K0) := by subst hK0; exact cr_any hc
theorem k_sum (hc : X.calm = true) (hK0 : X.K = K0 := by rfl) : CallR X (.builtin "sum") (rSum K0) := by subst hK0; exact cr_sum hc
theorem k_sorted (hu : X.A.units + 64 < cLine) (hK0 : X.K = K0 := by rfl) : CallR X (.builtin "sorted") (rSortedD K0) := by subst hK0; exact cr_sortedD hu
theorem k_list (hK0 : X.K = K0 := by rfl) : CallR X (.type "list") (fun xs H Q => ∃ p ys, xs = [.ref p] ∧ (SqL K0 H p ys ∨ SqT K0 H p ys) ∧ ∀ l, H l = none → Q (.ref l) (upd H l (.lst ys))) := by subst hK0; exact call_list_of
variable {pos p : Pos}
theorem pa_ty {T : Str} {T' : String} {es : List Expr} {t : TA} (hm : X.mg T = none) (hv : bootBuiltins T = some (.type T')) (hr : PA X es t) (hg : Gl X T := by rfl) (hn : T ≠ "__name__" := by decide) (hd : (T == ("__debug__" : Str)) = false := by decide)
    (hs : starEach (.Name T p :: es) X.env = (false, eval (.Name T p) X.env) :: starEach es X.env := by rfl) : PA X (.Name T p :: es) (tCons (tC (.ty T')) t) := pa_cons (pe_bltn hg hm hv rfl hn hd) hr hs
variable {Z : Z0} {E : XK} {c a b : Expr} {tA tB tC : TT} {fc fa fb : Sb}
/-- a if t else b, as a test -/
def tIfT (t ta tb : TT) : TT := fun σ H Q => t σ H fun c H1 => if c = true then ta σ H1 Q else tb σ H1 Q
theorem pt_ifExp (hc : PT X c tA) (ha : PT X a tB) (hb : PT X b tC) : PT X (.IfExp c a b pos) (tIfT tA tB tC) := by
  refine ⟨fun pins s σ H Q I h => ?_⟩
  rw [PySem.isTrue]
  refine wpAny_bind (thn (hc.run pins s σ H _ I h) fun d s1 ⟨H1, I1, q1⟩ => ?_)
  cases d with
  | true => exact ha.run pins s1 σ H1 Q I1 q1
  | false => exact hb.run pins s1 σ H1 Q I1 q1
def fIfT (fc fa fb : Sb) : Sb := fun ρ w => (fc ρ w).bind fun b w1 => if b = true then fa ρ w1 else fb ρ w1
theorem t_if (hc : DT X Z E c tA fc) (ha : DT X Z E a tB fa) (hb : DT X Z E b tC fb) : DT X Z E (.IfExp c a b pos) (tIfT tA tB tC) (fIfT fc fa fb) := ⟨pt_ifExp hc.pt ha.pt hb.pt, fun F ow σ H ρ w Q R q =>
  hc.sn.seq R q fun k w1 H1 F1 ow1 s1 R1 q1 => by
    cases k with
    | true => rw [if_pos rfl] at q1 ⊢; exact ha.sn F1 ow1 σ H1 ρ w1 Q R1 (q1.imp fun d w h H' F' ow' s => h H' F' ow' (s1.trans s))
    | false => rw [if_neg Bool.false_ne_true] at q1 ⊢; exact hb.sn F1 ow1 σ H1 ρ w1 Q R1 (q1.imp fun d w h H' F' ow' s => h H' F' ow' (s1.trans s))⟩
end
end DL

namespace DL
open PySem PySem.Spec PyProof.Rows L2

/-! ### how the readings compute -/
@[simp] theorem x_var (i : Nat) (ρ : List EV) (w : DS) : fVar i ρ w = match ρ[i]? with | some (.dat d) => .ok d w | _ => .stuck := rfl
@[simp] theorem x_c (d : Dv) (ρ : List EV) (w : DS) : fC d ρ w = .ok d w := rfl
@[simp] theorem x_op (op : Dv → Dv → Option Dv) (fa fb : Sx) (ρ : List EV) (w : DS) : fOp op fa fb ρ w = (fa ρ w).bind fun d w1 => (fb ρ w1).bind fun e w2 => .of (op d e) w2 := rfl
@[simp] theorem x_un (op : Dv → Option Dv) (fa : Sx) (ρ : List EV) (w : DS) : fUn op fa ρ w = (fa ρ w).bind fun d w1 => .of (op d) w1 := rfl
@[simp] theorem x_bool (f : Sx) (ρ : List EV) (w : DS) : fBool f ρ w = (f ρ w).bind fun d w1 => match d with | .bl b => .ok b w1 | _ => .stuck := rfl
@[simp] theorem x_and (fa fb : Sb) (ρ : List EV) (w : DS) : fAnd fa fb ρ w = (fa ρ w).bind fun b w1 => if b = true then fb ρ w1 else .ok false w1 := rfl
@[simp] theorem x_or (fa fb : Sb) (ρ : List EV) (w : DS) : fOr fa fb ρ w = (fa ρ w).bind fun b w1 => if b = true then .ok true w1 else fb ρ w1 := rfl
@[simp] theorem x_not (fa : Sb) (ρ : List EV) (w : DS) : fNot fa ρ w = (fa ρ w).bind fun b w1 => .ok (!b) w1 := rfl
@[simp] theorem x_if (fc : Sb) (fa fb : Sx) (ρ : List EV) (w : DS) : fIf fc fa fb ρ w = (fc ρ w).bind fun b w1 => if b = true then fa ρ w1 else fb ρ w1 := rfl
@[simp] theorem x_ifT (fc fa fb : Sb) (ρ : List EV) (w : DS) : fIfT fc fa fb ρ w = (fc ρ w).bind fun b w1 => if b = true then fa ρ w1 else fb ρ w1 := rfl
@[simp] theorem x_nil (ρ : List EV) (w : DS) : aNil ρ w = .ok [] w := rfl
@[simp] theorem x_cons (fa : Sx) (fr : Sa) (ρ : List EV) (w : DS) : aCons fa fr ρ w = (fa ρ w).bind fun d w1 => (fr ρ w1).bind fun ps w2 => .ok (.dat d :: ps) w2 := rfl
@[simp] theorem x_new (fl : Sl) (fr : Sa) (ρ : List EV) (w : DS) : aNew fl fr ρ w = (fl ρ w).bind fun ds w1 => (fr ρ w1).bind fun ps w2 => .ok (.lst ds :: ps) w2 := rfl
@[simp] theorem x_drw (i : Nat) (fr : Sa) (ρ : List EV) (w : DS) : aDrw i fr ρ w = match ρ[i]? with | some .drw => (fr ρ w).bind fun ps w2 => .ok (.drw :: ps) w2 | _ => .stuck := rfl
@[simp] theorem x_dats (fa : Sa) (ρ : List EV) (w : DS) : fDats fa ρ w = (fa ρ w).bind fun ps w1 => .of (datsOf ps) w1 := rfl
@[simp] theorem x_tup (fa : Sa) (ρ : List EV) (w : DS) : fTup fa ρ w = (fDats fa ρ w).bind fun ds w1 => if ds.length ≤ big then .ok (.tup ds) w1 else .stuck := rfl
@[simp] theorem x_lst (fa : Sa) (ρ : List EV) (w : DS) : fLst fa ρ w = (fDats fa ρ w).bind fun ds w1 => if ds.length ≤ big then .ok ds w1 else .stuck := rfl
@[simp] theorem x_cb (op : List Dv → Option Dv) (fa : Sa) (ρ : List EV) (w : DS) : fCB op fa ρ w = (fDats fa ρ w).bind fun ds w1 => .of (op ds) w1 := rfl
@[simp] theorem x_cn (op : List Dv → Option (List Dv)) (fa : Sa) (ρ : List EV) (w : DS) : fCN op fa ρ w = (fDats fa ρ w).bind fun ds w1 => .of (op ds) w1 := rfl
@[simp] theorem x_frz (f : Sl) (ρ : List EV) (w : DS) : fFrz f ρ w = (f ρ w).bind fun ds w => .ok (.lst ds) w := rfl
@[simp] theorem x_call (sem : Fsem) (fa : Sa) (ρ : List EV) (w : DS) : fCall sem fa ρ w = (fa ρ w).bind fun ps w1 => sem ps w1 := rfl
@[simp] theorem x_andV (fa fb : Sx) (ρ : List EV) (w : DS) : fAndV fa fb ρ w = (fa ρ w).bind fun d w1 => match d with | .bl true => fb ρ w1 | .bl false => .ok (.bl false) w1 | _ => .stuck := rfl
@[simp] theorem x_orV (fa fb : Sx) (ρ : List EV) (w : DS) : fOrV fa fb ρ w = (fa ρ w).bind fun d w1 => match d with | .bl false => fb ρ w1 | .bl true => .ok (.bl true) w1 | _ => .stuck := rfl
@[simp] theorem x_notV (fa : Sx) (ρ : List EV) (w : DS) : fNotV fa ρ w = (fa ρ w).bind fun d w1 => match d with | .bl b => .ok (.bl (!b)) w1 | _ => .stuck := rfl
@[simp] theorem x_isi (ns : List String) (fa : Sx) (ρ : List EV) (w : DS) : fIsi ns fa ρ w = (fa ρ w).bind fun d w1 => .of ((tyN d).map fun t => .bl (ns.any fun n => isB t n)) w1 := rfl
@[simp] theorem x_items (fa : Sx) (ρ : List EV) (w : DS) : fItems fa ρ w = (fa ρ w).bind fun d w1 => .of (itemsS d) w1 := rfl
@[simp] theorem x_enum (fa : Sx) (ρ : List EV) (w : DS) : fEnum fa ρ w = (fa ρ w).bind fun d w1 => .of ((itemsOf d).map (enumD 0)) w1 := rfl
@[simp] theorem x_next (ρ : List EV) (w : DS) : gNext ρ w = .ok (.nx ρ) w := rfl
@[simp] theorem x_seq (g h : Ss) (ρ : List EV) (w : DS) : gSeq g h ρ w = (g ρ w).bind fun s w1 => match s with | .nx ρ1 => h ρ1 w1 | s => .ok s w1 := rfl
@[simp] theorem x_set (i : Nat) (f : Sx) (ρ : List EV) (w : DS) : gSet i f ρ w = (f ρ w).bind fun d w1 => .ok (.nx (ρ.set i (.dat d))) w1 := rfl
@[simp] theorem x_setN (i : Nat) (f : Sl) (ρ : List EV) (w : DS) : gSetN i f ρ w = (f ρ w).bind fun ds w1 => .ok (.nx (ρ.set i (.lst ds))) w1 := rfl
@[simp] theorem x_drop (f : Sx) (ρ : List EV) (w : DS) : gDrop f ρ w = (f ρ w).bind fun _ w1 => .ok (.nx ρ) w1 := rfl
@[simp] theorem x_ret (f : Sx) (ρ : List EV) (w : DS) : gRet f ρ w = (f ρ w).bind fun d w1 => .ok (.rt d) w1 := rfl
@[simp] theorem x_ifS (fc : Sb) (g h : Ss) (ρ : List EV) (w : DS) : gIf fc g h ρ w = (fc ρ w).bind fun b w1 => if b = true then g ρ w1 else h ρ w1 := rfl
@[simp] theorem x_asg (f : Sx) (g : Sg) (ρ : List EV) (w : DS) : gAsg f g ρ w = (f ρ w).bind fun d w1 => match g d ρ with | some ρ1 => .ok (.nx ρ1) w1 | none => .stuck := rfl
@[simp] theorem x_par (is : List Nat) (f : Sa) (ρ : List EV) (w : DS) : gPar is f ρ w = (f ρ w).bind fun es w1 => if es.length = is.length then .ok (.nx (setsE is es ρ)) w1 else .stuck := rfl
@[simp] theorem x_for (f : Sl) (k : Sg) (g : Ss) (ρ : List EV) (w : DS) : gFor f k g ρ w = (f ρ w).bind fun items w1 => loopD k g items ρ w1 := rfl
@[simp] theorem x_frzS (i : Nat) (g : Ss) (ρ : List EV) (w : DS) : gFrz i g ρ w = match (ρ[i]?).bind lent with | some d => g (ρ.set i (.dat d)) w | none => .stuck := rfl
@[simp] theorem x_app (i : Nat) (f : Sf) (ρ : List EV) (w : DS) : gApp i f ρ w = match ρ[i]? with
  | some (.lst _) => (f ρ w).bind fun p w1 => match p.2[i]? with
    | some (.lst ds) => if ds.length < big then .ok (.nx (p.2.set i (.lst (ds ++ [p.1])))) w1 else .stuck
    | _ => .stuck
  | _ => .stuck := rfl
@[simp] theorem x_putL (i : Nat) (fi fv : Sx) (ρ : List EV) (w : DS) : gPutL i fi fv ρ w = (fv ρ w).bind fun d w1 => match ρ[i]? with
  | some (.lst _) => (fi ρ w1).bind fun k w2 => match k, ρ[i]? with
    | .int k, some (.lst ds) => match ixN ds.length k with
      | some j => .ok (.nx (ρ.set i (.lst (ds.set j d)))) w2
      | none => .stuck
    | _, _ => .stuck
  | _ => .stuck := rfl
@[simp] theorem x_pure (f : Sx) (ρ : List EV) (w : DS) : fPure f ρ w = (f ρ w).bind fun d w1 => .ok (d, ρ) w1 := rfl
@[simp] theorem x_kName (i : Nat) (d : Dv) (ρ : List EV) : kName i d ρ = some (ρ.set i (.dat d)) := rfl
@[simp] theorem x_kTup (n : Nat) (gs : Sgs) (ds : List Dv) (ρ : List EV) : kTup n gs (.tup ds) ρ = if ds.length = n then gs ds ρ else none := rfl
@[simp] theorem x_kCons (g : Sg) (gs : Sgs) (d : Dv) (ds : List Dv) (ρ : List EV) : kCons g gs (d :: ds) ρ = (g d ρ).bind fun ρ1 => gs ds ρ1 := rfl
@[simp] theorem x_kNil (ρ : List EV) : kNil [] ρ = some ρ := rfl
theorem semOf_eq {n : Nat} {g : Ss} {ps : List EV} {w : DS} : semOf n g ps w = match g (ps ++ List.replicate (n - ps.length) .un) w with
  | .ok (.rt d) w' => .ok d w'
  | .ok (.nx _) w' => .ok .non w'
  | .ok _ _ => .stuck
  | .rz x w' => .rz x w'
  | .stuck => .stuck := rfl
@[simp] theorem x_datsNil : datsOf [] = some [] := rfl
@[simp] theorem x_datsCons (d : Dv) (r : List EV) : datsOf (.dat d :: r) = (datsOf r).map (d :: ·) := rfl
@[simp] theorem x_addI (a b : Int) : dAdd (.int a) (.int b) = some (.int (a + b)) := rfl
theorem dI_eq (g : Int → Int → Dv) (a b : Int) : dI g (.int a) (.int b) = some (g a b) := rfl
theorem le_big {n : Nat} (h : n ≤ 1000000) : n ≤ big := Nat.le_trans h (by decide)
@[simp] theorem one_big : (1 : Nat) ≤ big := by decide
@[simp] theorem two_big : (2 : Nat) ≤ big := by decide
@[simp] theorem zero_big : (0 : Nat) ≤ big := by decide
@[simp] theorem x_items_tup (ds : List Dv) : itemsS (.tup ds) = some ds := rfl
@[simp] theorem x_items_lst (ds : List Dv) : itemsS (.lst ds) = some ds := rfl
@[simp] theorem x_itemsOf_tup (ds : List Dv) : itemsOf (.tup ds) = some ds := rfl
@[simp] theorem x_itemsOf_lst (ds : List Dv) : itemsOf (.lst ds) = some ds := rfl
@[simp] theorem x_len_tup (ds : List Dv) : dLen [.tup ds] = some (.int ds.length) := rfl
@[simp] theorem x_len_lst (ds : List Dv) : dLen [.lst ds] = some (.int ds.length) := rfl
@[simp] theorem x_tupOf_tup (ds : List Dv) : dTupOf (.tup ds) = some (.tup ds) := rfl
@[simp] theorem x_tupOf_lst (ds : List Dv) : dTupOf (.lst ds) = some (.tup ds) := rfl
@[simp] theorem x_tupRev_tup (ds : List Dv) : dTupRev (.tup ds) = some (.tup ds.reverse) := rfl
@[simp] theorem x_tupRev_lst (ds : List Dv) : dTupRev (.lst ds) = some (.tup ds.reverse) := rfl
@[simp] theorem x_neg (i : Int) : dNeg (.int i) = some (.int (-i)) := rfl

/-! ### loops -/
/-- a loop whose body turns one state into the next -/
theorem loopD_fold {α σ : Type} {k : Sg} {g : Ss} {w : DS} (c : α → Dv) (r : σ → List EV) (step : σ → α → σ) : ∀ (l : List α) (s : σ), (∀ s x, x ∈ l → ∃ ρ1, k (c x) (r s) = some ρ1 ∧ g ρ1 w = .ok (.nx (r (step s x))) w) → loopD k g (l.map c) (r s) w = .ok (.nx (r (l.foldl step s))) w
  | [], s, _ => rfl
  | x :: l, s, h => by
    obtain ⟨ρ1, h1, h2⟩ := h s x List.mem_cons_self
    rw [List.map_cons, loopD]
    simp only [h1, h2, RR.bind_ok]
    exact loopD_fold c r step l (step s x) fun s y hy => h s y (List.mem_cons_of_mem _ hy)
/-- the same with what holds of the state -/
theorem loopD_inv {α : Type} {k : Sg} {g : Ss} {w : DS} (c : α → Dv) (I : List α → List EV → Prop) : ∀ (l done : List α) (ρ : List EV), I done ρ → (∀ done x ρ, x ∈ l → I done ρ → ∃ ρ1 ρ2, k (c x) ρ = some ρ1 ∧ g ρ1 w = .ok (.nx ρ2) w ∧ I (done ++ [x]) ρ2) →
    ∃ ρ', loopD k g (l.map c) ρ w = .ok (.nx ρ') w ∧ I (done ++ l) ρ'
  | [], done, ρ, h, _ => ⟨ρ, rfl, by rw [List.append_nil]; exact h⟩
  | x :: l, done, ρ, h, hs => by
    obtain ⟨ρ1, ρ2, h1, h2, h3⟩ := hs done x ρ List.mem_cons_self h
    obtain ⟨ρ', e, hi⟩ := loopD_inv c I l (done ++ [x]) ρ2 h3 fun d y ρ hy => hs d y ρ (List.mem_cons_of_mem _ hy)
    refine ⟨ρ', ?_, by rw [List.append_assoc] at hi; exact hi⟩
    rw [List.map_cons, loopD]
    simp only [h1, h2, RR.bind_ok]
    exact e
end DL

namespace DL
open PySem PySem.Spec PyProof.Rows L2

/-! ### sorted ints -/
theorem leD_int (a b : Int) : leD (.int a) (.int b) = decide (a ≤ b) := by
  show (!PyProof.Rows.lexLt itemOrd (W.keyToks (.int b)) (W.keyToks (.int a))) = _
  show (!PyProof.Rows.lexLt itemOrd [.inl b] [.inl a]) = _
  have e : PyProof.Rows.lexLt itemOrd [.inl b] [.inl a] = decide (b < a) := by
    unfold PyProof.Rows.lexLt
    by_cases h : b < a
    · simp [itemOrd, itemLt, h]
    · simp [itemOrd, itemLt, h, PyProof.Rows.lexLt]
  rw [e]
  by_cases h : b < a
  · rw [decide_eq_true h, decide_eq_false (by omega)]; rfl
  · rw [decide_eq_false h, decide_eq_true (by omega)]; rfl
theorem sort_ok {l : List Int} : W.AllAlike ((l.map Dv.int).map toPy) ∧ W.Sortable ((l.map Dv.int).map toPy) ∧ ∀ d ∈ l.map Dv.int, (toPy d).canLay0 = true ∧ (toPy d).depth ≤ 60 := by
  refine ⟨fun d hd e he => ?_, .inr fun d hd => ?_, fun d hd => And.intro ?_ ?_⟩
  · rw [List.map_map, List.mem_map] at hd he
    obtain ⟨i, _, rfl⟩ := hd
    obtain ⟨j, _, rfl⟩ := he
    rfl
  · rw [List.map_map, List.mem_map] at hd
    obtain ⟨i, _, rfl⟩ := hd
    refine And.intro ?_ ?_
    · intro z; cases z
    · intro _ z; cases z
  · rw [List.mem_map] at hd
    obtain ⟨i, _, rfl⟩ := hd
    rfl
  · rw [List.mem_map] at hd
    obtain ⟨i, _, rfl⟩ := hd
    exact Nat.zero_le 60
theorem sort_ints (l : List Int) : (l.map Dv.int).mergeSort leD = (l.mergeSort fun a b => decide (a ≤ b)).map Dv.int := by
  have e : ∀ l : List Int, ((l.map Dv.int).mergeSort leD) = (l.mergeSort fun a b => leD (.int a) (.int b)).map Dv.int := fun l => (List.map_mergeSort (f := Dv.int) (r := fun a b => leD (.int a) (.int b)) (s := leD) fun a _ b _ => rfl).symm
  rw [e]
  congr 2
  funext a b
  exact leD_int a b
theorem dSorted_tup (l : List Int) : dSorted [.tup (l.map .int)] = some ((l.mergeSort fun a b => decide (a ≤ b)).map .int) := by
  unfold dSorted
  rw [← sort_ints]
  exact if_pos sort_ok
theorem dSorted_lst (l : List Int) : dSorted [.lst (l.map .int)] = some ((l.mergeSort fun a b => decide (a ≤ b)).map .int) := by
  unfold dSorted
  rw [← sort_ints]
  exact if_pos sort_ok

/-! ### rows -/
def natD (l : List Nat) : List Dv := l.map fun x : Nat => Dv.int (x : Int)
def rowD (p : List Nat) : Dv := .tup (natD p)
structure IsRow (p : List Nat) : Prop where
  perm : p.Perm (List.range p.length)
  len : p.length ≤ 40
theorem natD_eq (l : List Nat) : natD l = (l.map fun x : Nat => (x : Int)).map .int := by unfold natD; rw [List.map_map]; rfl
@[simp] theorem natD_length (l : List Nat) : (natD l).length = l.length := List.length_map _
theorem natD_append (l m : List Nat) : natD (l ++ m) = natD l ++ natD m := List.map_append
theorem natD_reverse (l : List Nat) : natD l.reverse = (natD l).reverse := List.map_reverse
theorem natD_get {l : List Nat} {i : Nat} : (natD l)[i]? = l[i]?.map fun x : Nat => Dv.int (x : Int) := List.getElem?_map
theorem natD_inj {l m : List Nat} : natD l = natD m ↔ l = m := ⟨fun h => (List.map_inj_right (f := fun x : Nat => Dv.int (x : Int)) (fun x y e => Int.ofNat.inj (Dv.int.inj e))).mp h, fun h => by rw [h]⟩
theorem rowD_inj {l m : List Nat} : rowD l = rowD m ↔ l = m := ⟨fun h => natD_inj.mp (Dv.tup.inj h), fun h => by rw [h]⟩
theorem okn_natD {n : Nat} {l : List Nat} : ∀ d ∈ natD l, okn n d := fun d h => by
  obtain ⟨i, _, rfl⟩ := List.mem_map.mp h
  exact okn_int _
theorem okc_row (p : List Nat) : okc (rowD p) := (okn_tup (n := 0) okn_natD).c
theorem okc_nats (p : List Nat) : okc (.lst (natD p)) := (okn_lst (n := 0) okn_natD).c
theorem rgD_nat (n : Nat) : rgD 0 (n : Int) = natD (List.range n) := by
  unfold rgD natD
  rw [show ((n : Int) - 0).toNat = n by omega]
  congr 1
  funext i
  rw [Int.zero_add]
theorem IsRow.sorted {p : List Nat} (h : IsRow p) : ((p.map fun x : Nat => (x : Int)).mergeSort fun a b => decide (a ≤ b)) = (List.range p.length).map fun x : Nat => (x : Int) := by
  have s1 := List.pairwise_mergeSort (le := fun a b : Int => decide (a ≤ b)) (fun a b c h1 h2 => by simp only [decide_eq_true_eq] at *; omega) (fun a b => by simp only [Bool.or_eq_true, decide_eq_true_eq]; omega) (p.map fun x : Nat => (x : Int))
  have p1 := (List.mergeSort_perm (p.map fun x : Nat => (x : Int)) fun a b : Int => decide (a ≤ b)).trans (h.perm.map fun x : Nat => (x : Int))
  refine List.Perm.eq_of_pairwise (le := fun a b : Int => decide (a ≤ b) = true) (fun a b _ _ h1 h2 => by simp only [decide_eq_true_eq] at *; omega) s1 ?_ p1
  refine List.Pairwise.map _ (fun a b (hab : a < b) => ?_) List.pairwise_lt_range
  simp only [decide_eq_true_eq]; omega
theorem ixN_nat {n i : Nat} (h : i < n) : ixN n (i : Int) = some i := by
  unfold ixN
  rw [if_pos (by omega), if_pos (by omega)]
  rfl
theorem ixN_last {n : Nat} (h : 0 < n) : ixN n (-1) = some (n - 1) := by
  unfold ixN
  rw [if_neg (by omega), if_pos (by omega)]
  congr 1
  omega
theorem dSubI_tup {ds : List Dv} {i : Nat} {d : Dv} (h : ds[i]? = some d) : dSubI (.tup ds) (.int (i : Int)) = some d := by
  show dIx (.tup ds) (.int (i : Int)) = some d
  show L2.atI ds (i : Int) = some d
  unfold L2.atI
  rw [ixN_nat (List.getElem?_eq_some_iff.mp h).1]
  exact h
theorem dSubI_lst {ds : List Dv} {i : Nat} {d : Dv} (h : ds[i]? = some d) : dSubI (.lst ds) (.int (i : Int)) = some d := by
  show L2.atI ds (i : Int) = some d
  unfold L2.atI
  rw [ixN_nat (List.getElem?_eq_some_iff.mp h).1]
  exact h
theorem dSubI_tupL {ds : List Dv} {d : Dv} (h : ds.getLast? = some d) : dSubI (.tup ds) (.int (-1)) = some d := by
  show L2.atI ds (-1) = some d
  unfold L2.atI
  have hn : ds ≠ [] := fun e => by rw [e] at h; cases h
  rw [ixN_last (List.length_pos_iff.mpr hn)]
  rw [List.getLast?_eq_getElem?] at h
  exact h
theorem dSubI_lstL {ds : List Dv} {d : Dv} (h : ds.getLast? = some d) : dSubI (.lst ds) (.int (-1)) = some d := by
  show L2.atI ds (-1) = some d
  unfold L2.atI
  have hn : ds ≠ [] := fun e => by rw [e] at h; cases h
  rw [ixN_last (List.length_pos_iff.mpr hn)]
  rw [List.getLast?_eq_getElem?] at h
  exact h
@[simp] theorem tyN_row (p : List Nat) : tyN (rowD p) = some "tuple" := rfl
@[simp] theorem tyN_int (i : Int) : tyN (.int i) = some "int" := rfl
@[simp] theorem tyN_str (i : Str) : tyN (.str i) = some "str" := rfl
@[simp] theorem tyN_tup (i : List Dv) : tyN (.tup i) = some "tuple" := rfl
@[simp] theorem tyN_lst (i : List Dv) : tyN (.lst i) = some "list" := rfl
@[simp] theorem tyN_non : tyN .non = some "NoneType" := rfl
@[simp] theorem tyN_bl (b : Bool) : tyN (.bl b) = some "bool" := rfl
@[simp] theorem len_row (p : List Nat) : dLen [rowD p] = some (.int (p.length : Int)) := by
  show some (Dv.int ((natD p).length : Int)) = _
  rw [natD_length]
@[simp] theorem items_row (p : List Nat) : itemsS (rowD p) = some (natD p) := rfl
@[simp] theorem itemsOf_row (p : List Nat) : itemsOf (rowD p) = some (natD p) := rfl
@[simp] theorem x_rg1 (fa : Sx) (ρ : List EV) (w : DS) : fRg1 fa ρ w = (fa ρ w).bind fun d w1 => match d with | .int n => if okRg 0 n then .ok (rgD 0 n) w1 else .stuck | _ => .stuck := rfl
@[simp] theorem x_ir1 (fa : Sx) (ρ : List EV) (w : DS) : fIr1 fa ρ w = (fa ρ w).bind fun d w1 => match d with | .int n => if okI n then .ok (rgD 0 n) w1 else .stuck | _ => .stuck := rfl
@[simp] theorem dI_int (g : Int → Int → Dv) (a b : Int) : dI g (.int a) (.int b) = some (g a b) := rfl
theorem all_true {α : Type} (l : List α) : dAll [.lst (l.map fun _ => Dv.bl true)] = some (.bl true) := by
  show (blsOf (l.map fun _ => Dv.bl true)).map _ = _
  have : (l.map fun _ => Dv.bl true) = (l.map fun _ => true).map Dv.bl := by rw [List.map_map]; rfl
  rw [this, blsOf_map]
  simp
theorem enumD_natD : ∀ (p : List Nat) (k : Nat), enumD k (natD p) = (p.zipIdx k).map fun z : Nat × Nat => Dv.tup [.int ((z.2 : Nat) : Int), .int ((z.1 : Nat) : Int)]
  | [], k => rfl
  | x :: p, k => by
    show enumD k (.int (x : Int) :: natD p) = _
    rw [List.zipIdx_cons, List.map_cons, ← enumD_natD p (k + 1)]
    rfl
theorem IsRow.nodup {p : List Nat} (h : IsRow p) : p.Nodup := h.perm.nodup_iff.mpr List.nodup_range
theorem IsRow.mem {p : List Nat} (h : IsRow p) {x : Nat} : x ∈ p ↔ x < p.length := by rw [h.perm.mem_iff, List.mem_range]
theorem natD_set (l : List Nat) (i x : Nat) : (natD l).set i (.int (x : Int)) = natD (l.set i x) := by
  unfold natD; rw [List.map_set]
/-- the place of each entry -/
def invP (p : List Nat) : List Nat := (List.range p.length).map fun e => p.idxOf e
def invF (p : List Nat) : List (Nat × Nat) → List Nat := fun l => l.foldl (fun f z => f.set z.1 z.2) (List.replicate p.length 0)
theorem invF_length (p : List Nat) (l : List (Nat × Nat)) : (invF p l).length = p.length := by
  unfold invF
  have : ∀ (l : List (Nat × Nat)) (f : List Nat), (l.foldl (fun f z => f.set z.1 z.2) f).length = f.length := fun l => by
    induction l with
    | nil => exact fun _ => rfl
    | cons z l ih => exact fun f => by rw [List.foldl_cons, ih, List.length_set]
  rw [this, List.length_replicate]
theorem fold_set_get : ∀ (p : List Nat) (k : Nat) (f : List Nat) (e : Nat), p.Nodup → e < f.length → ((p.zipIdx k).foldl (fun f z => f.set z.1 z.2) f)[e]? = if e ∈ p then some (k + p.idxOf e) else f[e]?
  | [], k, f, e, _, _ => by simp
  | x :: p, k, f, e, hn, he => by
    rw [List.nodup_cons] at hn
    rw [List.zipIdx_cons, List.foldl_cons, fold_set_get p (k + 1) (f.set x k) e hn.2 (by rw [List.length_set]; exact he)]
    by_cases hx : e = x
    · subst hx
      rw [if_neg hn.1, if_pos List.mem_cons_self, List.getElem?_set_self he, List.idxOf_cons_self]
      rfl
    · have hc : List.idxOf e (x :: p) = List.idxOf e p + 1 := by
        rw [List.idxOf_cons, cond_eq_if, if_neg (by simpa using Ne.symm hx)]
      rw [List.getElem?_set_ne (Ne.symm hx), hc]
      by_cases hm : e ∈ p
      · rw [if_pos hm, if_pos (List.mem_cons_of_mem _ hm)]
        congr 1; omega
      · rw [if_neg hm, if_neg (fun z => (List.mem_cons.mp z).elim hx hm)]
theorem invF_row {p : List Nat} (h : IsRow p) : invF p p.zipIdx = invP p := by
  apply List.ext_getElem?
  intro e
  unfold invP
  rw [List.getElem?_map]
  by_cases he : e < p.length
  · have := fold_set_get p 0 (List.replicate p.length 0) e h.nodup (by rw [List.length_replicate]; exact he)
    show (p.zipIdx.foldl (fun f z => f.set z.1 z.2) (List.replicate p.length 0))[e]? = _
    rw [this, if_pos (h.mem.mpr he), List.getElem?_range he]
    simp
  · rw [List.getElem?_eq_none (by rw [invF_length]; omega), List.getElem?_eq_none (by rw [List.length_range]; omega)]
    rfl
@[simp] theorem lent_lst (ds : List Dv) : lent (.lst ds) = some (.lst ds) := rfl
theorem natD_replicate (n : Nat) : natD (List.replicate n 0) = List.replicate n (.int 0) := by unfold natD; rw [List.map_replicate]; rfl
theorem rep_one {α : Type} (n : Nat) (x : α) : (List.replicate n [x]).flatten = List.replicate n x := by
  induction n with
  | zero => rfl
  | succ n ih => rw [List.replicate_succ, List.flatten_cons, ih]; rfl
@[simp] theorem x_rep (fa : Sl) (fb : Sx) (ρ : List EV) (w : DS) : fRep fa fb ρ w = (fa ρ w).bind fun ds w1 => (fb ρ w1).bind fun e w2 => match e with
  | .int k => if okRp k ds.length then .ok (List.replicate k.toNat ds).flatten w2 else .stuck
  | _ => .stuck := rfl
theorem row_fold (p : List Nat) : Dv.tup (natD p) = rowD p := rfl
theorem snoc_ind {α : Type} {P : List α → Prop} (h0 : P []) (h1 : ∀ l x, P l → P (l ++ [x])) (l : List α) : P l := by
  have key : ∀ m : List α, P m.reverse := fun m => by
    induction m with
    | nil => exact h0
    | cons x m ih => rw [List.reverse_cons]; exact h1 _ _ ih
  have := key l.reverse
  rwa [List.reverse_reverse] at this
/-- a loop, with what stands ahead of each item -/
theorem loopD_at {α : Type} {k : Sg} {g : Ss} {w : DS} (c : α → Dv) (L : List α) (I : List α → List EV → Prop) (hs : ∀ done x rest ρ, L = done ++ x :: rest → I done ρ → ∃ ρ1 ρ2, k (c x) ρ = some ρ1 ∧ g ρ1 w = .ok (.nx ρ2) w ∧ I (done ++ [x]) ρ2) :
    ∀ (rest done : List α) (ρ : List EV), L = done ++ rest → I done ρ → ∃ ρ', loopD k g (rest.map c) ρ w = .ok (.nx ρ') w ∧ I L ρ'
  | [], done, ρ, e, h => ⟨ρ, rfl, by rw [e, List.append_nil]; exact h⟩
  | x :: l, done, ρ, e, h => by
    obtain ⟨ρ1, ρ2, h1, h2, h3⟩ := hs done x l ρ e h
    obtain ⟨ρ', e2, hi⟩ := loopD_at c L I hs l (done ++ [x]) ρ2 (by rw [e, List.append_assoc]; rfl) h3
    refine ⟨ρ', ?_, hi⟩
    rw [List.map_cons, loopD]
    simp only [h1, h2, RR.bind_ok]
    exact e2
theorem zipIdx_split {p : List Nat} {done rest : List (Nat × Nat)} {z : Nat × Nat} (h : p.zipIdx = done ++ z :: rest) : z.2 = done.length ∧ p[z.2]? = some z.1 ∧ (∀ y, done.getLast? = some y → y.2 + 1 = z.2 ∧ p[y.2]? = some y.1) ∧ (done = [] ↔ z.2 = 0) := by
  have g : ∀ i : Nat, p.zipIdx[i]? = p[i]?.map fun x => (x, i) := fun i => by rw [List.getElem?_zipIdx]; simp
  have hz : p.zipIdx[done.length]? = some z := by rw [h, List.getElem?_append_right (Nat.le_refl _), Nat.sub_self]; rfl
  rw [g] at hz
  cases e : p[done.length]? with
  | none => rw [e] at hz; cases hz
  | some x =>
    rw [e] at hz
    have hz : (x, done.length) = z := Option.some.inj hz
    subst hz
    refine ⟨rfl, e, fun y hy => ?_, by simp⟩
    rw [List.getLast?_eq_getElem?] at hy
    have hlt := (List.getElem?_eq_some_iff.mp hy).1
    have hy2 : p.zipIdx[done.length - 1]? = some y := by rw [h, List.getElem?_append_left (by omega)]; exact hy
    rw [g] at hy2
    cases e3 : p[done.length - 1]? with
    | none => rw [e3] at hy2; cases hy2
    | some x2 =>
      rw [e3] at hy2
      have hy2 : (x2, done.length - 1) = y := Option.some.inj hy2
      subst hy2
      exact ⟨by show done.length - 1 + 1 = done.length; omega, e3⟩
end DL

namespace LW
open PySem PySem.Spec PyProof.Rows L2 DL
def topS (i : Nat) : Stmt := PySem.Challenge.pw_withinrows_k67_whole_words_put_together.main.body.getD i (.Pass ⟨0, 0, 0, 0⟩)
section defs
variable {P : Program} {w : World} {K : PySem.W.Frag} {mg : Str → Option Value} {base : Heap}

abbrev s_is_whole : Stmt := topS 7
theorem sc_is_whole : FnScope ["value"] ["value"] (defScope s_is_whole) := ⟨rfl, rfl, rfl, by decide +kernel, rfl, by decide +kernel, by decide +kernel⟩
noncomputable def g_is_whole : Ss := (gRet (fAndV (fIsi ["int"] (fVar 0)) (fNotV (fIsi ["bool"] (fVar 0)))))
noncomputable def f_is_whole : Fsem := semOf 1 g_is_whole
theorem ok_is_whole {f : Addr} {fd : FuncData} (F : Fun K "is_whole" "is_whole" s_is_whole f fd) (z_bool : mg "bool" = none) (z_int : mg "int" = none) (z_isinstance : mg "isinstance" = none) : FnOk P w K mg base (L2.CX P w) 1 f fd ["value"] (spD K 1 f_is_whole) :=
  fnE g_is_whole 1 1 sc_is_whole rfl rfl F (fun cdv A outer s H E hr => ⟨_, fun Z => by
    have hu64 := hr.units
    unfold g_is_whole
    exact (b_one (d_ret (e_and (e_isi z_isinstance (e_var 0) z_int (by decide +kernel) (by decide)) (e_one (e_not (e_isi z_isinstance (e_var 0) z_bool (by decide +kernel) (by decide)))))))⟩) (by decide)

abbrev s_is_row : Stmt := topS 8
theorem sc_is_row : FnScope ["value", "entry"] ["value"] (defScope s_is_row) := ⟨rfl, rfl, rfl, by decide +kernel, rfl, by decide +kernel, by decide +kernel⟩
noncomputable def g_is_row : Ss := (gSeq (gIf (fOr (fNot (fBool (fIsi ["tuple"] (fVar 0)))) (fOr (fBool (fOp (dI fun i j => .bl (decide (j < i))) (fCB dLen (aCons (fVar 0) aNil)) (fC (.int 40)))) (fNot (fBool (fCB dAll (aCons (fFrz (fLcW (fItems (fVar 0)) (kName 1) fYes (fCall f_is_whole (aCons (fVar 1) aNil)) [1])) aNil)))))) (gRet (fC (.bl false))) gNext) (gRet (fOp dEq (fFrz (fCN dSorted (aCons (fVar 0) aNil))) (fFrz (fRg1 (fCB dLen (aCons (fVar 0) aNil)))))))
noncomputable def f_is_row : Fsem := semOf 2 g_is_row
theorem ok_is_row {f : Addr} {fd : FuncData} (F : Fun K "is_row" "is_row" s_is_row f fd) (C_is_whole : Cal P w K mg base "is_whole" 1 1 f_is_whole) {v_MOST_ENTRIES : V} (c_MOST_ENTRIES : Glo K mg "MOST_ENTRIES" v_MOST_ENTRIES (.int 40)) (z_all : mg "all" = none) (z_isinstance : mg "isinstance" = none) (z_len : mg "len" = none) (z_list : mg "list" = none) (z_range : mg "range" = none) (z_sorted : mg "sorted" = none) (z_tuple : mg "tuple" = none) : FnOk P w K mg base (L2.CX P w) 2 f fd ["value"] (spD K 1 f_is_row) :=
  fnE g_is_row 2 1 sc_is_row rfl rfl F (fun cdv A outer s H E hr => ⟨_, fun Z => by
    have hu64 := hr.units
    unfold g_is_row
    exact (b_cons (d_if (w_or (t_not (t_val (e_isi z_isinstance (e_var 0) z_tuple (by decide +kernel) (by decide)))) (w_or (t_cmp op_gt o_gt (e_cb k_len o_len z_len (a_cons (e_var 0) a_nil)) (e_gl c_MOST_ENTRIES) (nomark _)) (w_or1 (t_not (t_val (e_cb (k_all rfl) o_all z_all (a_cons (e_frz (n_lc (own := [("entry", 1)]) rfl sc_is_row.nd (i_seq (e_var 0)) (blkOk_by (by kernel_rfl)) (fun _ _ _ _ _ _ => (g_name 1 sc_is_row.nd)) (fun _ _ _ _ _ _ => ts_nil) (fun _ _ _ _ _ _ => (e_call C_is_whole hr (by decide) passL (a_cons (e_var 1) a_nil) (aCons_len aNil_len))) (by decide))) a_nil))))))).dt (b_one (d_ret e_bl)) b_nil) (b_one (d_ret (e_cmp (k_eq hu64) o_eq (e_frz (n_cb (k_sorted hu64) o_sorted z_sorted (a_cons (e_var 0) a_nil))) (e_frz (n_listRg1 rfl z_list z_range (e_cb k_len o_len z_len (a_cons (e_var 0) a_nil)))) (nomark _)))))⟩) (by decide)

abbrev s_need_row : Stmt := topS 9
theorem sc_need_row : FnScope ["row"] ["row"] (defScope s_need_row) := ⟨rfl, rfl, rfl, by decide +kernel, rfl, by decide +kernel, by decide +kernel⟩
noncomputable def g_need_row : Ss := (gIf (fNot (fBool (fCall f_is_row (aCons (fVar 0) aNil)))) gNever gNext)
noncomputable def f_need_row : Fsem := semOf 1 g_need_row
theorem ok_need_row {f : Addr} {fd : FuncData} (F : Fun K "need_row" "need_row" s_need_row f fd) (C_is_row : Cal P w K mg base "is_row" 2 1 f_is_row) : FnOk P w K mg base (L2.CX P w) 3 f fd ["row"] (spD K 1 f_need_row) :=
  fnE g_need_row 1 1 sc_need_row rfl rfl F (fun cdv A outer s H E hr => ⟨_, fun Z => by
    have hu64 := hr.units
    unfold g_need_row
    exact (b_one (d_if (t_not (t_val (e_call C_is_row hr (by decide) (passes_call (takes_of rfl rfl rfl rfl) fun _ _ _ _ h => h) (a_cons (e_var 0) a_nil) (aCons_len aNil_len)))) (b_one d_never) b_nil))⟩) (by decide)

abbrev s_back : Stmt := topS 10
theorem sc_back : FnScope ["row"] ["row"] (defScope s_back) := ⟨rfl, rfl, rfl, by decide +kernel, rfl, by decide +kernel, by decide +kernel⟩
noncomputable def g_back : Ss := (gRet (fUn dTupRev (fVar 0)))
noncomputable def f_back : Fsem := semOf 1 g_back
theorem ok_back {f : Addr} {fd : FuncData} (F : Fun K "back" "back" s_back f fd) (z_reversed : mg "reversed" = none) (z_tuple : mg "tuple" = none) : FnOk P w K mg base (L2.CX P w) 1 f fd ["row"] (spD K 1 f_back) :=
  fnE g_back 1 1 sc_back rfl rfl F (fun cdv A outer s H E hr => ⟨_, fun Z => by
    have hu64 := hr.units
    unfold g_back
    exact (b_one (d_ret (e_tupRev rfl z_tuple z_reversed (e_var 0))))⟩) (by decide)

abbrev s_turned : Stmt := topS 11
theorem sc_turned : FnScope ["row"] ["row"] (defScope s_turned) := ⟨rfl, rfl, rfl, by decide +kernel, rfl, by decide +kernel, by decide +kernel⟩
noncomputable def g_turned : Ss := (gSeq (gDrop (fCall f_need_row (aCons (fVar 0) aNil))) (gRet (fCall f_back (aCons (fVar 0) aNil))))
noncomputable def f_turned : Fsem := semOf 1 g_turned
theorem ok_turned {f : Addr} {fd : FuncData} (F : Fun K "turned" "turned" s_turned f fd) (C_need_row : Cal P w K mg base "need_row" 3 1 f_need_row) (C_back : Cal P w K mg base "back" 1 1 f_back) : FnOk P w K mg base (L2.CX P w) 4 f fd ["row"] (spD K 1 f_turned) :=
  fnE g_turned 1 1 sc_turned rfl rfl F (fun cdv A outer s H E hr => ⟨_, fun Z => by
    have hu64 := hr.units
    unfold g_turned
    exact (b_cons (d_drop (e_call C_need_row hr (by decide) (passes_call (takes_of rfl rfl rfl rfl) fun _ _ _ _ h => h) (a_cons (e_var 0) a_nil) (aCons_len aNil_len))) (b_one (d_ret (e_call C_back hr (by decide) (passes_call (takes_of rfl rfl rfl rfl) fun _ _ _ _ h => h) (a_cons (e_var 0) a_nil) (aCons_len aNil_len)))))⟩) (by decide)

abbrev s_inverse : Stmt := topS 12
theorem sc_inverse : FnScope ["row", "found", "place", "entry"] ["row"] (defScope s_inverse) := ⟨rfl, rfl, rfl, by decide +kernel, rfl, by decide +kernel, by decide +kernel⟩
noncomputable def b_inverse_1 : Ss := (gPutL 1 (fVar 3) (fVar 2))
theorem u_b_inverse_1 (ρ : List EV) (w : DS) : b_inverse_1 ρ w = (gPutL 1 (fVar 3) (fVar 2)) ρ w := rfl
noncomputable def g_inverse : Ss := (gSeq (gSetN 1 (fRep (fLst (aCons (fC (.int 0)) aNil)) (fCB dLen (aCons (fVar 0) aNil)))) (gSeq (gFor (fEnum (fVar 0)) (kTup 2 (kCons (kName 2) (kCons (kName 3) kNil))) b_inverse_1) (gFrz 1 (gRet (fUn dTupOf (fVar 1))))))
noncomputable def f_inverse : Fsem := semOf 4 g_inverse
theorem ok_inverse {f : Addr} {fd : FuncData} (F : Fun K "inverse" "inverse" s_inverse f fd) (z_enumerate : mg "enumerate" = none) (z_len : mg "len" = none) (z_tuple : mg "tuple" = none) : FnOk P w K mg base (L2.CX P w) 1 f fd ["row"] (spD K 1 f_inverse) :=
  fnE g_inverse 4 1 sc_inverse rfl rfl F (fun cdv A outer s H E hr => ⟨_, fun Z => by
    have hu64 := hr.units
    unfold g_inverse b_inverse_1
    exact (b_cons (d_setN 1 sc_inverse.nd (n_rep (n_lst (a_cons e_int a_nil)) (e_cb k_len o_len z_len (a_cons (e_var 0) a_nil)))) (b_cons (d_for (passes_of rfl) rfl (i_enum z_enumerate (e_var 0)) (g_tup rfl (gs_cons (g_name 2 sc_inverse.nd) (gs_cons (g_name 3 sc_inverse.nd) gs_nil))) (b_one (d_putL 1 (e_var 3) (e_var 2)))) (b_one (d_frz 1 (d_ret (e_tupleOf z_tuple (e_var 1)))))))⟩) (by decide)

abbrev s_sum_of : Stmt := topS 13
theorem sc_sum_of : FnScope ["one", "other", "entry"] ["one", "other"] (defScope s_sum_of) := ⟨rfl, rfl, rfl, by decide +kernel, rfl, by decide +kernel, by decide +kernel⟩
noncomputable def g_sum_of : Ss := (gRet (fOp dAdd (fVar 0) (fUn dTupOf (fFrz (fLcW (fItems (fVar 1)) (kName 2) fYes (fOp dAdd (fVar 2) (fCB dLen (aCons (fVar 0) aNil))) [2])))))
noncomputable def f_sum_of : Fsem := semOf 3 g_sum_of
theorem ok_sum_of {f : Addr} {fd : FuncData} (F : Fun K "sum_of" "sum_of" s_sum_of f fd) (z_len : mg "len" = none) (z_tuple : mg "tuple" = none) : FnOk P w K mg base (L2.CX P w) 1 f fd ["one", "other"] (spD K 2 f_sum_of) :=
  fnE g_sum_of 3 2 sc_sum_of rfl rfl F (fun cdv A outer s H E hr => ⟨_, fun Z => by
    have hu64 := hr.units
    unfold g_sum_of
    exact (b_one (d_ret (e_op op_addA o_add (e_var 0) (e_tupleOf z_tuple (e_frz (n_lc (own := [("entry", 2)]) rfl sc_sum_of.nd (i_seq (e_var 1)) (blkOk_by (by kernel_rfl)) (fun _ _ _ _ _ _ => (g_name 2 sc_sum_of.nd)) (fun _ _ _ _ _ _ => ts_nil) (fun _ _ _ _ _ _ => (e_op op_addA o_add (e_var 2) (e_cb k_len o_len z_len (a_cons (e_var 0) a_nil)))) (by decide)))))))⟩) (by decide)

abbrev s_skew_of : Stmt := topS 14
theorem sc_skew_of : FnScope ["one", "other", "entry"] ["one", "other"] (defScope s_skew_of) := ⟨rfl, rfl, rfl, by decide +kernel, rfl, by decide +kernel, by decide +kernel⟩
noncomputable def g_skew_of : Ss := (gRet (fOp dAdd (fUn dTupOf (fFrz (fLcW (fItems (fVar 0)) (kName 2) fYes (fOp dAdd (fVar 2) (fCB dLen (aCons (fVar 1) aNil))) [2]))) (fVar 1)))
noncomputable def f_skew_of : Fsem := semOf 3 g_skew_of
theorem ok_skew_of {f : Addr} {fd : FuncData} (F : Fun K "skew_of" "skew_of" s_skew_of f fd) (z_len : mg "len" = none) (z_tuple : mg "tuple" = none) : FnOk P w K mg base (L2.CX P w) 1 f fd ["one", "other"] (spD K 2 f_skew_of) :=
  fnE g_skew_of 3 2 sc_skew_of rfl rfl F (fun cdv A outer s H E hr => ⟨_, fun Z => by
    have hu64 := hr.units
    unfold g_skew_of
    exact (b_one (d_ret (e_op op_addA o_add (e_tupleOf z_tuple (e_frz (n_lc (own := [("entry", 2)]) rfl sc_skew_of.nd (i_seq (e_var 0)) (blkOk_by (by kernel_rfl)) (fun _ _ _ _ _ _ => (g_name 2 sc_skew_of.nd)) (fun _ _ _ _ _ _ => ts_nil) (fun _ _ _ _ _ _ => (e_op op_addA o_add (e_var 2) (e_cb k_len o_len z_len (a_cons (e_var 1) a_nil)))) (by decide)))) (e_var 1))))⟩) (by decide)

abbrev s_need_room : Stmt := topS 15
theorem sc_need_room : FnScope ["many"] ["many"] (defScope s_need_room) := ⟨rfl, rfl, rfl, by decide +kernel, rfl, by decide +kernel, by decide +kernel⟩
noncomputable def g_need_room : Ss := (gIf (fBool (fOp (dI fun i j => .bl (decide (j < i))) (fVar 0) (fC (.int 40)))) gNever gNext)
noncomputable def f_need_room : Fsem := semOf 1 g_need_room
theorem ok_need_room {f : Addr} {fd : FuncData} (F : Fun K "need_room" "need_room" s_need_room f fd) {v_MOST_ENTRIES : V} (c_MOST_ENTRIES : Glo K mg "MOST_ENTRIES" v_MOST_ENTRIES (.int 40)) : FnOk P w K mg base (L2.CX P w) 1 f fd ["many"] (spD K 1 f_need_room) :=
  fnE g_need_room 1 1 sc_need_room rfl rfl F (fun cdv A outer s H E hr => ⟨_, fun Z => by
    have hu64 := hr.units
    unfold g_need_room
    exact (b_one (d_if (t_cmp op_gt o_gt (e_var 0) (e_gl c_MOST_ENTRIES) (nomark _)) (b_one d_never) b_nil))⟩) (by decide)

abbrev s_beside : Stmt := topS 16
theorem sc_beside : FnScope ["one", "other"] ["one", "other"] (defScope s_beside) := ⟨rfl, rfl, rfl, by decide +kernel, rfl, by decide +kernel, by decide +kernel⟩
noncomputable def g_beside : Ss := (gSeq (gDrop (fCall f_need_row (aCons (fVar 0) aNil))) (gSeq (gDrop (fCall f_need_row (aCons (fVar 1) aNil))) (gSeq (gDrop (fCall f_need_room (aCons (fOp dAdd (fCB dLen (aCons (fVar 0) aNil)) (fCB dLen (aCons (fVar 1) aNil))) aNil))) (gRet (fCall f_sum_of (aCons (fVar 0) (aCons (fVar 1) aNil)))))))
noncomputable def f_beside : Fsem := semOf 2 g_beside
theorem ok_beside {f : Addr} {fd : FuncData} (F : Fun K "beside" "beside" s_beside f fd) (C_need_row : Cal P w K mg base "need_row" 3 1 f_need_row) (C_need_room : Cal P w K mg base "need_room" 1 1 f_need_room) (C_sum_of : Cal P w K mg base "sum_of" 1 2 f_sum_of) (z_len : mg "len" = none) : FnOk P w K mg base (L2.CX P w) 4 f fd ["one", "other"] (spD K 2 f_beside) :=
  fnE g_beside 2 2 sc_beside rfl rfl F (fun cdv A outer s H E hr => ⟨_, fun Z => by
    have hu64 := hr.units
    unfold g_beside
    exact (b_cons (d_drop (e_call C_need_row hr (by decide) (passes_call (takes_of rfl rfl rfl rfl) fun _ _ _ _ h => h) (a_cons (e_var 0) a_nil) (aCons_len aNil_len))) (b_cons (d_drop (e_call C_need_row hr (by decide) (passes_call (takes_of rfl rfl rfl rfl) fun _ _ _ _ h => h) (a_cons (e_var 1) a_nil) (aCons_len aNil_len))) (b_cons (d_drop (e_call C_need_room hr (by decide) (passes_call (takes_of rfl rfl rfl rfl) fun _ _ _ _ h => h) (a_cons (e_op op_addA o_add (e_cb k_len o_len z_len (a_cons (e_var 0) a_nil)) (e_cb k_len o_len z_len (a_cons (e_var 1) a_nil))) a_nil) (aCons_len aNil_len))) (b_one (d_ret (e_call C_sum_of hr (by decide) (passes_call (takes_of rfl rfl rfl rfl) fun _ _ _ _ h => h) (a_cons (e_var 0) (a_cons (e_var 1) a_nil)) (aCons_len (aCons_len aNil_len))))))))⟩) (by decide)

abbrev s_under : Stmt := topS 17
theorem sc_under : FnScope ["one", "other"] ["one", "other"] (defScope s_under) := ⟨rfl, rfl, rfl, by decide +kernel, rfl, by decide +kernel, by decide +kernel⟩
noncomputable def g_under : Ss := (gSeq (gDrop (fCall f_need_row (aCons (fVar 0) aNil))) (gSeq (gDrop (fCall f_need_row (aCons (fVar 1) aNil))) (gSeq (gDrop (fCall f_need_room (aCons (fOp dAdd (fCB dLen (aCons (fVar 0) aNil)) (fCB dLen (aCons (fVar 1) aNil))) aNil))) (gRet (fCall f_skew_of (aCons (fVar 0) (aCons (fVar 1) aNil)))))))
noncomputable def f_under : Fsem := semOf 2 g_under
theorem ok_under {f : Addr} {fd : FuncData} (F : Fun K "under" "under" s_under f fd) (C_need_row : Cal P w K mg base "need_row" 3 1 f_need_row) (C_need_room : Cal P w K mg base "need_room" 1 1 f_need_room) (C_skew_of : Cal P w K mg base "skew_of" 1 2 f_skew_of) (z_len : mg "len" = none) : FnOk P w K mg base (L2.CX P w) 4 f fd ["one", "other"] (spD K 2 f_under) :=
  fnE g_under 2 2 sc_under rfl rfl F (fun cdv A outer s H E hr => ⟨_, fun Z => by
    have hu64 := hr.units
    unfold g_under
    exact (b_cons (d_drop (e_call C_need_row hr (by decide) (passes_call (takes_of rfl rfl rfl rfl) fun _ _ _ _ h => h) (a_cons (e_var 0) a_nil) (aCons_len aNil_len))) (b_cons (d_drop (e_call C_need_row hr (by decide) (passes_call (takes_of rfl rfl rfl rfl) fun _ _ _ _ h => h) (a_cons (e_var 1) a_nil) (aCons_len aNil_len))) (b_cons (d_drop (e_call C_need_room hr (by decide) (passes_call (takes_of rfl rfl rfl rfl) fun _ _ _ _ h => h) (a_cons (e_op op_addA o_add (e_cb k_len o_len z_len (a_cons (e_var 0) a_nil)) (e_cb k_len o_len z_len (a_cons (e_var 1) a_nil))) a_nil) (aCons_len aNil_len))) (b_one (d_ret (e_call C_skew_of hr (by decide) (passes_call (takes_of rfl rfl rfl rfl) fun _ _ _ _ h => h) (a_cons (e_var 0) (a_cons (e_var 1) a_nil)) (aCons_len (aCons_len aNil_len))))))))⟩) (by decide)

abbrev s_slots_from : Stmt := topS 20
theorem sc_slots_from : FnScope ["row", "entry", "found", "place", "own"] ["row", "entry"] (defScope s_slots_from) := ⟨rfl, rfl, rfl, by decide +kernel, rfl, by decide +kernel, by decide +kernel⟩
noncomputable def b_slots_from_1 : Ss := (gIf (fAnd (fBool (fOp (dI fun i j => .bl (decide (j ≤ i))) (fVar 4) (fVar 1))) (fAnd (fBool (fOp (dI fun i j => .bl (decide (j < i))) (fVar 3) (fC (.int 0)))) (fBool (fOp (dI fun i j => .bl (decide (j ≤ i))) (fOp dSubI (fVar 0) (fOp (dI fun i j => .int (i - j)) (fVar 3) (fC (.int 1)))) (fVar 1))))) (gPutL 2 (fUn dNeg (fC (.int 1))) (lendE 2 (fTup (aCons (fOp dSubI (fOp dSubI (fVar 2) (fUn dNeg (fC (.int 1)))) (fC (.int 0))) (aCons (fVar 3) aNil))))) (gIf (fBool (fOp (dI fun i j => .bl (decide (j ≤ i))) (fVar 4) (fVar 1))) (gApp 2 (fPure (fTup (aCons (fVar 3) (aCons (fVar 3) aNil))))) gNext))
theorem u_b_slots_from_1 (ρ : List EV) (w : DS) : b_slots_from_1 ρ w = (gIf (fAnd (fBool (fOp (dI fun i j => .bl (decide (j ≤ i))) (fVar 4) (fVar 1))) (fAnd (fBool (fOp (dI fun i j => .bl (decide (j < i))) (fVar 3) (fC (.int 0)))) (fBool (fOp (dI fun i j => .bl (decide (j ≤ i))) (fOp dSubI (fVar 0) (fOp (dI fun i j => .int (i - j)) (fVar 3) (fC (.int 1)))) (fVar 1))))) (gPutL 2 (fUn dNeg (fC (.int 1))) (lendE 2 (fTup (aCons (fOp dSubI (fOp dSubI (fVar 2) (fUn dNeg (fC (.int 1)))) (fC (.int 0))) (aCons (fVar 3) aNil))))) (gIf (fBool (fOp (dI fun i j => .bl (decide (j ≤ i))) (fVar 4) (fVar 1))) (gApp 2 (fPure (fTup (aCons (fVar 3) (aCons (fVar 3) aNil))))) gNext)) ρ w := rfl
noncomputable def g_slots_from : Ss := (gSeq (gSetN 2 (fLst aNil)) (gSeq (gFor (fEnum (fVar 0)) (kTup 2 (kCons (kName 3) (kCons (kName 4) kNil))) b_slots_from_1) (gFrz 2 (gRet (fVar 2)))))
noncomputable def f_slots_from : Fsem := semOf 5 g_slots_from
theorem ok_slots_from {f : Addr} {fd : FuncData} (F : Fun K "slots_from" "slots_from" s_slots_from f fd) (z_enumerate : mg "enumerate" = none) : FnOk P w K mg base (L2.CX P w) 1 f fd ["row", "entry"] (spD K 2 f_slots_from) :=
  fnE g_slots_from 5 2 sc_slots_from rfl rfl F (fun cdv A outer s H E hr => ⟨_, fun Z => by
    have hu64 := hr.units
    unfold g_slots_from b_slots_from_1
    exact (b_cons (d_setN 2 sc_slots_from.nd (n_lst a_nil)) (b_cons (d_for (passes_of rfl) rfl (i_enum z_enumerate (e_var 0)) (g_tup rfl (gs_cons (g_name 3 sc_slots_from.nd) (gs_cons (g_name 4 sc_slots_from.nd) gs_nil))) (b_one (d_if (w_and (t_cmp op_ge o_ge (e_var 4) (e_var 1) (nomark _)) (w_and (t_cmp op_gt o_gt (e_var 3) e_int (nomark _)) (w_and1 (t_cmp op_ge o_ge (e_sub hr (e_var 0) (e_op op_sub o_sub (e_var 3) e_int)) (e_var 1) (nomark _))))).dt (b_one (d_putL 2 (e_un un_neg u_negD e_int) (e_lend 2 (e_tup (a_cons (e_sub hr (e_sub hr (e_var 2) (e_un un_neg u_negD e_int)) e_int) (a_cons (e_var 3) a_nil)))))) (b_one (d_if (t_cmp op_ge o_ge (e_var 4) (e_var 1) (nomark _)) (b_one (d_app 2 (f_of (e_tup (a_cons (e_var 3) (a_cons (e_var 3) a_nil)))))) b_nil))))) (b_one (d_frz 2 (d_ret (e_var 2))))))⟩) (by decide)

abbrev s_kind_at : Stmt := topS 21
theorem sc_kind_at : FnScope ["place", "first", "last"] ["place", "first", "last"] (defScope s_kind_at) := ⟨rfl, rfl, rfl, by decide +kernel, rfl, by decide +kernel, by decide +kernel⟩
noncomputable def g_kind_at : Ss := (gSeq (gIf (fBool (fOp dEq (fVar 1) (fVar 2))) (gRet (fC (.str "fill"))) gNext) (gSeq (gIf (fBool (fOp dEq (fVar 0) (fVar 1))) (gRet (fC (.str "left"))) gNext) (gRet (fIf (fBool (fOp dEq (fVar 0) (fVar 2))) (fC (.str "right")) (fC (.str "split"))))))
noncomputable def f_kind_at : Fsem := semOf 3 g_kind_at
theorem ok_kind_at {f : Addr} {fd : FuncData} (F : Fun K "kind_at" "kind_at" s_kind_at f fd) : FnOk P w K mg base (L2.CX P w) 1 f fd ["place", "first", "last"] (spD K 3 f_kind_at) :=
  fnE g_kind_at 3 3 sc_kind_at rfl rfl F (fun cdv A outer s H E hr => ⟨_, fun Z => by
    have hu64 := hr.units
    unfold g_kind_at
    exact (b_cons (d_if (t_cmp (k_eq hu64) o_eq (e_var 1) (e_var 2) (nomark _)) (b_one (d_ret e_str)) b_nil) (b_cons (d_if (t_cmp (k_eq hu64) o_eq (e_var 0) (e_var 1) (nomark _)) (b_one (d_ret e_str)) b_nil) (b_one (d_ret (e_if (t_cmp (k_eq hu64) o_eq (e_var 0) (e_var 2) (nomark _)) e_str e_str)))))⟩) (by decide)

abbrev s_letter_of : Stmt := topS 22
theorem sc_letter_of : FnScope ["row", "entry", "place", "slots", "slot", "first", "last"] ["row", "entry", "place"] (defScope s_letter_of) := ⟨rfl, rfl, rfl, by decide +kernel, rfl, by decide +kernel, by decide +kernel⟩
noncomputable def g_letter_of : Ss := (gSeq (gSet 3 (fCall f_slots_from (aCons (fVar 0) (aCons (fVar 1) aNil)))) (gSeq (gSet 4 (fCB dLen (aCons (fFrz (fLcW (fItems (fVar 3)) (kTup 2 (kCons (kName 5) (kCons (kName 6) kNil))) (fBool (fOp (dI fun i j => .bl (decide (i < j))) (fVar 6) (fVar 2))) (fVar 5) [5, 6])) aNil))) (gSeq (gAsg (fOp dSubI (fVar 3) (fVar 4)) (kTup 2 (kCons (kName 5) (kCons (kName 6) kNil)))) (gRet (fTup (aCons (fVar 4) (aCons (fCall f_kind_at (aCons (fVar 2) (aCons (fVar 5) (aCons (fVar 6) aNil)))) aNil)))))))
noncomputable def f_letter_of : Fsem := semOf 7 g_letter_of
theorem ok_letter_of {f : Addr} {fd : FuncData} (F : Fun K "letter_of" "letter_of" s_letter_of f fd) (C_slots_from : Cal P w K mg base "slots_from" 1 2 f_slots_from) (C_kind_at : Cal P w K mg base "kind_at" 1 3 f_kind_at) (z_len : mg "len" = none) : FnOk P w K mg base (L2.CX P w) 2 f fd ["row", "entry", "place"] (spD K 3 f_letter_of) :=
  fnE g_letter_of 7 3 sc_letter_of rfl rfl F (fun cdv A outer s H E hr => ⟨_, fun Z => by
    have hu64 := hr.units
    unfold g_letter_of
    exact (b_cons (d_set 3 sc_letter_of.nd (e_call C_slots_from hr (by decide) (passes_call (takes_of rfl rfl rfl rfl) fun _ _ _ _ h => h) (a_cons (e_var 0) (a_cons (e_var 1) a_nil)) (aCons_len (aCons_len aNil_len)))) (b_cons (d_set 4 sc_letter_of.nd (e_cb k_len o_len z_len (a_cons (e_frz (n_lc (own := [("first", 5), ("last", 6)]) rfl sc_letter_of.nd (i_seq (e_var 3)) (blkOk_by (by kernel_rfl)) (fun _ _ _ _ _ _ => (g_tup rfl (gs_cons (g_name 5 sc_letter_of.nd) (gs_cons (g_name 6 sc_letter_of.nd) gs_nil)))) (fun _ _ _ _ _ _ => (ts_one (t_cmp op_lt o_lt (e_var 6) (e_var 2) (nomark _)))) (fun _ _ _ _ _ _ => (e_var 5)) (by decide))) a_nil))) (b_cons (d_asg (e_sub hr (e_var 3) (e_var 4)) (g_tup rfl (gs_cons (g_name 5 sc_letter_of.nd) (gs_cons (g_name 6 sc_letter_of.nd) gs_nil)))) (b_one (d_ret (e_tup (a_cons (e_var 4) (a_cons (e_call C_kind_at hr (by decide) (passes_call (takes_of rfl rfl rfl rfl) fun _ _ _ _ h => h) (a_cons (e_var 2) (a_cons (e_var 5) (a_cons (e_var 6) a_nil))) (aCons_len (aCons_len (aCons_len aNil_len)))) a_nil))))))))⟩) (by decide)

abbrev s_word_in : Stmt := topS 23
theorem sc_word_in : FnScope ["row", "entry", "place"] ["row"] (defScope s_word_in) := ⟨rfl, rfl, rfl, by decide +kernel, rfl, by decide +kernel, by decide +kernel⟩
noncomputable def g_word_in : Ss := (gRet (fUn dTupOf (fFrz (fLcW (fEnum (fCall f_inverse (aCons (fVar 0) aNil))) (kTup 2 (kCons (kName 1) (kCons (kName 2) kNil))) fYes (fCall f_letter_of (aCons (fVar 0) (aCons (fVar 1) (aCons (fVar 2) aNil)))) [1, 2]))))
noncomputable def f_word_in : Fsem := semOf 3 g_word_in
theorem ok_word_in {f : Addr} {fd : FuncData} (F : Fun K "word_in" "word_in" s_word_in f fd) (C_inverse : Cal P w K mg base "inverse" 1 1 f_inverse) (C_letter_of : Cal P w K mg base "letter_of" 2 3 f_letter_of) (z_enumerate : mg "enumerate" = none) (z_tuple : mg "tuple" = none) : FnOk P w K mg base (L2.CX P w) 3 f fd ["row"] (spD K 1 f_word_in) :=
  fnE g_word_in 3 1 sc_word_in rfl rfl F (fun cdv A outer s H E hr => ⟨_, fun Z => by
    have hu64 := hr.units
    unfold g_word_in
    exact (b_one (d_ret (e_tupleOf z_tuple (e_frz (n_lc (own := [("entry", 1), ("place", 2)]) rfl sc_word_in.nd (i_enum z_enumerate (e_call C_inverse hr (by decide) (passes_call (takes_of rfl rfl rfl rfl) fun _ _ _ _ h => h) (a_cons (e_var 0) a_nil) (aCons_len aNil_len))) (blkOk_by (by kernel_rfl)) (fun _ _ _ _ _ _ => (g_tup rfl (gs_cons (g_name 1 sc_word_in.nd) (gs_cons (g_name 2 sc_word_in.nd) gs_nil)))) (fun _ _ _ _ _ _ => ts_nil) (fun _ _ _ _ _ _ => (e_call C_letter_of hr (by decide) passL (a_cons (e_var 0) (a_cons (e_var 1) (a_cons (e_var 2) a_nil))) (aCons_len (aCons_len (aCons_len aNil_len))))) (by decide))))))⟩) (by decide)

abbrev s_word_of : Stmt := topS 24
theorem sc_word_of : FnScope ["row"] ["row"] (defScope s_word_of) := ⟨rfl, rfl, rfl, by decide +kernel, rfl, by decide +kernel, by decide +kernel⟩
noncomputable def g_word_of : Ss := (gSeq (gDrop (fCall f_need_row (aCons (fVar 0) aNil))) (gRet (fCall f_word_in (aCons (fVar 0) aNil))))
noncomputable def f_word_of : Fsem := semOf 1 g_word_of
theorem ok_word_of {f : Addr} {fd : FuncData} (F : Fun K "word_of" "word_of" s_word_of f fd) (C_need_row : Cal P w K mg base "need_row" 3 1 f_need_row) (C_word_in : Cal P w K mg base "word_in" 3 1 f_word_in) : FnOk P w K mg base (L2.CX P w) 4 f fd ["row"] (spD K 1 f_word_of) :=
  fnE g_word_of 1 1 sc_word_of rfl rfl F (fun cdv A outer s H E hr => ⟨_, fun Z => by
    have hu64 := hr.units
    unfold g_word_of
    exact (b_cons (d_drop (e_call C_need_row hr (by decide) (passes_call (takes_of rfl rfl rfl rfl) fun _ _ _ _ h => h) (a_cons (e_var 0) a_nil) (aCons_len aNil_len))) (b_one (d_ret (e_call C_word_in hr (by decide) (passes_call (takes_of rfl rfl rfl rfl) fun _ _ _ _ h => h) (a_cons (e_var 0) a_nil) (aCons_len aNil_len)))))⟩) (by decide)

abbrev s_open_slots : Stmt := topS 25
theorem sc_open_slots : FnScope ["row", "entry"] ["row"] (defScope s_open_slots) := ⟨rfl, rfl, rfl, by decide +kernel, rfl, by decide +kernel, by decide +kernel⟩
noncomputable def g_open_slots : Ss := (gSeq (gDrop (fCall f_need_row (aCons (fVar 0) aNil))) (gRet (fUn dTupOf (fFrz (fLcW (fIr1 (fOp dAdd (fCB dLen (aCons (fVar 0) aNil)) (fC (.int 1)))) (kName 1) fYes (fCB dLen (aCons (fCall f_slots_from (aCons (fVar 0) (aCons (fVar 1) aNil))) aNil)) [1])))))
noncomputable def f_open_slots : Fsem := semOf 2 g_open_slots
theorem ok_open_slots {f : Addr} {fd : FuncData} (F : Fun K "open_slots" "open_slots" s_open_slots f fd) (C_need_row : Cal P w K mg base "need_row" 3 1 f_need_row) (C_slots_from : Cal P w K mg base "slots_from" 1 2 f_slots_from) (z_len : mg "len" = none) (z_range : mg "range" = none) (z_tuple : mg "tuple" = none) : FnOk P w K mg base (L2.CX P w) 4 f fd ["row"] (spD K 1 f_open_slots) :=
  fnE g_open_slots 2 1 sc_open_slots rfl rfl F (fun cdv A outer s H E hr => ⟨_, fun Z => by
    have hu64 := hr.units
    unfold g_open_slots
    exact (b_cons (d_drop (e_call C_need_row hr (by decide) (passes_call (takes_of rfl rfl rfl rfl) fun _ _ _ _ h => h) (a_cons (e_var 0) a_nil) (aCons_len aNil_len))) (b_one (d_ret (e_tupleOf z_tuple (e_frz (n_lc (own := [("entry", 1)]) rfl sc_open_slots.nd (i_range1 z_range (e_op op_addA o_add (e_cb k_len o_len z_len (a_cons (e_var 0) a_nil)) e_int)) (blkOk_by (by kernel_rfl)) (fun _ _ _ _ _ _ => (g_name 1 sc_open_slots.nd)) (fun _ _ _ _ _ _ => ts_nil) (fun _ _ _ _ _ _ => (e_cb k_len o_len z_len (a_cons (e_call C_slots_from hr (by decide) passL (a_cons (e_var 0) (a_cons (e_var 1) a_nil)) (aCons_len (aCons_len aNil_len))) a_nil))) (by decide)))))))⟩) (by decide)

abbrev s_slots_behind : Stmt := topS 26
theorem sc_slots_behind : FnScope ["slots", "kind"] ["slots", "kind"] (defScope s_slots_behind) := ⟨rfl, rfl, rfl, by decide +kernel, rfl, by decide +kernel, by decide +kernel⟩
noncomputable def g_slots_behind : Ss := (gSeq (gIf (fBool (fOp dEq (fVar 1) (fC (.str "fill")))) (gRet (fOp (dI fun i j => .int (i - j)) (fVar 0) (fC (.int 1)))) gNext) (gRet (fIf (fBool (fOp dEq (fVar 1) (fC (.str "split")))) (fOp dAdd (fVar 0) (fC (.int 1))) (fVar 0))))
noncomputable def f_slots_behind : Fsem := semOf 2 g_slots_behind
theorem ok_slots_behind {f : Addr} {fd : FuncData} (F : Fun K "slots_behind" "slots_behind" s_slots_behind f fd) : FnOk P w K mg base (L2.CX P w) 1 f fd ["slots", "kind"] (spD K 2 f_slots_behind) :=
  fnE g_slots_behind 2 2 sc_slots_behind rfl rfl F (fun cdv A outer s H E hr => ⟨_, fun Z => by
    have hu64 := hr.units
    unfold g_slots_behind
    exact (b_cons (d_if (t_cmp (k_eq hu64) o_eq (e_var 1) e_str (nomark _)) (b_one (d_ret (e_op op_sub o_sub (e_var 0) e_int))) b_nil) (b_one (d_ret (e_if (t_cmp (k_eq hu64) o_eq (e_var 1) e_str (nomark _)) (e_op op_addA o_add (e_var 0) e_int) (e_var 0)))))⟩) (by decide)

abbrev s_is_letter : Stmt := topS 27
theorem sc_is_letter : FnScope ["value"] ["value"] (defScope s_is_letter) := ⟨rfl, rfl, rfl, by decide +kernel, rfl, by decide +kernel, by decide +kernel⟩
noncomputable def g_is_letter : Ss := (gSeq (gIf (fOr (fNot (fBool (fIsi ["tuple"] (fVar 0)))) (fOr (fBool (fOp dNe (fCB dLen (aCons (fVar 0) aNil)) (fC (.int 2)))) (fOr (fNot (fBool (fCall f_is_whole (aCons (fOp dSubI (fVar 0) (fC (.int 0))) aNil)))) (fBool (fOp (dI fun i j => .bl (decide (i < j))) (fOp dSubI (fVar 0) (fC (.int 0))) (fC (.int 0))))))) (gRet (fC (.bl false))) gNext) (gRet (fAndV (fIsi ["str"] (fOp dSubI (fVar 0) (fC (.int 1)))) (fOp (dIn false) (fOp dSubI (fVar 0) (fC (.int 1))) (fC (.tup [(.str "fill"), (.str "left"), (.str "right"), (.str "split")]))))))
noncomputable def f_is_letter : Fsem := semOf 1 g_is_letter
theorem ok_is_letter {f : Addr} {fd : FuncData} (F : Fun K "is_letter" "is_letter" s_is_letter f fd) (C_is_whole : Cal P w K mg base "is_whole" 1 1 f_is_whole) {v_KINDS : V} (c_KINDS : Glo K mg "KINDS" v_KINDS (.tup [(.str "fill"), (.str "left"), (.str "right"), (.str "split")])) (z_isinstance : mg "isinstance" = none) (z_len : mg "len" = none) (z_str : mg "str" = none) (z_tuple : mg "tuple" = none) : FnOk P w K mg base (L2.CX P w) 2 f fd ["value"] (spD K 1 f_is_letter) :=
  fnE g_is_letter 1 1 sc_is_letter rfl rfl F (fun cdv A outer s H E hr => ⟨_, fun Z => by
    have hu64 := hr.units
    unfold g_is_letter
    exact (b_cons (d_if (w_or (t_not (t_val (e_isi z_isinstance (e_var 0) z_tuple (by decide +kernel) (by decide)))) (w_or (t_cmp (k_ne hu64) o_ne (e_cb k_len o_len z_len (a_cons (e_var 0) a_nil)) e_int (nomark _)) (w_or (t_not (t_val (e_call C_is_whole hr (by decide) (passes_call (takes_of rfl rfl rfl rfl) fun _ _ _ _ h => h) (a_cons (e_sub hr (e_var 0) e_int) a_nil) (aCons_len aNil_len)))) (w_or1 (t_cmp op_lt o_lt (e_sub hr (e_var 0) e_int) e_int (nomark _)))))).dt (b_one (d_ret e_bl)) b_nil) (b_one (d_ret (e_and (e_isi z_isinstance (e_sub hr (e_var 0) e_int) z_str (by decide +kernel) (by decide)) (e_one (e_cmp k_in o_inG (e_sub hr (e_var 0) e_int) (e_gl c_KINDS) rfl))))))⟩) (by decide)

abbrev s_is_word : Stmt := topS 28
theorem sc_is_word : FnScope ["value", "slots", "slot", "kind", "letter"] ["value"] (defScope s_is_word) := ⟨rfl, rfl, rfl, by decide +kernel, rfl, by decide +kernel, by decide +kernel⟩
noncomputable def b_is_word_1 : Ss := (gSeq (gIf (fBool (fOp (dI fun i j => .bl (decide (j ≤ i))) (fVar 2) (fVar 1))) (gRet (fC (.bl false))) gNext) (gSet 1 (fCall f_slots_behind (aCons (fVar 1) (aCons (fVar 3) aNil)))))
theorem u_b_is_word_1 (ρ : List EV) (w : DS) : b_is_word_1 ρ w = (gSeq (gIf (fBool (fOp (dI fun i j => .bl (decide (j ≤ i))) (fVar 2) (fVar 1))) (gRet (fC (.bl false))) gNext) (gSet 1 (fCall f_slots_behind (aCons (fVar 1) (aCons (fVar 3) aNil))))) ρ w := rfl
noncomputable def g_is_word : Ss := (gSeq (gIf (fOr (fNot (fBool (fIsi ["tuple"] (fVar 0)))) (fOr (fBool (fOp (dI fun i j => .bl (decide (j < i))) (fCB dLen (aCons (fVar 0) aNil)) (fC (.int 40)))) (fNot (fBool (fCB dAll (aCons (fFrz (fLcW (fItems (fVar 0)) (kName 4) fYes (fCall f_is_letter (aCons (fVar 4) aNil)) [4])) aNil)))))) (gRet (fC (.bl false))) gNext) (gSeq (gSet 1 (fIf (fBool (fOp dNe (fVar 0) (fTup aNil))) (fC (.int 1)) (fC (.int 0)))) (gSeq (gFor (fItems (fVar 0)) (kTup 2 (kCons (kName 2) (kCons (kName 3) kNil))) b_is_word_1) (gRet (fOp dEq (fVar 1) (fC (.int 0)))))))
noncomputable def f_is_word : Fsem := semOf 5 g_is_word
theorem ok_is_word {f : Addr} {fd : FuncData} (F : Fun K "is_word" "is_word" s_is_word f fd) (C_is_letter : Cal P w K mg base "is_letter" 2 1 f_is_letter) (C_slots_behind : Cal P w K mg base "slots_behind" 1 2 f_slots_behind) {v_MOST_ENTRIES : V} (c_MOST_ENTRIES : Glo K mg "MOST_ENTRIES" v_MOST_ENTRIES (.int 40)) (z_all : mg "all" = none) (z_isinstance : mg "isinstance" = none) (z_len : mg "len" = none) (z_tuple : mg "tuple" = none) : FnOk P w K mg base (L2.CX P w) 3 f fd ["value"] (spD K 1 f_is_word) :=
  fnE g_is_word 5 1 sc_is_word rfl rfl F (fun cdv A outer s H E hr => ⟨_, fun Z => by
    have hu64 := hr.units
    unfold g_is_word b_is_word_1
    exact (b_cons (d_if (w_or (t_not (t_val (e_isi z_isinstance (e_var 0) z_tuple (by decide +kernel) (by decide)))) (w_or (t_cmp op_gt o_gt (e_cb k_len o_len z_len (a_cons (e_var 0) a_nil)) (e_gl c_MOST_ENTRIES) (nomark _)) (w_or1 (t_not (t_val (e_cb (k_all rfl) o_all z_all (a_cons (e_frz (n_lc (own := [("letter", 4)]) rfl sc_is_word.nd (i_seq (e_var 0)) (blkOk_by (by kernel_rfl)) (fun _ _ _ _ _ _ => (g_name 4 sc_is_word.nd)) (fun _ _ _ _ _ _ => ts_nil) (fun _ _ _ _ _ _ => (e_call C_is_letter hr (by decide) passL (a_cons (e_var 4) a_nil) (aCons_len aNil_len))) (by decide))) a_nil))))))).dt (b_one (d_ret e_bl)) b_nil) (b_cons (d_set 1 sc_is_word.nd (e_if (t_cmp (k_ne hu64) o_ne (e_var 0) (e_tup a_nil) (nomark _)) e_int e_int)) (b_cons (d_for (passes_of rfl) rfl (i_seq (e_var 0)) (g_tup rfl (gs_cons (g_name 2 sc_is_word.nd) (gs_cons (g_name 3 sc_is_word.nd) gs_nil))) (b_cons (d_if (t_cmp op_ge o_ge (e_var 2) (e_var 1) (nomark _)) (b_one (d_ret e_bl)) b_nil) (b_one (d_set 1 sc_is_word.nd (e_call C_slots_behind hr (by decide) (passes_call (takes_of rfl rfl rfl rfl) fun _ _ _ _ h => h) (a_cons (e_var 1) (a_cons (e_var 3) a_nil)) (aCons_len (aCons_len aNil_len))))))) (b_one (d_ret (e_cmp (k_eq hu64) o_eq (e_var 1) e_int (nomark _)))))))⟩) (by decide)

abbrev s_put_by : Stmt := topS 29
theorem sc_put_by : FnScope ["parts", "entry", "letter", "slot", "kind", "at", "own", "place"] ["parts", "entry", "letter"] (defScope s_put_by) := ⟨rfl, rfl, rfl, by decide +kernel, rfl, by decide +kernel, by decide +kernel⟩
noncomputable def g_put_by : Ss := (gSeq (gAsg (fVar 2) (kTup 2 (kCons (kName 3) (kCons (kName 4) kNil)))) (gSeq (gSet 5 (fOp dSubI (fFrz (fLcW (fEnum (fVar 0)) (kTup 2 (kCons (kName 7) (kCons (kName 6) kNil))) (fBool (fOp (dIsN false) (fVar 6) (fC .non))) (fVar 7) [7, 6])) (fVar 3))) (gSeq (gSet 6 (fFrz (fLst (aCons (fVar 1) aNil)))) (gSeq (gIf (fBool (fOp (dIn false) (fVar 4) (fTup (aCons (fC (.str "right")) (aCons (fC (.str "split")) aNil))))) (gSet 6 (fFrz (fCatE (fFrz (fLst (aCons (fC .non) aNil))) (fVar 6)))) gNext) (gSeq (gIf (fBool (fOp (dIn false) (fVar 4) (fTup (aCons (fC (.str "left")) (aCons (fC (.str "split")) aNil))))) (gSet 6 (fFrz (fCatE (fVar 6) (fFrz (fLst (aCons (fC .non) aNil)))))) gNext) (gRet (fFrz (fCatE (fFrz (fCatE (fSl (fVar 0) oNone (oSome (fVar 5))) (fVar 6))) (fSl (fVar 0) (oSome (fOp dAdd (fVar 5) (fC (.int 1)))) oNone)))))))))
noncomputable def f_put_by : Fsem := semOf 8 g_put_by
theorem ok_put_by {f : Addr} {fd : FuncData} (F : Fun K "put_by" "put_by" s_put_by f fd) (z_enumerate : mg "enumerate" = none) : FnOk P w K mg base (L2.CX P w) 1 f fd ["parts", "entry", "letter"] (spD K 3 f_put_by) :=
  fnE g_put_by 8 3 sc_put_by rfl rfl F (fun cdv A outer s H E hr => ⟨_, fun Z => by
    have hu64 := hr.units
    unfold g_put_by
    exact (b_cons (d_asg (e_var 2) (g_tup rfl (gs_cons (g_name 3 sc_put_by.nd) (gs_cons (g_name 4 sc_put_by.nd) gs_nil)))) (b_cons (d_set 5 sc_put_by.nd (e_sub hr (e_frz (n_lc (own := [("place", 7), ("own", 6)]) rfl sc_put_by.nd (i_enum z_enumerate (e_var 0)) (blkOk_by (by kernel_rfl)) (fun _ _ _ _ _ _ => (g_tup rfl (gs_cons (g_name 7 sc_put_by.nd) (gs_cons (g_name 6 sc_put_by.nd) gs_nil)))) (fun _ _ _ _ _ _ => (ts_one (t_cmp op_isN o_isN (e_var 6) e_non (nomark _)))) (fun _ _ _ _ _ _ => (e_var 7)) (by decide))) (e_var 3))) (b_cons (d_set 6 sc_put_by.nd (e_frz (n_lst (a_cons (e_var 1) a_nil)))) (b_cons (d_if (t_cmp k_in o_inG (e_var 4) (e_tup (a_cons e_str (a_cons e_str a_nil))) rfl) (b_one (d_set 6 sc_put_by.nd (e_frz (n_catE (e_frz (n_lst (a_cons e_non a_nil))) (e_var 6))))) b_nil) (b_cons (d_if (t_cmp k_in o_inG (e_var 4) (e_tup (a_cons e_str (a_cons e_str a_nil))) rfl) (b_one (d_set 6 sc_put_by.nd (e_frz (n_catE (e_var 6) (e_frz (n_lst (a_cons e_non a_nil))))))) b_nil) (b_one (d_ret (e_frz (n_catE (e_frz (n_catE (e_sl (e_var 0) o_none (o_some (e_var 5))) (e_var 6))) (e_sl (e_var 0) (o_some (e_op op_addA o_add (e_var 5) e_int)) o_none))))))))))⟩) (by decide)

abbrev s_row_by : Stmt := topS 30
theorem sc_row_by : FnScope ["word", "parts", "entry", "letter"] ["word"] (defScope s_row_by) := ⟨rfl, rfl, rfl, by decide +kernel, rfl, by decide +kernel, by decide +kernel⟩
noncomputable def b_row_by_1 : Ss := (gSet 1 (fCall f_put_by (aCons (fVar 1) (aCons (fVar 2) (aCons (fVar 3) aNil)))))
theorem u_b_row_by_1 (ρ : List EV) (w : DS) : b_row_by_1 ρ w = (gSet 1 (fCall f_put_by (aCons (fVar 1) (aCons (fVar 2) (aCons (fVar 3) aNil))))) ρ w := rfl
noncomputable def g_row_by : Ss := (gSeq (gSet 1 (fIf (fBool (fOp dNe (fVar 0) (fTup aNil))) (fFrz (fLst (aCons (fC .non) aNil))) (fFrz (fLst aNil)))) (gSeq (gFor (fEnum (fVar 0)) (kTup 2 (kCons (kName 2) (kCons (kName 3) kNil))) b_row_by_1) (gRet (fUn dTupOf (fVar 1)))))
noncomputable def f_row_by : Fsem := semOf 4 g_row_by
theorem ok_row_by {f : Addr} {fd : FuncData} (F : Fun K "row_by" "row_by" s_row_by f fd) (C_put_by : Cal P w K mg base "put_by" 1 3 f_put_by) (z_enumerate : mg "enumerate" = none) (z_tuple : mg "tuple" = none) : FnOk P w K mg base (L2.CX P w) 2 f fd ["word"] (spD K 1 f_row_by) :=
  fnE g_row_by 4 1 sc_row_by rfl rfl F (fun cdv A outer s H E hr => ⟨_, fun Z => by
    have hu64 := hr.units
    unfold g_row_by b_row_by_1
    exact (b_cons (d_set 1 sc_row_by.nd (e_if (t_cmp (k_ne hu64) o_ne (e_var 0) (e_tup a_nil) (nomark _)) (e_frz (n_lst (a_cons e_non a_nil))) (e_frz (n_lst a_nil)))) (b_cons (d_for (passes_of rfl) rfl (i_enum z_enumerate (e_var 0)) (g_tup rfl (gs_cons (g_name 2 sc_row_by.nd) (gs_cons (g_name 3 sc_row_by.nd) gs_nil))) (b_one (d_set 1 sc_row_by.nd (e_call C_put_by hr (by decide) (passes_call (takes_of rfl rfl rfl rfl) fun _ _ _ _ h => h) (a_cons (e_var 1) (a_cons (e_var 2) (a_cons (e_var 3) a_nil))) (aCons_len (aCons_len (aCons_len aNil_len))))))) (b_one (d_ret (e_tupleOf z_tuple (e_var 1))))))⟩) (by decide)

abbrev s_row_of_word : Stmt := topS 31
theorem sc_row_of_word : FnScope ["word"] ["word"] (defScope s_row_of_word) := ⟨rfl, rfl, rfl, by decide +kernel, rfl, by decide +kernel, by decide +kernel⟩
noncomputable def g_row_of_word : Ss := (gSeq (gIf (fNot (fBool (fCall f_is_word (aCons (fVar 0) aNil)))) gNever gNext) (gRet (fCall f_row_by (aCons (fVar 0) aNil))))
noncomputable def f_row_of_word : Fsem := semOf 1 g_row_of_word
theorem ok_row_of_word {f : Addr} {fd : FuncData} (F : Fun K "row_of_word" "row_of_word" s_row_of_word f fd) (C_is_word : Cal P w K mg base "is_word" 3 1 f_is_word) (C_row_by : Cal P w K mg base "row_by" 2 1 f_row_by) : FnOk P w K mg base (L2.CX P w) 4 f fd ["word"] (spD K 1 f_row_of_word) :=
  fnE g_row_of_word 1 1 sc_row_of_word rfl rfl F (fun cdv A outer s H E hr => ⟨_, fun Z => by
    have hu64 := hr.units
    unfold g_row_of_word
    exact (b_cons (d_if (t_not (t_val (e_call C_is_word hr (by decide) (passes_call (takes_of rfl rfl rfl rfl) fun _ _ _ _ h => h) (a_cons (e_var 0) a_nil) (aCons_len aNil_len)))) (b_one d_never) b_nil) (b_one (d_ret (e_call C_row_by hr (by decide) (passes_call (takes_of rfl rfl rfl rfl) fun _ _ _ _ h => h) (a_cons (e_var 0) a_nil) (aCons_len aNil_len)))))⟩) (by decide)
abbrev s_begun : Stmt := topS 33
abbrev s_blended : Stmt := topS 34
abbrev s_draw : Stmt := topS 35
section draws
variable {P : Program} {w : World} {K : PySem.W.Frag} {mg : Str → Option Value} {base : Heap}
theorem sc_blended : FnScope ["state", "turn", "found", "prime", "blend", "cell"] ["state"] (defScope s_blended) := ⟨rfl, rfl, rfl, by decide +kernel, rfl, by decide +kernel, by decide +kernel⟩
/-- the promise of a blend -/
def spBlended : Sp := fun vs H Q _ => ∃ (a g c : Addr) (z : DS), vs = [.ref a] ∧ StH H a g c z ∧ 0 ≤ z.turn ∧ z.turn < most ∧
  ∀ H', (∀ b o, H b = some o → b ≠ a → H' b = some o) → StH H' a g c { z with turn := z.turn + 1 } → Q (.int (blend (z.turn + 1) z.cells)) H'
theorem blendOne_small {turn p : Int} {cells : List Int} (h0 : 0 ≤ turn) (h1 : turn ≤ most) (hp : 0 < p) (hp2 : p < 2147483648) : (blendOne turn p cells).natAbs < 2 ^ 63 := by
  have key : ∀ (cs : List Int) (b : Int), b.natAbs < 2 ^ 63 → (cs.foldl (fun b c => (b * 69621 + c + turn) % p) b).natAbs < 2 ^ 63 := fun cs => by
    induction cs with
    | nil => exact fun b h => h
    | cons c cs ih =>
      intro b _
      refine ih _ ?_
      have := Int.emod_nonneg (b * 69621 + c + turn) (by omega : p ≠ 0)
      have := Int.emod_lt_of_pos (b * 69621 + c + turn) hp
      show ((b * 69621 + c + turn) % p).natAbs < 2 ^ 63
      omega
  unfold blendOne
  refine key _ _ ?_
  unfold most at h1
  have : p / 53 < 2147483648 := by omega
  omega
theorem ok_blended {f : Addr} {fd : FuncData} {k : Nat} (F : Fun K "_law_blended" "_law_blended" s_blended f fd) (mInt : mg "int" = none) : FnOk P w K mg base (L2.CX P w) (k + 1) f fd ["state"] spBlended := by
  refine F.okX sc_blended (fun vs H Q E h => ?_) (fun cdv A outer s H vs Q E hr h => ?_)
  · obtain ⟨a, g, c, z, rfl, _⟩ := h
    rfl
  · obtain ⟨a, g, c, z, rfl, st, z0, z1, q⟩ := h
    have hu := hu_of hr
    refine ⟨_, pss_cons (ps_par (i := 1) (j := 2) rfl sc_blended.nd rfl rfl (by decide) rfl rfl (pa_cons (pe_op op_add (pe_dget hu (pv 0) pe_str (fun _ _ => rfl)) pe_int) (pa_cons pe_int pa_nil)) rfl)
      (pss_cons (ps_dput hu (pv 0) pe_str (pv 1) rfl)
      (pss_cons (ps_for (passes_of rfl) rfl (pi_list (pe_lst (pa_cons pe_int (pa_cons pe_int (pa_cons pe_int pa_nil))))) (pg_name (i := 3) sc_blended.nd rfl (.inl rfl))
        (pss_cons (ps_set (i := 4) sc_blended.nd rfl (.inl rfl) (pe_op op_add (pe_op op_mul pe_int (pv 1)) (pe_op op_fdivW (pv 3) pe_int)))
        (pss_cons (ps_for (passes_of rfl) rfl (pi_list (pe_dget hu (pv 0) pe_str (fun _ _ => rfl))) (pg_name (i := 5) sc_blended.nd rfl (.inl rfl))
          (pss_one (ps_set (i := 4) sc_blended.nd rfl (.inl rfl) (pe_op op_mod (pe_callTy call_int1 (by rfl) mInt (by decide +kernel) (pa_cons (pe_op op_add (pe_op op_add (pe_op op_mul (pv 4) pe_int) (pv 5)) (pv 1)) pa_nil)) (pv 3)))))
        (pss_one (ps_set (i := 2) sc_blended.nd rfl (.inl rfl) (pe_op op_add (pe_op op_mul (pv 2) pe_int) (pe_op op_mod (pe_callTy call_int1 (by rfl) mInt (by decide +kernel) (pa_cons (pe_op op_pow (pv 4) pe_int) pa_nil)) (pv 3))))))))
      (pss_one (ps_ret (pv 2))))), ?_⟩
    have kd : ∀ {H : Hp} {z : DS}, StH H a g c z → ∀ {k : Key} {v : V}, valV (stK g c z) k = some v → DGet H a (kV k) (some v) := fun h _ _ e => e ▸ DGet.k h.dict
    refine ⟨_, rfl, a, _, rfl, kd st stK_turn, _, _, rfl, rfl, _, _, rfl, ?_⟩
    -- state['turn'] = turn
    refine ⟨_, rfl, _, rfl, a, _, rfl, DPut.k (k := .inr "turn") st.dict (by show 4 < sizeLine; decide), ?_⟩
    rw [stK_putT]
    have sz : StH (upd H a (.dK (stK g c { z with turn := z.turn + 1 }))) a g c { z with turn := z.turn + 1 } := by
      obtain ⟨h1, h2, h3, h4⟩ := st
      have ng : g ≠ a := fun e => by rw [e, h1] at h2; cases h2
      have nc : c ≠ a := fun e => by rw [e, h1] at h3; cases h3
      exact ⟨upd_same, by rw [upd_ne ng]; exact h2, by rw [upd_ne nc]; exact h3, h4⟩
    have old : ∀ b o, H b = some o → b ≠ a → upd H a (.dK (stK g c { z with turn := z.turn + 1 })) b = some o := fun b o e n => by rw [upd_ne n]; exact e
    generalize hH1 : upd H a (.dK (stK g c { z with turn := z.turn + 1 })) = H1 at sz old
    -- the primes
    refine ⟨by show 3 ≤ sizeLine; decide, fun l nl => ?_⟩
    have sl : Same H1 (upd H1 l (.lst [.int 2147483579, .int 2147483629, .int 2147483563])) := DL.same_upd nl
    refine ⟨l, rfl, ⟨_, .of upd_same⟩, for_list (K := K) (a := l) (xs := primes.map V.int) (fun i σ H' => ∃ y3 y4 y5, σ = [some (.ref a), some (.int (z.turn + 1)), some (.int (blendAll (z.turn + 1) z.cells (primes.take i) 0)), y3, y4, y5] ∧ Same (upd H1 l (.lst [.int 2147483579, .int 2147483629, .int 2147483563])) H')
      ⟨none, none, none, rfl, Same.refl _⟩ (fun i σ H' _ ⟨_, _, _, _, R⟩ => .of (R _ _ upd_same)) ?_ ?_⟩
    · rintro i x σ H' hi ⟨y3, y4, y5, rfl, sm⟩
      obtain ⟨p, hp, rfl⟩ : ∃ p, primes[i]? = some p ∧ x = .int p := by
        rw [List.getElem?_map] at hi
        cases e : primes[i]? with
        | none => rw [e] at hi; cases hi
        | some p => rw [e] at hi; exact ⟨p, rfl, (Option.some.inj hi).symm⟩
      have hpr : 0 < p ∧ p < 2147483648 := by
        have hm := List.mem_of_getElem? hp
        unfold primes at hm
        simp only [List.mem_cons, List.not_mem_nil, or_false] at hm
        omega
      have sz' : StH H' a g c { z with turn := z.turn + 1 } := sz.mono (fun o e => sm _ _ (sl _ _ e)) (fun o e => sm _ _ (sl _ _ e)) fun o e => sm _ _ (sl _ _ e)
      refine ⟨_, rfl, _, _, rfl, rfl, .inl ⟨by decide, by decide⟩, _, rfl, _, _, rfl, rfl, ⟨by decide, by decide⟩, _, _, rfl, rfl, ?_⟩
      refine ⟨_, rfl, a, _, rfl, kd sz' stK_cells, c, rfl, ⟨_, SqL.of sz'.2.2.1⟩, for_list (K := K) (a := c) (xs := z.cells.map V.int) (fun j σ H'' => H'' = H' ∧ ∃ y5, σ = [some (.ref a), some (.int (z.turn + 1)), some (.int (blendAll (z.turn + 1) z.cells (primes.take i) 0)), some (.int p), some (.int (blendOne (z.turn + 1) p (z.cells.take j))), y5])
        ⟨rfl, y5, rfl⟩ (fun j σ H'' _ ⟨e, _⟩ => by rw [e]; exact SqL.of sz'.2.2.1) ?_ ?_⟩
      · rintro j x σ H'' hj ⟨rfl, y5, rfl⟩
        obtain ⟨b, hb, rfl⟩ : ∃ b, z.cells[j]? = some b ∧ x = .int b := by
          rw [List.getElem?_map] at hj
          cases e : z.cells[j]? with
          | none => rw [e] at hj; cases hj
          | some p => rw [e] at hj; exact ⟨p, rfl, (Option.some.inj hj).symm⟩
        refine ⟨_, rfl, _, _, rfl, rfl, .inr ⟨by decide, by decide⟩, _, rfl, _, _, rfl, rfl, _, rfl, _, _, rfl, rfl, .inl ⟨_, rfl, _, rfl, _, _, rfl, rfl, hpr.1, rfl, some (.int b), ?_⟩⟩
        have e : blendOne (z.turn + 1) p (z.cells.take (j + 1)) = (blendOne (z.turn + 1) p (z.cells.take j) * 69621 + b + (z.turn + 1)) % p := by
          unfold blendOne
          rw [List.take_succ, hb, List.foldl_append]
          rfl
        rw [e]
        rfl
      · rintro σ H'' ⟨rfl, y5, rfl⟩
        rw [List.length_map, List.take_length]
        have hsm := blendOne_small (cells := z.cells) (by omega : (0 : Int) ≤ z.turn + 1) (by omega) hpr.1 hpr.2
        refine ⟨_, rfl, _, _, rfl, rfl, .inr ⟨by decide, by decide⟩, _, rfl, _, _, rfl, rfl, ⟨by decide, by decide, by omega⟩, .inl ⟨_, rfl, _, rfl, _, _, rfl, rfl, hpr.1, _, _, rfl, rfl, ?_⟩⟩
        have e : blendAll (z.turn + 1) z.cells (primes.take (i + 1)) 0 = blendAll (z.turn + 1) z.cells (primes.take i) 0 * 2147483647 + blendOne (z.turn + 1) p z.cells ^ 5 % p := by
          have gen : ∀ (ps : List Int) (f : Int), blendAll (z.turn + 1) z.cells (ps ++ [p]) f = blendAll (z.turn + 1) z.cells ps f * 2147483647 + blendOne (z.turn + 1) p z.cells ^ 5 % p := fun ps => by
            induction ps with
            | nil => intro f; rfl
            | cons q ps ih => exact fun f => ih _
          rw [List.take_succ, hp]
          exact gen _ _
        exact ⟨some (.int p), some (.int (blendOne (z.turn + 1) p z.cells)), y5, by rw [e]; rfl, sm⟩
    · rintro σ H' ⟨y3, y4, y5, rfl, sm⟩
      exact ⟨_, rfl, q H' (fun b o e n => sm _ _ (sl _ _ (old b o e n))) (sz.mono (fun o e => sm _ _ (sl _ _ e)) (fun o e => sm _ _ (sl _ _ e)) fun o e => sm _ _ (sl _ _ e))⟩

theorem sc_draw : FnScope ["state", "room", "found"] ["state", "room"] (defScope s_draw) := ⟨rfl, rfl, rfl, by decide +kernel, rfl, by decide +kernel, by decide +kernel⟩
theorem ok_draw {f fB : Addr} {fd fdB : FuncData} {k : Nat} (F : Fun K "_law_draw" "_law_draw" s_draw f fd) (FB : FnOk P w K mg base (L2.CX P w) (k + 1) fB fdB ["state"] spBlended) (bB : L2.Binds K fdB ["state"] []) (mB : mg "_law_blended" = some (.ref fB)) (kB : W.keepIn K (.ref fB) = true) (mInt : mg "int" = none) : FnOk P w K mg base (L2.CX P w) (k + 2) f fd ["state", "room"] (spD K 2 semDraw) := by
  refine F.okX sc_draw (fun vs H Q E h => ?_) (fun cdv A outer s H vs Q E hr h => ?_)
  · obtain ⟨F, dr, qs, w, hpn, sub, ar, _⟩ := h
    rw [ar.length, hpn]
    rfl
  · obtain ⟨F, dr, qs, z, hpn, sub, ar, st0, nf, q⟩ := h
    have hu := hu_of hr
    have hu64 := hr.units
    refine ⟨_, pss_cons (ps_if (pt_cmpR op_eq (pe_dget hu (pv 0) pe_str (fun _ _ => rfl)) pe_int (nomark _))
        (pss_one (ps_dput hu (pv 0) pe_str (pe_ifExp (pt_cmpR (op_neD hu64) (pe_dget hu (pv 0) pe_str (fun _ _ => rfl)) (pe_lst pa_nil) rfl)
          (pe_bm PySem.F.plainAttrs_list PySem.F.slot_list_pop PySem.F.type_list_pop mt_popAt (pe_dget hu (pv 0) pe_str (fun _ _ => rfl)) (pa_cons pe_int pa_nil))
          (pe_call FB hr rfl mB kB bB .nil (passes_call (takes_of rfl rfl rfl rfl) fun _ _ _ _ h => h) (pa_cons (pv 0) pa_nil))) rfl))
        pss_nil)
      (pss_cons (ps_set (i := 2) sc_draw.nd rfl (.inl rfl) (pe_op op_mod (pe_callTy call_int1 (by rfl) mInt (by decide +kernel) (pa_cons (pe_dget hu (pv 0) pe_str (fun _ _ => rfl)) pa_nil)) (pv 1)))
      (pss_cons (ps_dput hu (pv 0) pe_str (pe_op op_fdivW (pe_dget hu (pv 0) pe_str (fun _ _ => rfl)) (pv 1)) rfl)
      (pss_one (ps_ret (pv 2))))), ?_⟩
    match qs, ar, q with
    | [.drw, .dat (.int room)], .drw (a := a) (g := g) (c := c) hdr (.dat (.int _) .nil), q =>
    have q : PostC K F H dr Q E (if okDraw room z then .ok (.int (drawV z room)) (drawW z room) else .stuck) := q
    split at q
    case isFalse => exact q.elim
    rename_i hz
    obtain ⟨hz1, hz2, hz3, hz4⟩ := hz
    have st : StH H a g c z := st0 _ _ _ hdr
    have nfoot : ∀ b, ¬ inDr dr b → b ≠ a ∧ b ≠ g ∧ b ≠ c := fun b h => ⟨fun e => h ⟨a, g, c, hdr, .inl e⟩, fun e => h ⟨a, g, c, hdr, .inr (.inl e)⟩, fun e => h ⟨a, g, c, hdr, .inr (.inr e)⟩⟩
    have kd : ∀ {H : Hp} {z : DS}, StH H a g c z → ∀ {k : Key} {v : V}, valV (stK g c z) k = some v → DGet H a (kV k) (some v) := fun h _ _ e => e ▸ DGet.k h.dict
    have put : ∀ {H : Hp} {z : DS} (i : Int), StH H a g c z → StH (upd H a (.dK (stK g c { z with rest := i }))) a g c { z with rest := i } := fun i h => by
      obtain ⟨h1, h2, h3, h4⟩ := h
      have ng : g ≠ a := fun e => by rw [e, h1] at h2; cases h2
      have nc : c ≠ a := fun e => by rw [e, h1] at h3; cases h3
      exact ⟨upd_same, by rw [upd_ne ng]; exact h2, by rw [upd_ne nc]; exact h3, h4⟩
    have dput : ∀ {H : Hp} {z : DS} (i : Int), StH H a g c z → DPut H a (.str "rest") (.int i) (upd H a (.dK (stK g c { z with rest := i }))) := fun i h => DPut.k (k := .inr "rest") h.dict (by show 4 < sizeLine; decide)
    -- what follows the first statement
    have rest : ∀ H1, StH H1 a g c (refill z) → (∀ b o, H b = some o → ¬ inDr dr b → H1 b = some o) →
        tSeq (tAsg (tOp (rI (fun x j => 0 < j) fun i j => V.int (i % j)) (tCB (fun xs H Q => (∃ i, xs = [V.int i] ∧ Q (V.int i) H) ∨ ∃ k, xs = [V.bl k] ∧ Q (V.int (if k = true then 1 else 0)) H) (tCons (tDGet (tVar 0) (tC (V.str "rest"))) tNil)) (tVar 1)) (gName 2))
          (tSeq (sDPut (tVar 0) (tC (V.str "rest")) (tOp (rI CDivW fun i j => V.int (i / j)) (tDGet (tVar 0) (tC (V.str "rest"))) (tVar 1))) (tRet (tVar 2))) { nx := fun _ H' => Q V.non H', rt := Q } [some (.ref a), some (.int room), none] H1 := fun H1 s1 k1 => by
      refine ⟨_, rfl, a, _, rfl, kd s1 stK_rest, .inl ⟨_, rfl, _, rfl, _, _, rfl, rfl, hz1, ?_⟩⟩
      refine ⟨_, rfl, a, _, rfl, kd s1 stK_rest, _, rfl, _, _, rfl, rfl, wide_div (b := 40) hz1 (by unfold most at hz2; omega) (by decide) (by decide), _, rfl, a, _, rfl, dput _ s1, _, rfl, ?_⟩
      refine q _ _ F ⟨Same.refl _, fun b o e => ?_, fun b o e => .inl e, fun b o e n => ?_⟩ (fun a' g' c' e => ?_) (.int _)
      · have nd : ¬ inDr dr b := fun h => by rw [nf b h] at e; cases e
        rw [upd_ne (nfoot b nd).1]; exact k1 b o (sub b o e) nd
      · rw [upd_ne (nfoot b n).1]; exact k1 b o e n
      · rw [hdr] at e; cases e; exact put _ s1
    refine ⟨_, rfl, a, _, rfl, kd st stK_rest, rfl, _, rfl, ?_⟩
    refine ite2 (fun h0 => ?_) (fun h0 => ?_)
    · have h0 : z.rest = 0 := by
        have := of_decide_eq_true h0
        exact V.int.inj this
      refine ⟨_, rfl, a, _, rfl, kd st stK_great, Nat.zero_le _, fun l nl => ?_⟩
      have sl : Same H (upd H l (.lst [])) := DL.same_upd nl
      have st2 : StH (upd H l (.lst [])) a g c z := st.mono (fun o e => sl _ _ e) (fun o e => sl _ _ e) fun o e => sl _ _ e
      have dps : ∀ ns : List Int, DpAll K (upd H l (.lst [])) (ns.map V.int) (ns.map PyData.int) := fun ns => by
        induction ns with
        | nil => exact .nil
        | cons n ns ih => exact .cons (.int n) ih
      refine ⟨.list (z.great.map PyData.int), .list [], .lst (SqL.of st2.2.1) (dps _), .lst (SqL.of upd_same) .nil, shaped_ints _, rfl, _, rfl, ?_⟩
      cases eg : z.great with
      | nil =>
        refine ite2 (fun hb => by cases hb) fun _ => ?_
        refine ⟨_, rfl, a, g, c, z, rfl, st2, hz3, hz4, fun H' kp s' => ?_⟩
        have er : refill z = { z with rest := blend (z.turn + 1) z.cells, turn := z.turn + 1 } := by
          unfold refill
          rw [if_pos h0, eg]
        refine ⟨_, rfl, a, _, rfl, dput _ s', ?_⟩
        refine rest _ (by rw [er]; exact put _ s') fun b o e n => ?_
        rw [upd_ne (nfoot b n).1]
        exact kp _ _ (sl _ _ e) (nfoot b n).1
      | cons y ys =>
        refine ite2 (fun _ => ?_) fun hb => (hb rfl).elim
        have hg : (upd H l (.lst [])) g = some (.lst (V.int y :: ys.map V.int)) := by
          have := st2.2.1
          rw [eg] at this; exact this
        have s3 : StH (upd (upd H l (.lst [])) g (.lst (ys.map V.int))) a g c { z with great := ys } := by
          obtain ⟨h1, h2, h3, h4⟩ := st2
          have na : a ≠ g := fun e => by rw [← e, h1] at h2; cases h2
          exact ⟨by rw [upd_ne na]; exact h1, upd_same, by rw [upd_ne h4.symm]; exact h3, h4⟩
        have er : refill z = { z with great := ys, rest := y } := by
          unfold refill
          rw [if_pos h0, eg]
        refine ⟨_, rfl, a, _, rfl, kd st2 stK_great, .inl ⟨rfl, _, SqL.of hg⟩, g, _, 0, 0, _, rfl, rfl, hg, by decide, by decide, by simp [seqIndex?], rfl, ?_⟩
        refine ⟨_, rfl, a, _, rfl, dput y s3, ?_⟩
        refine rest _ (by rw [er]; exact put _ s3) fun b o e n => ?_
        rw [upd_ne (nfoot b n).1, upd_ne (nfoot b n).2.1]
        exact sl _ _ e
    · have h0 : z.rest ≠ 0 := fun e => h0 (decide_eq_true (by rw [e]))
      exact rest H (by unfold refill; rw [if_neg h0]; exact st) fun b o e _ => e

theorem sc_begun : FnScope ["script", "great", "cell"] ["script"] (defScope s_begun) := ⟨rfl, rfl, rfl, by decide +kernel, rfl, by decide +kernel, by decide +kernel⟩
def spBegun (K : W.Frag) : Sp := fun vs H Q _ => ∃ (a : Addr) (ns : List Int), vs = [.ref a] ∧ SqL K H a (ns.map V.int) ∧ ns.length ≤ big ∧
  ∀ st g c H', Same H H' → H st = none → H g = none → H c = none → StH H' st g c (beginW ns) → Q (.ref st) H'
theorem ok_begun {f : Addr} {fd : FuncData} {k : Nat} (F : Fun K "_law_begun" "_law_begun" s_begun f fd) (mAbs : mg "abs" = none) : FnOk P w K mg base (L2.CX P w) (k + 1) f fd ["script"] (spBegun K) := by
  refine F.okX sc_begun (fun vs H Q E h => ?_) (fun cdv A outer s H vs Q E hr h => ?_)
  · obtain ⟨a, ns, rfl, _⟩ := h
    rfl
  · obtain ⟨a, ns, rfl, hS, hbig, q⟩ := h
    have hu := hu_of hr
    have S0 : ∀ Z, DSt (cxOf (L2.CX P w) P w K mg base ["script", "great", "cell"] "_law_begun" (defScope s_begun) f cdv A outer s H E) Z E ((defBody s_begun).getD 0 (.Pass ⟨0, 0, 0, 0⟩)) _ _ := fun Z =>
      d_setLc 1 (own := [("cell", 2)]) rfl sc_begun.nd (i_seq (e_var 0)) (blk_ok (by kernel_rfl)) (fun _ _ _ _ _ _ => g_name 2 sc_begun.nd)
        (fun _ _ _ _ _ _ => ts_one (t_cmp op_ge o_ge (e_cb call_abs o_abs mAbs (a_cons (e_var 2) a_nil)) (e_op op_pow o_pow e_int e_int) (nomark _)))
        (fun _ _ _ _ _ _ => e_op op_sub o_sub (e_cb call_abs o_abs mAbs (a_cons (e_var 2) a_nil)) (e_op op_pow o_pow e_int e_int)) (by decide)
    have C0 : ∀ Z, DN (cxOf (L2.CX P w) P w K mg base ["script", "great", "cell"] "_law_begun" (defScope s_begun) f cdv A outer s H E) Z E (match (defBody s_begun).getD 1 (.Pass ⟨0, 0, 0, 0⟩) with | .Return (some (.Dict _ vs _)) _ => vs.getD 1 (.Constant .none 0 ⟨0, 0, 0, 0⟩) | _ => .Constant .none 0 ⟨0, 0, 0, 0⟩) _ _ := fun Z =>
      n_lc (own := [("cell", 2)]) rfl sc_begun.nd (i_seq (e_var 0)) (blk_ok (by kernel_rfl)) (fun _ _ _ _ _ _ => g_name 2 sc_begun.nd) (fun _ _ _ _ _ _ => ts_nil)
        (fun _ _ _ _ _ _ => e_cb call_abs o_abs mAbs (a_cons (e_var 2) a_nil)) (by decide)
    let Z : Z0 := ⟨H, H, none⟩
    have R0 : Rep K Z H (fun _ => none) [some (V.ref a), none, none] H [.dat (.scr ns), .un, .un] default := {
      sub := Same.refl _, keepF := Same.refl _, newF := fun b u e => .inl e, keep := fun b o e _ => ⟨e, rfl⟩, fzo := fun _ _ _ => rfl, owh := (fun _ _ e => nomatch e), len := rfl
      slots := fun i e h => by
        match i, h with
        | 0, h => cases h; exact ⟨_, rfl, .scr hS⟩
        | 1, h => cases h; trivial
        | 2, h => cases h; trivial
        | n + 3, h => cases h
      dr := fun _ _ _ e => nomatch e }
    refine ⟨_, pss_cons (S0 Z).ps (pss_one (ps_ret (pe_disp (pps_cons pe_str (pv 1) (pps_cons pe_str (C0 Z).pe (pps_cons pe_str pe_int (pps_cons pe_str pe_int pps_nil)))) rfl rfl (fun h => nomatch h) (by decide)))), ?_⟩
    refine (S0 Z).sn H (fun _ => none) _ H _ default _ R0 ?_
    show PostS K Z E H _ ((fLcW (fItems (fVar 0)) (kName 2) _ _ [2] [.dat (.scr ns), .un, .un] default).bind _)
    rw [begin_great hbig rfl]
    intro σ1 H1 F1 ow1 s1 R1
    obtain ⟨g, vs, e1, e2, e3, e4, r1⟩ := R1.slots 1 _ rfl
    have ev := r1.ints
    subst ev
    intro p np
    have R2 := R1.grow (Gr.apart R1.sub (.dK []) np)
    obtain ⟨n1, n2, n3⟩ := R1.fresh np
    have un : ∀ {F' : Hp} {ow' : Addr → Option Nat} {σ' : L2.St} {H' : Hp} {ρ' : List EV} {w' : DS}, Rep K ⟨upd H p (.dK []), H, none⟩ F' ow' σ' H' ρ' w' → Rep K Z F' ow' σ' H' ρ' w' ∧ H' p = some (.dK []) ∧ ow' p = none ∧ F' p = none := fun R' => Rep.unguard n3 (fun ⟨_, _, _, e, _⟩ => nomatch e) n3 R'
    have R3 := R2.guard upd_same n1 n2
    refine ⟨_, e1, ?_⟩
    simp only [tPairs, tC]
    refine (C0 ⟨upd H p (.dK []), H, none⟩).sn F1 ow1 σ1 _ _ _ _ R3 ?_
    show Post K _ E σ1 _ _ (fLcW (fItems (fVar 0)) (kName 2) fYes _ [2] [.dat (.scr ns), .lst ((beginW ns).great.map .int), .un] default)
    rw [begin_cells hbig]
    intro c us H2 F2 ow2 s2 R4 c1 c2 c3 c4 r2
    have eu := r2.ints
    subst eu
    obtain ⟨R5, p1, p2, p3⟩ := un R4
    obtain ⟨g', vs', k1, k2, k3, k4, r3⟩ := R5.slots 1 _ rfl
    rw [e1] at k1
    cases k1
    have ev := r3.ints
    subst ev
    have c4 : upd H p (.dK []) c = none := c4
    have cp : c ≠ p := fun e => by rw [e, upd_same] at c4; cases c4
    rw [upd_ne cp] at c4
    have gp : g ≠ p := fun e => by rw [e, p2] at k3; cases k3
    have gc : g ≠ c := fun e => by rw [e, c2] at k3; cases k3
    refine ⟨p1, stK g c (beginW ns), rfl, by show 4 ≤ 15; decide, ?_⟩
    rw [stK_merge]
    refine q p g c _ (fun b o e => ?_) n3 k4 c4 ⟨upd_same, by rw [upd_ne gp]; exact k2, by rw [upd_ne cp]; exact c1, gc⟩
    have bp : b ≠ p := fun z => by
      have n3 : H p = none := n3
      rw [z, n3] at e; cases e
    rw [upd_ne bp]
    exact (R5.keep b o e fun ⟨_, _, _, e, _⟩ => nomatch e).1
end draws

noncomputable abbrev f__law_draw : Fsem := semDraw

abbrev s__law_pick : Stmt := topS 36
theorem sc__law_pick : FnScope ["state", "some"] ["state", "some"] (defScope s__law_pick) := ⟨rfl, rfl, rfl, by decide +kernel, rfl, by decide +kernel, by decide +kernel⟩
noncomputable def g__law_pick : Ss := (gRet (fOp dSubI (fVar 1) (fCall f__law_draw (aDrw 0 (aCons (fCB dLen (aCons (fVar 1) aNil)) aNil)))))
noncomputable def f__law_pick : Fsem := semOf 2 g__law_pick
theorem ok__law_pick {f : Addr} {fd : FuncData} (F : Fun K "_law_pick" "_law_pick" s__law_pick f fd) (C__law_draw : Cal P w K mg base "_law_draw" 2 2 f__law_draw) (z_len : mg "len" = none) : FnOk P w K mg base (L2.CX P w) 3 f fd ["state", "some"] (spD K 2 f__law_pick) :=
  fnE g__law_pick 2 2 sc__law_pick rfl rfl F (fun cdv A outer s H E hr => ⟨_, fun Z => by
    have hu64 := hr.units
    unfold g__law_pick
    exact (b_one (d_ret (e_sub hr (e_var 1) (e_call C__law_draw hr (by decide) (passes_call (takes_of rfl rfl rfl rfl) fun _ _ _ _ h => h) (a_drw 0 (a_cons (e_cb k_len o_len z_len (a_cons (e_var 1) a_nil)) a_nil)) (aDrw_len (aCons_len aNil_len))))))⟩) (by decide)

abbrev s__law_shuffled : Stmt := topS 37
theorem sc__law_shuffled : FnScope ["state", "some", "left", "found"] ["state", "some"] (defScope s__law_shuffled) := ⟨rfl, rfl, rfl, by decide +kernel, rfl, by decide +kernel, by decide +kernel⟩
noncomputable def t__law_shuffled_1 : Sb := (lendT 2 (fBool (fOp dNe (fVar 2) (fFrz (fLst aNil)))))
theorem u_t__law_shuffled_1 (ρ : List EV) (w : DS) : t__law_shuffled_1 ρ w = (lendT 2 (fBool (fOp dNe (fVar 2) (fFrz (fLst aNil))))) ρ w := rfl
noncomputable def b__law_shuffled_1 : Ss := (gApp 3 (fPopAt 2 (lendE 2 (fCall f__law_draw (aDrw 0 (aCons (fCB dLen (aCons (fVar 2) aNil)) aNil))))))
theorem u_b__law_shuffled_1 (ρ : List EV) (w : DS) : b__law_shuffled_1 ρ w = (gApp 3 (fPopAt 2 (lendE 2 (fCall f__law_draw (aDrw 0 (aCons (fCB dLen (aCons (fVar 2) aNil)) aNil)))))) ρ w := rfl
noncomputable def g__law_shuffled : Ss := (gSeq (gPar [2, 3] (aNew (fCN dList (aCons (fVar 1) aNil)) (aNew (fLst aNil) aNil))) (gSeq (gWhile (fun _ _ => 1000000) t__law_shuffled_1 b__law_shuffled_1) (gFrz 3 (gRet (fVar 3)))))
noncomputable def f__law_shuffled : Fsem := semOf 4 g__law_shuffled
theorem ok__law_shuffled {f : Addr} {fd : FuncData} (F : Fun K "_law_shuffled" "_law_shuffled" s__law_shuffled f fd) (C__law_draw : Cal P w K mg base "_law_draw" 2 2 f__law_draw) (z_len : mg "len" = none) (z_list : mg "list" = none) : FnOk P w K mg base (L2.CX P w) 3 f fd ["state", "some"] (spD K 2 f__law_shuffled) :=
  fnE g__law_shuffled 4 2 sc__law_shuffled rfl rfl F (fun cdv A outer s H E hr => ⟨_, fun Z => by
    have hu64 := hr.units
    unfold g__law_shuffled b__law_shuffled_1 t__law_shuffled_1
    exact (b_cons (d_par2 2 3 rfl sc__law_shuffled.nd (m_new (n_ct k_list o_list z_list (a_cons (e_var 1) a_nil)) fun _ => (m_new (n_lst a_nil) fun _ => m_nil))) (b_cons (d_while (fun _ _ => 1000000) (passes_of rfl) (t_lend 2 (t_cmp (k_ne hu64) o_ne (e_var 2) (e_frz (n_lst a_nil)) (nomark _))) (b_one (d_app 3 (f_popAt 2 (e_lend 2 (e_call C__law_draw hr (by decide) (passes_call (takes_of rfl rfl rfl rfl) fun _ _ _ _ h => h) (a_drw 0 (a_cons (e_cb k_len o_len z_len (a_cons (e_var 2) a_nil)) a_nil)) (aDrw_len (aCons_len aNil_len)))))))) (b_one (d_frz 3 (d_ret (e_var 3))))))⟩) (by decide)

abbrev s__law_is_truth : Stmt := topS 38
theorem sc__law_is_truth : FnScope ["found", "due"] ["found", "due"] (defScope s__law_is_truth) := ⟨rfl, rfl, rfl, by decide +kernel, rfl, by decide +kernel, by decide +kernel⟩
noncomputable def g__law_is_truth : Ss := (gRet (fIf (fBool (fVar 1)) (fOp (dIsB false) (fVar 0) (fC (.bl true))) (fOp (dIsB false) (fVar 0) (fC (.bl false)))))
noncomputable def f__law_is_truth : Fsem := semOf 2 g__law_is_truth
theorem ok__law_is_truth {f : Addr} {fd : FuncData} (F : Fun K "_law_is_truth" "_law_is_truth" s__law_is_truth f fd) : FnOk P w K mg base (L2.CX P w) 1 f fd ["found", "due"] (spD K 2 f__law_is_truth) :=
  fnE g__law_is_truth 2 2 sc__law_is_truth rfl rfl F (fun cdv A outer s H E hr => ⟨_, fun Z => by
    have hu64 := hr.units
    unfold g__law_is_truth
    exact (b_one (d_ret (e_if (t_val (e_var 1)) (e_cmp op_isBl o_isB (e_var 0) e_bl (nomark _)) (e_cmp op_isBl o_isB (e_var 0) e_bl (nomark _)))))⟩) (by decide)

abbrev s__law_same : Stmt := topS 39
theorem sc__law_same : FnScope ["found", "due", "unseen_here", "one", "other", "alike", "key", "left", "right"] ["found", "due"] (defScope s__law_same) := ⟨rfl, rfl, rfl, by decide +kernel, rfl, by decide +kernel, by decide +kernel⟩
noncomputable def t__law_same_1 : Sb := (lendT 2 (fBool (fOp dNe (fVar 2) (fFrz (fLst aNil)))))
theorem u_t__law_same_1 (ρ : List EV) (w : DS) : t__law_same_1 ρ w = (lendT 2 (fBool (fOp dNe (fVar 2) (fFrz (fLst aNil))))) ρ w := rfl
noncomputable def b__law_same_1 : Ss := (gSeq (gAsgF (fPop0 2) (kTup 2 (kCons (kName 3) (kCons (kName 4) kNil)))) (gIf (fOr (fBool (fOp (dIsN false) (fVar 4) (fC .non))) (fBool (fIsi ["bool"] (fVar 4)))) (gIf (fIfT (fBool (fOp (dIsN false) (fVar 4) (fC .non))) (fBool (fOp (dIsN true) (fVar 3) (fC .non))) (fNot (fBool (fCall f__law_is_truth (aCons (fVar 3) (aCons (fVar 4) aNil)))))) (gRet (fC (.bl false))) gNext) (gIf (fBool (fIsi ["int", "str"] (fVar 4))) (gIf (fOr (fBool (fIsi ["bool"] (fVar 3))) (fOr (fBool (fOp dNe (fIsi ["int"] (fVar 3)) (fIsi ["int"] (fVar 4)))) (fBool (fOp dNe (fVar 3) (fVar 4))))) (gRet (fC (.bl false))) gNext) (gIf (fBool (fIsi ["dict"] (fVar 4))) (gSeq gNever (gSeq gNever gNever)) (gSeq (gSet 5 (fFrz (fLst (aCons (fAndV (fIsi ["tuple"] (fVar 3)) (fIsi ["tuple"] (fVar 4))) (aCons (fAndV (fIsi ["list"] (fVar 3)) (fIsi ["list"] (fVar 4))) aNil))))) (gSeq (gIf (fOr (fBool (fOp (dIn true) (fC (.bl true)) (fVar 5))) (fBool (fOp dNe (fCB dLen (aCons (fVar 3) aNil)) (fCB dLen (aCons (fVar 4) aNil))))) (gRet (fC (.bl false))) gNext) (gExtN 2 (fLcW (fZip (fVar 3) (fVar 4)) (kTup 2 (kCons (kName 7) (kCons (kName 8) kNil))) fYes (fTup (aCons (fVar 7) (aCons (fVar 8) aNil))) [7, 8]))))))))
theorem u_b__law_same_1 (ρ : List EV) (w : DS) : b__law_same_1 ρ w = (gSeq (gAsgF (fPop0 2) (kTup 2 (kCons (kName 3) (kCons (kName 4) kNil)))) (gIf (fOr (fBool (fOp (dIsN false) (fVar 4) (fC .non))) (fBool (fIsi ["bool"] (fVar 4)))) (gIf (fIfT (fBool (fOp (dIsN false) (fVar 4) (fC .non))) (fBool (fOp (dIsN true) (fVar 3) (fC .non))) (fNot (fBool (fCall f__law_is_truth (aCons (fVar 3) (aCons (fVar 4) aNil)))))) (gRet (fC (.bl false))) gNext) (gIf (fBool (fIsi ["int", "str"] (fVar 4))) (gIf (fOr (fBool (fIsi ["bool"] (fVar 3))) (fOr (fBool (fOp dNe (fIsi ["int"] (fVar 3)) (fIsi ["int"] (fVar 4)))) (fBool (fOp dNe (fVar 3) (fVar 4))))) (gRet (fC (.bl false))) gNext) (gIf (fBool (fIsi ["dict"] (fVar 4))) (gSeq gNever (gSeq gNever gNever)) (gSeq (gSet 5 (fFrz (fLst (aCons (fAndV (fIsi ["tuple"] (fVar 3)) (fIsi ["tuple"] (fVar 4))) (aCons (fAndV (fIsi ["list"] (fVar 3)) (fIsi ["list"] (fVar 4))) aNil))))) (gSeq (gIf (fOr (fBool (fOp (dIn true) (fC (.bl true)) (fVar 5))) (fBool (fOp dNe (fCB dLen (aCons (fVar 3) aNil)) (fCB dLen (aCons (fVar 4) aNil))))) (gRet (fC (.bl false))) gNext) (gExtN 2 (fLcW (fZip (fVar 3) (fVar 4)) (kTup 2 (kCons (kName 7) (kCons (kName 8) kNil))) fYes (fTup (aCons (fVar 7) (aCons (fVar 8) aNil))) [7, 8])))))))) ρ w := rfl
noncomputable def g__law_same : Ss := (gSeq (gSetN 2 (fLst (aCons (fTup (aCons (fVar 0) (aCons (fVar 1) aNil))) aNil))) (gSeq (gWhile (fun _ _ => 1000000) t__law_same_1 b__law_same_1) (gRet (fC (.bl true)))))
noncomputable def f__law_same : Fsem := semOf 9 g__law_same
theorem ok__law_same {f : Addr} {fd : FuncData} (F : Fun K "_law_same" "_law_same" s__law_same f fd) (C__law_is_truth : Cal P w K mg base "_law_is_truth" 1 2 f__law_is_truth) (z_bool : mg "bool" = none) (z_dict : mg "dict" = none) (z_int : mg "int" = none) (z_isinstance : mg "isinstance" = none) (z_len : mg "len" = none) (z_list : mg "list" = none) (z_str : mg "str" = none) (z_tuple : mg "tuple" = none) (z_zip : mg "zip" = none) : FnOk P w K mg base (L2.CX P w) 2 f fd ["found", "due"] (spD K 2 f__law_same) :=
  fnE g__law_same 9 2 sc__law_same rfl rfl F (fun cdv A outer s H E hr => ⟨_, fun Z => by
    have hu64 := hr.units
    unfold g__law_same b__law_same_1 t__law_same_1
    exact (b_cons (d_setN 2 sc__law_same.nd (n_lst (a_cons (e_tup (a_cons (e_var 0) (a_cons (e_var 1) a_nil))) a_nil))) (b_cons (d_while (fun _ _ => 1000000) (passes_of rfl) (t_lend 2 (t_cmp (k_ne hu64) o_ne (e_var 2) (e_frz (n_lst a_nil)) (nomark _))) (b_cons (d_asgF (f_pop0 2) (g_tup rfl (gs_cons (g_name 3 sc__law_same.nd) (gs_cons (g_name 4 sc__law_same.nd) gs_nil)))) (b_one (d_if (w_or (t_cmp op_isN o_isN (e_var 4) e_non (nomark _)) (w_or1 (t_val (e_isi z_isinstance (e_var 4) z_bool (by decide +kernel) (by decide))))).dt (b_one (d_if (t_if (t_cmp op_isN o_isN (e_var 4) e_non (nomark _)) (t_cmp op_notN o_notN (e_var 3) e_non (nomark _)) (t_not (t_val (e_call C__law_is_truth hr (by decide) (passes_call (takes_of rfl rfl rfl rfl) fun _ _ _ _ h => h) (a_cons (e_var 3) (a_cons (e_var 4) a_nil)) (aCons_len (aCons_len aNil_len)))))) (b_one (d_ret e_bl)) b_nil)) (b_one (d_if (t_val (e_isiT z_isinstance (e_var 4) (pa_ty (T' := "int") z_int (by decide +kernel) (pa_ty (T' := "str") z_str (by decide +kernel) pa_nil)) (at_cons (at_cons at_nil)) (by decide) (by decide))) (b_one (d_if (w_or (t_val (e_isi z_isinstance (e_var 3) z_bool (by decide +kernel) (by decide))) (w_or (t_cmp (k_ne hu64) o_ne (e_isi z_isinstance (e_var 3) z_int (by decide +kernel) (by decide)) (e_isi z_isinstance (e_var 4) z_int (by decide +kernel) (by decide)) (nomark _)) (w_or1 (t_cmp (k_ne hu64) o_ne (e_var 3) (e_var 4) (nomark _))))).dt (b_one (d_ret e_bl)) b_nil)) (b_one (d_if (t_val (e_isi z_isinstance (e_var 4) z_dict (by decide +kernel) (by decide))) (b_cons d_never (b_cons d_never (b_one d_never))) (b_cons (d_set 5 sc__law_same.nd (e_frz (n_lst (a_cons (e_and (e_isi z_isinstance (e_var 3) z_tuple (by decide +kernel) (by decide)) (e_one (e_isi z_isinstance (e_var 4) z_tuple (by decide +kernel) (by decide)))) (a_cons (e_and (e_isi z_isinstance (e_var 3) z_list (by decide +kernel) (by decide)) (e_one (e_isi z_isinstance (e_var 4) z_list (by decide +kernel) (by decide)))) a_nil))))) (b_cons (d_if (w_or (t_cmp k_notIn o_inG e_bl (e_var 5) rfl) (w_or1 (t_cmp (k_ne hu64) o_ne (e_cb k_len o_len z_len (a_cons (e_var 3) a_nil)) (e_cb k_len o_len z_len (a_cons (e_var 4) a_nil)) (nomark _)))).dt (b_one (d_ret e_bl)) b_nil) (b_one (d_extN 2 fun _ => (n_lc (own := [("left", 7), ("right", 8)]) rfl sc__law_same.nd (i_zip z_zip (e_var 3) (e_var 4)) (blkOk_by (by kernel_rfl)) (fun _ _ _ _ _ _ => (g_tup rfl (gs_cons (g_name 7 sc__law_same.nd) (gs_cons (g_name 8 sc__law_same.nd) gs_nil)))) (fun _ _ _ _ _ _ => ts_nil) (fun _ _ _ _ _ _ => (e_tup (a_cons (e_var 7) (a_cons (e_var 8) a_nil)))) (by decide)))))))))))))) (b_one (d_ret e_bl))))⟩) (by decide)

abbrev s__law_swapped : Stmt := topS 40
theorem sc__law_swapped : FnScope ["row", "found", "place", "entry"] ["row"] (defScope s__law_swapped) := ⟨rfl, rfl, rfl, by decide +kernel, rfl, by decide +kernel, by decide +kernel⟩
noncomputable def b__law_swapped_1 : Ss := (gPutL 1 (fVar 3) (fVar 2))
theorem u_b__law_swapped_1 (ρ : List EV) (w : DS) : b__law_swapped_1 ρ w = (gPutL 1 (fVar 3) (fVar 2)) ρ w := rfl
noncomputable def g__law_swapped : Ss := (gSeq (gSetN 1 (fRep (fLst (aCons (fC (.int 0)) aNil)) (fCB dLen (aCons (fVar 0) aNil)))) (gSeq (gFor (fEnum (fVar 0)) (kTup 2 (kCons (kName 2) (kCons (kName 3) kNil))) b__law_swapped_1) (gFrz 1 (gRet (fUn dTupOf (fVar 1))))))
noncomputable def f__law_swapped : Fsem := semOf 4 g__law_swapped
theorem ok__law_swapped {f : Addr} {fd : FuncData} (F : Fun K "_law_swapped" "_law_swapped" s__law_swapped f fd) (z_enumerate : mg "enumerate" = none) (z_len : mg "len" = none) (z_tuple : mg "tuple" = none) : FnOk P w K mg base (L2.CX P w) 1 f fd ["row"] (spD K 1 f__law_swapped) :=
  fnE g__law_swapped 4 1 sc__law_swapped rfl rfl F (fun cdv A outer s H E hr => ⟨_, fun Z => by
    have hu64 := hr.units
    unfold g__law_swapped b__law_swapped_1
    exact (b_cons (d_setN 1 sc__law_swapped.nd (n_rep (n_lst (a_cons e_int a_nil)) (e_cb k_len o_len z_len (a_cons (e_var 0) a_nil)))) (b_cons (d_for (passes_of rfl) rfl (i_enum z_enumerate (e_var 0)) (g_tup rfl (gs_cons (g_name 2 sc__law_swapped.nd) (gs_cons (g_name 3 sc__law_swapped.nd) gs_nil))) (b_one (d_putL 1 (e_var 3) (e_var 2)))) (b_one (d_frz 1 (d_ret (e_tupleOf z_tuple (e_var 1)))))))⟩) (by decide)

abbrev s__law_beside : Stmt := topS 41
theorem sc__law_beside : FnScope ["one", "other", "entry"] ["one", "other"] (defScope s__law_beside) := ⟨rfl, rfl, rfl, by decide +kernel, rfl, by decide +kernel, by decide +kernel⟩
noncomputable def g__law_beside : Ss := (gRet (fOp dAdd (fUn dTupOf (fVar 0)) (fUn dTupOf (fFrz (fLcW (fItems (fVar 1)) (kName 2) fYes (fOp dAdd (fVar 2) (fCB dLen (aCons (fVar 0) aNil))) [2])))))
noncomputable def f__law_beside : Fsem := semOf 3 g__law_beside
theorem ok__law_beside {f : Addr} {fd : FuncData} (F : Fun K "_law_beside" "_law_beside" s__law_beside f fd) (z_len : mg "len" = none) (z_tuple : mg "tuple" = none) : FnOk P w K mg base (L2.CX P w) 1 f fd ["one", "other"] (spD K 2 f__law_beside) :=
  fnE g__law_beside 3 2 sc__law_beside rfl rfl F (fun cdv A outer s H E hr => ⟨_, fun Z => by
    have hu64 := hr.units
    unfold g__law_beside
    exact (b_one (d_ret (e_op op_addA o_add (e_tupleOf z_tuple (e_var 0)) (e_tupleOf z_tuple (e_frz (n_lc (own := [("entry", 2)]) rfl sc__law_beside.nd (i_seq (e_var 1)) (blkOk_by (by kernel_rfl)) (fun _ _ _ _ _ _ => (g_name 2 sc__law_beside.nd)) (fun _ _ _ _ _ _ => ts_nil) (fun _ _ _ _ _ _ => (e_op op_addA o_add (e_var 2) (e_cb k_len o_len z_len (a_cons (e_var 0) a_nil)))) (by decide)))))))⟩) (by decide)

abbrev s__law_under : Stmt := topS 42
theorem sc__law_under : FnScope ["one", "other", "entry"] ["one", "other"] (defScope s__law_under) := ⟨rfl, rfl, rfl, by decide +kernel, rfl, by decide +kernel, by decide +kernel⟩
noncomputable def g__law_under : Ss := (gRet (fOp dAdd (fUn dTupOf (fFrz (fLcW (fItems (fVar 0)) (kName 2) fYes (fOp dAdd (fVar 2) (fCB dLen (aCons (fVar 1) aNil))) [2]))) (fUn dTupOf (fVar 1))))
noncomputable def f__law_under : Fsem := semOf 3 g__law_under
theorem ok__law_under {f : Addr} {fd : FuncData} (F : Fun K "_law_under" "_law_under" s__law_under f fd) (z_len : mg "len" = none) (z_tuple : mg "tuple" = none) : FnOk P w K mg base (L2.CX P w) 1 f fd ["one", "other"] (spD K 2 f__law_under) :=
  fnE g__law_under 3 2 sc__law_under rfl rfl F (fun cdv A outer s H E hr => ⟨_, fun Z => by
    have hu64 := hr.units
    unfold g__law_under
    exact (b_one (d_ret (e_op op_addA o_add (e_tupleOf z_tuple (e_frz (n_lc (own := [("entry", 2)]) rfl sc__law_under.nd (i_seq (e_var 0)) (blkOk_by (by kernel_rfl)) (fun _ _ _ _ _ _ => (g_name 2 sc__law_under.nd)) (fun _ _ _ _ _ _ => ts_nil) (fun _ _ _ _ _ _ => (e_op op_addA o_add (e_var 2) (e_cb k_len o_len z_len (a_cons (e_var 1) a_nil)))) (by decide)))) (e_tupleOf z_tuple (e_var 1)))))⟩) (by decide)

abbrev s__law_dealt : Stmt := topS 43
theorem sc__law_dealt : FnScope ["draws", "n"] ["draws", "n"] (defScope s__law_dealt) := ⟨rfl, rfl, rfl, by decide +kernel, rfl, by decide +kernel, by decide +kernel⟩
noncomputable def g__law_dealt : Ss := (gRet (fUn dTupOf (fCall f__law_shuffled (aDrw 0 (aCons (fFrz (fRg1 (fVar 1))) aNil)))))
noncomputable def f__law_dealt : Fsem := semOf 2 g__law_dealt
theorem ok__law_dealt {f : Addr} {fd : FuncData} (F : Fun K "_law_dealt" "_law_dealt" s__law_dealt f fd) (C__law_shuffled : Cal P w K mg base "_law_shuffled" 3 2 f__law_shuffled) (z_list : mg "list" = none) (z_range : mg "range" = none) (z_tuple : mg "tuple" = none) : FnOk P w K mg base (L2.CX P w) 4 f fd ["draws", "n"] (spD K 2 f__law_dealt) :=
  fnE g__law_dealt 2 2 sc__law_dealt rfl rfl F (fun cdv A outer s H E hr => ⟨_, fun Z => by
    have hu64 := hr.units
    unfold g__law_dealt
    exact (b_one (d_ret (e_tupleOf z_tuple (e_call C__law_shuffled hr (by decide) (passes_call (takes_of rfl rfl rfl rfl) fun _ _ _ _ h => h) (a_drw 0 (a_cons (e_frz (n_listRg1 rfl z_list z_range (e_var 1))) a_nil)) (aDrw_len (aCons_len aNil_len))))))⟩) (by decide)

abbrev s__law_ten_families : Stmt := topS 44
theorem sc__law_ten_families : FnScope [] [] (defScope s__law_ten_families) := ⟨rfl, rfl, rfl, by decide +kernel, rfl, by decide +kernel, by decide +kernel⟩
noncomputable def g__law_ten_families : Ss := (gRet (fFrz (fLst (aCons (fC (.str "floors up up")) (aCons (fC (.str "floors up down")) (aCons (fC (.str "floors down up")) (aCons (fC (.str "floors down down")) (aCons (fC (.str "sides up up")) (aCons (fC (.str "sides up down")) (aCons (fC (.str "sides down up")) (aCons (fC (.str "sides down down")) (aCons (fC (.str "pairs up")) (aCons (fC (.str "pairs down")) aNil)))))))))))))
noncomputable def f__law_ten_families : Fsem := semOf 0 g__law_ten_families
theorem ok__law_ten_families {f : Addr} {fd : FuncData} (F : Fun K "_law_ten_families" "_law_ten_families" s__law_ten_families f fd) : FnOk P w K mg base (L2.CX P w) 1 f fd [] (spD K 0 f__law_ten_families) :=
  fnE g__law_ten_families 0 0 sc__law_ten_families rfl rfl F (fun cdv A outer s H E hr => ⟨_, fun Z => by
    have hu64 := hr.units
    unfold g__law_ten_families
    exact (b_one (d_ret (e_frz (n_lst (a_cons e_str (a_cons e_str (a_cons e_str (a_cons e_str (a_cons e_str (a_cons e_str (a_cons e_str (a_cons e_str (a_cons e_str (a_cons e_str a_nil))))))))))))))⟩) (by decide)

abbrev s__law_family_row : Stmt := topS 45
theorem sc__law_family_row : FnScope ["family", "k", "words", "row", "pair"] ["family", "k"] (defScope s__law_family_row) := ⟨rfl, rfl, rfl, by decide +kernel, rfl, by decide +kernel, by decide +kernel⟩
noncomputable def b__law_family_row_1 : Ss := (gExtN 3 (fLst (aCons (fOp dAdd (fOp (dIC CMulW fun i j => .int (i * j)) (fC (.int 2)) (fVar 4)) (fC (.int 1))) (aCons (fOp (dIC CMulW fun i j => .int (i * j)) (fC (.int 2)) (fVar 4)) aNil))))
theorem u_b__law_family_row_1 (ρ : List EV) (w : DS) : b__law_family_row_1 ρ w = (gExtN 3 (fLst (aCons (fOp dAdd (fOp (dIC CMulW fun i j => .int (i * j)) (fC (.int 2)) (fVar 4)) (fC (.int 1))) (aCons (fOp (dIC CMulW fun i j => .int (i * j)) (fC (.int 2)) (fVar 4)) aNil)))) ρ w := rfl
noncomputable def b__law_family_row_2 : Ss := (gExtN 3 (fLst (aCons (fIf (fBool (fOp dEq (fOp dSubI (fVar 2) (fC (.int 1))) (fC (.str "up")))) (fVar 4) (fOp (dI fun i j => .int (i - j)) (fOp (dI fun i j => .int (i - j)) (fVar 1) (fC (.int 1))) (fVar 4))) (aCons (fIf (fBool (fOp dEq (fOp dSubI (fVar 2) (fC (.int 2))) (fC (.str "up")))) (fOp dAdd (fVar 1) (fVar 4)) (fOp (dI fun i j => .int (i - j)) (fOp (dI fun i j => .int (i - j)) (fOp (dIC CMulW fun i j => .int (i * j)) (fC (.int 2)) (fVar 1)) (fC (.int 1))) (fVar 4))) aNil))))
theorem u_b__law_family_row_2 (ρ : List EV) (w : DS) : b__law_family_row_2 ρ w = (gExtN 3 (fLst (aCons (fIf (fBool (fOp dEq (fOp dSubI (fVar 2) (fC (.int 1))) (fC (.str "up")))) (fVar 4) (fOp (dI fun i j => .int (i - j)) (fOp (dI fun i j => .int (i - j)) (fVar 1) (fC (.int 1))) (fVar 4))) (aCons (fIf (fBool (fOp dEq (fOp dSubI (fVar 2) (fC (.int 2))) (fC (.str "up")))) (fOp dAdd (fVar 1) (fVar 4)) (fOp (dI fun i j => .int (i - j)) (fOp (dI fun i j => .int (i - j)) (fOp (dIC CMulW fun i j => .int (i * j)) (fC (.int 2)) (fVar 1)) (fC (.int 1))) (fVar 4))) aNil)))) ρ w := rfl
noncomputable def g__law_family_row : Ss := (gSeq (gPar [2, 3] (aCons (fFrz (fSplit (fVar 0) (fC (.str " ")))) (aNew (fLst aNil) aNil))) (gSeq (gIf (fBool (fOp dEq (fOp dSubI (fVar 2) (fC (.int 0))) (fC (.str "pairs")))) (gSeq (gFor (fIr1 (fVar 1)) (kName 4) b__law_family_row_1) (gFrz 3 (gRet (fIf (fBool (fOp dEq (fOp dSubI (fVar 2) (fC (.int 1))) (fC (.str "up")))) (fUn dTupOf (fVar 3)) (fUn dTupOf (fUn dRevL (fVar 3))))))) gNext) (gSeq (gFor (fIr1 (fVar 1)) (kName 4) b__law_family_row_2) (gFrz 3 (gRet (fIf (fBool (fOp dEq (fOp dSubI (fVar 2) (fC (.int 0))) (fC (.str "floors")))) (fUn dTupOf (fVar 3)) (fCall f__law_swapped (aCons (fVar 3) aNil))))))))
noncomputable def f__law_family_row : Fsem := semOf 5 g__law_family_row
theorem ok__law_family_row {f : Addr} {fd : FuncData} (F : Fun K "_law_family_row" "_law_family_row" s__law_family_row f fd) (C__law_swapped : Cal P w K mg base "_law_swapped" 1 1 f__law_swapped) (z_range : mg "range" = none) (z_tuple : mg "tuple" = none) : FnOk P w K mg base (L2.CX P w) 2 f fd ["family", "k"] (spD K 2 f__law_family_row) :=
  fnE g__law_family_row 5 2 sc__law_family_row rfl rfl F (fun cdv A outer s H E hr => ⟨_, fun Z => by
    have hu64 := hr.units
    unfold g__law_family_row b__law_family_row_2 b__law_family_row_1
    exact (b_cons (d_par2 2 3 rfl sc__law_family_row.nd (m_dat (e_frz (n_split (e_var 0) e_str)) (m_new (n_lst a_nil) fun _ => m_nil))) (b_cons (d_if (t_cmp (k_eq hu64) o_eq (e_sub hr (e_var 2) e_int) e_str (nomark _)) (b_cons (d_for (passes_of rfl) rfl (i_range1 z_range (e_var 1)) (g_name 4 sc__law_family_row.nd) (b_one (d_extN 3 fun _ => (n_lst (a_cons (e_op op_addA o_add (e_op op_mulW o_mul e_int (e_var 4)) e_int) (a_cons (e_op op_mulW o_mul e_int (e_var 4)) a_nil)))))) (b_one (d_frz 3 (d_ret (e_if (t_cmp (k_eq hu64) o_eq (e_sub hr (e_var 2) e_int) e_str (nomark _)) (e_tupleOf z_tuple (e_var 3)) (e_tupleOf z_tuple (e_revL (e_var 3)))))))) b_nil) (b_cons (d_for (passes_of rfl) rfl (i_range1 z_range (e_var 1)) (g_name 4 sc__law_family_row.nd) (b_one (d_extN 3 fun _ => (n_lst (a_cons (e_if (t_cmp (k_eq hu64) o_eq (e_sub hr (e_var 2) e_int) e_str (nomark _)) (e_var 4) (e_op op_sub o_sub (e_op op_sub o_sub (e_var 1) e_int) (e_var 4))) (a_cons (e_if (t_cmp (k_eq hu64) o_eq (e_sub hr (e_var 2) e_int) e_str (nomark _)) (e_op op_addA o_add (e_var 1) (e_var 4)) (e_op op_sub o_sub (e_op op_sub o_sub (e_op op_mulW o_mul e_int (e_var 1)) e_int) (e_var 4))) a_nil)))))) (b_one (d_frz 3 (d_ret (e_if (t_cmp (k_eq hu64) o_eq (e_sub hr (e_var 2) e_int) e_str (nomark _)) (e_tupleOf z_tuple (e_var 3)) (e_call C__law_swapped hr (by decide) (passes_call (takes_of rfl rfl rfl rfl) fun _ _ _ _ h => h) (a_cons (e_var 3) a_nil) (aCons_len aNil_len)))))))))⟩) (by decide)

abbrev s__law_beside_word : Stmt := topS 46
theorem sc__law_beside_word : FnScope ["one", "other", "found", "entry", "slot", "kind"] ["one", "other"] (defScope s__law_beside_word) := ⟨rfl, rfl, rfl, by decide +kernel, rfl, by decide +kernel, by decide +kernel⟩
noncomputable def b__law_beside_word_1 : Ss := (gSeq (gIf (fBool (fOp dEq (fOp dSubI (fVar 0) (fUn dNeg (fC (.int 1)))) (fVar 3))) (gSet 5 (fIf (fBool (fOp dEq (fVar 5) (fC (.str "fill")))) (fC (.str "left")) (fC (.str "split")))) gNext) (gApp 2 (fPure (fTup (aCons (fVar 4) (aCons (fVar 5) aNil))))))
theorem u_b__law_beside_word_1 (ρ : List EV) (w : DS) : b__law_beside_word_1 ρ w = (gSeq (gIf (fBool (fOp dEq (fOp dSubI (fVar 0) (fUn dNeg (fC (.int 1)))) (fVar 3))) (gSet 5 (fIf (fBool (fOp dEq (fVar 5) (fC (.str "fill")))) (fC (.str "left")) (fC (.str "split")))) gNext) (gApp 2 (fPure (fTup (aCons (fVar 4) (aCons (fVar 5) aNil)))))) ρ w := rfl
noncomputable def g__law_beside_word : Ss := (gSeq (gSetN 2 (fLst aNil)) (gSeq (gFor (fEnum (fCall f_word_of (aCons (fVar 0) aNil))) (kTup 2 (kCons (kName 3) (kCons (kTup 2 (kCons (kName 4) (kCons (kName 5) kNil))) kNil))) b__law_beside_word_1) (gFrz 2 (gRet (fOp dAdd (fUn dTupOf (fVar 2)) (fCall f_word_of (aCons (fVar 1) aNil)))))))
noncomputable def f__law_beside_word : Fsem := semOf 6 g__law_beside_word
theorem ok__law_beside_word {f : Addr} {fd : FuncData} (F : Fun K "_law_beside_word" "_law_beside_word" s__law_beside_word f fd) (C_word_of : Cal P w K mg base "word_of" 4 1 f_word_of) (z_enumerate : mg "enumerate" = none) (z_tuple : mg "tuple" = none) : FnOk P w K mg base (L2.CX P w) 5 f fd ["one", "other"] (spD K 2 f__law_beside_word) :=
  fnE g__law_beside_word 6 2 sc__law_beside_word rfl rfl F (fun cdv A outer s H E hr => ⟨_, fun Z => by
    have hu64 := hr.units
    unfold g__law_beside_word b__law_beside_word_1
    exact (b_cons (d_setN 2 sc__law_beside_word.nd (n_lst a_nil)) (b_cons (d_for (passes_of rfl) rfl (i_enum z_enumerate (e_call C_word_of hr (by decide) (passes_call (takes_of rfl rfl rfl rfl) fun _ _ _ _ h => h) (a_cons (e_var 0) a_nil) (aCons_len aNil_len))) (g_tup rfl (gs_cons (g_name 3 sc__law_beside_word.nd) (gs_cons (g_tup rfl (gs_cons (g_name 4 sc__law_beside_word.nd) (gs_cons (g_name 5 sc__law_beside_word.nd) gs_nil))) gs_nil))) (b_cons (d_if (t_cmp (k_eq hu64) o_eq (e_sub hr (e_var 0) (e_un un_neg u_negD e_int)) (e_var 3) (nomark _)) (b_one (d_set 5 sc__law_beside_word.nd (e_if (t_cmp (k_eq hu64) o_eq (e_var 5) e_str (nomark _)) e_str e_str))) b_nil) (b_one (d_app 2 (f_of (e_tup (a_cons (e_var 4) (a_cons (e_var 5) a_nil)))))))) (b_one (d_frz 2 (d_ret (e_op op_addA o_add (e_tupleOf z_tuple (e_var 2)) (e_call C_word_of hr (by decide) (passes_call (takes_of rfl rfl rfl rfl) fun _ _ _ _ h => h) (a_cons (e_var 1) a_nil) (aCons_len aNil_len))))))))⟩) (by decide)

abbrev s__law_under_word : Stmt := topS 47
theorem sc__law_under_word : FnScope ["one", "other", "found", "entry", "slot", "kind"] ["one", "other"] (defScope s__law_under_word) := ⟨rfl, rfl, rfl, by decide +kernel, rfl, by decide +kernel, by decide +kernel⟩
noncomputable def b__law_under_word_1 : Ss := (gIf (fBool (fOp dEq (fOp dSubI (fVar 1) (fC (.int 0))) (fVar 3))) (gApp 2 (fPure (fTup (aCons (fVar 4) (aCons (fIf (fBool (fOp dEq (fVar 5) (fC (.str "fill")))) (fC (.str "right")) (fC (.str "split"))) aNil))))) (gApp 2 (fPure (fTup (aCons (fIf (fBool (fOp (dI fun i j => .bl (decide (i < j))) (fOp dSubI (fVar 1) (fC (.int 0))) (fVar 3))) (fOp dAdd (fVar 4) (fC (.int 1))) (fVar 4)) (aCons (fVar 5) aNil))))))
theorem u_b__law_under_word_1 (ρ : List EV) (w : DS) : b__law_under_word_1 ρ w = (gIf (fBool (fOp dEq (fOp dSubI (fVar 1) (fC (.int 0))) (fVar 3))) (gApp 2 (fPure (fTup (aCons (fVar 4) (aCons (fIf (fBool (fOp dEq (fVar 5) (fC (.str "fill")))) (fC (.str "right")) (fC (.str "split"))) aNil))))) (gApp 2 (fPure (fTup (aCons (fIf (fBool (fOp (dI fun i j => .bl (decide (i < j))) (fOp dSubI (fVar 1) (fC (.int 0))) (fVar 3))) (fOp dAdd (fVar 4) (fC (.int 1))) (fVar 4)) (aCons (fVar 5) aNil)))))) ρ w := rfl
noncomputable def g__law_under_word : Ss := (gSeq (gSetN 2 (fLst aNil)) (gSeq (gFor (fEnum (fCall f_word_of (aCons (fVar 1) aNil))) (kTup 2 (kCons (kName 3) (kCons (kTup 2 (kCons (kName 4) (kCons (kName 5) kNil))) kNil))) b__law_under_word_1) (gFrz 2 (gRet (fOp dAdd (fUn dTupOf (fVar 2)) (fCall f_word_of (aCons (fVar 0) aNil)))))))
noncomputable def f__law_under_word : Fsem := semOf 6 g__law_under_word
theorem ok__law_under_word {f : Addr} {fd : FuncData} (F : Fun K "_law_under_word" "_law_under_word" s__law_under_word f fd) (C_word_of : Cal P w K mg base "word_of" 4 1 f_word_of) (z_enumerate : mg "enumerate" = none) (z_tuple : mg "tuple" = none) : FnOk P w K mg base (L2.CX P w) 5 f fd ["one", "other"] (spD K 2 f__law_under_word) :=
  fnE g__law_under_word 6 2 sc__law_under_word rfl rfl F (fun cdv A outer s H E hr => ⟨_, fun Z => by
    have hu64 := hr.units
    unfold g__law_under_word b__law_under_word_1
    exact (b_cons (d_setN 2 sc__law_under_word.nd (n_lst a_nil)) (b_cons (d_for (passes_of rfl) rfl (i_enum z_enumerate (e_call C_word_of hr (by decide) (passes_call (takes_of rfl rfl rfl rfl) fun _ _ _ _ h => h) (a_cons (e_var 1) a_nil) (aCons_len aNil_len))) (g_tup rfl (gs_cons (g_name 3 sc__law_under_word.nd) (gs_cons (g_tup rfl (gs_cons (g_name 4 sc__law_under_word.nd) (gs_cons (g_name 5 sc__law_under_word.nd) gs_nil))) gs_nil))) (b_one (d_if (t_cmp (k_eq hu64) o_eq (e_sub hr (e_var 1) e_int) (e_var 3) (nomark _)) (b_one (d_app 2 (f_of (e_tup (a_cons (e_var 4) (a_cons (e_if (t_cmp (k_eq hu64) o_eq (e_var 5) e_str (nomark _)) e_str e_str) a_nil)))))) (b_one (d_app 2 (f_of (e_tup (a_cons (e_if (t_cmp op_lt o_lt (e_sub hr (e_var 1) e_int) (e_var 3) (nomark _)) (e_op op_addA o_add (e_var 4) e_int) (e_var 4)) (a_cons (e_var 5) a_nil))))))))) (b_one (d_frz 2 (d_ret (e_op op_addA o_add (e_tupleOf z_tuple (e_var 2)) (e_call C_word_of hr (by decide) (passes_call (takes_of rfl rfl rfl rfl) fun _ _ _ _ h => h) (a_cons (e_var 0) a_nil) (aCons_len aNil_len))))))))⟩) (by decide)

abbrev s__law_back_word : Stmt := topS 48
theorem sc__law_back_word : FnScope ["row", "kinds", "slots", "entry", "letter"] ["row"] (defScope s__law_back_word) := ⟨rfl, rfl, rfl, by decide +kernel, rfl, by decide +kernel, by decide +kernel⟩
noncomputable def g__law_back_word : Ss := (gSeq (gSet 1 (fDisp (pCons (fC (.str "fill")) (fC (.str "fill")) (pCons (fC (.str "left")) (fC (.str "right")) (pCons (fC (.str "right")) (fC (.str "left")) (pCons (fC (.str "split")) (fC (.str "split")) pNil)))))) (gSeq (gSet 2 (fCall f_open_slots (aCons (fVar 0) aNil))) (gRet (fUn dTupOf (fFrz (fLcW (fEnum (fCall f_word_of (aCons (fVar 0) aNil))) (kTup 2 (kCons (kName 3) (kCons (kName 4) kNil))) fYes (fTup (aCons (fOp (dI fun i j => .int (i - j)) (fOp (dI fun i j => .int (i - j)) (fOp dSubI (fVar 2) (fVar 3)) (fC (.int 1))) (fOp dSubI (fVar 4) (fC (.int 0)))) (aCons (fOp dSubI (fVar 1) (fOp dSubI (fVar 4) (fC (.int 1)))) aNil))) [3, 4]))))))
noncomputable def f__law_back_word : Fsem := semOf 5 g__law_back_word
theorem ok__law_back_word {f : Addr} {fd : FuncData} (F : Fun K "_law_back_word" "_law_back_word" s__law_back_word f fd) (C_open_slots : Cal P w K mg base "open_slots" 4 1 f_open_slots) (C_word_of : Cal P w K mg base "word_of" 4 1 f_word_of) (z_enumerate : mg "enumerate" = none) (z_tuple : mg "tuple" = none) : FnOk P w K mg base (L2.CX P w) 5 f fd ["row"] (spD K 1 f__law_back_word) :=
  fnE g__law_back_word 5 1 sc__law_back_word rfl rfl F (fun cdv A outer s H E hr => ⟨_, fun Z => by
    have hu64 := hr.units
    unfold g__law_back_word
    exact (b_cons (d_set 1 sc__law_back_word.nd (e_disp fun _ => (p_cons e_str e_str (p_cons e_str e_str (p_cons e_str e_str (p_cons e_str e_str p_nil)))))) (b_cons (d_set 2 sc__law_back_word.nd (e_call C_open_slots hr (by decide) (passes_call (takes_of rfl rfl rfl rfl) fun _ _ _ _ h => h) (a_cons (e_var 0) a_nil) (aCons_len aNil_len))) (b_one (d_ret (e_tupleOf z_tuple (e_frz (n_lc (own := [("entry", 3), ("letter", 4)]) rfl sc__law_back_word.nd (i_enum z_enumerate (e_call C_word_of hr (by decide) (passes_call (takes_of rfl rfl rfl rfl) fun _ _ _ _ h => h) (a_cons (e_var 0) a_nil) (aCons_len aNil_len))) (blkOk_by (by kernel_rfl)) (fun _ _ _ _ _ _ => (g_tup rfl (gs_cons (g_name 3 sc__law_back_word.nd) (gs_cons (g_name 4 sc__law_back_word.nd) gs_nil)))) (fun _ _ _ _ _ _ => ts_nil) (fun _ _ _ _ _ _ => (e_tup (a_cons (e_op op_sub o_sub (e_op op_sub o_sub (e_sub hr (e_var 2) (e_var 3)) e_int) (e_sub hr (e_var 4) e_int)) (a_cons (e_sub hr (e_var 1) (e_sub hr (e_var 4) e_int)) a_nil)))) (by decide))))))))⟩) (by decide)

abbrev s__law_exchange_right : Stmt := topS 49
theorem sc__law_exchange_right : FnScope ["draws", "row", "low", "later", "one", "other", "slots", "after", "own", "entry"] ["draws", "row"] (defScope s__law_exchange_right) := ⟨rfl, rfl, rfl, by decide +kernel, rfl, by decide +kernel, by decide +kernel⟩
noncomputable def g__law_exchange_right : Ss := (gSeq (gSet 2 (fCall f__law_draw (aDrw 0 (aCons (fOp (dI fun i j => .int (i - j)) (fCB dLen (aCons (fVar 1) aNil)) (fC (.int 1))) aNil)))) (gSeq (gSet 3 (fUn dTupOf (fFrz (fLcW (fItems (fVar 1)) (kName 8) fYes (fIf (fBool (fOp dEq (fVar 8) (fVar 2))) (fOp dAdd (fVar 2) (fC (.int 1))) (fIf (fBool (fOp dEq (fVar 8) (fOp dAdd (fVar 2) (fC (.int 1))))) (fVar 2) (fVar 8))) [8])))) (gSeq (gAsg (fTup (aCons (fCall f_word_of (aCons (fVar 1) aNil)) (aCons (fCall f_word_of (aCons (fVar 3) aNil)) aNil))) (kTup 2 (kCons (kName 4) (kCons (kName 5) kNil)))) (gSeq (gAsg (fTup (aCons (fCall f_open_slots (aCons (fVar 1) aNil)) (aCons (fCall f_open_slots (aCons (fVar 3) aNil)) aNil))) (kTup 2 (kCons (kName 6) (kCons (kName 7) kNil)))) (gSeq (gIf (fBool (fOp dNe (fFrz (fLcW (fIr1 (fCB dLen (aCons (fVar 1) aNil))) (kName 9) (fAnd (fBool (fOp (dIn true) (fVar 9) (fFrz (fLst (aCons (fVar 2) (aCons (fOp dAdd (fVar 2) (fC (.int 1))) aNil)))))) (fBool (fOp dNe (fOp dSubI (fVar 4) (fVar 9)) (fOp dSubI (fVar 5) (fVar 9))))) (fC (.int 1)) [9])) (fFrz (fLst aNil)))) (gRet (fC (.bl false))) gNext) (gSeq (gIf (fBool (fOp dNe (fFrz (fLcW (fIr1 (fOp dAdd (fCB dLen (aCons (fVar 1) aNil)) (fC (.int 1)))) (kName 9) (fAnd (fBool (fOp dNe (fVar 9) (fOp dAdd (fVar 2) (fC (.int 1))))) (fBool (fOp dNe (fOp dSubI (fVar 6) (fVar 9)) (fOp dSubI (fVar 7) (fVar 9))))) (fC (.int 1)) [9])) (fFrz (fLst aNil)))) (gRet (fC (.bl false))) gNext) (gRet (fAndV (fOp dNe (fVar 5) (fVar 4)) (fCall f__law_same (aCons (fCall f_row_of_word (aCons (fVar 5) aNil)) (aCons (fVar 3) aNil)))))))))))
noncomputable def f__law_exchange_right : Fsem := semOf 10 g__law_exchange_right
theorem ok__law_exchange_right {f : Addr} {fd : FuncData} (F : Fun K "_law_exchange_right" "_law_exchange_right" s__law_exchange_right f fd) (C__law_draw : Cal P w K mg base "_law_draw" 2 2 f__law_draw) (C_word_of : Cal P w K mg base "word_of" 4 1 f_word_of) (C_open_slots : Cal P w K mg base "open_slots" 4 1 f_open_slots) (C__law_same : Cal P w K mg base "_law_same" 2 2 f__law_same) (C_row_of_word : Cal P w K mg base "row_of_word" 4 1 f_row_of_word) (z_len : mg "len" = none) (z_range : mg "range" = none) (z_tuple : mg "tuple" = none) : FnOk P w K mg base (L2.CX P w) 5 f fd ["draws", "row"] (spD K 2 f__law_exchange_right) :=
  fnE g__law_exchange_right 10 2 sc__law_exchange_right rfl rfl F (fun cdv A outer s H E hr => ⟨_, fun Z => by
    have hu64 := hr.units
    unfold g__law_exchange_right
    exact (b_cons (d_set 2 sc__law_exchange_right.nd (e_call C__law_draw hr (by decide) (passes_call (takes_of rfl rfl rfl rfl) fun _ _ _ _ h => h) (a_drw 0 (a_cons (e_op op_sub o_sub (e_cb k_len o_len z_len (a_cons (e_var 1) a_nil)) e_int) a_nil)) (aDrw_len (aCons_len aNil_len)))) (b_cons (d_set 3 sc__law_exchange_right.nd (e_tupleOf z_tuple (e_frz (n_lc (own := [("own", 8)]) rfl sc__law_exchange_right.nd (i_seq (e_var 1)) (blkOk_by (by kernel_rfl)) (fun _ _ _ _ _ _ => (g_name 8 sc__law_exchange_right.nd)) (fun _ _ _ _ _ _ => ts_nil) (fun _ _ _ _ _ _ => (e_if (t_cmp (k_eq hu64) o_eq (e_var 8) (e_var 2) (nomark _)) (e_op op_addA o_add (e_var 2) e_int) (e_if (t_cmp (k_eq hu64) o_eq (e_var 8) (e_op op_addA o_add (e_var 2) e_int) (nomark _)) (e_var 2) (e_var 8)))) (by decide))))) (b_cons (d_asg (e_tup (a_cons (e_call C_word_of hr (by decide) (passes_call (takes_of rfl rfl rfl rfl) fun _ _ _ _ h => h) (a_cons (e_var 1) a_nil) (aCons_len aNil_len)) (a_cons (e_call C_word_of hr (by decide) (passes_call (takes_of rfl rfl rfl rfl) fun _ _ _ _ h => h) (a_cons (e_var 3) a_nil) (aCons_len aNil_len)) a_nil))) (g_tup rfl (gs_cons (g_name 4 sc__law_exchange_right.nd) (gs_cons (g_name 5 sc__law_exchange_right.nd) gs_nil)))) (b_cons (d_asg (e_tup (a_cons (e_call C_open_slots hr (by decide) (passes_call (takes_of rfl rfl rfl rfl) fun _ _ _ _ h => h) (a_cons (e_var 1) a_nil) (aCons_len aNil_len)) (a_cons (e_call C_open_slots hr (by decide) (passes_call (takes_of rfl rfl rfl rfl) fun _ _ _ _ h => h) (a_cons (e_var 3) a_nil) (aCons_len aNil_len)) a_nil))) (g_tup rfl (gs_cons (g_name 6 sc__law_exchange_right.nd) (gs_cons (g_name 7 sc__law_exchange_right.nd) gs_nil)))) (b_cons (d_if (t_cmp (k_ne hu64) o_ne (e_frz (n_lc (own := [("entry", 9)]) rfl sc__law_exchange_right.nd (i_range1 z_range (e_cb k_len o_len z_len (a_cons (e_var 1) a_nil))) (blkOk_by (by kernel_rfl)) (fun _ _ _ _ _ _ => (g_name 9 sc__law_exchange_right.nd)) (fun _ _ _ _ _ _ => (ts_one (w_and (t_cmp k_notIn o_inG (e_var 9) (e_frz (n_lst (a_cons (e_var 2) (a_cons (e_op op_addA o_add (e_var 2) e_int) a_nil)))) rfl) (w_and1 (t_cmp (k_ne hu64) o_ne (e_sub hr (e_var 4) (e_var 9)) (e_sub hr (e_var 5) (e_var 9)) (nomark _)))).dt)) (fun _ _ _ _ _ _ => e_int) (by decide))) (e_frz (n_lst a_nil)) (nomark _)) (b_one (d_ret e_bl)) b_nil) (b_cons (d_if (t_cmp (k_ne hu64) o_ne (e_frz (n_lc (own := [("entry", 9)]) rfl sc__law_exchange_right.nd (i_range1 z_range (e_op op_addA o_add (e_cb k_len o_len z_len (a_cons (e_var 1) a_nil)) e_int)) (blkOk_by (by kernel_rfl)) (fun _ _ _ _ _ _ => (g_name 9 sc__law_exchange_right.nd)) (fun _ _ _ _ _ _ => (ts_one (w_and (t_cmp (k_ne hu64) o_ne (e_var 9) (e_op op_addA o_add (e_var 2) e_int) (nomark _)) (w_and1 (t_cmp (k_ne hu64) o_ne (e_sub hr (e_var 6) (e_var 9)) (e_sub hr (e_var 7) (e_var 9)) (nomark _)))).dt)) (fun _ _ _ _ _ _ => e_int) (by decide))) (e_frz (n_lst a_nil)) (nomark _)) (b_one (d_ret e_bl)) b_nil) (b_one (d_ret (e_and (e_cmp (k_ne hu64) o_ne (e_var 5) (e_var 4) (nomark _)) (e_one (e_call C__law_same hr (by decide) (passes_call (takes_of rfl rfl rfl rfl) fun _ _ _ _ h => h) (a_cons (e_call C_row_of_word hr (by decide) (passes_call (takes_of rfl rfl rfl rfl) fun _ _ _ _ h => h) (a_cons (e_var 5) a_nil) (aCons_len aNil_len)) (a_cons (e_var 3) a_nil)) (aCons_len (aCons_len aNil_len)))))))))))))⟩) (by decide)

abbrev s_law : Stmt := topS 50
theorem sc_law : FnScope ["script", "draws", "turn", "one", "other", "along", "below", "row"] ["script"] (defScope s_law) := ⟨rfl, rfl, rfl, by decide +kernel, rfl, by decide +kernel, by decide +kernel⟩
noncomputable def b_law_1 : Ss := (gSeq (gIf (fNot (fBool (fCall f__law_same (aCons (fCall f_word_of (aCons (fCall f_turned (aCons (fVar 7) aNil)) aNil)) (aCons (fCall f__law_back_word (aCons (fVar 7) aNil)) aNil))))) (gRet (fC (.bl false))) gNext) (gIf (fAnd (fBool (fOp (dI fun i j => .bl (decide (j < i))) (fCB dLen (aCons (fVar 7) aNil)) (fC (.int 1)))) (fNot (fBool (fCall f__law_exchange_right (aDrw 1 (aCons (fVar 7) aNil)))))) (gRet (fC (.bl false))) gNext))
theorem u_b_law_1 (ρ : List EV) (w : DS) : b_law_1 ρ w = (gSeq (gIf (fNot (fBool (fCall f__law_same (aCons (fCall f_word_of (aCons (fCall f_turned (aCons (fVar 7) aNil)) aNil)) (aCons (fCall f__law_back_word (aCons (fVar 7) aNil)) aNil))))) (gRet (fC (.bl false))) gNext) (gIf (fAnd (fBool (fOp (dI fun i j => .bl (decide (j < i))) (fCB dLen (aCons (fVar 7) aNil)) (fC (.int 1)))) (fNot (fBool (fCall f__law_exchange_right (aDrw 1 (aCons (fVar 7) aNil)))))) (gRet (fC (.bl false))) gNext)) ρ w := rfl
noncomputable def b_law_2 : Ss := (gSeq (gPar [3, 4] (aCons (fCall f__law_dealt (aDrw 1 (aCons (fOp dAdd (fC (.int 1)) (fCall f__law_draw (aDrw 1 (aCons (fC (.int 20)) aNil)))) aNil))) (aCons (fCall f__law_dealt (aDrw 1 (aCons (fOp dAdd (fC (.int 1)) (fCall f__law_draw (aDrw 1 (aCons (fC (.int 20)) aNil)))) aNil))) aNil))) (gSeq (gIf (fBool (fOp dEq (fCall f__law_draw (aDrw 1 (aCons (fC (.int 3)) aNil))) (fC (.int 0)))) (gSet 3 (fCall f__law_family_row (aCons (fCall f__law_pick (aDrw 1 (aCons (fCall f__law_ten_families aNil) aNil))) (aCons (fOp dAdd (fC (.int 1)) (fCall f__law_draw (aDrw 1 (aCons (fC (.int 10)) aNil)))) aNil)))) gNext) (gSeq (gPar [5, 6] (aCons (fCall f_beside (aCons (fVar 3) (aCons (fVar 4) aNil))) (aCons (fCall f_under (aCons (fVar 3) (aCons (fVar 4) aNil))) aNil))) (gSeq (gIf (fOr (fNot (fBool (fCall f__law_same (aCons (fCall f_word_of (aCons (fVar 5) aNil)) (aCons (fCall f__law_beside_word (aCons (fVar 3) (aCons (fVar 4) aNil))) aNil))))) (fNot (fBool (fCall f__law_same (aCons (fVar 5) (aCons (fCall f__law_beside (aCons (fVar 3) (aCons (fVar 4) aNil))) aNil)))))) (gRet (fC (.bl false))) gNext) (gSeq (gIf (fOr (fNot (fBool (fCall f__law_same (aCons (fCall f_word_of (aCons (fVar 6) aNil)) (aCons (fCall f__law_under_word (aCons (fVar 3) (aCons (fVar 4) aNil))) aNil))))) (fNot (fBool (fCall f__law_same (aCons (fVar 6) (aCons (fCall f__law_under (aCons (fVar 3) (aCons (fVar 4) aNil))) aNil)))))) (gRet (fC (.bl false))) gNext) (gSeq (gFor (fItems (fFrz (fLst (aCons (fVar 3) (aCons (fVar 5) (aCons (fVar 6) aNil)))))) (kName 7) b_law_1) (gIf (fNot (fBool (fCall f__law_same (aCons (fCall f_open_slots (aCons (fCall f_turned (aCons (fVar 5) aNil)) aNil)) (aCons (fCall f_open_slots (aCons (fVar 5) aNil)) aNil))))) (gRet (fC (.bl false))) gNext)))))))
theorem u_b_law_2 (ρ : List EV) (w : DS) : b_law_2 ρ w = (gSeq (gPar [3, 4] (aCons (fCall f__law_dealt (aDrw 1 (aCons (fOp dAdd (fC (.int 1)) (fCall f__law_draw (aDrw 1 (aCons (fC (.int 20)) aNil)))) aNil))) (aCons (fCall f__law_dealt (aDrw 1 (aCons (fOp dAdd (fC (.int 1)) (fCall f__law_draw (aDrw 1 (aCons (fC (.int 20)) aNil)))) aNil))) aNil))) (gSeq (gIf (fBool (fOp dEq (fCall f__law_draw (aDrw 1 (aCons (fC (.int 3)) aNil))) (fC (.int 0)))) (gSet 3 (fCall f__law_family_row (aCons (fCall f__law_pick (aDrw 1 (aCons (fCall f__law_ten_families aNil) aNil))) (aCons (fOp dAdd (fC (.int 1)) (fCall f__law_draw (aDrw 1 (aCons (fC (.int 10)) aNil)))) aNil)))) gNext) (gSeq (gPar [5, 6] (aCons (fCall f_beside (aCons (fVar 3) (aCons (fVar 4) aNil))) (aCons (fCall f_under (aCons (fVar 3) (aCons (fVar 4) aNil))) aNil))) (gSeq (gIf (fOr (fNot (fBool (fCall f__law_same (aCons (fCall f_word_of (aCons (fVar 5) aNil)) (aCons (fCall f__law_beside_word (aCons (fVar 3) (aCons (fVar 4) aNil))) aNil))))) (fNot (fBool (fCall f__law_same (aCons (fVar 5) (aCons (fCall f__law_beside (aCons (fVar 3) (aCons (fVar 4) aNil))) aNil)))))) (gRet (fC (.bl false))) gNext) (gSeq (gIf (fOr (fNot (fBool (fCall f__law_same (aCons (fCall f_word_of (aCons (fVar 6) aNil)) (aCons (fCall f__law_under_word (aCons (fVar 3) (aCons (fVar 4) aNil))) aNil))))) (fNot (fBool (fCall f__law_same (aCons (fVar 6) (aCons (fCall f__law_under (aCons (fVar 3) (aCons (fVar 4) aNil))) aNil)))))) (gRet (fC (.bl false))) gNext) (gSeq (gFor (fItems (fFrz (fLst (aCons (fVar 3) (aCons (fVar 5) (aCons (fVar 6) aNil)))))) (kName 7) b_law_1) (gIf (fNot (fBool (fCall f__law_same (aCons (fCall f_open_slots (aCons (fCall f_turned (aCons (fVar 5) aNil)) aNil)) (aCons (fCall f_open_slots (aCons (fVar 5) aNil)) aNil))))) (gRet (fC (.bl false))) gNext))))))) ρ w := rfl
noncomputable def g_law : Ss := (gSeq (gFor (fIr1 (fOp dAdd (fC (.int 2)) (fCB dMin2 (aCons (fCB dLen (aCons (fVar 0) aNil)) (aCons (fC (.int 6)) aNil))))) (kName 2) b_law_2) (gRet (fC (.bl true))))
noncomputable def f_law : Fsem := semOf 8 g_law
theorem ok_law {f fB : Addr} {fd fdB : FuncData} (F : Fun K "law" "law" s_law f fd) (GB : FnOk P w K mg base (L2.CX P w) 1 fB fdB ["script"] (spBegun K)) (bB : L2.Binds K fdB ["script"] []) (mB : mg "_law_begun" = some (.ref fB)) (kB : W.keepIn K (.ref fB) = true) (C__law_dealt : Cal P w K mg base "_law_dealt" 4 2 f__law_dealt) (C__law_draw : Cal P w K mg base "_law_draw" 2 2 f__law_draw) (C__law_family_row : Cal P w K mg base "_law_family_row" 2 2 f__law_family_row) (C__law_pick : Cal P w K mg base "_law_pick" 3 2 f__law_pick) (C__law_ten_families : Cal P w K mg base "_law_ten_families" 1 0 f__law_ten_families) (C_under : Cal P w K mg base "under" 4 2 f_under) (C_beside : Cal P w K mg base "beside" 4 2 f_beside) (C__law_same : Cal P w K mg base "_law_same" 2 2 f__law_same) (C__law_beside_word : Cal P w K mg base "_law_beside_word" 5 2 f__law_beside_word) (C_word_of : Cal P w K mg base "word_of" 4 1 f_word_of) (C__law_beside : Cal P w K mg base "_law_beside" 1 2 f__law_beside) (C__law_under_word : Cal P w K mg base "_law_under_word" 5 2 f__law_under_word) (C__law_under : Cal P w K mg base "_law_under" 1 2 f__law_under) (C__law_back_word : Cal P w K mg base "_law_back_word" 5 1 f__law_back_word) (C_turned : Cal P w K mg base "turned" 4 1 f_turned) (C__law_exchange_right : Cal P w K mg base "_law_exchange_right" 5 2 f__law_exchange_right) (C_open_slots : Cal P w K mg base "open_slots" 4 1 f_open_slots) (z_len : mg "len" = none) (z_min : mg "min" = none) (z_range : mg "range" = none)
    (hlaw : ∀ ns : List Int, ns.length ≤ 63 → ∃ w', f_law [.dat (.scr ns), .drw] (beginW ns) = .ok (.bl true) w') : FnOk P w K mg base (L2.CX P w) 6 f fd ["script"] (spLaw K) := by
  refine F.okX sc_law (fun vs H Q E h => ?_) (fun cdv A outer s H vs Q E hr h => ?_)
  · obtain ⟨a, ns, rfl, _⟩ := h
    rfl
  · obtain ⟨a, ns, rfl, hS, hlen, q⟩ := h
    have hu64 := hr.units
    have rest : ∃ t, ∀ Z, DB (cxOf (L2.CX P w) P w K mg base ["script", "draws", "turn", "one", "other", "along", "below", "row"] "law" (defScope s_law) f cdv A outer s H E) Z E ((defBody s_law).drop 1) t g_law := ⟨_, fun Z => by
      unfold g_law b_law_2 b_law_1
      exact (b_cons (d_for (passes_of rfl) rfl (i_range1 z_range (e_op op_addA o_add e_int (e_cb (call_min2 rfl) o_min2 z_min (a_cons (e_cb k_len o_len z_len (a_cons (e_var 0) a_nil)) (a_cons e_int a_nil))))) (g_name 2 sc_law.nd) (b_cons (d_par2 3 4 rfl sc_law.nd (m_dat (e_call C__law_dealt hr (by decide) (passes_call (takes_of rfl rfl rfl rfl) fun _ _ _ _ h => h) (a_drw 1 (a_cons (e_op op_addA o_add e_int (e_call C__law_draw hr (by decide) (passes_call (takes_of rfl rfl rfl rfl) fun _ _ _ _ h => h) (a_drw 1 (a_cons e_int a_nil)) (aDrw_len (aCons_len aNil_len)))) a_nil)) (aDrw_len (aCons_len aNil_len))) (m_dat (e_call C__law_dealt hr (by decide) (passes_call (takes_of rfl rfl rfl rfl) fun _ _ _ _ h => h) (a_drw 1 (a_cons (e_op op_addA o_add e_int (e_call C__law_draw hr (by decide) (passes_call (takes_of rfl rfl rfl rfl) fun _ _ _ _ h => h) (a_drw 1 (a_cons e_int a_nil)) (aDrw_len (aCons_len aNil_len)))) a_nil)) (aDrw_len (aCons_len aNil_len))) m_nil))) (b_cons (d_if (t_cmp (k_eq hu64) o_eq (e_call C__law_draw hr (by decide) (passes_call (takes_of rfl rfl rfl rfl) fun _ _ _ _ h => h) (a_drw 1 (a_cons e_int a_nil)) (aDrw_len (aCons_len aNil_len))) e_int (nomark _)) (b_one (d_set 3 sc_law.nd (e_call C__law_family_row hr (by decide) (passes_call (takes_of rfl rfl rfl rfl) fun _ _ _ _ h => h) (a_cons (e_call C__law_pick hr (by decide) (passes_call (takes_of rfl rfl rfl rfl) fun _ _ _ _ h => h) (a_drw 1 (a_cons (e_call0 C__law_ten_families hr (by decide) (passes_call (takes_of rfl rfl rfl rfl) fun _ _ _ _ h => h)) a_nil)) (aDrw_len (aCons_len aNil_len))) (a_cons (e_op op_addA o_add e_int (e_call C__law_draw hr (by decide) (passes_call (takes_of rfl rfl rfl rfl) fun _ _ _ _ h => h) (a_drw 1 (a_cons e_int a_nil)) (aDrw_len (aCons_len aNil_len)))) a_nil)) (aCons_len (aCons_len aNil_len))))) b_nil) (b_cons (d_par2 5 6 rfl sc_law.nd (m_dat (e_call C_beside hr (by decide) (passes_call (takes_of rfl rfl rfl rfl) fun _ _ _ _ h => h) (a_cons (e_var 3) (a_cons (e_var 4) a_nil)) (aCons_len (aCons_len aNil_len))) (m_dat (e_call C_under hr (by decide) (passes_call (takes_of rfl rfl rfl rfl) fun _ _ _ _ h => h) (a_cons (e_var 3) (a_cons (e_var 4) a_nil)) (aCons_len (aCons_len aNil_len))) m_nil))) (b_cons (d_if (w_or (t_not (t_val (e_call C__law_same hr (by decide) (passes_call (takes_of rfl rfl rfl rfl) fun _ _ _ _ h => h) (a_cons (e_call C_word_of hr (by decide) (passes_call (takes_of rfl rfl rfl rfl) fun _ _ _ _ h => h) (a_cons (e_var 5) a_nil) (aCons_len aNil_len)) (a_cons (e_call C__law_beside_word hr (by decide) (passes_call (takes_of rfl rfl rfl rfl) fun _ _ _ _ h => h) (a_cons (e_var 3) (a_cons (e_var 4) a_nil)) (aCons_len (aCons_len aNil_len))) a_nil)) (aCons_len (aCons_len aNil_len))))) (w_or1 (t_not (t_val (e_call C__law_same hr (by decide) (passes_call (takes_of rfl rfl rfl rfl) fun _ _ _ _ h => h) (a_cons (e_var 5) (a_cons (e_call C__law_beside hr (by decide) (passes_call (takes_of rfl rfl rfl rfl) fun _ _ _ _ h => h) (a_cons (e_var 3) (a_cons (e_var 4) a_nil)) (aCons_len (aCons_len aNil_len))) a_nil)) (aCons_len (aCons_len aNil_len))))))).dt (b_one (d_ret e_bl)) b_nil) (b_cons (d_if (w_or (t_not (t_val (e_call C__law_same hr (by decide) (passes_call (takes_of rfl rfl rfl rfl) fun _ _ _ _ h => h) (a_cons (e_call C_word_of hr (by decide) (passes_call (takes_of rfl rfl rfl rfl) fun _ _ _ _ h => h) (a_cons (e_var 6) a_nil) (aCons_len aNil_len)) (a_cons (e_call C__law_under_word hr (by decide) (passes_call (takes_of rfl rfl rfl rfl) fun _ _ _ _ h => h) (a_cons (e_var 3) (a_cons (e_var 4) a_nil)) (aCons_len (aCons_len aNil_len))) a_nil)) (aCons_len (aCons_len aNil_len))))) (w_or1 (t_not (t_val (e_call C__law_same hr (by decide) (passes_call (takes_of rfl rfl rfl rfl) fun _ _ _ _ h => h) (a_cons (e_var 6) (a_cons (e_call C__law_under hr (by decide) (passes_call (takes_of rfl rfl rfl rfl) fun _ _ _ _ h => h) (a_cons (e_var 3) (a_cons (e_var 4) a_nil)) (aCons_len (aCons_len aNil_len))) a_nil)) (aCons_len (aCons_len aNil_len))))))).dt (b_one (d_ret e_bl)) b_nil) (b_cons (d_for (passes_of rfl) rfl (i_seq (e_frz (n_lst (a_cons (e_var 3) (a_cons (e_var 5) (a_cons (e_var 6) a_nil)))))) (g_name 7 sc_law.nd) (b_cons (d_if (t_not (t_val (e_call C__law_same hr (by decide) (passes_call (takes_of rfl rfl rfl rfl) fun _ _ _ _ h => h) (a_cons (e_call C_word_of hr (by decide) (passes_call (takes_of rfl rfl rfl rfl) fun _ _ _ _ h => h) (a_cons (e_call C_turned hr (by decide) (passes_call (takes_of rfl rfl rfl rfl) fun _ _ _ _ h => h) (a_cons (e_var 7) a_nil) (aCons_len aNil_len)) a_nil) (aCons_len aNil_len)) (a_cons (e_call C__law_back_word hr (by decide) (passes_call (takes_of rfl rfl rfl rfl) fun _ _ _ _ h => h) (a_cons (e_var 7) a_nil) (aCons_len aNil_len)) a_nil)) (aCons_len (aCons_len aNil_len))))) (b_one (d_ret e_bl)) b_nil) (b_one (d_if (w_and (t_cmp op_gt o_gt (e_cb k_len o_len z_len (a_cons (e_var 7) a_nil)) e_int (nomark _)) (w_and1 (t_not (t_val (e_call C__law_exchange_right hr (by decide) (passes_call (takes_of rfl rfl rfl rfl) fun _ _ _ _ h => h) (a_drw 1 (a_cons (e_var 7) a_nil)) (aDrw_len (aCons_len aNil_len))))))).dt (b_one (d_ret e_bl)) b_nil)))) (b_one (d_if (t_not (t_val (e_call C__law_same hr (by decide) (passes_call (takes_of rfl rfl rfl rfl) fun _ _ _ _ h => h) (a_cons (e_call C_open_slots hr (by decide) (passes_call (takes_of rfl rfl rfl rfl) fun _ _ _ _ h => h) (a_cons (e_call C_turned hr (by decide) (passes_call (takes_of rfl rfl rfl rfl) fun _ _ _ _ h => h) (a_cons (e_var 5) a_nil) (aCons_len aNil_len)) a_nil) (aCons_len aNil_len)) (a_cons (e_call C_open_slots hr (by decide) (passes_call (takes_of rfl rfl rfl rfl) fun _ _ _ _ h => h) (a_cons (e_var 5) a_nil) (aCons_len aNil_len)) a_nil)) (aCons_len (aCons_len aNil_len))))) (b_one (d_ret e_bl)) b_nil))))))))) (b_one (d_ret e_bl)))⟩
    obtain ⟨t, ht⟩ := rest
    refine ⟨_, pss_cons (ps_set (i := 1) sc_law.nd rfl (.inl rfl) (pe_call GB (hr.mono (by decide)) rfl mB kB bB .nil (passes_call (takes_of rfl rfl rfl rfl) fun _ _ _ _ h => h) (pa_cons (pv 0) pa_nil))) (ht ⟨H, H, none⟩).ps, ?_⟩
    refine ⟨_, rfl, a, ns, rfl, hS, Nat.le_trans hlen (by decide), fun st g c H' sm n1 n2 n3 sh => ?_⟩
    exact law_rd (by decide) (fun Z => (ht Z).sn) (hlaw ns hlen) hS sm n1 n2 n3 sh q
end defs

section rows
variable {w : DS}
theorem v_is_whole (i : Int) : f_is_whole [.dat (.int i)] w = .ok (.bl true) w := by
  simp [f_is_whole, semOf_eq, g_is_whole, tyN, isB]
theorem v_is_row {p : List Nat} (h : IsRow p) : f_is_row [.dat (rowD p)] w = .ok (.bl true) w := by
  have hl := h.len
  have e1 : fLcW (fItems (fVar 0)) (kName 1) fYes (fCall f_is_whole (aCons (fVar 1) aNil)) [1] [.dat (rowD p), .un] w = .ok (p.map fun _ => .bl true) w := by
    rw [lcW_of (fun x : Nat => Dv.int (x : Int)) (fun _ => true) (fun _ => .bl true) p rfl (le_big (by omega)) rfl fun x _ => ⟨_, rfl, rfl, fun _ => by simp [wipeE, v_is_whole]⟩]
    rw [List.filter_eq_self.mpr fun _ _ => rfl]
  have e3 : dSorted [rowD p] = some (natD (List.range p.length)) := by
    unfold rowD
    rw [natD_eq, dSorted_tup, h.sorted, natD_eq]
  have e4 : ¬ ((40 : Int) < (p.length : Int)) := by omega
  have e5 : okRg 0 (p.length : Int) := by unfold okRg; omega
  have e6 : dEq (.lst (natD (List.range p.length))) (.lst (natD (List.range p.length))) = some (.bl true) := by
    rw [dEq_of (okc_nats _) (okc_nats _)]; simp
  have e7 : (natD p).length = p.length := natD_length p
  simp [f_is_row, semOf_eq, g_is_row, isB, e1, all_true, e3, e4, e5, rgD_nat, e6]
theorem v_need_row {p : List Nat} (h : IsRow p) : f_need_row [.dat (rowD p)] w = .ok .non w := by
  simp [f_need_row, semOf_eq, g_need_row, v_is_row h]
theorem v_back (p : List Nat) : f_back [.dat (rowD p)] w = .ok (rowD p.reverse) w := by
  simp [f_back, semOf_eq, g_back, rowD, natD_reverse]
theorem v_turned {p : List Nat} (h : IsRow p) : f_turned [.dat (rowD p)] w = .ok (rowD p.reverse) w := by
  simp [f_turned, semOf_eq, g_turned, v_need_row h, v_back]
theorem v_inverse {p : List Nat} (h : IsRow p) : f_inverse [.dat (rowD p)] w = .ok (rowD (invP p)) w := by
  have hl := h.len
  have e1 : okRp (p.length : Int) 1 := by unfold okRp; exact ⟨by omega, by omega, le_big (by omega)⟩
  obtain ⟨ρ', e2, a, b, rfl⟩ := loopD_inv (k := kTup 2 (kCons (kName 2) (kCons (kName 3) kNil))) (g := b_inverse_1) (w := w) (fun z : Nat × Nat => Dv.tup [.int ((z.2 : Nat) : Int), .int ((z.1 : Nat) : Int)])
    (fun done ρ => ∃ a b, ρ = [.dat (rowD p), .lst (natD (invF p done)), a, b]) p.zipIdx [] [.dat (rowD p), .lst (natD (List.replicate p.length 0)), .un, .un] ⟨.un, .un, rfl⟩ (fun done z ρ hz ⟨a, b, hr⟩ => by
      subst hr
      have hz1 : z.1 < p.length := h.mem.mp (List.fst_mem_of_mem_zipIdx hz)
      refine ⟨_, [.dat (rowD p), .lst (natD (invF p (done ++ [z]))), .dat (.int (z.2 : Int)), .dat (.int (z.1 : Int))], rfl, ?_, _, _, rfl⟩
      have e3 : ixN (natD (invF p done)).length (z.1 : Int) = some z.1 := ixN_nat (by rw [natD_length, invF_length]; exact hz1)
      simp only [u_b_inverse_1, x_putL, x_var, List.set_cons_succ, List.set_cons_zero, List.getElem?_cons_succ, List.getElem?_cons_zero, RR.bind_ok, e3, natD_set]
      unfold invF
      rw [List.foldl_append]
      rfl)
  rw [List.nil_append, invF_row h] at e2
  simp [f_inverse, semOf_eq, g_inverse, e1, rep_one, enumD_natD, ← natD_replicate, e2, row_fold]
theorem shift_sem {q : List Nat} {k i j : Nat} {ρ : List EV} {f : Sx} (hj : ρ[i]? = some (.dat (rowD q))) (hq : q.length ≤ 1000) (hi : j < ρ.length) (hk : ∀ x : Nat, f (ρ.set j (.dat (.int (x : Int)))) w = .ok (.int ((x : Int) + (k : Int))) w) (hu : (ρ.getD j .un) = .un) :
    fLcW (fItems (fVar i)) (kName j) fYes f [j] ρ w = .ok (natD (q.map (· + k))) w := by
  have h1 : fItems (fVar i) ρ w = .ok (q.map fun x : Nat => Dv.int (x : Int)) w := by simp [hj]; rfl
  have h2 : okW ρ [j] = true := by unfold okW; simp only [List.all_cons, List.all_nil, hu]; rfl
  rw [lcW_of (fun x : Nat => Dv.int (x : Int)) (fun _ => true) (fun x => .int ((x : Int) + (k : Int))) q h1 (le_big (by omega)) h2 fun x _ => ⟨(ρ.set j .un).set j (.dat (.int (x : Int))), rfl, rfl, fun _ => by rw [List.set_set]; exact hk x⟩]
  rw [List.filter_eq_self.mpr fun _ _ => rfl]
  congr 1
  unfold natD
  rw [List.map_map]
  congr 1
theorem v_sum_of {p q : List Nat} (hp : p.length ≤ 40) (hq : q.length ≤ 40) : f_sum_of [.dat (rowD p), .dat (rowD q)] w = .ok (rowD (p ++ q.map (· + p.length))) w := by
  have e := shift_sem (w := w) (q := q) (k := p.length) (i := 1) (j := 2) (ρ := [.dat (rowD p), .dat (rowD q), .un]) (f := fOp dAdd (fVar 2) (fCB dLen (aCons (fVar 0) aNil))) rfl (by omega) (show 2 < 3 by decide) (fun x => by simp) rfl
  have ea : dAdd (rowD p) (rowD (q.map (· + p.length))) = some (rowD (p ++ q.map (· + p.length))) := by
    show (if _ then _ else _) = _
    rw [if_pos (by simp only [natD_length, List.length_map]; exact le_big (by omega)), ← natD_append]; rfl
  simp [f_sum_of, semOf_eq, g_sum_of, e, row_fold, ea]
theorem v_skew_of {p q : List Nat} (hp : p.length ≤ 40) (hq : q.length ≤ 40) : f_skew_of [.dat (rowD p), .dat (rowD q)] w = .ok (rowD (p.map (· + q.length) ++ q)) w := by
  have e := shift_sem (w := w) (q := p) (k := q.length) (i := 0) (j := 2) (ρ := [.dat (rowD p), .dat (rowD q), .un]) (f := fOp dAdd (fVar 2) (fCB dLen (aCons (fVar 1) aNil))) rfl (by omega) (show 2 < 3 by decide) (fun x => by simp) rfl
  have ea : dAdd (rowD (p.map (· + q.length))) (rowD q) = some (rowD (p.map (· + q.length) ++ q)) := by
    show (if _ then _ else _) = _
    rw [if_pos (by simp only [natD_length, List.length_map]; exact le_big (by omega)), ← natD_append]; rfl
  simp [f_skew_of, semOf_eq, g_skew_of, e, row_fold, ea]
theorem v_need_room {n : Int} (h : n ≤ 40) : f_need_room [.dat (.int n)] w = .ok .non w := by
  have e : ¬ (40 < n) := by omega
  simp [f_need_room, semOf_eq, g_need_room, e]
/-- one row beside another, one row over another -/
def besideL (p q : List Nat) : List Nat := p ++ q.map (· + p.length)
def underL (p q : List Nat) : List Nat := p.map (· + q.length) ++ q
theorem v_beside {p q : List Nat} (hp : IsRow p) (hq : IsRow q) (h : p.length + q.length ≤ 40) : f_beside [.dat (rowD p), .dat (rowD q)] w = .ok (rowD (besideL p q)) w := by
  have e : ((p.length : Int) + (q.length : Int)) ≤ 40 := by omega
  simp [f_beside, semOf_eq, g_beside, v_need_row hp, v_need_row hq, v_need_room e, v_sum_of hp.len hq.len, besideL]
theorem v_under {p q : List Nat} (hp : IsRow p) (hq : IsRow q) (h : p.length + q.length ≤ 40) : f_under [.dat (rowD p), .dat (rowD q)] w = .ok (rowD (underL p q)) w := by
  have e : ((p.length : Int) + (q.length : Int)) ≤ 40 := by omega
  simp [f_under, semOf_eq, g_under, v_need_row hp, v_need_row hq, v_need_room e, v_skew_of hp.len hq.len, underL]
end rows

section draws2
variable {w : DS}
theorem perm_take {α : Type} : ∀ {l : List α} {i : Nat} (h : i < l.length), (l[i] :: l.eraseIdx i).Perm l
  | x :: l, 0, _ => List.Perm.refl _
  | x :: l, i + 1, h => by
    have h' : i < l.length := by simpa using h
    exact (List.Perm.swap x _ _).trans ((perm_take h').cons x)
/-- what may be shuffled -/
def okSh (l : List Dv) : Prop := ∀ d ∈ l, okn 50 d ∧ imm d = true
theorem immAll_of : ∀ {l : List Dv}, (∀ d ∈ l, imm d = true) → immAll l = true
  | [], _ => rfl
  | d :: l, h => by
    show (imm d && immAll l) = true
    rw [h d List.mem_cons_self, immAll_of fun x hx => h x (List.mem_cons_of_mem _ hx)]; rfl
theorem okSh.c {l : List Dv} (h : okSh l) : okc (.lst l) := (okn_lst (n := 50) fun d hd => (h d hd).1).c
theorem okSh.i {l : List Dv} (h : okSh l) : immAll l = true := immAll_of fun d hd => (h d hd).2
theorem v_draw {n : Nat} (h0 : 0 < n) (h1 : (n : Int) < most) (h2 : 0 ≤ w.turn) (h3 : w.turn < most) : ∃ i w', i < n ∧ Adv 1 w w' ∧ semDraw [.drw, .dat (.int (n : Int))] w = .ok (.int (i : Int)) w' := by
  obtain ⟨a, b⟩ := draw_range (w := w) (room := (n : Int)) (by omega)
  refine ⟨(drawV w n).toNat, drawW w n, by omega, adv_draw, ?_⟩
  rw [semDraw_ok (by omega) h1 h2 h3, Int.toNat_of_nonneg a]
theorem v_shuffling {s : Dv} : ∀ (m : Nat) (left found : List Dv) (w : DS), left.length = m → okSh left → okSh found → left.length ≤ 100000 → found.length + left.length ≤ 100000 → 0 ≤ w.turn → w.turn + left.length < most → ∀ fuel, m < fuel →
    ∃ out w', whileD t__law_shuffled_1 b__law_shuffled_1 fuel [.drw, .dat s, .lst left, .lst found] w = .ok (.nx [.drw, .dat s, .lst [], .lst (found ++ out)]) w' ∧ out.Perm left ∧ Adv left.length w w' := by
  intro m
  induction m with
  | zero =>
    intro left found w hm h1 h2 h3 h3' h4 h5 fuel hf
    have hl : left = [] := List.length_eq_zero_iff.mp hm
    subst hl
    obtain ⟨f, rfl⟩ : ∃ f, fuel = f + 1 := ⟨fuel - 1, by omega⟩
    refine ⟨[], w, ?_, .nil, by exact Adv.refl⟩
    have e1 : dNe (.lst []) (.lst []) = some (.bl false) := by rw [dNe_of h1.c h1.c]; simp
    have e2 : okLend [.drw, .dat s, .lst [], .lst found] 2 = true := by unfold okLend; simp [immEV, h2.i]
    unfold whileD
    simp [u_t__law_shuffled_1, lendT, e1, e2]
  | succ m ih =>
    intro left found w hm h1 h2 h3 h3' h4 h5 fuel hf
    obtain ⟨f, rfl⟩ : ∃ f, fuel = f + 1 := ⟨fuel - 1, by omega⟩
    have hne : left ≠ [] := fun e => by rw [e] at hm; cases hm
    have e1 : dNe (.lst left) (.lst []) = some (.bl true) := by
      rw [dNe_of h1.c (okSh.c (l := []) fun d hd => nomatch hd)]
      simp [hne]
    have e2 : okLend [.drw, .dat s, .lst left, .lst found] 2 = true := by unfold okLend; simp [immEV, h2.i]
    obtain ⟨i, w1, hi, ad, ed⟩ := v_draw (w := w) (n := left.length) (by omega) (by unfold most; omega) h4 (by omega)
    have e3 : ixN left.length (i : Int) = some i := ixN_nat hi
    have e4 : left[i]? = some left[i] := List.getElem?_eq_getElem hi
    have hlen : (left.eraseIdx i).length = m := by rw [List.length_eraseIdx_of_lt hi]; omega
    have h1' : okSh (left.eraseIdx i) := fun d hd => h1 d (List.mem_of_mem_eraseIdx hd)
    have h2' : okSh (found ++ [left[i]]) := fun d hd => by
      rcases List.mem_append.mp hd with z | z
      · exact h2 d z
      · rw [List.mem_singleton.mp z]; exact h1 _ (List.getElem_mem hi)
    obtain ⟨out, w2, e5, hp, ad2⟩ := ih (left.eraseIdx i) (found ++ [left[i]]) w1 hlen h1' h2' (by omega) (by rw [List.length_append, List.length_singleton]; omega) (by have := ad.1; omega) (by have := ad.2; omega) f (by omega)
    refine ⟨left[i] :: out, w2, ?_, ?_, ?_⟩
    · have e6 : left.length ≤ big := le_big (by omega)
      have e7 : found.length < big := Nat.lt_of_lt_of_le (by omega : found.length < 1000000) (by decide)
      unfold whileD
      simp [u_t__law_shuffled_1, u_b__law_shuffled_1, lendT, lendE, e1, e2, fPopAt, ed, imm, e6, e3, e4, e7]
      rw [e5, List.append_assoc]
      rfl
    · exact (List.Perm.cons _ hp).trans (perm_take hi)
    · exact (ad.trans ad2).le (by rw [hlen]; omega)
theorem v_shuffled {l : List Dv} (h : okSh l) (hl : l.length ≤ 100000) (h4 : 0 ≤ w.turn) (h5 : w.turn + l.length < most) :
    ∃ out w', f__law_shuffled [.drw, .dat (.lst l)] w = .ok (.lst out) w' ∧ out.Perm l ∧ Adv l.length w w' := by
  obtain ⟨out, w', e, hp, ad⟩ := v_shuffling (s := .lst l) l.length l [] w rfl h (fun d hd => nomatch hd) hl (by simpa using hl) h4 h5 1000000 (by omega)
  refine ⟨out, w', ?_, hp, ad⟩
  have e1 : dList [.lst l] = some l := rfl
  simp [f__law_shuffled, semOf_eq, g__law_shuffled, setsE, e1, gWhile, e]
theorem v_dealt {n : Nat} (hn : n ≤ 40) (h4 : 0 ≤ w.turn) (h5 : w.turn + n < most) : ∃ p w', f__law_dealt [.drw, .dat (.int (n : Int))] w = .ok (rowD p) w' ∧ IsRow p ∧ p.length = n ∧ Adv n w w' := by
  obtain ⟨out, w', e, hp, ad⟩ := v_shuffled (l := natD (List.range n)) (w := w) (fun d hd => ⟨okn_natD d hd, by obtain ⟨i, _, rfl⟩ := List.mem_map.mp hd; rfl⟩) (by rw [natD_length, List.length_range]; omega) h4 (by rw [natD_length, List.length_range]; exact h5)
  have e5 : okRg 0 (n : Int) := by unfold okRg; omega
  obtain ⟨p, rfl, hpp⟩ : ∃ p, out = natD p ∧ p.Perm (List.range n) := by
    have hm : ∀ d ∈ out, ∃ i : Nat, d = .int (i : Int) := fun d hd => by
      obtain ⟨i, _, rfl⟩ := List.mem_map.mp (hp.mem_iff.mp hd)
      exact ⟨i, rfl⟩
    have key : ∀ out : List Dv, (∀ d ∈ out, ∃ i : Nat, d = .int (i : Int)) → ∃ p, out = natD p := fun out => by
      induction out with
      | nil => exact fun _ => ⟨[], rfl⟩
      | cons d out ih =>
        intro hd
        obtain ⟨i, rfl⟩ := hd d List.mem_cons_self
        obtain ⟨p, rfl⟩ := ih fun x hx => hd x (List.mem_cons_of_mem _ hx)
        exact ⟨i :: p, rfl⟩
    obtain ⟨p, rfl⟩ := key out hm
    refine ⟨p, rfl, ?_⟩
    have := hp.map fun d => match d with | Dv.int i => i.toNat | _ => 0
    unfold natD at this
    rw [List.map_map, List.map_map] at this
    have ef : ((fun d => match d with | Dv.int i => i.toNat | _ => 0) ∘ fun x : Nat => Dv.int (x : Int)) = id := by
      funext x; exact Int.toNat_natCast x
    rw [ef, List.map_id, List.map_id] at this
    exact this
  have hl : p.length = n := by rw [hpp.length_eq, List.length_range]
  rw [natD_length, List.length_range] at ad
  refine ⟨p, w', ?_, ⟨by rw [hl]; exact hpp, by omega⟩, hl, ad⟩
  simp [f__law_dealt, semOf_eq, g__law_dealt, e5, rgD_nat, e, row_fold]
end draws2

section same
variable {w : DS}
mutual
def szD : Dv → Nat
  | .tup ds => szAll ds + 1
  | .lst ds => szAll ds + 1
  | _ => 1
def szAll : List Dv → Nat
  | [] => 0
  | d :: ds => szD d + szAll ds
end
theorem szAll_append : ∀ (a b : List Dv), szAll (a ++ b) = szAll a + szAll b
  | [], b => by simp [szAll]
  | d :: a, b => by
    show szD d + szAll (a ++ b) = (szD d + szAll a) + szAll b
    rw [szAll_append a b]; omega
theorem szAll_len : ∀ (a : List Dv), a.length ≤ szAll a
  | [] => Nat.zero_le _
  | d :: a => by
    have h := szAll_len a
    have h1 : 1 ≤ szD d := by cases d <;> simp [szD]
    show a.length + 1 ≤ szD d + szAll a
    omega
def twin (d : Dv) : Dv := .tup [d, d]
abbrev sameTest : Sb := lendT 2 (fBool (fOp dNe (fVar 2) (fFrz (fLst aNil))))
theorem zip_self (ds : List Dv) : zipD ds ds = ds.map twin := by
  unfold zipD
  induction ds with
  | nil => rfl
  | cons d ds ih => rw [List.zipWith_cons_cons, List.map_cons, ih]; rfl
theorem okn_twins {n : Nat} {l : List Dv} (h : ∀ d ∈ l, okn n d) : okn (n + 2) (.lst (l.map twin)) := okn_lst fun e he => by
  obtain ⟨d, hd, rfl⟩ := List.mem_map.mp he
  exact okn_tup fun x hx => by
    have : x = d := by simpa using hx
    rw [this]; exact h d hd
theorem dNe_self {d : Dv} (h : okc d) : dNe d d = some (.bl false) := by rw [dNe_of h h]; simp
theorem dNe_tt : dNe (.bl true) (.bl true) = some (.bl false) := rfl
theorem dNe_ff : dNe (.bl false) (.bl false) = some (.bl false) := rfl
theorem v_samePop {A B : Sx} {f0 d0 : Dv} : True := trivial
end same

section same2
variable {w : DS}
theorem okn_mem {n : Nat} : ∀ {ds : List Dv}, clnAll ds = true → deepAll ds ≤ n → ∀ e ∈ ds, okn n e
  | d :: ds, h, hn, e, he => by
    have h : (cln d && clnAll ds) = true := h
    have hn : max (deep d) (deepAll ds) ≤ n := hn
    rw [Bool.and_eq_true] at h
    rcases List.mem_cons.mp he with rfl | z
    · exact ⟨h.1, by omega⟩
    · exact okn_mem h.2 (by omega) e z
theorem okn_of_tup {n : Nat} {ds : List Dv} (h : okn n (.tup ds)) : ∀ e ∈ ds, okn n e := okn_mem h.1 (by have : deepAll ds + 1 ≤ n := h.2; omega)
theorem okn_of_lst {n : Nat} {ds : List Dv} (h : okn n (.lst ds)) : ∀ e ∈ ds, okn n e := okn_mem h.1 (by have : deepAll ds + 1 ≤ n := h.2; omega)
theorem v_sameBody {f0 d0 d : Dv} {L : List Dv} {x3 x4 x5 x6 x7 x8 : EV} (hL : szAll L + szD d ≤ 500000) (hd : okn 50 d) (p7 : plainEV x7 = true) (p8 : plainEV x8 = true) :
    ∃ (M : List Dv) (y5 : EV), (∀ e ∈ M, okn 50 e) ∧ szAll M + 1 = szD d ∧ (plainEV x5 = true → plainEV y5 = true) ∧
      b__law_same_1 [.dat f0, .dat d0, .lst ((L ++ [d]).map twin), x3, x4, x5, x6, x7, x8] w = .ok (.nx [.dat f0, .dat d0, .lst ((L ++ M).map twin), .dat d, .dat d, y5, x6, x7, x8]) w := by
  have e2 : ((L ++ [d]).map twin)[((L ++ [d]).map twin).length - 1]? = some (twin d) := by simp
  have e3 : ((L ++ [d]).map twin).dropLast = L.map twin := by simp
  have hl := szAll_len L
  cases d with
  | non =>
    refine ⟨[], x5, (fun e he => nomatch he), rfl, id, ?_⟩
    rw [u_b__law_same_1]
    have k1 : dIsN false .non .non = some (.bl true) := rfl
    have k2 : dIsN true .non .non = some (.bl false) := rfl
    simp [gAsgF, fPop0, e2, twin, k1, k2]
  | int i =>
    refine ⟨[], x5, (fun e he => nomatch he), rfl, id, ?_⟩
    rw [u_b__law_same_1]
    have k1 : dIsN false (.int i) .non = some (.bl false) := rfl
    have k2 := dNe_self (okc_int i)
    simp [gAsgF, fPop0, e2, twin, k1, k2, isB, dNe_tt]
  | str s =>
    refine ⟨[], x5, (fun e he => nomatch he), rfl, id, ?_⟩
    rw [u_b__law_same_1]
    have k1 : dIsN false (.str s) .non = some (.bl false) := rfl
    have k2 := dNe_self hd.c
    simp [gAsgF, fPop0, e2, twin, k1, k2, isB, dNe_ff]
  | tup ds =>
    have hds : ∀ e ∈ ds, okn 50 e := fun e he => okn_of_tup hd e he
    have hsz : szAll ds ≤ 500000 := by have : szD (.tup ds) = szAll ds + 1 := rfl; omega
    have hlen := szAll_len ds
    refine ⟨ds, .dat (.lst [.bl true, .bl false]), hds, rfl, fun _ => rfl, ?_⟩
    rw [u_b__law_same_1]
    have k1 : dIsN false (.tup ds) .non = some (.bl false) := rfl
    have k2 : dIn true (.bl true) (.lst [.bl true, .bl false]) = some (.bl false) := rfl
    have k3 := dNe_self (okc_int (ds.length : Int))
    have k4 : dZip (.tup ds) (.tup ds) = some (ds.map twin) := by
      show some (zipD ds ds) = _
      rw [zip_self]
    have k5 : okW [.dat f0, .dat d0, .lst (L.map twin), .dat (.tup ds), .dat (.tup ds), .dat (.lst [.bl true, .bl false]), x6, x7, x8] [7, 8] = true := by
      unfold okW; simp [p7, p8]
    have k6 : fLcW (fZip (fVar 3) (fVar 4)) (kTup 2 (kCons (kName 7) (kCons (kName 8) kNil))) fYes (fTup (aCons (fVar 7) (aCons (fVar 8) aNil))) [7, 8] [.dat f0, .dat d0, .lst (L.map twin), .dat (.tup ds), .dat (.tup ds), .dat (.lst [.bl true, .bl false]), x6, x7, x8] w = .ok (ds.map twin) w := by
      have hi : fZip (fVar 3) (fVar 4) [.dat f0, .dat d0, .lst (L.map twin), .dat (.tup ds), .dat (.tup ds), .dat (.lst [.bl true, .bl false]), x6, x7, x8] w = .ok (ds.map twin) w := by simp [fZip, k4]
      rw [lcW_of twin (fun _ => true) twin ds hi (le_big (by omega)) k5 fun x _ => ⟨_, rfl, rfl, fun _ => by simp [wipeE, twin]⟩]
      rw [List.filter_eq_self.mpr fun _ _ => rfl]
    have k7 : L.length + ds.length ≤ big := le_big (by omega)
    simp [gAsgF, fPop0, e2, twin, k1, k2, k3, isB, gExtN, k6, k7]
  | lst ds =>
    have hds : ∀ e ∈ ds, okn 50 e := fun e he => okn_of_lst hd e he
    have hsz : szAll ds ≤ 500000 := by have : szD (.lst ds) = szAll ds + 1 := rfl; omega
    have hlen := szAll_len ds
    refine ⟨ds, .dat (.lst [.bl false, .bl true]), hds, rfl, fun _ => rfl, ?_⟩
    rw [u_b__law_same_1]
    have k1 : dIsN false (.lst ds) .non = some (.bl false) := rfl
    have k2 : dIn true (.bl true) (.lst [.bl false, .bl true]) = some (.bl false) := rfl
    have k3 := dNe_self (okc_int (ds.length : Int))
    have k4 : dZip (.lst ds) (.lst ds) = some (ds.map twin) := by
      show some (zipD ds ds) = _
      rw [zip_self]
    have k5 : okW [.dat f0, .dat d0, .lst (L.map twin), .dat (.lst ds), .dat (.lst ds), .dat (.lst [.bl false, .bl true]), x6, x7, x8] [7, 8] = true := by
      unfold okW; simp [p7, p8]
    have k6 : fLcW (fZip (fVar 3) (fVar 4)) (kTup 2 (kCons (kName 7) (kCons (kName 8) kNil))) fYes (fTup (aCons (fVar 7) (aCons (fVar 8) aNil))) [7, 8] [.dat f0, .dat d0, .lst (L.map twin), .dat (.lst ds), .dat (.lst ds), .dat (.lst [.bl false, .bl true]), x6, x7, x8] w = .ok (ds.map twin) w := by
      have hi : fZip (fVar 3) (fVar 4) [.dat f0, .dat d0, .lst (L.map twin), .dat (.lst ds), .dat (.lst ds), .dat (.lst [.bl false, .bl true]), x6, x7, x8] w = .ok (ds.map twin) w := by simp [fZip, k4]
      rw [lcW_of twin (fun _ => true) twin ds hi (le_big (by omega)) k5 fun x _ => ⟨_, rfl, rfl, fun _ => by simp [wipeE, twin]⟩]
      rw [List.filter_eq_self.mpr fun _ _ => rfl]
    have k7 : L.length + ds.length ≤ big := le_big (by omega)
    simp [gAsgF, fPop0, e2, twin, k1, k2, k3, isB, gExtN, k6, k7]
  | bl b => exact nomatch hd.1
  | dct _ => exact nomatch hd.1
  | obj _ => exact nomatch hd.1
  | scr _ => exact nomatch hd.1
theorem v_samings {f0 d0 : Dv} : ∀ (fuel : Nat) (L : List Dv) (x3 x4 x5 x6 x7 x8 : EV), (∀ d ∈ L, okn 50 d) → szAll L ≤ 500000 → szAll L < fuel → plainEV x3 = true → plainEV x4 = true → plainEV x5 = true → plainEV x6 = true → plainEV x7 = true → plainEV x8 = true →
    ∃ ρ', whileD t__law_same_1 b__law_same_1 fuel [.dat f0, .dat d0, .lst (L.map twin), x3, x4, x5, x6, x7, x8] w = .ok (.nx ρ') w := by
  intro fuel
  induction fuel with
  | zero => intro L x3 x4 x5 x6 x7 x8 h hz hf; omega
  | succ fuel ih =>
    intro L x3 x4 x5 x6 x7 x8 h hz hf p3 p4 p5 p6 p7 p8
    have imE : ∀ {e : EV}, plainEV e = true → immEV e = true := fun {e} h => by cases e <;> first | rfl | cases h
    have imD : ∀ d : Dv, immEV (.dat d) = true := fun _ => rfl
    have imU : immEV .un = true := rfl
    have eL : okLend [.dat f0, .dat d0, .lst (L.map twin), x3, x4, x5, x6, x7, x8] 2 = true := by
      unfold okLend; simp [imE p3, imE p4, imE p5, imE p6, imE p7, imE p8, imD, imU]
    rcases List.eq_nil_or_concat L with rfl | ⟨L', d, rfl⟩
    · have e1 : dNe (.lst []) (.lst []) = some (.bl false) := dNe_self (okn_lst (n := 0) (ds := []) fun d hd => nomatch hd).c
      refine ⟨[.dat f0, .dat d0, .lst [], x3, x4, x5, x6, x7, x8], ?_⟩
      have et : t__law_same_1 [.dat f0, .dat d0, .lst ([].map twin), x3, x4, x5, x6, x7, x8] w = .ok false w := by
        rw [u_t__law_same_1]
        have eL' : okLend [.dat f0, .dat d0, .lst [], x3, x4, x5, x6, x7, x8] 2 = true := eL
        simp [lendT, e1, eL']
      unfold whileD
      rw [et]
      rfl
    · have hd := h d (by simp)
      have hL' : ∀ e ∈ L', okn 50 e := fun e he => h e (by simp [he])
      have e0 : L'.concat d = L' ++ [d] := List.concat_eq_append
      rw [e0] at h hz hf eL ⊢
      have e1 : dNe (.lst ((L' ++ [d]).map twin)) (.lst []) = some (.bl true) := by
        rw [dNe_of ((okn_twins h).c) (okn_lst (n := 0) (ds := []) fun d hd => nomatch hd).c]; simp
      rw [szAll_append] at hz hf
      have hs : szAll [d] = szD d := by simp [szAll]
      rw [hs] at hz hf
      obtain ⟨M, y5, hM, hMs, hy, eb⟩ := v_sameBody (w := w) (f0 := f0) (d0 := d0) (x3 := x3) (x4 := x4) (x5 := x5) (x6 := x6) hz hd p7 p8
      have hLM : ∀ e ∈ L' ++ M, okn 50 e := fun e he => (List.mem_append.mp he).elim (hL' e) (hM e)
      obtain ⟨ρ', er⟩ := ih (L' ++ M) (.dat d) (.dat d) y5 x6 x7 x8 hLM (by rw [szAll_append]; omega) (by rw [szAll_append]; omega) rfl rfl (hy p5) p6 p7 p8
      refine ⟨ρ', ?_⟩
      have et : t__law_same_1 [.dat f0, .dat d0, .lst ((L' ++ [d]).map twin), x3, x4, x5, x6, x7, x8] w = .ok true w := by
        rw [u_t__law_same_1]
        simp only [lendT, List.getElem?_cons_succ, List.getElem?_cons_zero, Option.bind_some, lent_lst, eL, if_true]
        have e1' : dNe (.lst (L'.map twin ++ [twin d])) (.lst []) = some (.bl true) := by simpa using e1
        simp [e1']
      unfold whileD
      rw [et]
      simp only [RR.bind_ok, if_true]
      rw [eb]
      simp only [RR.bind_ok]
      exact er
theorem v_same {d : Dv} (h : okn 50 d) (hz : szD d ≤ 500000) : f__law_same [.dat d, .dat d] w = .ok (.bl true) w := by
  obtain ⟨ρ', e⟩ := v_samings (w := w) (f0 := d) (d0 := d) 1000000 [d] .un .un .un .un .un .un (fun e he => by rw [List.mem_singleton.mp he]; exact h) (by simp [szAll]; omega) (by simp [szAll]; omega) rfl rfl rfl rfl rfl rfl
  have e2 : [d].map twin = [.tup [d, d]] := rfl
  rw [e2] at e
  simp [f__law_same, semOf_eq, g__law_same, gWhile, e]
end same2

section rows4
variable {w : DS}
theorem v_swapped {p : List Nat} (h : IsRow p) : f__law_swapped [.dat (rowD p)] w = .ok (rowD (invP p)) w := by
  have e : f__law_swapped [.dat (rowD p)] w = f_inverse [.dat (rowD p)] w := rfl
  rw [e, v_inverse h]
theorem v_law_beside {p q : List Nat} (hp : p.length ≤ 40) (hq : q.length ≤ 40) : f__law_beside [.dat (rowD p), .dat (rowD q)] w = .ok (rowD (besideL p q)) w := by
  have e := shift_sem (w := w) (q := q) (k := p.length) (i := 1) (j := 2) (ρ := [.dat (rowD p), .dat (rowD q), .un]) (f := fOp dAdd (fVar 2) (fCB dLen (aCons (fVar 0) aNil))) rfl (by omega) (show 2 < 3 by decide) (fun x => by simp) rfl
  have ea : dAdd (rowD p) (rowD (q.map (· + p.length))) = some (rowD (p ++ q.map (· + p.length))) := by
    show (if _ then _ else _) = _
    rw [if_pos (by simp only [natD_length, List.length_map]; exact le_big (by omega)), ← natD_append]; rfl
  have et : dTupOf (rowD p) = some (rowD p) := rfl
  simp [f__law_beside, semOf_eq, g__law_beside, e, row_fold, ea, et, besideL]
theorem v_law_under {p q : List Nat} (hp : p.length ≤ 40) (hq : q.length ≤ 40) : f__law_under [.dat (rowD p), .dat (rowD q)] w = .ok (rowD (underL p q)) w := by
  have e := shift_sem (w := w) (q := p) (k := q.length) (i := 0) (j := 2) (ρ := [.dat (rowD p), .dat (rowD q), .un]) (f := fOp dAdd (fVar 2) (fCB dLen (aCons (fVar 1) aNil))) rfl (by omega) (show 2 < 3 by decide) (fun x => by simp) rfl
  have ea : dAdd (rowD (p.map (· + q.length))) (rowD q) = some (rowD (p.map (· + q.length) ++ q)) := by
    show (if _ then _ else _) = _
    rw [if_pos (by simp only [natD_length, List.length_map]; exact le_big (by omega)), ← natD_append]; rfl
  have et : dTupOf (rowD q) = some (rowD q) := rfl
  simp [f__law_under, semOf_eq, g__law_under, e, row_fold, ea, et, underL]
theorem v_pick {l : List Dv} (h0 : 0 < l.length) (hl : l.length ≤ 100000) (h2 : 0 ≤ w.turn) (h3 : w.turn < most) : ∃ d w', d ∈ l ∧ Adv 1 w w' ∧ f__law_pick [.drw, .dat (.lst l)] w = .ok d w' := by
  obtain ⟨i, w', hi, ad, e⟩ := v_draw (w := w) (n := l.length) h0 (by unfold most; omega) h2 h3
  refine ⟨l[i], w', List.getElem_mem hi, ad, ?_⟩
  have e2 := dSubI_lst (ds := l) (i := i) (d := l[i]) (List.getElem?_eq_getElem hi)
  simp [f__law_pick, semOf_eq, g__law_pick, e, e2]
theorem v_kind_at {i f l : Nat} : f_kind_at [.dat (.int (i : Int)), .dat (.int (f : Int)), .dat (.int (l : Int))] w = .ok (.str (if f = l then "fill" else if i = f then "left" else if i = l then "right" else "split")) w := by
  have k : ∀ a b : Nat, dEq (.int (a : Int)) (.int (b : Int)) = some (.bl (decide (a = b))) := fun a b => by
    rw [dEq_of (okc_int _) (okc_int _)]
    congr 2
    rw [Bool.eq_iff_iff]
    simp
    omega
  by_cases h1 : f = l
  · simp [f_kind_at, semOf_eq, g_kind_at, k, h1]
  · by_cases h2 : i = f
    · simp [f_kind_at, semOf_eq, g_kind_at, k, h1, h2]
    · by_cases h3 : i = l
      · have h4 : ¬ l = f := fun e => h1 e.symm
        simp [f_kind_at, semOf_eq, g_kind_at, k, h1, h2, h3, h4]
      · simp [f_kind_at, semOf_eq, g_kind_at, k, h1, h2, h3]
end rows4

section slots
variable {w : DS}
def runsStep (e : Nat) (s : List (Nat × Nat) × Bool) (z : Nat × Nat) : List (Nat × Nat) × Bool :=
  if e ≤ z.1 then (if s.2 = true then s.1.dropLast ++ [((s.1.getLast?.getD (0, 0)).1, z.2)] else s.1 ++ [(z.2, z.2)], true) else (s.1, false)
def runsOf (e : Nat) (l : List (Nat × Nat)) : List (Nat × Nat) × Bool := l.foldl (runsStep e) ([], false)
def runs (e : Nat) (p : List Nat) : List (Nat × Nat) := (runsOf e p.zipIdx).1
def pairD (z : Nat × Nat) : Dv := .tup [.int (z.1 : Int), .int (z.2 : Int)]
theorem runsOf_snoc (e : Nat) (l : List (Nat × Nat)) (z : Nat × Nat) : runsOf e (l ++ [z]) = runsStep e (runsOf e l) z := by
  unfold runsOf; rw [List.foldl_append]; rfl
theorem runsOf_flag (e : Nat) (l : List (Nat × Nat)) : (runsOf e l).2 = match l.getLast? with | some z => decide (e ≤ z.1) | none => false := by
  rcases List.eq_nil_or_concat l with rfl | ⟨l', z, rfl⟩
  · rfl
  · rw [List.concat_eq_append, runsOf_snoc]
    unfold runsStep
    simp only [List.getLast?_append, List.getLast?_singleton, Option.some_or]
    by_cases h : e ≤ z.1
    · simp [h]
    · simp [h]
theorem runsOf_ne {e : Nat} {l : List (Nat × Nat)} (h : (runsOf e l).2 = true) : (runsOf e l).1 ≠ [] := by
  rcases List.eq_nil_or_concat l with rfl | ⟨l', z, rfl⟩
  · cases h
  · rw [List.concat_eq_append, runsOf_snoc] at *
    unfold runsStep at *
    by_cases h1 : e ≤ z.1
    · simp only [h1, if_true]
      split <;> simp
    · simp only [h1, if_false] at h; cases h
theorem runsOf_len (e : Nat) (l : List (Nat × Nat)) : (runsOf e l).1.length ≤ l.length := by
  refine snoc_ind (P := fun l => (runsOf e l).1.length ≤ l.length) (Nat.le_refl _) (fun l z ih => ?_) l
  · show (runsOf e (l ++ [z])).1.length ≤ (l ++ [z]).length
    rw [runsOf_snoc]
    unfold runsStep
    simp only [List.length_append, List.length_singleton]
    by_cases h1 : e ≤ z.1
    · simp only [h1, if_true]
      split
      · simp only [List.length_append, List.length_dropLast, List.length_singleton]; omega
      · simp only [List.length_append, List.length_singleton]; omega
    · simp only [h1, if_false]; omega
theorem set_last {α : Type} {x : α} : ∀ {l : List α}, l ≠ [] → l.set (l.length - 1) x = l.dropLast ++ [x]
  | [a], _ => rfl
  | a :: b :: l, _ => by
    have ih := set_last (x := x) (l := b :: l) (by simp)
    show (a :: b :: l).set (l.length + 1) x = a :: ((b :: l).dropLast ++ [x])
    rw [List.set_cons_succ]
    congr 1
theorem pairD_map_last {l : List (Nat × Nat)} (h : l ≠ []) : (l.map pairD).getLast? = some (pairD (l.getLast?.getD (0, 0))) := by
  rw [List.getLast?_map]
  cases e : l.getLast? with
  | none => exact (h (List.getLast?_eq_none_iff.mp e)).elim
  | some z => rfl
theorem v_slots_from {p : List Nat} {e : Nat} (hl : p.length ≤ 40) : f_slots_from [.dat (rowD p), .dat (.int (e : Int))] w = .ok (.lst ((runs e p).map pairD)) w := by
  obtain ⟨ρ', e2, a, b, rfl⟩ := loopD_at (k := kTup 2 (kCons (kName 3) (kCons (kName 4) kNil))) (g := b_slots_from_1) (w := w) (fun z : Nat × Nat => Dv.tup [.int ((z.2 : Nat) : Int), .int ((z.1 : Nat) : Int)]) p.zipIdx
    (fun done ρ => ∃ a b, ρ = [.dat (rowD p), .dat (.int (e : Int)), .lst ((runsOf e done).1.map pairD), a, b]) (fun done z rest ρ hsp ⟨a, b, hr⟩ => by
      subst hr
      obtain ⟨z1, z2, z3, z4⟩ := zipIdx_split hsp
      refine ⟨_, [.dat (rowD p), .dat (.int (e : Int)), .lst ((runsOf e (done ++ [z])).1.map pairD), .dat (.int (z.2 : Int)), .dat (.int (z.1 : Int))], rfl, ?_, _, _, rfl⟩
      have hlen : done.length < p.length := by rw [← z1]; exact (List.getElem?_eq_some_iff.mp z2).1
      have hfl := runsOf_flag e done
      have hrl := runsOf_len e done
      rw [runsOf_snoc, u_b_slots_from_1]
      unfold runsStep
      show gIf _ _ _ [.dat (rowD p), .dat (.int (e : Int)), .lst ((runsOf e done).1.map pairD), .dat (.int (z.2 : Int)), .dat (.int (z.1 : Int))] w = _
      by_cases h1 : e ≤ z.1
      · have h1' : (e : Int) ≤ (z.1 : Int) := by omega
        have h3 : (runsOf e done).1.length < big := by exact Nat.lt_of_le_of_lt (by omega : _ ≤ 40) (by decide)
        cases hd : done.getLast? with
        | none =>
          have hz0 : z.2 = 0 := z4.mp (List.getLast?_eq_none_iff.mp hd)
          rw [hd] at hfl
          simp [h1, h1', hz0, hfl, h3, pairD]
        | some y =>
          obtain ⟨y1, y2⟩ := z3 y hd
          rw [hd] at hfl
          have hzp : (0 : Int) < (z.2 : Int) := by omega
          have hix : dSubI (rowD p) (.int ((z.2 : Int) - 1)) = some (.int (y.1 : Int)) := by
            rw [show ((z.2 : Int) - 1) = ((y.2 : Nat) : Int) by omega]
            exact dSubI_tup (by rw [natD_get, y2]; rfl)
          by_cases h2 : e ≤ y.1
          · have h2' : (e : Int) ≤ (y.1 : Int) := by omega
            have hfl' : (runsOf e done).2 = true := by rw [hfl]; exact decide_eq_true h2
            have hne := runsOf_ne hfl'
            have hpos : 0 < (runsOf e done).1.length := List.length_pos_iff.mpr hne
            have k1 := dSubI_lstL (pairD_map_last hne)
            have k2 : ∀ q : Nat × Nat, dSubI (pairD q) (.int 0) = some (.int (q.1 : Int)) := fun q => rfl
            have k3 : okLend [.dat (rowD p), .dat (.int (e : Int)), .lst ((runsOf e done).1.map pairD), .dat (.int (z.2 : Int)), .dat (.int (z.1 : Int))] 2 = true := rfl
            have k4 : ixN (runsOf e done).1.length (-1) = some ((runsOf e done).1.length - 1) := ixN_last hpos
            have k5 : ((runsOf e done).1.map pairD).set ((runsOf e done).1.length - 1) (pairD (((runsOf e done).1.getLast?.getD (0, 0)).1, z.2)) = ((runsOf e done).1.dropLast ++ [(((runsOf e done).1.getLast?.getD (0, 0)).1, z.2)]).map pairD := by
              rw [← List.map_set]
              congr 1
              exact set_last hne
            simp only [h1, if_true, hfl']
            rw [← k5]
            have hzn : 0 < z.2 := by omega
            have kf : ∀ a b : Nat, Dv.tup [.int (a : Int), .int (b : Int)] = pairD (a, b) := fun a b => rfl
            have ki : ∀ q : Nat × Nat, imm (pairD q) = true := fun q => rfl
            simp [h1', hzn, hix, h2', lendE, k1, k2, k3, k4, kf, ki]
          · have h2' : ¬ (e : Int) ≤ (y.1 : Int) := by omega
            have hfl' : (runsOf e done).2 = false := by rw [hfl]; exact decide_eq_false h2
            simp [h1, h1', hzp, hix, h2', hfl', h3, pairD]
      · have h1' : ¬ (e : Int) ≤ (z.1 : Int) := by omega
        simp [h1, h1']) p.zipIdx [] [.dat (rowD p), .dat (.int (e : Int)), .lst [], .un, .un] rfl ⟨.un, .un, rfl⟩
  simp [f_slots_from, semOf_eq, g_slots_from, enumD_natD, e2, runs]
end slots

section letters
variable {w : DS}
inductive Kd | fill | left | right | split
  deriving DecidableEq
def Kd.s : Kd → Str
  | .fill => "fill" | .left => "left" | .right => "right" | .split => "split"
def letD (l : Nat × Kd) : Dv := .tup [.int (l.1 : Int), .str l.2.s]
theorem kd_ok (k : Kd) : PyData.strOk k.s = true := by cases k <;> decide +kernel
theorem kd_inj {a b : Kd} : a.s = b.s ↔ a = b := by cases a <;> cases b <;> decide +kernel
theorem dEq_kd (a : Kd) (b : Kd) : dEq (.str a.s) (.str b.s) = some (.bl (decide (a = b))) := by
  rw [dEq_of (okc_str (kd_ok a)) (okc_str (kd_ok b))]
  congr 2
  rw [Bool.eq_iff_iff]
  simp only [decide_eq_true_eq, Dv.str.injEq, kd_inj]
/-- slots behind a letter -/
def behind (s : Int) : Kd → Int
  | .fill => s - 1
  | .split => s + 1
  | _ => s
theorem v_slots_behind (s : Int) (k : Kd) : f_slots_behind [.dat (.int s), .dat (.str k.s)] w = .ok (.int (behind s k)) w := by
  have e1 := dEq_kd k .fill
  have e2 := dEq_kd k .split
  have e3 : (Kd.fill).s = "fill" := rfl
  have e4 : (Kd.split).s = "split" := rfl
  rw [e3] at e1
  rw [e4] at e2
  cases k <;> simp [f_slots_behind, semOf_eq, g_slots_behind, e1, e2, behind]
theorem v_is_letter (l : Nat × Kd) : f_is_letter [.dat (letD l)] w = .ok (.bl true) w := by
  obtain ⟨n, k⟩ := l
  have e1 : dNe (.int 2) (.int 2) = some (.bl false) := by rw [dNe_of (okc_int 2) (okc_int 2)]; simp
  have e2 : dSubI (letD (n, k)) (.int 0) = some (.int (n : Int)) := rfl
  have e3 : dSubI (letD (n, k)) (.int 1) = some (.str k.s) := rfl
  have e4 : dLen [letD (n, k)] = some (.int 2) := rfl
  have e5 : tyN (letD (n, k)) = some "tuple" := rfl
  have e6 : dIn false (.str k.s) (.tup [.str "fill", .str "left", .str "right", .str "split"]) = some (.bl true) := by cases k <;> rfl
  have e7 : ¬ ((n : Int) < 0) := by omega
  simp [f_is_letter, semOf_eq, g_is_letter, isB, e1, e2, e3, e4, e5, e6, e7, v_is_whole]
end letters

section split
/-- all runs end ahead of here -/
theorem runsOf_last (e : Nat) (n : Nat) : ∀ l : List (Nat × Nat), (∀ z ∈ l, z.2 < n) → ∀ q ∈ (runsOf e l).1, q.2 < n := fun l => by
  refine snoc_ind (P := fun l => (∀ z ∈ l, z.2 < n) → ∀ q ∈ (runsOf e l).1, q.2 < n) (fun _ q hq => nomatch hq) (fun l z ih h q hq => ?_) l
  have hl := ih fun y hy => h y (List.mem_append_left _ hy)
  have hz := h z (List.mem_append_right _ List.mem_cons_self)
  rw [runsOf_snoc] at hq
  unfold runsStep at hq
  by_cases h1 : e ≤ z.1
  · simp only [h1, if_true] at hq
    split at hq
    · rcases List.mem_append.mp hq with a | a
      · exact hl q (List.dropLast_subset _ a)
      · rw [List.mem_singleton.mp a]; exact hz
    · rcases List.mem_append.mp hq with a | a
      · exact hl q a
      · rw [List.mem_singleton.mp a]; exact hz
  · simp only [h1, if_false] at hq
    exact hl q hq
end split
section split2
/-- behind a run that is open at place n: what follows -/
theorem runs_behind {e n : Nat} {A : List (Nat × Nat)} {f : Nat} (hA : ∀ q ∈ A, q.2 < n) : ∀ (r : List Nat), ∃ la B, ((r.zipIdx (n + 1)).foldl (runsStep e) (A ++ [(f, n)], true)).1 = A ++ (f, la) :: B ∧ n ≤ la ∧ (∀ q ∈ B, n < q.2) ∧ (la = n ↔ ∀ x, r.head? = some x → x < e) := fun r => by
  have key : ∀ (l : List (Nat × Nat)) (la : Nat) (B : List (Nat × Nat)) (fl : Bool), (∀ z ∈ l, n < z.2) → n ≤ la → (∀ q ∈ B, n < q.2) → (fl = true → B = [] → True) →
      ∃ la' B', (l.foldl (runsStep e) (A ++ (f, la) :: B, fl)).1 = A ++ (f, la') :: B' ∧ n ≤ la' ∧ (∀ q ∈ B', n < q.2) ∧ ((fl = false ∨ B ≠ []) → la' = la) ∧ (n < la → n < la') := fun l => by
    induction l with
    | nil => exact fun la B fl _ h1 h2 _ => ⟨la, B, rfl, h1, h2, fun _ => rfl, id⟩
    | cons z l ih =>
      intro la B fl hz h1 h2 _
      have hz0 := hz z List.mem_cons_self
      have hz' := fun y hy => hz y (List.mem_cons_of_mem z hy)
      rw [List.foldl_cons]
      by_cases he : e ≤ z.1
      · cases fl with
        | false =>
          have e1 : runsStep e (A ++ (f, la) :: B, false) z = (A ++ (f, la) :: (B ++ [(z.2, z.2)]), true) := by simp [runsStep, he]
          rw [e1]
          obtain ⟨la', B', a, b, c, d, g⟩ := ih la (B ++ [(z.2, z.2)]) true hz' h1 (fun q hq => (List.mem_append.mp hq).elim (h2 q) fun z => by rw [List.mem_singleton.mp z]; exact hz0) fun _ _ => trivial
          exact ⟨la', B', a, b, c, fun _ => d (.inr (by simp)), g⟩
        | true =>
          rcases List.eq_nil_or_concat B with rfl | ⟨B0, y, rfl⟩
          · have e1 : runsStep e (A ++ [(f, la)], true) z = (A ++ [(f, z.2)], true) := by simp [runsStep, he]
            rw [e1]
            obtain ⟨la', B', a, b, c, d, g⟩ := ih z.2 [] true hz' (by omega) (fun q hq => nomatch hq) fun _ _ => trivial
            exact ⟨la', B', a, b, c, fun h => h.elim (fun h => nomatch h) fun h => (h rfl).elim, fun _ => g hz0⟩
          · rw [List.concat_eq_append] at *
            have e1 : runsStep e (A ++ (f, la) :: (B0 ++ [y]), true) z = (A ++ (f, la) :: (B0 ++ [(y.1, z.2)]), true) := by
              have q1 : (A ++ (f, la) :: (B0 ++ [y])) = (A ++ (f, la) :: B0) ++ [y] := by simp
              rw [q1]
              simp [runsStep, he, -List.append_assoc]
              simp
            rw [e1]
            obtain ⟨la', B', a, b, c, d, g⟩ := ih la (B0 ++ [(y.1, z.2)]) true hz' h1 (fun q hq => (List.mem_append.mp hq).elim (fun hq => h2 q (List.mem_append_left _ hq)) fun z => by rw [List.mem_singleton.mp z]; exact hz0) fun _ _ => trivial
            exact ⟨la', B', a, b, c, fun _ => d (.inr (by simp)), g⟩
      · have e1 : runsStep e (A ++ (f, la) :: B, fl) z = (A ++ (f, la) :: B, false) := by simp [runsStep, he]
        rw [e1]
        obtain ⟨la', B', a, b, c, d, g⟩ := ih la B false hz' h1 h2 fun _ _ => trivial
        exact ⟨la', B', a, b, c, fun _ => d (.inl rfl), g⟩
  have big : ∀ (r : List Nat) (k : Nat), n < k → ∀ z ∈ r.zipIdx k, n < z.2 := fun r k hk z hz => Nat.lt_of_lt_of_le hk (List.le_snd_of_mem_zipIdx hz)
  cases r with
  | nil => exact ⟨n, [], rfl, Nat.le_refl _, (fun q hq => nomatch hq), (fun _ x hx => nomatch hx), fun _ => rfl⟩
  | cons x r =>
    rw [List.zipIdx_cons, List.foldl_cons]
    by_cases he : e ≤ x
    · have e1 : runsStep e (A ++ [(f, n)], true) (x, n + 1) = (A ++ [(f, n + 1)], true) := by simp [runsStep, he]
      rw [e1]
      obtain ⟨la', B', a, b, c, d, g⟩ := key _ (n + 1) [] true (big r (n + 1 + 1) (by omega)) (by omega) (fun q hq => nomatch hq) fun _ _ => trivial
      refine ⟨la', B', a, b, c, fun h => ?_, fun h => ?_⟩
      · have := g (Nat.lt_succ_self n); omega
      · have := h x rfl; omega
    · have e1 : runsStep e (A ++ [(f, n)], true) (x, n + 1) = (A ++ [(f, n)], false) := by simp [runsStep, he]
      rw [e1]
      obtain ⟨la', B', a, b, c, d, g⟩ := key _ n [] false (big r (n + 1 + 1) (by omega)) (by omega) (fun q hq => nomatch hq) fun _ _ => trivial
      refine ⟨la', B', a, b, c, fun _ y hy => ?_, fun _ => d (.inl rfl)⟩
      cases hy; omega
end split2

section letter
variable {w : DS}
theorem runsOf_first (e : Nat) (n : Nat) : ∀ l : List (Nat × Nat), (∀ z ∈ l, z.2 < n) → ∀ q ∈ (runsOf e l).1, q.1 < n := fun l => by
  refine snoc_ind (P := fun l => (∀ z ∈ l, z.2 < n) → ∀ q ∈ (runsOf e l).1, q.1 < n) (fun _ q hq => nomatch hq) (fun l z ih h q hq => ?_) l
  have hl := ih fun y hy => h y (List.mem_append_left _ hy)
  have hz := h z (List.mem_append_right _ List.mem_cons_self)
  rw [runsOf_snoc] at hq
  unfold runsStep at hq
  by_cases h1 : e ≤ z.1
  · simp only [h1, if_true] at hq
    split at hq
    · rename_i h2
      rcases List.mem_append.mp hq with a | a
      · exact hl q (List.dropLast_subset _ a)
      · rw [List.mem_singleton.mp a]
        have hne := runsOf_ne h2
        cases e3 : (runsOf e l).1.getLast? with
        | none => exact (hne (List.getLast?_eq_none_iff.mp e3)).elim
        | some y => exact hl y (List.mem_of_getLast? e3)
    · rcases List.mem_append.mp hq with a | a
      · exact hl q a
      · rw [List.mem_singleton.mp a]; exact hz
  · simp only [h1, if_false] at hq
    exact hl q hq
/-- the runs of what stands ahead, less the one that is open -/
def closed (e : Nat) (l : List Nat) : List (Nat × Nat) := if (runsOf e l.zipIdx).2 = true then (runs e l).dropLast else runs e l
def opened (e : Nat) (l : List Nat) : Bool := match l.getLast? with | some x => decide (e ≤ x) | none => false
def opens (e : Nat) (r : List Nat) : Bool := match r.head? with | some x => decide (e ≤ x) | none => false
def kindOf : Bool → Bool → Kd
  | false, false => .fill
  | false, true => .left
  | true, false => .right
  | true, true => .split
theorem opened_eq (e : Nat) (l : List Nat) : (runsOf e l.zipIdx).2 = opened e l := by
  rw [runsOf_flag]
  unfold opened
  have : l.zipIdx.getLast? = l.getLast?.map fun x => (x, l.length - 1) := by
    rw [List.getLast?_eq_getElem?, List.getLast?_eq_getElem?, List.getElem?_zipIdx, List.length_zipIdx]
    simp
  rw [this]
  cases l.getLast? <;> rfl
theorem runs_at {e : Nat} {l r : List Nat} : ∃ f la B, runs e (l ++ e :: r) = closed e l ++ (f, la) :: B ∧ f ≤ l.length ∧ l.length ≤ la ∧ (∀ q ∈ closed e l, q.2 < l.length) ∧ (∀ q ∈ B, l.length < q.2) ∧ (f = l.length ↔ opened e l = false) ∧ (la = l.length ↔ opens e r = false) := by
  have hz : ∀ z ∈ l.zipIdx, z.2 < l.length := fun z hz => by simpa using List.snd_lt_of_mem_zipIdx hz
  have hlast := runsOf_last e l.length l.zipIdx hz
  have hfirst := runsOf_first e l.length l.zipIdx hz
  have hcl : ∀ q ∈ closed e l, q.2 < l.length := fun q hq => by
    unfold closed at hq
    split at hq
    · exact hlast q (List.dropLast_subset _ hq)
    · exact hlast q hq
  have hop : (∀ x, r.head? = some x → x < e) ↔ opens e r = false := by
    unfold opens
    cases r.head? with
    | none => simp
    | some x => simp
  have split : (l ++ e :: r).zipIdx = (l.zipIdx ++ [(e, l.length)]) ++ r.zipIdx (l.length + 1) := by
    rw [List.zipIdx_append, List.zipIdx_cons]; simp
  have hrun : ∀ f, runsOf e (l.zipIdx ++ [(e, l.length)]) = (closed e l ++ [(f, l.length)], true) → ∃ la B, runs e (l ++ e :: r) = closed e l ++ (f, la) :: B ∧ l.length ≤ la ∧ (∀ q ∈ B, l.length < q.2) ∧ (la = l.length ↔ opens e r = false) := fun f hf => by
    obtain ⟨la, B, a, b, c, d⟩ := runs_behind (e := e) (n := l.length) (A := closed e l) (f := f) hcl r
    refine ⟨la, B, ?_, b, c, d.trans hop⟩
    unfold runs
    rw [split]
    unfold runsOf at hf ⊢
    rw [List.foldl_append, hf]
    exact a
  cases ho : opened e l with
  | true =>
    have h2 : (runsOf e l.zipIdx).2 = true := (opened_eq e l).trans ho
    have hne := runsOf_ne h2
    have hc : closed e l = (runsOf e l.zipIdx).1.dropLast := if_pos h2
    obtain ⟨la, B, a, b, c, d⟩ := hrun (((runsOf e l.zipIdx).1.getLast?.getD (0, 0)).1) (by rw [runsOf_snoc, hc]; simp [runsStep, h2])
    have hlt : ((runsOf e l.zipIdx).1.getLast?.getD (0, 0)).1 < l.length := by
      cases e3 : (runsOf e l.zipIdx).1.getLast? with
      | none => exact (hne (List.getLast?_eq_none_iff.mp e3)).elim
      | some y => exact hfirst y (List.mem_of_getLast? e3)
    exact ⟨_, la, B, a, Nat.le_of_lt hlt, b, hcl, c, ⟨fun h => by omega, fun h => by cases h⟩, d⟩
  | false =>
    have h2 : (runsOf e l.zipIdx).2 = false := (opened_eq e l).trans ho
    have hc : closed e l = (runsOf e l.zipIdx).1 := if_neg (by rw [h2]; exact Bool.false_ne_true)
    obtain ⟨la, B, a, b, c, d⟩ := hrun l.length (by rw [runsOf_snoc, hc]; simp [runsStep, h2])
    exact ⟨_, la, B, a, Nat.le_refl _, b, hcl, c, ⟨fun _ => rfl, fun _ => rfl⟩, d⟩
end letter

section letter2
variable {w : DS}
theorem v_letter_of {l r : List Nat} {e : Nat} (hp : (l ++ e :: r).length ≤ 40) : f_letter_of [.dat (rowD (l ++ e :: r)), .dat (.int (e : Int)), .dat (.int (l.length : Int))] w = .ok (letD ((closed e l).length, kindOf (opened e l) (opens e r))) w := by
  obtain ⟨f, la, B, e1, h1, h2, h3, h4, h5, h6⟩ := runs_at (e := e) (l := l) (r := r)
  have hlen : (runs e (l ++ e :: r)).length ≤ 40 := by
    have := runsOf_len e (l ++ e :: r).zipIdx
    rw [List.length_zipIdx] at this
    exact Nat.le_trans this hp
  have es := v_slots_from (w := w) (p := l ++ e :: r) (e := e) hp
  have ef : (runs e (l ++ e :: r)).filter (fun q => decide (q.2 < l.length)) = closed e l := by
    rw [e1, List.filter_append, List.filter_cons, if_neg (by simp; omega), List.filter_eq_self.mpr fun q hq => by simpa using h3 q hq, List.filter_eq_nil_iff.mpr fun q hq => by have := h4 q hq; simp; omega, List.append_nil]
  have ec : fLcW (fItems (fVar 3)) (kTup 2 (kCons (kName 5) (kCons (kName 6) kNil))) (fBool (fOp (dI fun i j => .bl (decide (i < j))) (fVar 6) (fVar 2))) (fVar 5) [5, 6] [.dat (rowD (l ++ e :: r)), .dat (.int (e : Int)), .dat (.int (l.length : Int)), .dat (.lst ((runs e (l ++ e :: r)).map pairD)), .un, .un, .un] w = .ok ((closed e l).map fun q => .int (q.1 : Int)) w := by
    rw [lcW_of (w1 := w) pairD (fun q => decide (q.2 < l.length)) (fun q => .int (q.1 : Int)) (runs e (l ++ e :: r)) (by simp) (le_big (by omega)) rfl fun q _ => ⟨_, rfl, by simp [wipeE], fun _ => by simp [wipeE]⟩, ef]
  have ei : dSubI (.lst ((runs e (l ++ e :: r)).map pairD)) (.int ((closed e l).length : Int)) = some (pairD (f, la)) := dSubI_lst (by rw [e1, List.getElem?_map, List.getElem?_append_right (Nat.le_refl _), Nat.sub_self]; rfl)
  have ek : (if f = la then ("fill" : Str) else if l.length = f then "left" else if l.length = la then "right" else "split") = (kindOf (opened e l) (opens e r)).s := by
    cases ho : opened e l <;> cases hr : opens e r <;> rw [ho] at h5 <;> rw [hr] at h6 <;> simp at h5 h6
    · rw [if_pos (by omega)]; rfl
    · rw [if_neg (by omega), if_pos (by omega)]; rfl
    · rw [if_neg (by omega), if_neg (by omega), if_pos (by omega)]; rfl
    · rw [if_neg (by omega), if_neg (by omega), if_neg (by omega)]; rfl
  have ekk := v_kind_at (w := w) (i := l.length) (f := f) (l := la)
  rw [ek] at ekk
  simp [f_letter_of, semOf_eq, g_letter_of, es, ec, ei, pairD, ekk, letD]
end letter2

section words
variable {w : DS}
def letterAt (p : List Nat) (e : Nat) : Nat × Kd := ((closed e (p.take (p.idxOf e))).length, kindOf (opened e (p.take (p.idxOf e))) (opens e (p.drop (p.idxOf e + 1))))
def wordL (p : List Nat) : List (Nat × Kd) := (List.range p.length).map (letterAt p)
def wordD (l : List (Nat × Kd)) : Dv := .tup (l.map letD)
theorem split_at {p : List Nat} {e : Nat} (h : e ∈ p) : p = p.take (p.idxOf e) ++ e :: p.drop (p.idxOf e + 1) ∧ (p.take (p.idxOf e)).length = p.idxOf e := by
  have hi : p.idxOf e < p.length := List.idxOf_lt_length_iff.mpr h
  have hg : p[p.idxOf e] = e := List.getElem_idxOf hi
  refine ⟨?_, by rw [List.length_take]; omega⟩
  have := List.take_append_drop (p.idxOf e) p
  rw [List.drop_eq_getElem_cons hi, hg] at this
  exact this.symm
theorem v_letterAt {p : List Nat} {e : Nat} (hp : p.length ≤ 40) (h : e ∈ p) : f_letter_of [.dat (rowD p), .dat (.int (e : Int)), .dat (.int ((p.idxOf e : Nat) : Int))] w = .ok (letD (letterAt p e)) w := by
  obtain ⟨a, b⟩ := split_at h
  have := v_letter_of (w := w) (l := p.take (p.idxOf e)) (r := p.drop (p.idxOf e + 1)) (e := e) (by rw [← a]; exact hp)
  rw [← a, b] at this
  exact this
theorem v_word_in {p : List Nat} (h : IsRow p) : f_word_in [.dat (rowD p)] w = .ok (wordD (wordL p)) w := by
  have hl := h.len
  have hlen : (invP p).length = p.length := by unfold invP; rw [List.length_map, List.length_range]
  have hi : fEnum (fCall f_inverse (aCons (fVar 0) aNil)) [.dat (rowD p), .un, .un] w = .ok ((invP p).zipIdx.map fun z : Nat × Nat => Dv.tup [.int ((z.2 : Nat) : Int), .int ((z.1 : Nat) : Int)]) w := by
    simp [v_inverse h, enumD_natD]
  have ec : fLcW (fEnum (fCall f_inverse (aCons (fVar 0) aNil))) (kTup 2 (kCons (kName 1) (kCons (kName 2) kNil))) fYes (fCall f_letter_of (aCons (fVar 0) (aCons (fVar 1) (aCons (fVar 2) aNil)))) [1, 2] [.dat (rowD p), .un, .un] w = .ok ((wordL p).map letD) w := by
    rw [lcW_of (w1 := w) (fun z : Nat × Nat => Dv.tup [.int ((z.2 : Nat) : Int), .int ((z.1 : Nat) : Int)]) (fun _ => true) (fun z => letD (letterAt p z.2)) (invP p).zipIdx hi (le_big (by rw [List.length_zipIdx]; omega)) rfl fun z hz => ⟨_, rfl, rfl, fun _ => ?_⟩]
    · rw [List.filter_eq_self.mpr fun _ _ => rfl]
      congr 1
      unfold wordL
      rw [List.map_map]
      have : (invP p).zipIdx.map (fun z => letD (letterAt p z.2)) = ((invP p).zipIdx.map (·.2)).map (fun e => letD (letterAt p e)) := by rw [List.map_map]; rfl
      rw [this, List.zipIdx_map_snd, hlen, List.range_eq_range']
      rfl
    · have h2 : (invP p)[z.2]? = some z.1 := by
        have := List.mem_zipIdx_iff_getElem?.mp hz
        simpa using this
      unfold invP at h2
      rw [List.getElem?_map] at h2
      have hz2 : z.2 < p.length := by
        rcases Nat.lt_or_ge z.2 p.length with q | q
        · exact q
        · rw [List.getElem?_eq_none (by rw [List.length_range]; exact q)] at h2; cases h2
      rw [List.getElem?_range hz2] at h2
      have h3 : p.idxOf z.2 = z.1 := Option.some.inj h2
      have := v_letterAt (w := w) hl (h.mem.mpr hz2)
      rw [h3] at this
      simp [wipeE, this]
  simp [f_word_in, semOf_eq, g_word_in, ec, wordD]
theorem v_word_of {p : List Nat} (h : IsRow p) : f_word_of [.dat (rowD p)] w = .ok (wordD (wordL p)) w := by
  simp [f_word_of, semOf_eq, g_word_of, v_need_row h, v_word_in h]
end words

section openslots
variable {w : DS}
def slotsL (p : List Nat) : List Nat := (List.range (p.length + 1)).map fun e => (runs e p).length
theorem v_open_slots {p : List Nat} (h : IsRow p) : f_open_slots [.dat (rowD p)] w = .ok (rowD (slotsL p)) w := by
  have hl := h.len
  have ho : okI ((p.length : Int) + 1) := by unfold okI; omega
  have hi : fIr1 (fOp dAdd (fCB dLen (aCons (fVar 0) aNil)) (fC (.int 1))) [.dat (rowD p), .un] w = .ok ((List.range (p.length + 1)).map fun x : Nat => Dv.int (x : Int)) w := by
    have e := rgD_nat (p.length + 1)
    have e2 : (((p.length + 1 : Nat)) : Int) = (p.length : Int) + 1 := by omega
    rw [e2] at e
    simp [ho, e]
    rfl
  have ec : fLcW (fIr1 (fOp dAdd (fCB dLen (aCons (fVar 0) aNil)) (fC (.int 1)))) (kName 1) fYes (fCB dLen (aCons (fCall f_slots_from (aCons (fVar 0) (aCons (fVar 1) aNil))) aNil)) [1] [.dat (rowD p), .un] w = .ok (natD (slotsL p)) w := by
    rw [lcW_of (w1 := w) (fun x : Nat => Dv.int (x : Int)) (fun _ => true) (fun e => .int ((runs e p).length : Int)) (List.range (p.length + 1)) hi (le_big (by rw [List.length_range]; omega)) rfl fun e _ => ⟨_, rfl, rfl, fun _ => by simp [wipeE, v_slots_from hl]⟩]
    rw [List.filter_eq_self.mpr fun _ _ => rfl]
    congr 1
    unfold natD slotsL
    rw [List.map_map]
    rfl
  simp [f_open_slots, semOf_eq, g_open_slots, v_need_row h, ec, row_fold]
end openslots

section isword
variable {w : DS}
def total : Int → List (Nat × Kd) → Option Int
  | s, [] => some s
  | s, l :: r => if s ≤ (l.1 : Int) then none else total (behind s l.2) r
theorem v_is_wording {d : Dv} {x : EV} : ∀ (ls : List (Nat × Kd)) (s t : Int) (a b : EV), total s ls = some t → ∃ a' b', loopD (kTup 2 (kCons (kName 2) (kCons (kName 3) kNil))) b_is_word_1 (ls.map letD) [.dat d, .dat (.int s), a, b, x] w = .ok (.nx [.dat d, .dat (.int t), a', b', x]) w
  | [], s, t, a, b, h => by cases h; exact ⟨a, b, rfl⟩
  | l :: ls, s, t, a, b, h => by
    unfold total at h
    split at h
    · cases h
    · rename_i h1
      obtain ⟨a', b', e⟩ := v_is_wording ls (behind s l.2) t (.dat (.int (l.1 : Int))) (.dat (.str l.2.s)) h
      refine ⟨a', b', ?_⟩
      have eb : b_is_word_1 [.dat d, .dat (.int s), .dat (.int (l.1 : Int)), .dat (.str l.2.s), x] w = .ok (.nx [.dat d, .dat (.int (behind s l.2)), .dat (.int (l.1 : Int)), .dat (.str l.2.s), x]) w := by
        rw [u_b_is_word_1]
        simp [h1, v_slots_behind]
      rw [List.map_cons, loopD]
      have ek : kTup 2 (kCons (kName 2) (kCons (kName 3) kNil)) (letD l) [.dat d, .dat (.int s), a, b, x] = some [.dat d, .dat (.int s), .dat (.int (l.1 : Int)), .dat (.str l.2.s), x] := rfl
      simp only [ek, eb, RR.bind_ok]
      exact e
theorem v_is_word {ls : List (Nat × Kd)} (h0 : ls ≠ []) (hl : ls.length ≤ 40) (ht : total 1 ls = some 0) (hc : okc (.tup (ls.map letD))) : f_is_word [.dat (wordD ls)] w = .ok (.bl true) w := by
  have e1 : fLcW (fItems (fVar 0)) (kName 4) fYes (fCall f_is_letter (aCons (fVar 4) aNil)) [4] [.dat (wordD ls), .un, .un, .un, .un] w = .ok (ls.map fun _ => .bl true) w := by
    rw [lcW_of (w1 := w) letD (fun _ => true) (fun _ => .bl true) ls rfl (le_big (by omega)) rfl fun x _ => ⟨_, rfl, rfl, fun _ => by simp [wipeE, v_is_letter]⟩]
    rw [List.filter_eq_self.mpr fun _ _ => rfl]
  have e2 : dLen [wordD ls] = some (.int (ls.length : Int)) := by
    show some (Dv.int ((ls.map letD).length : Int)) = _
    rw [List.length_map]
  have e3 : ¬ ((40 : Int) < (ls.length : Int)) := by omega
  have e4 : dNe (wordD ls) (.tup []) = some (.bl true) := by
    rw [show wordD ls = .tup (ls.map letD) from rfl, dNe_of hc (okn_tup (n := 0) (ds := []) fun d hd => nomatch hd).c]
    simp [h0]
  have e5 : tyN (wordD ls) = some "tuple" := rfl
  have e6 : itemsS (wordD ls) = some (ls.map letD) := rfl
  have e7 : dEq (.int 0) (.int 0) = some (.bl true) := by rw [dEq_of (okc_int 0) (okc_int 0)]; simp
  obtain ⟨a', b', el⟩ := v_is_wording (w := w) (d := wordD ls) (x := .un) ls 1 0 .un .un ht
  simp [f_is_word, semOf_eq, g_is_word, isB, e1, all_true, e2, e3, e4, e5, e6, el, e7]
end isword

section comp
/-- a row with every run of entries from e on made one gap -/
def comp (e : Nat) : Bool → List Nat → List (Option Nat)
  | _, [] => []
  | o, x :: l => if x < e then some x :: comp e false l else if o = true then comp e true l else none :: comp e true l
def flagR (e : Nat) : Bool → List Nat → Bool
  | o, [] => o
  | _, x :: l => flagR e (decide (e ≤ x)) l
def cnt (e : Nat) : Bool → List Nat → Nat
  | _, [] => 0
  | o, x :: l => if x < e then cnt e false l else (if o = true then 0 else 1) + cnt e true l
theorem comp_append (e : Nat) : ∀ (l : List Nat) (o : Bool) (m : List Nat), comp e o (l ++ m) = comp e o l ++ comp e (flagR e o l) m
  | [], o, m => rfl
  | x :: l, o, m => by
    have i1 := comp_append e l false m
    have i2 := comp_append e l true m
    by_cases h : x < e
    · have hd : decide (e ≤ x) = false := decide_eq_false (by omega)
      simp [comp, flagR, h, hd, i1]
    · have hd : decide (e ≤ x) = true := decide_eq_true (by omega)
      cases o <;> simp [comp, flagR, h, hd, i2]
theorem cnt_append (e : Nat) : ∀ (l : List Nat) (o : Bool) (m : List Nat), cnt e o (l ++ m) = cnt e o l + cnt e (flagR e o l) m
  | [], o, m => by simp [cnt, flagR]
  | x :: l, o, m => by
    have i1 := cnt_append e l false m
    have i2 := cnt_append e l true m
    by_cases h : x < e
    · have hd : decide (e ≤ x) = false := decide_eq_false (by omega)
      simp [cnt, flagR, h, hd, i1]
    · have hd : decide (e ≤ x) = true := decide_eq_true (by omega)
      simp only [List.cons_append, cnt, flagR, h, hd, i2, if_false]; omega
def gaps (l : List (Option Nat)) : Nat := (l.filter Option.isNone).length
theorem gaps_append (l m : List (Option Nat)) : gaps (l ++ m) = gaps l + gaps m := by unfold gaps; rw [List.filter_append, List.length_append]
theorem gaps_comp (e : Nat) : ∀ (l : List Nat) (o : Bool), gaps (comp e o l) = cnt e o l
  | [], o => rfl
  | x :: l, o => by
    have i1 := gaps_comp e l false
    have i2 := gaps_comp e l true
    unfold gaps at i1 i2 ⊢
    by_cases h : x < e
    · simp [comp, cnt, h, i1]
    · cases o <;> simp [comp, cnt, h, i2]; omega
theorem flagR_last (e : Nat) : ∀ (l : List Nat) (o : Bool), flagR e o l = match l.getLast? with | some x => decide (e ≤ x) | none => o
  | [], o => rfl
  | [x], o => rfl
  | x :: y :: l, o => by
    have := flagR_last e (y :: l) (decide (e ≤ x))
    rw [List.getLast?_cons_cons]
    show flagR e (decide (e ≤ x)) (y :: l) = _
    rw [this]
    cases h : (y :: l).getLast? with
    | none => simp at h
    | some z => rfl
theorem flagR_opened (e : Nat) (l : List Nat) : flagR e false l = opened e l := by rw [flagR_last]; rfl
theorem comp_open (e : Nat) (r : List Nat) : comp e false r = (if opens e r = true then [none] else []) ++ comp e true r := by
  cases r with
  | nil => rfl
  | cons x r =>
    by_cases h : x < e
    · have : ¬ e ≤ x := by omega
      simp [comp, opens, h, this]
    · have : e ≤ x := by omega
      simp [comp, opens, h, this]
theorem cnt_open (e : Nat) (r : List Nat) : cnt e false r = (if opens e r = true then 1 else 0) + cnt e true r := by
  cases r with
  | nil => rfl
  | cons x r =>
    by_cases h : x < e
    · have : ¬ e ≤ x := by omega
      simp [cnt, opens, h, this]
    · have : e ≤ x := by omega
      simp [cnt, opens, h, this]
theorem comp_next (e : Nat) : ∀ (l : List Nat) (o : Bool), e ∉ l → comp (e + 1) o l = comp e o l
  | [], o, _ => rfl
  | x :: l, o, h => by
    have hx : x ≠ e := fun z => h (by rw [z]; exact List.mem_cons_self)
    have hl : e ∉ l := fun z => h (List.mem_cons_of_mem _ z)
    have i1 := comp_next e l false hl
    have i2 := comp_next e l true hl
    by_cases h1 : x < e
    · have : x < e + 1 := by omega
      simp [comp, h1, this, i1]
    · have : ¬ x < e + 1 := by omega
      simp [comp, h1, this, i2]
theorem runs_cnt (e : Nat) (l : List Nat) : (runs e l).length = cnt e false l := by
  refine snoc_ind (P := fun l => (runs e l).length = cnt e false l) rfl (fun l x ih => ?_) l
  have e1 : runs e (l ++ [x]) = (runsStep e (runsOf e l.zipIdx) (x, l.length)).1 := by
    unfold runs
    rw [List.zipIdx_append]
    show (runsOf e (l.zipIdx ++ [(x, 0 + l.length)])).1 = _
    rw [runsOf_snoc, Nat.zero_add]
  rw [e1, cnt_append, ← ih, flagR_opened, ← opened_eq]
  unfold runsStep
  by_cases h : e ≤ x
  · have h' : ¬ x < e := by omega
    cases h2 : (runsOf e l.zipIdx).2 with
    | true =>
      have hne := runsOf_ne h2
      have hpos := List.length_pos_iff.mpr hne
      have : (runs e l).length = (runsOf e l.zipIdx).1.length := rfl
      simp [h, h', cnt]
      omega
    | false =>
      have : (runs e l).length = (runsOf e l.zipIdx).1.length := rfl
      simp [h, h', cnt, this]
  · have h' : x < e := by omega
    simp [h, h', cnt]
    rfl
theorem closed_cnt (e : Nat) (l : List Nat) : (closed e l).length + (if opened e l = true then 1 else 0) = cnt e false l := by
  rw [← runs_cnt, ← opened_eq]
  unfold closed
  cases h2 : (runsOf e l.zipIdx).2 with
  | true =>
    have hpos := List.length_pos_iff.mpr (runsOf_ne h2)
    have : (runs e l).length = (runsOf e l.zipIdx).1.length := rfl
    simp
    omega
  | false => simp
theorem opened_rev (e : Nat) (l : List Nat) : opened e l.reverse = opens e l := by unfold opened opens; rw [List.getLast?_reverse]
theorem opens_rev (e : Nat) (l : List Nat) : opens e l.reverse = opened e l := by unfold opened opens; rw [List.head?_reverse]
theorem cnt_rev (e : Nat) : ∀ l : List Nat, cnt e false l.reverse = cnt e false l
  | [] => rfl
  | x :: l => by
    rw [List.reverse_cons, cnt_append, cnt_rev e l, flagR_opened, opened_rev]
    have := cnt_open e l
    by_cases h : x < e
    · simp [cnt, h]
    · cases h2 : opens e l <;> rw [h2] at this <;> simp [cnt, h] at this ⊢ <;> omega
end comp

section laws
theorem letter_split {e : Nat} {l r : List Nat} (h : e ∉ l) : letterAt (l ++ e :: r) e = ((closed e l).length, kindOf (opened e l) (opens e r)) := by
  have hi : (l ++ e :: r).idxOf e = l.length := by
    rw [List.idxOf_append, if_neg h, List.idxOf_cons_self]; omega
  unfold letterAt
  rw [hi, List.take_left, show l ++ e :: r = (l ++ [e]) ++ r by simp, List.drop_left' (by simp)]
theorem row_split {p : List Nat} (h : IsRow p) {e : Nat} (he : e < p.length) : ∃ l r, p = l ++ e :: r ∧ e ∉ l ∧ e ∉ r := by
  obtain ⟨l, r, rfl⟩ := List.append_of_mem (h.mem.mpr he)
  have hn := h.nodup
  rw [List.nodup_append, List.nodup_cons] at hn
  exact ⟨l, r, rfl, fun z => hn.2.2 e z e List.mem_cons_self rfl, hn.2.1.1⟩
theorem cnt_small {e : Nat} : ∀ {l : List Nat} {o : Bool}, (∀ x ∈ l, x < e) → cnt e o l = 0
  | [], o, _ => rfl
  | x :: l, o, h => by
    have i1 := cnt_small (l := l) (o := false) fun y hy => h y (List.mem_cons_of_mem _ hy)
    have := h x List.mem_cons_self
    simp [cnt, this, i1]
theorem cnt_great {e : Nat} : ∀ {l : List Nat}, (∀ x ∈ l, e ≤ x) → cnt e true l = 0
  | [], _ => rfl
  | x :: l, h => by
    have i1 := cnt_great (l := l) fun y hy => h y (List.mem_cons_of_mem _ hy)
    have := h x List.mem_cons_self
    have : ¬ x < e := by omega
    simp [cnt, this, i1]
theorem flagR_small {e : Nat} {l : List Nat} (h : ∀ x ∈ l, x < e) : flagR e false l = false := by
  rw [flagR_opened]; unfold opened
  cases q : l.getLast? with
  | none => rfl
  | some x => have := h x (List.mem_of_getLast? q); exact decide_eq_false (by omega)
theorem flagR_great {e : Nat} {l : List Nat} (h0 : l ≠ []) (h : ∀ x ∈ l, e ≤ x) (o : Bool) : flagR e o l = true := by
  rw [flagR_last]
  cases q : l.getLast? with
  | none => exact (h0 (List.getLast?_eq_none_iff.mp q)).elim
  | some x => exact decide_eq_true (h x (List.mem_of_getLast? q))
theorem cnt_map {e e' : Nat} {f : Nat → Nat} : ∀ {l : List Nat} {o : Bool}, (∀ x ∈ l, f x < e' ↔ x < e) → cnt e' o (l.map f) = cnt e o l
  | [], o, _ => rfl
  | x :: l, o, h => by
    have i1 := cnt_map (l := l) (o := false) fun y hy => h y (List.mem_cons_of_mem _ hy)
    have i2 := cnt_map (l := l) (o := true) fun y hy => h y (List.mem_cons_of_mem _ hy)
    have := h x List.mem_cons_self
    simp [cnt, this, i1, i2]
theorem opened_map {e e' : Nat} {f : Nat → Nat} {l : List Nat} (h : ∀ x ∈ l, f x < e' ↔ x < e) : opened e' (l.map f) = opened e l := by
  unfold opened
  rw [List.getLast?_map]
  cases q : l.getLast? with
  | none => rfl
  | some x => have := h x (List.mem_of_getLast? q); show decide _ = decide _; rw [Bool.eq_iff_iff]; simp; omega
theorem opens_map {e e' : Nat} {f : Nat → Nat} {l : List Nat} (h : ∀ x ∈ l, f x < e' ↔ x < e) : opens e' (l.map f) = opens e l := by
  unfold opens
  rw [List.head?_map]
  cases q : l.head? with
  | none => rfl
  | some x => have := h x (List.mem_of_head? q); show decide _ = decide _; rw [Bool.eq_iff_iff]; simp; omega
theorem closed_map {e e' : Nat} {f : Nat → Nat} {l : List Nat} (h : ∀ x ∈ l, f x < e' ↔ x < e) : (closed e' (l.map f)).length = (closed e l).length := by
  have h1 := closed_cnt e l
  have h2 := closed_cnt e' (l.map f)
  rw [opened_map h, cnt_map h] at h2
  omega
theorem letter_map {p : List Nat} {e e' : Nat} {f : Nat → Nat} (he : e ∈ p) (hn : p.Nodup) (hf : f e = e') (h : ∀ x ∈ p, f x < e' ↔ x < e) (hi : ∀ x ∈ p, f x = e' → x = e) : letterAt (p.map f) e' = letterAt p e := by
  obtain ⟨l, r, rfl⟩ := List.append_of_mem he
  rw [List.nodup_append, List.nodup_cons] at hn
  have hl : e ∉ l := fun z => hn.2.2 e z e List.mem_cons_self rfl
  have hl' : e' ∉ l.map f := fun z => by
    obtain ⟨x, hx, e1⟩ := List.mem_map.mp z
    rw [hi x (List.mem_append_left _ hx) e1] at hx
    exact hl hx
  rw [letter_split hl, List.map_append, List.map_cons, hf, letter_split hl', closed_map fun x hx => h x (List.mem_append_left _ hx), opened_map fun x hx => h x (List.mem_append_left _ hx), opens_map fun x hx => h x (List.mem_append_right _ (List.mem_cons_of_mem _ hx))]
def openKind : Kd → Kd
  | .fill => .left
  | _ => .split
theorem beside_low {p q : List Nat} (hp : IsRow p) (hq0 : q ≠ []) {e : Nat} (he : e < p.length) :
    letterAt (besideL p q) e = if p.getLast? = some e then ((letterAt p e).1, openKind (letterAt p e).2) else letterAt p e := by
  obtain ⟨l, r, hlr, hl, hr⟩ := row_split hp he
  have hn := hp.nodup
  unfold besideL
  generalize hn' : p.length = n at he
  rw [hlr, List.append_assoc, List.cons_append, letter_split hl, letter_split hl]
  cases r with
  | nil =>
    have : opens e ([] ++ q.map (· + n)) = true := by
      cases q with
      | nil => exact (hq0 rfl).elim
      | cons y q => show decide (e ≤ y + n) = true; exact decide_eq_true (by omega)
    rw [this, if_pos (by simp)]
    have h2 : opens e [] = false := rfl
    rw [h2]
    cases opened e l <;> rfl
  | cons y r =>
    rw [if_neg]
    · rfl
    · intro z
      rw [List.getLast?_append, List.getLast?_cons_cons] at z
      cases q1 : (y :: r).getLast? with
      | none => simp at q1
      | some u =>
        rw [q1] at z
        have : u = e := by simpa using z
        rw [this] at q1
        exact hr (List.mem_of_getLast? q1)
theorem beside_high {p q : List Nat} (hp : IsRow p) (hp0 : p ≠ []) (hq : IsRow q) {x : Nat} (hx : x < q.length) :
    letterAt (besideL p q) (p.length + x) = letterAt q x := by
  obtain ⟨l, r, hlr, hl, hr⟩ := row_split hq hx
  unfold besideL
  have hsm : ∀ y ∈ p, y < p.length + x := fun y hy => by have := hp.mem.mp hy; omega
  have hf : ∀ y, y + p.length < p.length + x ↔ y < x := fun y => by omega
  have hpl : p.length + x ∉ p := fun z => by have := hsm _ z; omega
  have hl' : p.length + x ∉ p ++ l.map (· + p.length) := fun z => by
    rcases List.mem_append.mp z with z | z
    · exact hpl z
    · obtain ⟨y, hy, e1⟩ := List.mem_map.mp z
      rw [show y = x by omega] at hy
      exact hl hy
  rw [hlr, List.map_append, List.map_cons, Nat.add_comm x, ← List.append_assoc, letter_split hl', letter_split hl]
  have ho : opened (p.length + x) (p ++ l.map (· + p.length)) = opened x l := by
    rw [← flagR_opened, flagR_last, List.getLast?_append]
    cases hl0 : l.getLast? with
    | none =>
      have : l = [] := List.getLast?_eq_none_iff.mp hl0
      subst this
      show (match p.getLast? with | some x_1 => decide (p.length + x ≤ x_1) | none => false) = opened x []
      cases q1 : p.getLast? with
      | none => rfl
      | some u => have := hsm u (List.mem_of_getLast? q1); exact decide_eq_false (by omega)
    | some u =>
      rw [List.getLast?_map, hl0]
      unfold opened
      rw [hl0]
      show decide _ = decide _
      rw [Bool.eq_iff_iff]; simp; omega
  have hc := closed_cnt (p.length + x) (p ++ l.map (· + p.length))
  rw [cnt_append, cnt_small hsm, flagR_small hsm, cnt_map (e := x) fun y _ => hf y, ho] at hc
  have hc2 := closed_cnt x l
  rw [ho, opens_map fun y _ => hf y]
  congr 1
  omega
theorem under_high {p q : List Nat} (hp : IsRow p) (hq : IsRow q) {x : Nat} (hx : x < p.length) :
    letterAt (underL p q) (q.length + x) = letterAt p x := by
  obtain ⟨l, r, hlr, hl, hr⟩ := row_split hp hx
  unfold underL
  have hf : ∀ y, y + q.length < q.length + x ↔ y < x := fun y => by omega
  have hl' : q.length + x ∉ l.map (· + q.length) := fun z => by
    obtain ⟨y, hy, e1⟩ := List.mem_map.mp z
    rw [show y = x by omega] at hy
    exact hl hy
  rw [hlr, List.map_append, List.map_cons, Nat.add_comm x, List.append_assoc, List.cons_append, letter_split hl', letter_split hl, closed_map fun y _ => hf y, opened_map fun y _ => hf y]
  have : opens (q.length + x) (r.map (· + q.length) ++ q) = opens x r := by
    cases r with
    | nil =>
      cases q with
      | nil => rfl
      | cons u q => have := hq.mem.mp (List.mem_cons_self (a := u) (l := q)); show decide _ = false; exact decide_eq_false (by omega)
    | cons u r => show decide _ = decide _; rw [Bool.eq_iff_iff]; simp; omega
  rw [this]
def openKindR : Kd → Kd
  | .fill => .right
  | _ => .split
theorem under_low {p q : List Nat} (hp0 : p ≠ []) (hq : IsRow q) {e f : Nat} (he : e < q.length) (hf : q.head? = some f) :
    letterAt (underL p q) e = if f = e then ((letterAt q e).1, openKindR (letterAt q e).2) else ((letterAt q e).1 + (if f < e then 1 else 0), (letterAt q e).2) := by
  obtain ⟨l, r, hlr, hl, hr⟩ := row_split hq he
  unfold underL
  generalize hn' : q.length = n at he
  have hgr : ∀ y ∈ p.map (· + n), e ≤ y := fun y hy => by
    obtain ⟨z, _, e1⟩ := List.mem_map.mp hy; omega
  have hg0 : p.map (· + n) ≠ [] := by simpa using hp0
  have hl' : e ∉ p.map (· + n) ++ l := fun z => by
    rcases List.mem_append.mp z with z | z
    · obtain ⟨y, _, e1⟩ := List.mem_map.mp z; omega
    · exact hl z
  rw [hlr, ← List.append_assoc, letter_split hl', letter_split hl]
  have hc := closed_cnt e (p.map (· + n) ++ l)
  have hc1 : cnt e false (p.map (· + n)) = 1 := by
    cases p with
    | nil => exact (hp0 rfl).elim
    | cons y p =>
      have h1 := cnt_great (l := p.map (· + n)) fun z hz => hgr z (by rw [List.map_cons]; exact List.mem_cons_of_mem _ hz)
      have h2 : ¬ y + n < e := by omega
      rw [List.map_cons]
      unfold cnt
      rw [if_neg h2, h1]; rfl
  rw [cnt_append, hc1, flagR_great hg0 hgr] at hc
  have hc2 := closed_cnt e l
  have hc3 := cnt_open e l
  cases l with
  | nil =>
    have hfe : f = e := by rw [hlr] at hf; simpa using hf.symm
    have ho : opened e (p.map (· + n) ++ []) = true := by rw [← flagR_opened, List.append_nil, flagR_great hg0 hgr]
    have ho2 : opened e [] = false := rfl
    rw [ho] at hc ⊢
    rw [if_pos hfe, ho2]
    have hz : cnt e true [] = 0 := rfl
    rw [hz] at hc
    have hcl : (closed e []).length = 0 := rfl
    rw [hcl]
    have : (closed e (p.map (· + n) ++ [])).length = 0 := by simpa using hc
    rw [this]
    cases opens e r <;> rfl
  | cons y l =>
    have hfy : f = y := by rw [hlr] at hf; simpa using hf.symm
    have hye : y ≠ e := fun z => hl (by rw [z]; exact List.mem_cons_self)
    have ho : opened e (p.map (· + n) ++ y :: l) = opened e (y :: l) := by
      unfold opened
      rw [List.getLast?_append]
      cases q1 : (y :: l).getLast? with
      | none => simp at q1
      | some u => rfl
    rw [ho] at hc ⊢
    rw [if_neg (by rw [hfy]; exact hye)]
    have hop : opens e (y :: l) = decide (e ≤ y) := rfl
    rw [hop] at hc3
    congr 1
    rw [hfy]
    by_cases h : y < e
    · have h' : ¬ e ≤ y := by omega
      simp [h, h'] at hc3 ⊢
      omega
    · have h' : e ≤ y := by omega
      simp [h, h'] at hc3 ⊢
      omega
def backKind : Kd → Kd
  | .fill => .fill
  | .left => .right
  | .right => .left
  | .split => .split
theorem back_letter {p : List Nat} (hp : IsRow p) {e : Nat} (he : e < p.length) : letterAt p.reverse e = ((runs e p).length - 1 - (letterAt p e).1, backKind (letterAt p e).2) ∧ (letterAt p e).1 < (runs e p).length := by
  obtain ⟨l, r, hlr, hl, hr⟩ := row_split hp he
  rw [hlr, List.reverse_append, List.reverse_cons, List.append_assoc, List.singleton_append, letter_split (by simpa using hr), letter_split hl, runs_cnt]
  have c1 := closed_cnt e r.reverse
  rw [cnt_rev, opened_rev] at c1
  have c2 := closed_cnt e l
  have c3 := cnt_open e r
  have c4 : cnt e false (l ++ e :: r) = cnt e false l + ((if opened e l = true then 0 else 1) + cnt e true r) := by
    rw [cnt_append, flagR_opened, cnt.eq_2, if_neg (Nat.lt_irrefl e)]
  rw [opened_rev, opens_rev]
  refine ⟨?_, ?_⟩
  · congr 1
    · show _ = _ - 1 - (closed e l).length
      rw [c4]
      split at c2 <;> split at c3 <;> simp_all <;> omega
    · cases opened e l <;> cases opens e r <;> rfl
  · show (closed e l).length < _
    rw [c4]
    split at c2 <;> simp_all <;> omega
theorem slots_rev (p : List Nat) : slotsL p.reverse = slotsL p := by
  unfold slotsL
  rw [List.length_reverse]
  apply List.map_congr_left
  intro e _
  rw [runs_cnt, runs_cnt, cnt_rev]
end laws

section words2
theorem cnt_next (e : Nat) (l : List Nat) (o : Bool) (h : e ∉ l) : cnt (e + 1) o l = cnt e o l := by rw [← gaps_comp, ← gaps_comp, comp_next e l o h]
theorem cnt_step {e : Nat} {l r : List Nat} (hl : e ∉ l) (hr : e ∉ r) : (cnt (e + 1) false (l ++ e :: r) : Int) = behind (cnt e false (l ++ e :: r)) (kindOf (opened e l) (opens e r)) := by
  have c3 := cnt_open e r
  have c4 : cnt e false (l ++ e :: r) = cnt e false l + ((if opened e l = true then 0 else 1) + cnt e true r) := by
    rw [cnt_append, flagR_opened, cnt.eq_2, if_neg (Nat.lt_irrefl e)]
  have c5 : cnt (e + 1) false (l ++ e :: r) = cnt e false l + cnt e false r := by
    rw [cnt_append, cnt.eq_2, if_pos (Nat.lt_succ_self e), cnt_next e l false hl, cnt_next e r false hr]
  rw [c4, c5, c3]
  cases opened e l <;> cases opens e r <;> simp [kindOf, behind] <;> omega
theorem total_from {p : List Nat} (hp : IsRow p) : ∀ (k e : Nat), e + k = p.length → total (cnt e false p) ((List.range' e k).map (letterAt p)) = some (cnt p.length false p : Int)
  | 0, e, h => by rw [show e = p.length by omega]; rfl
  | k + 1, e, h => by
    have ih := total_from hp k (e + 1) (by omega)
    obtain ⟨l, r, hlr, hl, hr⟩ := row_split hp (e := e) (by omega)
    have h2 := (back_letter hp (e := e) (by omega)).2
    rw [runs_cnt] at h2
    rw [List.range'_succ, List.map_cons]
    unfold total
    rw [if_neg (by omega)]
    have hk : (letterAt p e).2 = kindOf (opened e l) (opens e r) := by rw [hlr, letter_split hl]
    rw [hk]
    have h3 := cnt_step (e := e) hl hr
    rw [← hlr] at h3
    rw [← h3]
    exact ih
theorem cnt_all {p : List Nat} (hp : IsRow p) : cnt p.length false p = 0 := cnt_small fun x hx => hp.mem.mp hx
theorem cnt_zero {p : List Nat} (h0 : p ≠ []) : cnt 0 false p = 1 := by
  cases p with
  | nil => exact (h0 rfl).elim
  | cons x p => have := cnt_great (e := 0) (l := p) fun _ _ => Nat.zero_le _; simp [cnt, this]
theorem total_word {p : List Nat} (hp : IsRow p) (h0 : p ≠ []) : total 1 (wordL p) = some 0 := by
  have := total_from hp p.length 0 (by omega)
  rw [cnt_all hp, cnt_zero h0] at this
  unfold wordL
  rw [List.range_eq_range']
  exact this
def ownL (e : Nat) : Kd → List (Option Nat)
  | .fill => [some e]
  | .left => [some e, none]
  | .right => [none, some e]
  | .split => [none, some e, none]
theorem comp_opened (e : Nat) (l : List Nat) : ∃ A, comp e false l = A ++ (if opened e l = true then [none] else []) := by
  refine snoc_ind (P := fun l => ∃ A, comp e false l = A ++ (if opened e l = true then [none] else [])) ⟨[], rfl⟩ (fun l x ⟨A, ih⟩ => ?_) l
  have ho : opened e (l ++ [x]) = decide (e ≤ x) := by unfold opened; simp
  rw [comp_append, flagR_opened, ho, ih]
  by_cases h : x < e
  · have h' : ¬ e ≤ x := by omega
    cases opened e l <;> simp [comp, h, h']
  · have h' : e ≤ x := by omega
    cases opened e l <;> simp [comp, h, h']
theorem comp_split {p : List Nat} (hp : IsRow p) {e : Nat} (he : e < p.length) : ∃ A B, comp e false p = A ++ none :: B ∧ comp (e + 1) false p = A ++ (ownL e (letterAt p e).2 ++ B) ∧ gaps A = (letterAt p e).1 := by
  obtain ⟨l, r, hlr, hl, hr⟩ := row_split hp he
  obtain ⟨A, hA⟩ := comp_opened e l
  have hg := congrArg gaps hA
  rw [gaps_comp, gaps_append] at hg
  have hc := closed_cnt e l
  have e1 : comp e false (l ++ e :: r) = comp e false l ++ (if opened e l = true then comp e true r else none :: comp e true r) := by
    rw [comp_append, flagR_opened, comp.eq_2, if_neg (Nat.lt_irrefl e)]
  have e2 : comp (e + 1) false (l ++ e :: r) = comp e false l ++ some e :: comp e false r := by
    rw [comp_append, comp.eq_2, if_pos (Nat.lt_succ_self e), comp_next e l false hl, comp_next e r false hr]
  have e3 := comp_open e r
  refine ⟨A, comp e true r, ?_, ?_, ?_⟩
  · rw [hlr, e1, hA]
    cases opened e l <;> simp
  · rw [hlr, e2, hA, e3, letter_split hl]
    cases opened e l <;> cases opens e r <;> simp [ownL, kindOf]
  · rw [hlr, letter_split hl]
    show gaps A = (closed e l).length
    cases h : opened e l <;> rw [h] at hg hc <;> simp [gaps] at hg hc ⊢ <;> omega
theorem comp_all {p : List Nat} (hp : IsRow p) : comp p.length false p = p.map some := by
  have key : ∀ (l : List Nat) (n : Nat), (∀ x ∈ l, x < n) → comp n false l = l.map some := fun l n => by
    induction l with
    | nil => exact fun _ => rfl
    | cons x l ih =>
      intro h
      have i1 := ih fun y hy => h y (List.mem_cons_of_mem _ hy)
      have := h x List.mem_cons_self
      simp [comp, this, i1]
  exact key p _ fun x hx => hp.mem.mp hx
theorem comp_zero {p : List Nat} (h0 : p ≠ []) : comp 0 false p = [none] := by
  have key : ∀ l : List Nat, comp 0 true l = [] := fun l => by
    induction l with
    | nil => rfl
    | cons x l ih => simp [comp, ih]
  cases p with
  | nil => exact (h0 rfl).elim
  | cons x p => simp [comp, key]
/-- two entries exchanged -/
def sw (low x : Nat) : Nat := if x = low then low + 1 else if x = low + 1 then low else x
theorem sw_cases (low x : Nat) : (x = low ∧ sw low x = low + 1) ∨ (x = low + 1 ∧ sw low x = low) ∨ (x ≠ low ∧ x ≠ low + 1 ∧ sw low x = x) := by
  unfold sw
  by_cases h1 : x = low
  · left; rw [if_pos h1]; exact ⟨h1, rfl⟩
  · by_cases h2 : x = low + 1
    · right; left; rw [if_neg h1, if_pos h2]; exact ⟨h2, rfl⟩
    · right; right; rw [if_neg h1, if_neg h2]; exact ⟨h1, h2, rfl⟩
theorem sw_lt {low e x : Nat} (h : e ≠ low + 1) : sw low x < e ↔ x < e := by have := sw_cases low x; omega
theorem sw_sw (low x : Nat) : sw low (sw low x) = x := by have := sw_cases low x; have := sw_cases low (sw low x); omega
theorem sw_eq {low e x : Nat} (h1 : e ≠ low) (h2 : e ≠ low + 1) (h : sw low x = e) : x = e := by
  have := congrArg (sw low) h
  rw [sw_sw] at this
  rw [this]; unfold sw; rw [if_neg h1, if_neg h2]
theorem sw_row {p : List Nat} (hp : IsRow p) {low : Nat} (hlow : low + 1 < p.length) : IsRow (p.map (sw low)) := by
  refine ⟨?_, by rw [List.length_map]; exact hp.len⟩
  have hlt : ∀ x, x < p.length → sw low x < p.length := fun x hx => by have := sw_cases low x; omega
  have h2 : (p.map (sw low)).Nodup := by
    have := hp.nodup
    refine List.Pairwise.map _ (fun a b hab h => hab ?_) this
    have := congrArg (sw low) h
    rwa [sw_sw, sw_sw] at this
  rw [List.length_map]
  refine (List.perm_ext_iff_of_nodup h2 List.nodup_range).mpr fun a => ?_
  rw [List.mem_map, List.mem_range]
  constructor
  · rintro ⟨x, hx, rfl⟩
    exact hlt x (hp.mem.mp hx)
  · intro ha
    exact ⟨sw low a, hp.mem.mpr (hlt a ha), sw_sw low a⟩
theorem sw_letter {p : List Nat} (hp : IsRow p) {low e : Nat} (he : e < p.length) (h1 : e ≠ low) (h2 : e ≠ low + 1) : letterAt (p.map (sw low)) e = letterAt p e :=
  letter_map (hp.mem.mpr he) hp.nodup (by unfold sw; rw [if_neg h1, if_neg h2]) (fun x _ => sw_lt h2) fun x _ => sw_eq h1 h2
theorem sw_runs (p : List Nat) {low e : Nat} (h2 : e ≠ low + 1) : (runs e (p.map (sw low))).length = (runs e p).length := by rw [runs_cnt, runs_cnt, cnt_map fun x _ => sw_lt h2]
theorem sw_ne {p : List Nat} (hp : IsRow p) {low : Nat} (hlow : low + 1 < p.length) : p.map (sw low) ≠ p := fun h => by
  have hm := hp.mem.mpr (show low < p.length by omega)
  obtain ⟨i, hi, e⟩ := List.getElem_of_mem hm
  have := congrArg (fun l => l[i]?) h
  simp only [List.getElem?_map, List.getElem?_eq_getElem hi, e, Option.map_some] at this
  unfold sw at this
  simp at this
theorem beside_row {p q : List Nat} (hp : IsRow p) (hq : IsRow q) (h : p.length + q.length ≤ 40) : IsRow (besideL p q) := by
  unfold besideL
  refine ⟨?_, by simpa using h⟩
  rw [List.length_append, List.length_map, List.range_add]
  refine hp.perm.append ?_
  have := hq.perm.map (· + p.length)
  refine this.trans (List.Perm.of_eq (List.map_congr_left fun x _ => Nat.add_comm _ _))
theorem under_row {p q : List Nat} (hp : IsRow p) (hq : IsRow q) (h : p.length + q.length ≤ 40) : IsRow (underL p q) := by
  have := beside_row hq hp (by omega)
  unfold underL
  unfold besideL at this
  refine ⟨?_, by simpa using h⟩
  refine List.perm_append_comm.trans (this.perm.trans (List.Perm.of_eq ?_))
  simp [Nat.add_comm]
theorem rev_row {p : List Nat} (hp : IsRow p) : IsRow p.reverse := ⟨by rw [List.length_reverse]; exact (List.reverse_perm p).trans hp.perm, by rw [List.length_reverse]; exact hp.len⟩
end words2

section eval2
variable {w : DS}
@[simp] theorem x_catE (fa fb : Sx) (ρ : List EV) (w : DS) : fCatE fa fb ρ w = (fa ρ w).bind fun d w1 => (fb ρ w1).bind fun e w2 => match d, e with
  | .lst ds, .lst es => if ds.length + es.length ≤ big then .ok (ds ++ es) w2 else .stuck
  | _, _ => .stuck := rfl
@[simp] theorem x_oNone (ρ : List EV) (w : DS) : oNone ρ w = .ok none w := rfl
@[simp] theorem x_oSome (fa : Sx) (ρ : List EV) (w : DS) : oSome fa ρ w = (fa ρ w).bind fun d w1 => match d with
  | .int i => .ok (some i) w1
  | _ => .stuck := rfl
@[simp] theorem x_sl (fa : Sx) (fl fh : List EV → DS → RR (Option Int)) (ρ : List EV) (w : DS) : fSl fa fl fh ρ w = (fa ρ w).bind fun d w1 => (fl ρ w1).bind fun lo w2 => (fh ρ w2).bind fun hi w3 => .of (dSl lo hi d) w3 := rfl
theorem cut_to {ds : List Dv} {n : Nat} (h : n ≤ ds.length) : DL.cutD ds none (some (n : Int)) = ds.take n := by
  unfold DL.cutD
  rw [HT.sIx_none, HT.sIx_nat, Nat.min_eq_left h, List.drop_zero, Nat.sub_zero]
theorem cut_from {ds : List Dv} {n : Nat} (h : n ≤ ds.length) : DL.cutD ds (some (n : Int)) none = ds.drop n := by
  unfold DL.cutD
  rw [HT.sIx_none, HT.sIx_nat, Nat.min_eq_left h]
  exact List.take_of_length_le (by rw [List.length_drop]; exact Nat.le_refl _)
theorem enumD_map {α : Type} (c : α → Dv) : ∀ (l : List α) (k : Nat), enumD k (l.map c) = (l.zipIdx k).map fun z => Dv.tup [.int ((z.2 : Nat) : Int), c z.1]
  | [], k => rfl
  | x :: l, k => by
    show enumD k (c x :: l.map c) = _
    rw [List.zipIdx_cons, List.map_cons, ← enumD_map c l (k + 1)]
    rfl
theorem zipIdx_at {α : Type} {l : List α} {done rest : List (α × Nat)} {z : α × Nat} (h : l.zipIdx = done ++ z :: rest) : z.2 = done.length ∧ l[z.2]? = some z.1 := by
  have hz : l.zipIdx[done.length]? = some z := by rw [h, List.getElem?_append_right (Nat.le_refl _), Nat.sub_self]; rfl
  rw [List.getElem?_zipIdx] at hz
  cases e : l[done.length]? with
  | none => rw [e] at hz; cases hz
  | some x =>
    rw [e] at hz
    have hz : (x, 0 + done.length) = z := Option.some.inj hz
    rw [Nat.zero_add] at hz
    subst hz
    exact ⟨rfl, e⟩
theorem dEq_nat (a b : Nat) : dEq (.int (a : Int)) (.int (b : Int)) = some (.bl (decide (a = b))) := by
  rw [dEq_of (okc_int _) (okc_int _)]
  congr 2
  rw [Bool.eq_iff_iff]
  simp
  omega
/-- a loop that draws -/
theorem loopD_w {α : Type} {k : Sg} {g : Ss} (c : α → Dv) (I : List α → List EV → DS → Prop) : ∀ (l done : List α) (ρ : List EV) (w : DS), I done ρ w → (∀ done x ρ w, x ∈ l → I done ρ w → ∃ ρ1 ρ2 w2, k (c x) ρ = some ρ1 ∧ g ρ1 w = .ok (.nx ρ2) w2 ∧ I (done ++ [x]) ρ2 w2) →
    ∃ ρ' w', loopD k g (l.map c) ρ w = .ok (.nx ρ') w' ∧ I (done ++ l) ρ' w'
  | [], done, ρ, w, h, _ => ⟨ρ, w, rfl, by rw [List.append_nil]; exact h⟩
  | x :: l, done, ρ, w, h, hs => by
    obtain ⟨ρ1, ρ2, w2, h1, h2, h3⟩ := hs done x ρ w List.mem_cons_self h
    obtain ⟨ρ', w', e, hi⟩ := loopD_w c I l (done ++ [x]) ρ2 w2 h3 fun d y ρ w hy => hs d y ρ w (List.mem_cons_of_mem _ hy)
    refine ⟨ρ', w', ?_, by rw [List.append_assoc] at hi; exact hi⟩
    rw [List.map_cons, loopD]
    simp only [h1, h2, RR.bind_ok]
    exact e
end eval2
section putby
variable {w : DS}
def optD : Option Nat → Dv
  | none => .non
  | some x => .int (x : Int)
theorem gapsZ : ∀ (A : List (Option Nat)) (k : Nat), ((A.zipIdx k).filter fun z => z.1.isNone).length = gaps A
  | [], k => rfl
  | x :: A, k => by
    have ih := gapsZ A (k + 1)
    unfold gaps at ih ⊢
    cases x <;> simp [List.zipIdx_cons, ih]
theorem v_put_by {A B : List (Option Nat)} {e : Nat} {k : Kd} (hl : A.length + B.length ≤ 200) : f_put_by [.dat (.lst ((A ++ none :: B).map optD)), .dat (.int (e : Int)), .dat (letD (gaps A, k))] w = .ok (.lst ((A ++ (ownL e k ++ B)).map optD)) w := by
  have hi : fEnum (fVar 0) [.dat (.lst ((A ++ none :: B).map optD)), .dat (.int (e : Int)), .dat (letD (gaps A, k)), .dat (.int (gaps A : Int)), .dat (.str k.s), .un, .un, .un] w = .ok (((A ++ none :: B).zipIdx).map fun z => Dv.tup [.int ((z.2 : Nat) : Int), optD z.1]) w := by
    have := enumD_map optD (A ++ none :: B) 0
    simp only [x_enum, x_var, List.getElem?_cons_zero, RR.bind_ok, x_itemsOf_lst, Option.map_some, RR.of_some, this]
  have ec : fLcW (fEnum (fVar 0)) (kTup 2 (kCons (kName 7) (kCons (kName 6) kNil))) (fBool (fOp (dIsN false) (fVar 6) (fC .non))) (fVar 7) [7, 6] [.dat (.lst ((A ++ none :: B).map optD)), .dat (.int (e : Int)), .dat (letD (gaps A, k)), .dat (.int (gaps A : Int)), .dat (.str k.s), .un, .un, .un] w
      = .ok (((A ++ none :: B).zipIdx.filter fun z => z.1.isNone).map fun z => .int ((z.2 : Nat) : Int)) w := by
    rw [lcW_of (w1 := w) (fun z : Option Nat × Nat => Dv.tup [.int ((z.2 : Nat) : Int), optD z.1]) (fun z => z.1.isNone) (fun z => .int ((z.2 : Nat) : Int)) (A ++ none :: B).zipIdx hi (le_big (by rw [List.length_zipIdx, List.length_append, List.length_cons]; omega)) rfl fun z _ => ⟨_, rfl, ?_, fun _ => by simp [wipeE]⟩]
    have : dIsN false (optD z.1) .non = some (.bl z.1.isNone) := by cases z.1 <;> rfl
    simp [wipeE, this]
  have ei : dSubI (.lst (((A ++ none :: B).zipIdx.filter fun z => z.1.isNone).map fun z => .int ((z.2 : Nat) : Int))) (.int (gaps A : Int)) = some (.int (A.length : Int)) := dSubI_lst (by
    rw [List.zipIdx_append, List.filter_append, List.getElem?_map, List.getElem?_append_right (by rw [gapsZ]; exact Nat.le_refl _), gapsZ, Nat.sub_self, List.zipIdx_cons]
    simp)
  have e3 : dSubI (letD (gaps A, k)) (.int 0) = some (.int (gaps A : Int)) := rfl
  have e4 : dIn false (.str k.s) (.tup [.str "right", .str "split"]) = some (.bl (decide (k = .right ∨ k = .split))) := by cases k <;> rfl
  have e5 : dIn false (.str k.s) (.tup [.str "left", .str "split"]) = some (.bl (decide (k = .left ∨ k = .split))) := by cases k <;> rfl
  have hlen : ((A ++ none :: B).map optD).length = A.length + (B.length + 1) := by rw [List.length_map, List.length_append, List.length_cons]
  have c1 : DL.cutD ((A ++ none :: B).map optD) none (some (A.length : Int)) = A.map optD := by
    rw [cut_to (by omega), List.map_append, List.take_left' (by rw [List.length_map])]
  have c2 : DL.cutD ((A ++ none :: B).map optD) (some ((A.length : Int) + 1)) none = B.map optD := by
    have := cut_from (ds := (A ++ none :: B).map optD) (n := A.length + 1) (by omega)
    rw [show ((A.length : Int) + 1) = ((A.length + 1 : Nat) : Int) by omega, this, List.map_append, List.map_cons, List.drop_append]
    simp
  have d1 : ∀ l, dSl l none (.lst ((A ++ none :: B).map optD)) = some (.lst (DL.cutD ((A ++ none :: B).map optD) l none)) := fun l => rfl
  have d2 : ∀ l, dSl none l (.lst ((A ++ none :: B).map optD)) = some (.lst (DL.cutD ((A ++ none :: B).map optD) none l)) := fun l => rfl
  have ek : kTup 2 (kCons (kName 3) (kCons (kName 4) kNil)) (letD (gaps A, k)) [.dat (.lst ((A ++ none :: B).map optD)), .dat (.int (e : Int)), .dat (letD (gaps A, k)), .un, .un, .un, .un, .un] = some [.dat (.lst ((A ++ none :: B).map optD)), .dat (.int (e : Int)), .dat (letD (gaps A, k)), .dat (.int (gaps A : Int)), .dat (.str k.s), .un, .un, .un] := rfl
  have hb1 : A.length + 1 ≤ big := le_big (by omega)
  have hb2 : A.length + (1 + 1) ≤ big := le_big (by omega)
  have hb3 : A.length + (1 + 1 + 1) ≤ big := le_big (by omega)
  have hc1 : A.length + 1 + B.length ≤ big := le_big (by omega)
  have hc2 : A.length + (1 + 1) + B.length ≤ big := le_big (by omega)
  have hc3 : A.length + (1 + 1 + 1) + B.length ≤ big := le_big (by omega)
  have t3 : 1 + (1 + 1) ≤ big := le_big (by omega)
  generalize (A ++ none :: B).map optD = P at *
  cases k <;> simp [f_put_by, semOf_eq, g_put_by, -x_kTup, ek, ec, ei, e4, e5, d1, d2, c1, c2, ownL, optD, hb1, hb2, hb3, hc1, hc2, hc3, t3]
end putby

section rowby
variable {w : DS}
theorem word_get {p : List Nat} {e : Nat} {l : Nat × Kd} (h : (wordL p)[e]? = some l) : e < p.length ∧ l = letterAt p e := by
  unfold wordL at h
  rw [List.getElem?_map] at h
  have he : e < p.length := by
    rcases Nat.lt_or_ge e p.length with q | q
    · exact q
    · rw [List.getElem?_eq_none (by rw [List.length_range]; exact q)] at h; cases h
  rw [List.getElem?_range he] at h
  exact ⟨he, (Option.some.inj h).symm⟩
theorem word_len (p : List Nat) : (wordL p).length = p.length := by unfold wordL; rw [List.length_map, List.length_range]
theorem okn_let (l : Nat × Kd) : okn 1 (letD l) := okn_tup (n := 0) fun d hd => by
  rcases List.mem_cons.mp hd with rfl | hd
  · exact okn_int _
  · rw [List.mem_singleton.mp hd]; exact okn_str (kd_ok _)
theorem okn_word (ls : List (Nat × Kd)) : okn 2 (wordD ls) := okn_tup fun d hd => by
  obtain ⟨l, _, rfl⟩ := List.mem_map.mp hd
  exact okn_let l
theorem comp_len {p : List Nat} (e : Nat) : ∀ (l : List Nat) (o : Bool), (comp e o l).length ≤ l.length
  | [], _ => Nat.le_refl _
  | x :: l, o => by
    have i1 := comp_len e (p := p) l false
    have i2 := comp_len e (p := p) l true
    unfold comp
    split
    · simpa using i1
    · split
      · simp only [List.length_cons]; omega
      · simpa using i2
theorem v_row_by {p : List Nat} (hp : IsRow p) (h0 : p ≠ []) : f_row_by [.dat (wordD (wordL p))] w = .ok (rowD p) w := by
  have hl := hp.len
  have hw0 : wordL p ≠ [] := fun h => by have := word_len p; rw [h] at this; exact h0 (List.length_eq_zero_iff.mp this.symm)
  have e1 : dNe (wordD (wordL p)) (.tup []) = some (.bl true) := by
    rw [dNe_of (okn_word _).c (okn_tup (n := 0) (ds := []) fun d hd => nomatch hd).c]
    simp [wordD, hw0]
  obtain ⟨ρ', e2, a, b, rfl⟩ := loopD_at (k := kTup 2 (kCons (kName 2) (kCons (kName 3) kNil))) (g := b_row_by_1) (w := w) (fun z : (Nat × Kd) × Nat => Dv.tup [.int ((z.2 : Nat) : Int), letD z.1]) (wordL p).zipIdx
    (fun done ρ => ∃ a b, ρ = [.dat (wordD (wordL p)), .dat (.lst ((comp done.length false p).map optD)), a, b]) (fun done z rest ρ hsp ⟨a, b, hr⟩ => by
      subst hr
      obtain ⟨z1, z2⟩ := zipIdx_at hsp
      obtain ⟨he, hz⟩ := word_get z2
      obtain ⟨A, B, c1, c2, c3⟩ := comp_split hp he
      have hlen : A.length + B.length ≤ 200 := by
        have := comp_len (p := p) z.2 p false
        rw [c1, List.length_append, List.length_cons] at this
        omega
      refine ⟨_, [.dat (wordD (wordL p)), .dat (.lst ((comp (done ++ [z]).length false p).map optD)), .dat (.int (z.2 : Int)), .dat (letD z.1)], rfl, ?_, _, _, rfl⟩
      have hput := v_put_by (w := w) (A := A) (B := B) (e := z.2) (k := (letterAt p z.2).2) hlen
      have hlet : (gaps A, (letterAt p z.2).2) = z.1 := by rw [hz, c3]
      rw [hlet] at hput
      rw [List.length_append, List.length_singleton, ← z1, c2, u_b_row_by_1]
      rw [← c1] at hput
      show gSet 1 _ [.dat (wordD (wordL p)), .dat (.lst ((comp z.2 false p).map optD)), .dat (.int (z.2 : Int)), .dat (letD z.1)] w = _
      simp [hput]) (wordL p).zipIdx [] [.dat (wordD (wordL p)), .dat (.lst ((comp 0 false p).map optD)), .un, .un] rfl ⟨_, _, rfl⟩
  rw [List.length_zipIdx, word_len, comp_all hp, comp_zero h0] at e2
  have e3 : (p.map some).map optD = natD p := by rw [List.map_map]; rfl
  rw [e3] at e2
  have e4 : [(none : Option Nat)].map optD = [.non] := rfl
  rw [e4] at e2
  have e5 := enumD_map letD (wordL p) 0
  have e6 : itemsOf (wordD (wordL p)) = some ((wordL p).map letD) := rfl
  simp [f_row_by, semOf_eq, g_row_by, e1, e6, e5, e2, row_fold]
theorem v_row_of_word {p : List Nat} (hp : IsRow p) (h0 : p ≠ []) : f_row_of_word [.dat (wordD (wordL p))] w = .ok (rowD p) w := by
  have hl := hp.len
  have hw0 : wordL p ≠ [] := fun h => by have := word_len p; rw [h] at this; exact h0 (List.length_eq_zero_iff.mp this.symm)
  have e1 := v_is_word (w := w) hw0 (by rw [word_len]; exact hl) (total_word hp h0) (okn_word _).c
  simp [f_row_of_word, semOf_eq, g_row_of_word, e1, v_row_by hp h0]
theorem word_inj {p q : List Nat} (hp : IsRow p) (hq : IsRow q) (h0 : p ≠ []) (h1 : q ≠ []) (h : wordL p = wordL q) : p = q := by
  have e1 := v_row_by (w := default) hp h0
  rw [h, v_row_by hq h1] at e1
  have : rowD q = rowD p := by injection e1
  exact (rowD_inj.mp this).symm
end rowby

section lawwords
variable {w : DS}
theorem zipIdx_word (p : List Nat) {β : Type} (g : (Nat × Kd) × Nat → β) : (wordL p).zipIdx.map g = (List.range p.length).map fun e => g (letterAt p e, e) := by
  apply List.ext_getElem?
  intro e
  rw [List.getElem?_map, List.getElem?_zipIdx, List.getElem?_map]
  by_cases h : e < p.length
  · have : (wordL p)[e]? = some (letterAt p e) := by unfold wordL; rw [List.getElem?_map, List.getElem?_range h]; rfl
    rw [this, List.getElem?_range h]
    simp
  · rw [List.getElem?_eq_none (by rw [word_len]; omega), List.getElem?_eq_none (by rw [List.length_range]; omega)]
    rfl
/-- the letters of a row beside another one -/
def besideW (p : List Nat) (z : (Nat × Kd) × Nat) : Nat × Kd := if p.getLast? = some z.2 then (z.1.1, openKind z.1.2) else z.1
theorem word_beside {p q : List Nat} (hp : IsRow p) (hq : IsRow q) (hp0 : p ≠ []) (hq0 : q ≠ []) : wordL (besideL p q) = (wordL p).zipIdx.map (besideW p) ++ wordL q := by
  rw [zipIdx_word]
  have e1 : wordL (besideL p q) = (List.range p.length).map (letterAt (besideL p q)) ++ (List.range q.length).map fun x => letterAt (besideL p q) (p.length + x) := by
    unfold wordL
    rw [show (besideL p q).length = p.length + q.length by unfold besideL; rw [List.length_append, List.length_map], List.range_add, List.map_append, List.map_map]
    rfl
  rw [e1]
  congr 1
  · refine List.map_congr_left fun e he => ?_
    rw [beside_low hp hq0 (List.mem_range.mp he)]
    rfl
  · refine List.map_congr_left fun x hx => beside_high hp hp0 hq (List.mem_range.mp hx)
def underW (q : List Nat) (z : (Nat × Kd) × Nat) : Nat × Kd := match q.head? with
  | some f => if f = z.2 then (z.1.1, openKindR z.1.2) else (z.1.1 + (if f < z.2 then 1 else 0), z.1.2)
  | none => z.1
theorem word_under {p q : List Nat} (hp : IsRow p) (hq : IsRow q) (hp0 : p ≠ []) (hq0 : q ≠ []) : wordL (underL p q) = (wordL q).zipIdx.map (underW q) ++ wordL p := by
  rw [zipIdx_word]
  have e1 : wordL (underL p q) = (List.range q.length).map (letterAt (underL p q)) ++ (List.range p.length).map fun x => letterAt (underL p q) (q.length + x) := by
    unfold wordL
    rw [show (underL p q).length = q.length + p.length by unfold underL; rw [List.length_append, List.length_map]; omega, List.range_add, List.map_append, List.map_map]
    rfl
  rw [e1]
  congr 1
  · refine List.map_congr_left fun e he => ?_
    unfold underW
    cases hf : q.head? with
    | none => rw [List.head?_eq_none_iff] at hf; exact (hq0 hf).elim
    | some f => rw [under_low hp0 hq (List.mem_range.mp he) hf]
  · refine List.map_congr_left fun x hx => under_high hp hq (List.mem_range.mp hx)
theorem dEq_fill (k : Kd) : dEq (.str k.s) (.str "fill") = some (.bl (decide (k = .fill))) := dEq_kd k .fill
theorem v_law_beside_word {p q : List Nat} (hp : IsRow p) (hq : IsRow q) (hp0 : p ≠ []) (hq0 : q ≠ []) : f__law_beside_word [.dat (rowD p), .dat (rowD q)] w = .ok (wordD (wordL (besideL p q))) w := by
  have hl := hp.len
  have hlq := hq.len
  obtain ⟨u, hu⟩ : ∃ u, p.getLast? = some u := by
    cases h : p.getLast? with
    | none => exact (hp0 (List.getLast?_eq_none_iff.mp h)).elim
    | some u => exact ⟨u, rfl⟩
  have hlast : dSubI (rowD p) (.int (-1)) = some (.int (u : Int)) := dSubI_tupL (by unfold natD; rw [List.getLast?_map, hu]; rfl)
  obtain ⟨ρ', e2, a, b, c, rfl⟩ := loopD_at (k := kTup 2 (kCons (kName 3) (kCons (kTup 2 (kCons (kName 4) (kCons (kName 5) kNil))) kNil))) (g := b__law_beside_word_1) (w := w) (fun z : (Nat × Kd) × Nat => Dv.tup [.int ((z.2 : Nat) : Int), letD z.1]) (wordL p).zipIdx
    (fun done ρ => ∃ a b c, ρ = [.dat (rowD p), .dat (rowD q), .lst ((done.map (besideW p)).map letD), a, b, c]) (fun done z rest ρ hsp ⟨a, b, c, hr⟩ => by
      subst hr
      obtain ⟨z1, z2⟩ := zipIdx_at hsp
      obtain ⟨he, hz⟩ := word_get z2
      have hd : done.length < big := Nat.lt_of_lt_of_le (show done.length < 1000 by omega) (by decide)
      refine ⟨_, [.dat (rowD p), .dat (rowD q), .lst (((done ++ [z]).map (besideW p)).map letD), .dat (.int (z.2 : Int)), .dat (.int (z.1.1 : Int)), .dat (.str (besideW p z).2.s)], rfl, ?_, _, _, _, rfl⟩
      rw [u_b__law_beside_word_1]
      show gSeq _ _ [.dat (rowD p), .dat (rowD q), .lst ((done.map (besideW p)).map letD), .dat (.int (z.2 : Int)), .dat (.int (z.1.1 : Int)), .dat (.str z.1.2.s)] w = _
      obtain ⟨⟨s, k⟩, e⟩ := z
      have e3 := dEq_nat u e
      have e4 := dEq_fill k
      have kf : ∀ (a : Nat) (b : Kd), Dv.tup [.int (a : Int), .str b.s] = letD (a, b) := fun a b => rfl
      by_cases h1 : u = e
      · subst h1
        have h2 : besideW p ((s, k), u) = (s, openKind k) := if_pos hu
        rw [List.map_append, List.map_append, List.map_singleton, List.map_singleton, h2]
        have k1 : Dv.tup [.int (s : Int), .str "left"] = letD (s, .left) := rfl
        have k2 : Dv.tup [.int (s : Int), .str "split"] = letD (s, .split) := rfl
        cases k <;> simp [hlast, e3, e4, hd, openKind, k1, k2] <;> rfl
      · have h2 : besideW p ((s, k), e) = (s, k) := if_neg (by rw [hu]; simpa using h1)
        rw [List.map_append, List.map_append, List.map_singleton, List.map_singleton, h2]
        simp [hlast, e3, h1, hd, kf]) (wordL p).zipIdx [] [.dat (rowD p), .dat (rowD q), .lst [], .un, .un, .un] rfl ⟨_, _, _, rfl⟩
  have e5 := enumD_map letD (wordL p) 0
  have e6 : itemsOf (wordD (wordL p)) = some ((wordL p).map letD) := rfl
  have e7 : dAdd (.tup (((wordL p).zipIdx.map (besideW p)).map letD)) (wordD (wordL q)) = some (wordD (wordL (besideL p q))) := by
    show (if _ then _ else _) = _
    rw [if_pos (by simp only [List.length_map, List.length_zipIdx, word_len]; exact le_big (by omega)), word_beside hp hq hp0 hq0]
    unfold wordD
    rw [List.map_append]
  simp [f__law_beside_word, semOf_eq, g__law_beside_word, v_word_of hp, v_word_of hq, e5, e6, e2, e7, -List.map_map]
theorem v_law_under_word {p q : List Nat} (hp : IsRow p) (hq : IsRow q) (hp0 : p ≠ []) (hq0 : q ≠ []) : f__law_under_word [.dat (rowD p), .dat (rowD q)] w = .ok (wordD (wordL (underL p q))) w := by
  have hl := hp.len
  have hlq := hq.len
  obtain ⟨u, hu⟩ : ∃ u, q.head? = some u := by
    cases h : q.head? with
    | none => exact (hq0 (List.head?_eq_none_iff.mp h)).elim
    | some u => exact ⟨u, rfl⟩
  have hfirst : dSubI (rowD q) (.int 0) = some (.int (u : Int)) := dSubI_tup (i := 0) (by rw [natD_get, ← List.head?_eq_getElem?, hu]; rfl)
  obtain ⟨ρ', e2, a, b, c, rfl⟩ := loopD_at (k := kTup 2 (kCons (kName 3) (kCons (kTup 2 (kCons (kName 4) (kCons (kName 5) kNil))) kNil))) (g := b__law_under_word_1) (w := w) (fun z : (Nat × Kd) × Nat => Dv.tup [.int ((z.2 : Nat) : Int), letD z.1]) (wordL q).zipIdx
    (fun done ρ => ∃ a b c, ρ = [.dat (rowD p), .dat (rowD q), .lst ((done.map (underW q)).map letD), a, b, c]) (fun done z rest ρ hsp ⟨a, b, c, hr⟩ => by
      subst hr
      obtain ⟨z1, z2⟩ := zipIdx_at hsp
      obtain ⟨he, hz⟩ := word_get z2
      have hd : done.length < big := Nat.lt_of_lt_of_le (show done.length < 1000 by omega) (by decide)
      refine ⟨_, [.dat (rowD p), .dat (rowD q), .lst (((done ++ [z]).map (underW q)).map letD), .dat (.int (z.2 : Int)), .dat (.int (z.1.1 : Int)), .dat (.str z.1.2.s)], rfl, ?_, _, _, _, rfl⟩
      rw [u_b__law_under_word_1]
      show gIf _ _ _ [.dat (rowD p), .dat (rowD q), .lst ((done.map (underW q)).map letD), .dat (.int (z.2 : Int)), .dat (.int (z.1.1 : Int)), .dat (.str z.1.2.s)] w = _
      obtain ⟨⟨s, k⟩, e⟩ := z
      have e3 := dEq_nat u e
      have e4 := dEq_fill k
      have kf : ∀ (a : Nat) (b : Kd), Dv.tup [.int (a : Int), .str b.s] = letD (a, b) := fun a b => rfl
      rw [List.map_append, List.map_append, List.map_singleton, List.map_singleton]
      by_cases h1 : u = e
      · subst h1
        have h2 : underW q ((s, k), u) = (s, openKindR k) := by unfold underW; rw [hu]; exact if_pos rfl
        rw [h2]
        have k1 : Dv.tup [.int (s : Int), .str "right"] = letD (s, .right) := rfl
        have k2 : Dv.tup [.int (s : Int), .str "split"] = letD (s, .split) := rfl
        cases k <;> simp [hfirst, e3, e4, hd, openKindR, k1, k2]
      · by_cases h3 : u < e
        · have h2 : underW q ((s, k), e) = (s + 1, k) := by unfold underW; rw [hu]; show (if _ then _ else _) = _; rw [if_neg h1, if_pos h3]
          have h4 : (u : Int) < (e : Int) := by omega
          have h5 : Dv.tup [.int ((s : Int) + 1), .str k.s] = letD (s + 1, k) := rfl
          rw [h2]
          simp [hfirst, e3, h1, h4, hd, h5]
        · have h2 : underW q ((s, k), e) = (s, k) := by unfold underW; rw [hu]; show (if _ then _ else _) = _; rw [if_neg h1, if_neg h3]; rfl
          have h4 : ¬ (u : Int) < (e : Int) := by omega
          rw [h2]
          simp [hfirst, e3, h1, h4, hd, kf]) (wordL q).zipIdx [] [.dat (rowD p), .dat (rowD q), .lst [], .un, .un, .un] rfl ⟨_, _, _, rfl⟩
  have e5 := enumD_map letD (wordL q) 0
  have e6 : itemsOf (wordD (wordL q)) = some ((wordL q).map letD) := rfl
  have e7 : dAdd (.tup (((wordL q).zipIdx.map (underW q)).map letD)) (wordD (wordL p)) = some (wordD (wordL (underL p q))) := by
    show (if _ then _ else _) = _
    rw [if_pos (by simp only [List.length_map, List.length_zipIdx, word_len]; exact le_big (by omega)), word_under hp hq hp0 hq0]
    unfold wordD
    rw [List.map_append]
  simp [f__law_under_word, semOf_eq, g__law_under_word, v_word_of hp, v_word_of hq, e5, e6, e2, e7, -List.map_map]
def kindsD : Dv := .dct [(.str "fill", .str "fill"), (.str "left", .str "right"), (.str "right", .str "left"), (.str "split", .str "split")]
theorem x_kinds (ρ : List EV) (w : DS) : fDisp (pCons (fC (.str "fill")) (fC (.str "fill")) (pCons (fC (.str "left")) (fC (.str "right")) (pCons (fC (.str "right")) (fC (.str "left")) (pCons (fC (.str "split")) (fC (.str "split")) pNil)))) ρ w = .ok kindsD w := rfl
theorem v_law_back_word {p : List Nat} (hp : IsRow p) : f__law_back_word [.dat (rowD p)] w = .ok (wordD (wordL p.reverse)) w := by
  have hl := hp.len
  have hi : fEnum (fCall f_word_of (aCons (fVar 0) aNil)) [.dat (rowD p), .dat kindsD, .dat (rowD (slotsL p)), .un, .un] w = .ok ((wordL p).zipIdx.map fun z => Dv.tup [.int ((z.2 : Nat) : Int), letD z.1]) w := by
    have e5 := enumD_map letD (wordL p) 0
    have e6 : itemsOf (wordD (wordL p)) = some ((wordL p).map letD) := rfl
    simp [v_word_of hp, e5, e6]
  have ec : fLcW (fEnum (fCall f_word_of (aCons (fVar 0) aNil))) (kTup 2 (kCons (kName 3) (kCons (kName 4) kNil))) fYes (fTup (aCons (fOp (dI fun i j => .int (i - j)) (fOp (dI fun i j => .int (i - j)) (fOp dSubI (fVar 2) (fVar 3)) (fC (.int 1))) (fOp dSubI (fVar 4) (fC (.int 0)))) (aCons (fOp dSubI (fVar 1) (fOp dSubI (fVar 4) (fC (.int 1)))) aNil))) [3, 4] [.dat (rowD p), .dat kindsD, .dat (rowD (slotsL p)), .un, .un] w = .ok ((wordL p.reverse).map letD) w := by
    rw [lcW_of (w1 := w) (fun z : (Nat × Kd) × Nat => Dv.tup [.int ((z.2 : Nat) : Int), letD z.1]) (fun _ => true) (fun z => letD (letterAt p.reverse z.2)) (wordL p).zipIdx hi (le_big (by rw [List.length_zipIdx, word_len]; omega)) rfl fun z hz => ⟨_, rfl, rfl, fun _ => ?_⟩]
    · rw [List.filter_eq_self.mpr fun _ _ => rfl]
      congr 1
      rw [zipIdx_word]
      unfold wordL
      rw [List.length_reverse, List.map_map]
      rfl
    · have z2 : (wordL p)[z.2]? = some z.1 := by simpa using List.mem_zipIdx_iff_getElem?.mp hz
      obtain ⟨he, hz1⟩ := word_get z2
      obtain ⟨b1, b2⟩ := back_letter hp he
      rw [← hz1] at b1 b2
      obtain ⟨⟨s, k⟩, e⟩ := z
      have h1 : dSubI (rowD (slotsL p)) (.int (e : Int)) = some (.int ((runs e p).length : Int)) := dSubI_tup (by
        rw [natD_get]; unfold slotsL
        rw [List.getElem?_map, List.getElem?_range (by show e < _; exact Nat.lt_succ_of_lt he)]; rfl)
      have h2 : dSubI (letD (s, k)) (.int 0) = some (.int (s : Int)) := rfl
      have h3 : dSubI (letD (s, k)) (.int 1) = some (.str k.s) := rfl
      have h4 : dSubI kindsD (.str k.s) = some (.str (backKind k).s) := by cases k <;> rfl
      have h5 : Dv.tup [.int (((runs e p).length : Int) - 1 - (s : Int)), .str (backKind k).s] = letD ((runs e p).length - 1 - s, backKind k) := by
        unfold letD
        have b2 : s < (runs e p).length := b2
        rw [show (((runs e p).length : Int) - 1 - (s : Int)) = (((runs e p).length - 1 - s : Nat) : Int) by omega]
      have b1 : letterAt p.reverse e = ((runs e p).length - 1 - s, backKind k) := b1
      simp [wipeE, h1, h2, h3, h4, h5, b1]
  simp [f__law_back_word, semOf_eq, g__law_back_word, x_kinds, v_open_slots hp, ec]
  rfl
end lawwords

section exch
variable {w : DS}
theorem dNe_same {d : Dv} (h : okc d) : dNe d d = some (.bl false) := by rw [dNe_of h h]; simp
theorem szAll_lets (l : List (Nat × Kd)) : szAll (l.map letD) = l.length * 3 := by
  induction l with
  | nil => rfl
  | cons x l ih =>
    show szD (letD x) + szAll (l.map letD) = _
    rw [ih, List.length_cons]
    have : szD (letD x) = 3 := rfl
    omega
theorem szAll_nats (l : List Nat) : szAll (natD l) = l.length := by
  induction l with
  | nil => rfl
  | cons x l ih =>
    show 1 + szAll (natD l) = _
    rw [ih, List.length_cons]; omega
theorem same_word {ls : List (Nat × Kd)} (h : ls.length ≤ 100) : f__law_same [.dat (wordD ls), .dat (wordD ls)] w = .ok (.bl true) w :=
  v_same ((okn_word ls).le (by decide)) (by show szAll (ls.map letD) + 1 ≤ _; rw [szAll_lets]; omega)
theorem okn_row (p : List Nat) : okn 1 (rowD p) := okn_tup okn_natD
theorem same_row {p : List Nat} (h : p.length ≤ 100) : f__law_same [.dat (rowD p), .dat (rowD p)] w = .ok (.bl true) w :=
  v_same ((okn_row p).le (by decide)) (by show szAll (natD p) + 1 ≤ _; rw [szAll_nats]; omega)
theorem dIn_low {e low : Nat} : dIn true (.int (e : Int)) (.lst [.int (low : Int), .int ((low : Int) + 1)]) = some (.bl (decide (e ≠ low ∧ e ≠ low + 1))) := by
  show some (Dv.bl (!inV (V.int (e : Int)) [V.int (low : Int), V.int ((low : Int) + 1)])) = _
  congr 2
  rw [Bool.eq_iff_iff]
  simp [inV, eqV]
  omega
theorem v_exchange {p : List Nat} (hp : IsRow p) (h1 : 1 < p.length) (h2 : 0 ≤ w.turn) (h3 : w.turn + 1 < most) : ∃ w', Adv 1 w w' ∧ f__law_exchange_right [.drw, .dat (rowD p)] w = .ok (.bl true) w' := by
  have hl := hp.len
  obtain ⟨low, w', hlow, ad, ed⟩ := v_draw (w := w) (n := p.length - 1) (by omega) (by unfold most; omega) h2 (by omega)
  rw [show (((p.length - 1 : Nat)) : Int) = (p.length : Int) - 1 by omega] at ed
  have hlow' : low + 1 < p.length := by omega
  have hq := sw_row hp hlow'
  have hp0 : p ≠ [] := fun h => by rw [h] at h1; exact absurd h1 (by decide)
  have hq0 : p.map (sw low) ≠ [] := by simpa using hp0
  have hne : wordL (p.map (sw low)) ≠ wordL p := fun h => sw_ne hp hlow' (word_inj hq hp hq0 hp0 h)
  refine ⟨w', ad, ?_⟩
  have dq : ∀ a : Nat, dEq (.int (a : Int)) (.int ((low : Int) + 1)) = some (.bl (decide (a = low + 1))) := fun a => dEq_nat a (low + 1)
  have ec1 : fLcW (fItems (fVar 1)) (kName 8) fYes (fIf (fBool (fOp dEq (fVar 8) (fVar 2))) (fOp dAdd (fVar 2) (fC (.int 1))) (fIf (fBool (fOp dEq (fVar 8) (fOp dAdd (fVar 2) (fC (.int 1))))) (fVar 2) (fVar 8))) [8] [.drw, .dat (rowD p), .dat (.int (low : Int)), .un, .un, .un, .un, .un, .un, .un] w' = .ok (natD (p.map (sw low))) w' := by
    rw [lcW_of (w1 := w') (fun x : Nat => Dv.int (x : Int)) (fun _ => true) (fun x => .int ((sw low x : Nat) : Int)) p rfl (le_big (by omega)) rfl fun x _ => ⟨_, rfl, rfl, fun _ => ?_⟩]
    · rw [List.filter_eq_self.mpr fun _ _ => rfl]
      congr 1
      unfold natD; rw [List.map_map]; rfl
    · have d1 := dEq_nat x low
      have d2 := dq x
      rcases sw_cases low x with ⟨a, b⟩ | ⟨a, b⟩ | ⟨a, b, c⟩
      · subst a
        simp [wipeE, d1, b]
      · have c1 : ¬ x = low := by omega
        rw [decide_eq_false c1] at d1
        rw [decide_eq_true a] at d2
        simp [wipeE, d1, d2, b]
      · simp [wipeE, d1, d2, a, b, c]
  have ir : ∀ (ρ : List EV) (n : Nat), n ≤ 100 → okI (n : Int) := fun ρ n h => by unfold okI; omega
  have ec2 : fLcW (fIr1 (fCB dLen (aCons (fVar 1) aNil))) (kName 9) (fAnd (fBool (fOp (dIn true) (fVar 9) (fFrz (fLst (aCons (fVar 2) (aCons (fOp dAdd (fVar 2) (fC (.int 1))) aNil)))))) (fBool (fOp dNe (fOp dSubI (fVar 4) (fVar 9)) (fOp dSubI (fVar 5) (fVar 9))))) (fC (.int 1)) [9]
      [.drw, .dat (rowD p), .dat (.int (low : Int)), .dat (rowD (p.map (sw low))), .dat (wordD (wordL p)), .dat (wordD (wordL (p.map (sw low)))), .dat (rowD (slotsL p)), .dat (rowD (slotsL (p.map (sw low)))), .un, .un] w' = .ok [] w' := by
    rw [lcW_of (w1 := w') (fun x : Nat => Dv.int (x : Int)) (fun _ => false) (fun x => .int 1) (List.range p.length) (by simp [ir [] p.length (by omega), rgD_nat]; rfl) (le_big (by rw [List.length_range]; omega)) rfl fun x hx => ⟨_, rfl, ?_, fun h => nomatch h⟩]
    · rw [List.filter_eq_nil_iff.mpr (by simp)]; rfl
    · have hx := List.mem_range.mp hx
      have d1 := dIn_low (e := x) (low := low)
      have g : ∀ q : List Nat, x < q.length → dSubI (wordD (wordL q)) (.int (x : Int)) = some (letD (letterAt q x)) := fun q hq => dSubI_tup (by unfold wordL; rw [List.getElem?_map, List.getElem?_map, List.getElem?_range hq]; rfl)
      have g1 := g p hx
      have g2 := g (p.map (sw low)) (by simpa using hx)
      by_cases q : x ≠ low ∧ x ≠ low + 1
      · rw [sw_letter hp hx q.1 q.2] at g2
        have d2 := dNe_same (okn_let (letterAt p x)).c
        simp [wipeE, d1, q, g1, g2, d2]
      · rw [decide_eq_false q] at d1
        simp [wipeE, d1]
  have ec3 : fLcW (fIr1 (fOp dAdd (fCB dLen (aCons (fVar 1) aNil)) (fC (.int 1)))) (kName 9) (fAnd (fBool (fOp dNe (fVar 9) (fOp dAdd (fVar 2) (fC (.int 1))))) (fBool (fOp dNe (fOp dSubI (fVar 6) (fVar 9)) (fOp dSubI (fVar 7) (fVar 9))))) (fC (.int 1)) [9]
      [.drw, .dat (rowD p), .dat (.int (low : Int)), .dat (rowD (p.map (sw low))), .dat (wordD (wordL p)), .dat (wordD (wordL (p.map (sw low)))), .dat (rowD (slotsL p)), .dat (rowD (slotsL (p.map (sw low)))), .un, .un] w' = .ok [] w' := by
    have hi : fIr1 (fOp dAdd (fCB dLen (aCons (fVar 1) aNil)) (fC (.int 1))) [.drw, .dat (rowD p), .dat (.int (low : Int)), .dat (rowD (p.map (sw low))), .dat (wordD (wordL p)), .dat (wordD (wordL (p.map (sw low)))), .dat (rowD (slotsL p)), .dat (rowD (slotsL (p.map (sw low)))), .un, .un] w' = .ok ((List.range (p.length + 1)).map fun x : Nat => Dv.int (x : Int)) w' := by
      have e := rgD_nat (p.length + 1)
      have e2 : (((p.length + 1 : Nat)) : Int) = (p.length : Int) + 1 := by omega
      have ho := ir [] (p.length + 1) (by omega)
      rw [e2] at e ho
      simp [ho, e]
      rfl
    rw [lcW_of (w1 := w') (fun x : Nat => Dv.int (x : Int)) (fun _ => false) (fun x => .int 1) (List.range (p.length + 1)) hi (le_big (by rw [List.length_range]; omega)) rfl fun x hx => ⟨_, rfl, ?_, fun h => nomatch h⟩]
    · rw [List.filter_eq_nil_iff.mpr (by simp)]; rfl
    · have hx := List.mem_range.mp hx
      have g : ∀ q : List Nat, x < q.length + 1 → dSubI (rowD (slotsL q)) (.int (x : Int)) = some (.int ((runs x q).length : Int)) := fun q hq => dSubI_tup (by
        rw [natD_get]; unfold slotsL
        rw [List.getElem?_map, List.getElem?_range hq]; rfl)
      have g1 := g p hx
      have g2 := g (p.map (sw low)) (by simpa using hx)
      have dn : ∀ a b : Nat, dNe (.int (a : Int)) (.int (b : Int)) = some (.bl (!decide (a = b))) := fun a b => by
        rw [dNe_of (okc_int _) (okc_int _)]
        congr 3
        rw [Bool.eq_iff_iff]
        simp
        omega
      have d1 : dNe (.int (x : Int)) (.int ((low : Int) + 1)) = some (.bl (!decide (x = low + 1))) := dn x (low + 1)
      by_cases q : x = low + 1
      · rw [decide_eq_true q] at d1
        simp [wipeE, d1]
      · rw [sw_runs p q] at g2
        have d2 := dNe_same (okc_int ((runs x p).length : Int))
        simp [wipeE, d1, q, g1, g2, d2]
  have e4 : dNe (.lst []) (.lst []) = some (.bl false) := dNe_same (okn_lst (n := 0) (ds := []) fun d hd => nomatch hd).c
  have e5 : dNe (wordD (wordL (p.map (sw low)))) (wordD (wordL p)) = some (.bl true) := by
    have hinj : ∀ a b : List (Nat × Kd), wordD a = wordD b → a = b := fun a b h => by
      have h := Dv.tup.inj h
      refine (List.map_inj_right (f := letD) (fun x y e => ?_)).mp h
      obtain ⟨a, k⟩ := x
      obtain ⟨b, m⟩ := y
      unfold letD at e
      simp only [Dv.tup.injEq, List.cons.injEq, Dv.int.injEq, Dv.str.injEq, and_true, kd_inj] at e
      rw [Int.ofNat.inj e.1, e.2]
    rw [dNe_of (okn_word _).c (okn_word _).c]
    have : wordD (wordL (p.map (sw low))) ≠ wordD (wordL p) := fun h => hne (hinj _ _ h)
    simp [this]
  have e6 := same_row (w := w') (p := p.map (sw low)) (by rw [List.length_map]; omega)
  have e7 := v_row_of_word (w := w') hq hq0
  have ek : ∀ a b : Dv, kTup 2 (kCons (kName 4) (kCons (kName 5) kNil)) (.tup [a, b]) [.drw, .dat (rowD p), .dat (.int (low : Int)), .dat (rowD (p.map (sw low))), .un, .un, .un, .un, .un, .un] = some [.drw, .dat (rowD p), .dat (.int (low : Int)), .dat (rowD (p.map (sw low))), .dat a, .dat b, .un, .un, .un, .un] := fun a b => rfl
  simp [f__law_exchange_right, semOf_eq, g__law_exchange_right, ed, ec1, row_fold, v_word_of hp, v_word_of hq, v_open_slots hp, v_open_slots hq, ec2, ec3, e4, e5, e6, e7]
end exch

section fams
variable {w : DS}
theorem perm_of_sub : ∀ {l m : List Nat}, l.Nodup → (∀ x ∈ l, x ∈ m) → m.length ≤ l.length → l.Perm m
  | [], m, _, _, hl => by rw [List.length_eq_zero_iff.mp (Nat.le_zero.mp hl)]
  | x :: l, m, h, hs, hl => by
    rw [List.nodup_cons] at h
    obtain ⟨a, b, rfl⟩ := List.append_of_mem (hs x List.mem_cons_self)
    have ih := perm_of_sub (l := l) (m := a ++ b) h.2 (fun y hy => by
      have := hs y (List.mem_cons_of_mem _ hy)
      have hne : y ≠ x := fun e => h.1 (by rw [← e]; exact hy)
      simp only [List.mem_append, List.mem_cons] at this ⊢
      rcases this with z | z | z
      · exact .inl z
      · exact (hne z).elim
      · exact .inr z) (by simp only [List.length_append, List.length_cons] at hl ⊢; omega)
    exact (ih.cons x).trans List.perm_middle.symm
theorem nodup_map {f : Nat → Nat} : ∀ {l : List Nat}, (∀ a ∈ l, ∀ b ∈ l, f a = f b → a = b) → l.Nodup → (l.map f).Nodup
  | [], _, _ => List.nodup_nil
  | x :: l, h, hn => by
    rw [List.nodup_cons] at hn
    rw [List.map_cons, List.nodup_cons]
    refine ⟨fun z => ?_, nodup_map (fun a ha b hb => h a (List.mem_cons_of_mem _ ha) b (List.mem_cons_of_mem _ hb)) hn.2⟩
    obtain ⟨y, hy, e⟩ := List.mem_map.mp z
    rw [h y (List.mem_cons_of_mem _ hy) x List.mem_cons_self e] at hy
    exact hn.1 hy
theorem dEq_str {a b : Str} (ha : PyData.strOk a = true) (hb : PyData.strOk b = true) : dEq (.str a) (.str b) = some (.bl (decide (a = b))) := by
  rw [dEq_of (okc_str ha) (okc_str hb)]
  congr 2
  rw [Bool.eq_iff_iff]
  simp
theorem dEq_str' {a b : Str} {c : Bool} (ha : PyData.strOk a = true) (hb : PyData.strOk b = true) (h : decide (a = b) = c) : dEq (.str a) (.str b) = some (.bl c) := by rw [dEq_str ha hb, h]
theorem invP_len (p : List Nat) : (invP p).length = p.length := by unfold invP; rw [List.length_map, List.length_range]
theorem invP_row {p : List Nat} (h : IsRow p) : IsRow (invP p) := by
  refine ⟨?_, by rw [invP_len]; exact h.len⟩
  rw [invP_len]
  have h2 : (invP p).Nodup := by
    unfold invP
    refine nodup_map (fun a ha b hb hab => ?_) List.nodup_range
    have ha := h.mem.mpr (List.mem_range.mp ha)
    have hb := h.mem.mpr (List.mem_range.mp hb)
    have e1 := List.getElem_idxOf (List.idxOf_lt_length_iff.mpr ha)
    have e2 := List.getElem_idxOf (List.idxOf_lt_length_iff.mpr hb)
    rw [← e1, ← e2]
    simp only [hab]
  have h3 : ∀ x ∈ invP p, x ∈ List.range p.length := fun x hx => by
    unfold invP at hx
    obtain ⟨e, he, rfl⟩ := List.mem_map.mp hx
    exact List.mem_range.mpr (List.idxOf_lt_length_iff.mpr (h.mem.mpr (List.mem_range.mp he)))
  exact perm_of_sub h2 h3 (by rw [invP_len, List.length_range]; exact Nat.le_refl _)
theorem v_swappedL {p : List Nat} (h : IsRow p) : f__law_swapped [.dat (.lst (natD p))] w = .ok (rowD (invP p)) w := by
  have hl := h.len
  have e1 : okRp (p.length : Int) 1 := by unfold okRp; exact ⟨by omega, by omega, le_big (by omega)⟩
  obtain ⟨ρ', e2, a, b, rfl⟩ := loopD_inv (k := kTup 2 (kCons (kName 2) (kCons (kName 3) kNil))) (g := b__law_swapped_1) (w := w) (fun z : Nat × Nat => Dv.tup [.int ((z.2 : Nat) : Int), .int ((z.1 : Nat) : Int)])
    (fun done ρ => ∃ a b, ρ = [.dat (.lst (natD p)), .lst (natD (invF p done)), a, b]) p.zipIdx [] [.dat (.lst (natD p)), .lst (natD (List.replicate p.length 0)), .un, .un] ⟨.un, .un, rfl⟩ (fun done z ρ hz ⟨a, b, hr⟩ => by
      subst hr
      have hz1 : z.1 < p.length := h.mem.mp (List.fst_mem_of_mem_zipIdx hz)
      refine ⟨_, [.dat (.lst (natD p)), .lst (natD (invF p (done ++ [z]))), .dat (.int (z.2 : Int)), .dat (.int (z.1 : Int))], rfl, ?_, _, _, rfl⟩
      have e3 : ixN (natD (invF p done)).length (z.1 : Int) = some z.1 := ixN_nat (by rw [natD_length, invF_length]; exact hz1)
      simp only [u_b__law_swapped_1, x_putL, x_var, List.set_cons_succ, List.set_cons_zero, List.getElem?_cons_succ, List.getElem?_cons_zero, RR.bind_ok, e3, natD_set]
      unfold invF
      rw [List.foldl_append]
      rfl)
  rw [List.nil_append, invF_row h] at e2
  simp [f__law_swapped, semOf_eq, g__law_swapped, e1, rep_one, enumD_natD, ← natD_replicate, e2, row_fold]
theorem mul_ok {a b : Int} (ha : a.natAbs < 2 ^ 60) (hb : b.natAbs < 2 ^ 60) : CMulW a b := by
  unfold CMulW
  have key : ∀ n : Nat, n < 2 ^ 60 → n.log2 < 60 := fun n hn => by
    rcases Nat.eq_zero_or_pos n with rfl | h
    · decide
    · exact (Nat.log2_lt (by omega)).mpr hn
  have := key _ ha
  have := key _ hb
  omega
@[simp] theorem x_mul (a b : Int) : dIC CMulW (fun i j => .int (i * j)) (.int a) (.int b) = @ite _ (CMulW a b) (Classical.propDecidable _) (some (.int (a * b))) none := rfl
@[simp] theorem x_extN (i : Nat) (f : Sl) (ρ : List EV) (w : DS) : gExtN i f ρ w = match ρ[i]? with
  | some (.lst _) => (f ρ w).bind fun es w1 => match ρ[i]? with
    | some (.lst ds) => if ds.length + es.length ≤ big then .ok (.nx (ρ.set i (.lst (ds ++ es)))) w1 else .stuck
    | _ => .stuck
  | _ => .stuck := rfl
def famP (k : Nat) : List Nat := (List.range k).flatMap fun i => [2 * i + 1, 2 * i]
def famF (a b : Bool) (k : Nat) : List Nat := (List.range k).flatMap fun i => [if a then i else k - 1 - i, if b then k + i else 2 * k - 1 - i]
theorem fam_rows : ∀ k < 11, (famP k).isPerm (List.range (2 * k)) = true ∧ ∀ a b : Bool, (famF a b k).isPerm (List.range (2 * k)) = true := by decide +kernel
theorem famP_row {k : Nat} (h : k ≤ 10) : IsRow (famP k) ∧ (famP k).length = 2 * k := by
  have hp := List.isPerm_iff.mp (fam_rows k (by omega)).1
  have hl : (famP k).length = 2 * k := by rw [hp.length_eq, List.length_range]
  exact ⟨⟨by rw [hl]; exact hp, by omega⟩, hl⟩
theorem famF_row {k : Nat} (a b : Bool) (h : k ≤ 10) : IsRow (famF a b k) ∧ (famF a b k).length = 2 * k := by
  have hp := List.isPerm_iff.mp ((fam_rows k (by omega)).2 a b)
  have hl : (famF a b k).length = 2 * k := by rw [hp.length_eq, List.length_range]
  exact ⟨⟨by rw [hl]; exact hp, by omega⟩, hl⟩
theorem flat_len {α : Type} (f : α → List Nat) (hf : ∀ i, (f i).length = 2) : ∀ l : List α, (l.flatMap f).length = 2 * l.length
  | [] => rfl
  | x :: l => by rw [List.flatMap_cons, List.length_append, hf, flat_len f hf l, List.length_cons]; omega
theorem v_fam1 {k : Nat} {d0 d1 : Dv} (hk : k ≤ 10) : ∃ a, loopD (kName 4) b__law_family_row_1 (rgD 0 (k : Int)) [.dat d0, .dat (.int (k : Int)), .dat d1, .lst [], .un] w = .ok (.nx [.dat d0, .dat (.int (k : Int)), .dat d1, .lst (natD (famP k)), a]) w := by
  obtain ⟨ρ', e, a, rfl⟩ := loopD_at (k := kName 4) (g := b__law_family_row_1) (w := w) (fun x : Nat => Dv.int (x : Int)) (List.range k)
    (fun done ρ => ∃ a, ρ = [.dat d0, .dat (.int (k : Int)), .dat d1, .lst (natD (done.flatMap fun i => [2 * i + 1, 2 * i])), a]) (fun done z rest ρ hsp ⟨a, hr⟩ => by
      subst hr
      have hz : z < k := List.mem_range.mp (by rw [hsp]; simp)
      have hd : done.length ≤ k := by have := congrArg List.length hsp; simp at this; omega
      refine ⟨_, [.dat d0, .dat (.int (k : Int)), .dat d1, .lst (natD ((done ++ [z]).flatMap fun i => [2 * i + 1, 2 * i])), .dat (.int (z : Int))], rfl, ?_, _, rfl⟩
      have hm : CMulW 2 (z : Int) := mul_ok (by decide) (by have : (2 : Nat) ^ 60 > 1000 := by decide
                                                            omega)
      have hlen := flat_len (fun i : Nat => [2 * i + 1, 2 * i]) (fun i => rfl) done
      have hb : (done.flatMap fun i => [2 * i + 1, 2 * i]).length + (1 + 1) ≤ big := le_big (by omega)
      rw [List.flatMap_append, natD_append]
      have e2 : natD ([z].flatMap fun i => [2 * i + 1, 2 * i]) = [.int (2 * (z : Int) + 1), .int (2 * (z : Int))] := by
        simp [natD]
      rw [e2, u_b__law_family_row_1]
      simp [hm, hb, -List.length_flatMap]) (List.range k) [] [.dat d0, .dat (.int (k : Int)), .dat d1, .lst [], .un] rfl ⟨_, rfl⟩
  exact ⟨a, by rw [rgD_nat]; exact e⟩
def upS (a : Bool) : Str := if a then "up" else "down"
theorem upS_ok (a : Bool) : PyData.strOk (upS a) = true := by cases a <;> decide +kernel
theorem dEq_up (a : Bool) : dEq (.str (upS a)) (.str "up") = some (.bl a) := dEq_str' (upS_ok a) (by decide +kernel) (by cases a <;> decide +kernel)
theorem v_fam2 {k : Nat} {d0 : Dv} {s : Str} {a b : Bool} (hk : k ≤ 10) : ∃ x, loopD (kName 4) b__law_family_row_2 (rgD 0 (k : Int)) [.dat d0, .dat (.int (k : Int)), .dat (.lst [.str s, .str (upS a), .str (upS b)]), .lst [], .un] w = .ok (.nx [.dat d0, .dat (.int (k : Int)), .dat (.lst [.str s, .str (upS a), .str (upS b)]), .lst (natD (famF a b k)), x]) w := by
  obtain ⟨ρ', e, x, rfl⟩ := loopD_at (k := kName 4) (g := b__law_family_row_2) (w := w) (fun x : Nat => Dv.int (x : Int)) (List.range k)
    (fun done ρ => ∃ x, ρ = [.dat d0, .dat (.int (k : Int)), .dat (.lst [.str s, .str (upS a), .str (upS b)]), .lst (natD (done.flatMap fun i => [if a then i else k - 1 - i, if b then k + i else 2 * k - 1 - i])), x]) (fun done z rest ρ hsp ⟨x, hr⟩ => by
      subst hr
      have hz : z < k := List.mem_range.mp (by rw [hsp]; simp)
      have hd : done.length ≤ k := by have := congrArg List.length hsp; simp at this; omega
      refine ⟨_, [.dat d0, .dat (.int (k : Int)), .dat (.lst [.str s, .str (upS a), .str (upS b)]), .lst (natD ((done ++ [z]).flatMap fun i => [if a then i else k - 1 - i, if b then k + i else 2 * k - 1 - i])), .dat (.int (z : Int))], rfl, ?_, _, rfl⟩
      have hm : CMulW 2 (k : Int) := mul_ok (by decide) (by have : (2 : Nat) ^ 60 > 1000 := by decide
                                                            omega)
      have hlen := flat_len (fun i : Nat => [if a then i else k - 1 - i, if b then k + i else 2 * k - 1 - i]) (fun i => rfl) done
      have hb : (done.flatMap fun i => [if a then i else k - 1 - i, if b then k + i else 2 * k - 1 - i]).length + (1 + 1) ≤ big := le_big (by omega)
      rw [List.flatMap_append, natD_append]
      have e2 : natD ([z].flatMap fun i => [if a then i else k - 1 - i, if b then k + i else 2 * k - 1 - i]) = [.int (if a then (z : Int) else (k : Int) - 1 - (z : Int)), .int (if b then (k : Int) + (z : Int) else 2 * (k : Int) - 1 - (z : Int))] := by
        cases a <;> cases b <;> simp [natD] <;> omega
      have k1 : dSubI (.lst [.str s, .str (upS a), .str (upS b)]) (.int 1) = some (.str (upS a)) := rfl
      have k2 : dSubI (.lst [.str s, .str (upS a), .str (upS b)]) (.int 2) = some (.str (upS b)) := rfl
      rw [e2, u_b__law_family_row_2]
      have k3 := dEq_up a
      have k4 := dEq_up b
      show gExtN 3 _ [.dat d0, .dat (.int (k : Int)), .dat (.lst [.str s, .str (upS a), .str (upS b)]), .lst (natD (done.flatMap fun i => [if a then i else k - 1 - i, if b then k + i else 2 * k - 1 - i])), .dat (.int (z : Int))] w = _
      generalize (done.flatMap fun i => [if a then i else k - 1 - i, if b then k + i else 2 * k - 1 - i]) = D at hb ⊢
      cases a <;> cases b <;> simp [k1, k2, k3, k4, hm, hb]) (List.range k) [] [.dat d0, .dat (.int (k : Int)), .dat (.lst [.str s, .str (upS a), .str (upS b)]), .lst [], .un] rfl ⟨_, rfl⟩
  exact ⟨x, by rw [rgD_nat]; exact e⟩
@[simp] theorem x_split (fa fb : Sx) (ρ : List EV) (w : DS) : fSplit fa fb ρ w = (fa ρ w).bind fun d w1 => match d with
  | .str a => (fb ρ w1).bind fun e w2 => match e with
    | .str b => if (b.length == 0) = false ∧ a.length + 2 ≤ big then .ok ((Txt.split a b).map .str) w2 else .stuck
    | _ => .stuck
  | _ => .stuck := rfl
def famText (l : List Str) : Dv := .lst (l.map .str)
theorem v_family_row {k : Nat} (hk : k ≤ 10) {d : Dv} (hd : d ∈ [Dv.str "floors up up", .str "floors up down", .str "floors down up", .str "floors down down", .str "sides up up", .str "sides up down", .str "sides down up", .str "sides down down", .str "pairs up", .str "pairs down"]) :
    ∃ p, f__law_family_row [.dat d, .dat (.int (k : Int))] w = .ok (rowD p) w ∧ IsRow p ∧ p.length = 2 * k := by
  have ho : okI (k : Int) := by unfold okI; omega
  have pairs : ∀ (s : Str) (a : Bool), s.length + 2 ≤ big → Txt.split s " " = [("pairs" : Str), upS a] → ∃ p, f__law_family_row [.dat (.str s), .dat (.int (k : Int))] w = .ok (rowD p) w ∧ IsRow p ∧ p.length = 2 * k := fun s a hb hs => by
    obtain ⟨x, e⟩ := v_fam1 (w := w) (d0 := .str s) (d1 := .lst [.str "pairs", .str (upS a)]) hk
    have k0 : dSubI (.lst [.str "pairs", .str (upS a)]) (.int 0) = some (.str "pairs") := rfl
    have k1 : dSubI (.lst [.str "pairs", .str (upS a)]) (.int 1) = some (.str (upS a)) := rfl
    have k2 : dEq (.str "pairs") (.str "pairs") = some (.bl true) := dEq_str' (by decide +kernel) (by decide +kernel) (by decide +kernel)
    have k3 := dEq_up a
    have k4 : (" " : Str).length = 1 := rfl
    have k5 : dRevL (.lst (natD (famP k))) = some (.lst (natD (famP k)).reverse) := rfl
    obtain ⟨h1, h2⟩ := famP_row hk
    cases a with
    | true => exact ⟨famP k, by simp [f__law_family_row, semOf_eq, g__law_family_row, setsE, gPar, k4, hs, hb, k0, k1, k2, k3, ho, e, row_fold], h1, h2⟩
    | false => exact ⟨(famP k).reverse, by simp [f__law_family_row, semOf_eq, g__law_family_row, setsE, gPar, k4, hs, hb, k0, k1, k2, k3, k5, ho, e, ← natD_reverse, row_fold], rev_row h1, by rw [List.length_reverse]; exact h2⟩
  have floors : ∀ (s : Str) (a b : Bool), s.length + 2 ≤ big → Txt.split s " " = [("floors" : Str), upS a, upS b] → ∃ p, f__law_family_row [.dat (.str s), .dat (.int (k : Int))] w = .ok (rowD p) w ∧ IsRow p ∧ p.length = 2 * k := fun s a b hb hs => by
    obtain ⟨x, e⟩ := v_fam2 (w := w) (d0 := .str s) (s := "floors") (a := a) (b := b) hk
    have k4 : (" " : Str).length = 1 := rfl
    have k0 : dSubI (.lst [.str "floors", .str (upS a), .str (upS b)]) (.int 0) = some (.str "floors") := rfl
    have k2 : dEq (.str "floors") (.str "pairs") = some (.bl false) := dEq_str' (by decide +kernel) (by decide +kernel) (by decide +kernel)
    have k3 : dEq (.str "floors") (.str "floors") = some (.bl true) := dEq_str' (by decide +kernel) (by decide +kernel) (by decide +kernel)
    obtain ⟨h1, h2⟩ := famF_row a b hk
    exact ⟨famF a b k, by simp [f__law_family_row, semOf_eq, g__law_family_row, setsE, gPar, k4, hs, hb, k0, k2, k3, ho, e, row_fold], h1, h2⟩
  have sides : ∀ (s : Str) (a b : Bool), s.length + 2 ≤ big → Txt.split s " " = [("sides" : Str), upS a, upS b] → ∃ p, f__law_family_row [.dat (.str s), .dat (.int (k : Int))] w = .ok (rowD p) w ∧ IsRow p ∧ p.length = 2 * k := fun s a b hb hs => by
    obtain ⟨x, e⟩ := v_fam2 (w := w) (d0 := .str s) (s := "sides") (a := a) (b := b) hk
    have k4 : (" " : Str).length = 1 := rfl
    have k0 : dSubI (.lst [.str "sides", .str (upS a), .str (upS b)]) (.int 0) = some (.str "sides") := rfl
    have k2 : dEq (.str "sides") (.str "pairs") = some (.bl false) := dEq_str' (by decide +kernel) (by decide +kernel) (by decide +kernel)
    have k3 : dEq (.str "sides") (.str "floors") = some (.bl false) := dEq_str' (by decide +kernel) (by decide +kernel) (by decide +kernel)
    obtain ⟨h1, h2⟩ := famF_row a b hk
    have hsw := v_swappedL (w := w) h1
    exact ⟨invP (famF a b k), by simp [f__law_family_row, semOf_eq, g__law_family_row, setsE, gPar, k4, hs, hb, k0, k2, k3, ho, e, hsw], invP_row h1, by rw [invP_len]; exact h2⟩
  have bg : ∀ n : Nat, n ≤ 100 → n + 2 ≤ big := fun n h => le_big (by omega)
  simp only [List.mem_cons, List.not_mem_nil, or_false] at hd
  rcases hd with rfl | rfl | rfl | rfl | rfl | rfl | rfl | rfl | rfl | rfl
  · exact floors _ true true (bg _ (by decide)) (by decide +kernel)
  · exact floors _ true false (bg _ (by decide)) (by decide +kernel)
  · exact floors _ false true (bg _ (by decide)) (by decide +kernel)
  · exact floors _ false false (bg _ (by decide)) (by decide +kernel)
  · exact sides _ true true (bg _ (by decide)) (by decide +kernel)
  · exact sides _ true false (bg _ (by decide)) (by decide +kernel)
  · exact sides _ false true (bg _ (by decide)) (by decide +kernel)
  · exact sides _ false false (bg _ (by decide)) (by decide +kernel)
  · exact pairs _ true (bg _ (by decide)) (by decide +kernel)
  · exact pairs _ false (bg _ (by decide)) (by decide +kernel)
end fams

section thelaw
/-- a loop over a whole list that draws -/
theorem loopD_wat {α : Type} {k : Sg} {g : Ss} (c : α → Dv) (L : List α) (I : List α → List EV → DS → Prop) (hs : ∀ done x rest ρ w, L = done ++ x :: rest → I done ρ w → ∃ ρ1 ρ2 w2, k (c x) ρ = some ρ1 ∧ g ρ1 w = .ok (.nx ρ2) w2 ∧ I (done ++ [x]) ρ2 w2) :
    ∀ (rest done : List α) (ρ : List EV) (w : DS), L = done ++ rest → I done ρ w → ∃ ρ' w', loopD k g (rest.map c) ρ w = .ok (.nx ρ') w' ∧ I L ρ' w'
  | [], done, ρ, w, e, h => ⟨ρ, w, rfl, by rw [e, List.append_nil]; exact h⟩
  | x :: l, done, ρ, w, e, h => by
    obtain ⟨ρ1, ρ2, w2, h1, h2, h3⟩ := hs done x l ρ w e h
    obtain ⟨ρ', w', e2, hi⟩ := loopD_wat c L I hs l (done ++ [x]) ρ2 w2 (by rw [e, List.append_assoc]; rfl) h3
    refine ⟨ρ', w', ?_, hi⟩
    rw [List.map_cons, loopD]
    simp only [h1, h2, RR.bind_ok]
    exact e2
theorem v_rows_loop {e0 e2 e3 e4 e5 e6 e7 : EV} (rows : List (List Nat)) (hr : ∀ p ∈ rows, IsRow p) {w : DS} (h2 : 0 ≤ w.turn) (h3 : w.turn + rows.length < most) :
    ∃ x w', Adv rows.length w w' ∧ loopD (kName 7) b_law_1 (rows.map rowD) [e0, .drw, e2, e3, e4, e5, e6, e7] w = .ok (.nx [e0, .drw, e2, e3, e4, e5, e6, x]) w' := by
  obtain ⟨ρ', w', e, x, rfl, ad⟩ := loopD_wat (k := kName 7) (g := b_law_1) rowD rows (fun done ρ w' => ∃ x, ρ = [e0, .drw, e2, e3, e4, e5, e6, x] ∧ Adv done.length w w') (fun done p rest ρ w1 hsp ⟨x, hρ, ad⟩ => by
    subst hρ
    have hp := hr p (by rw [hsp]; simp)
    have hlen : done.length + 1 ≤ rows.length := by have := congrArg List.length hsp; simp at this; omega
    have hl := hp.len
    have e1 := v_turned (w := w1) hp
    have e2' := v_word_of (w := w1) (rev_row hp)
    have e3' := v_law_back_word (w := w1) hp
    have e4' := same_word (w := w1) (ls := wordL p.reverse) (by rw [word_len, List.length_reverse]; omega)
    have a1 := ad.1
    have a2 := ad.2
    by_cases h1 : 1 < p.length
    · obtain ⟨w2, ad2, e5'⟩ := v_exchange (w := w1) hp h1 (by omega) (by omega)
      refine ⟨_, [e0, .drw, e2, e3, e4, e5, e6, .dat (rowD p)], w2, rfl, ?_, _, rfl, by rw [List.length_append, List.length_singleton]; exact ad.trans ad2⟩
      rw [u_b_law_1]
      show gSeq _ _ [e0, .drw, e2, e3, e4, e5, e6, .dat (rowD p)] w1 = _
      have h1' : (1 : Int) < (p.length : Int) := by omega
      simp [e1, e2', e3', e4', h1', e5']
    · refine ⟨_, [e0, .drw, e2, e3, e4, e5, e6, .dat (rowD p)], w1, rfl, ?_, _, rfl, ad.le (by rw [List.length_append]; omega)⟩
      rw [u_b_law_1]
      show gSeq _ _ [e0, .drw, e2, e3, e4, e5, e6, .dat (rowD p)] w1 = _
      have h1' : ¬ (1 : Int) < (p.length : Int) := by omega
      simp [e1, e2', e3', e4', h1']) rows [] [e0, .drw, e2, e3, e4, e5, e6, e7] w rfl ⟨e7, rfl, Adv.refl⟩
  exact ⟨x, w', ad, e⟩
theorem v_deal {ρ : List EV} {w : DS} (hd : ρ[1]? = some .drw) (h2 : 0 ≤ w.turn) (h3 : w.turn + 30 < most) :
    ∃ p w', Adv 21 w w' ∧ IsRow p ∧ p ≠ [] ∧ p.length ≤ 20 ∧ fCall f__law_dealt (aDrw 1 (aCons (fOp dAdd (fC (.int 1)) (fCall f__law_draw (aDrw 1 (aCons (fC (.int 20)) aNil)))) aNil)) ρ w = .ok (rowD p) w' := by
  obtain ⟨i, w1, hi, ad, ed⟩ := v_draw (w := w) (n := 20) (by decide) (by decide) h2 (by omega)
  have a1 := ad.1
  have a2 := ad.2
  obtain ⟨p, w2, ed2, hp, hl, ad2⟩ := v_dealt (w := w1) (n := 1 + i) (by omega) (by omega) (by omega)
  refine ⟨p, w2, (ad.trans ad2).le (by omega), hp, fun h => by rw [h] at hl; simp at hl; omega, by omega, ?_⟩
  rw [show (((1 + i : Nat)) : Int) = 1 + (i : Int) by omega] at ed2
  have ed : semDraw [.drw, .dat (.int 20)] w = .ok (.int (i : Int)) w1 := ed
  simp [hd, ed, ed2]
theorem v_round {ns : List Int} {x2 x3 x4 x5 x6 x7 : EV} {w : DS} (h2 : 0 ≤ w.turn) (h3 : w.turn + 200 < most) :
    ∃ y3 y4 y5 y6 y7 w', Adv 60 w w' ∧ b_law_2 [.dat (.scr ns), .drw, x2, x3, x4, x5, x6, x7] w = .ok (.nx [.dat (.scr ns), .drw, x2, y3, y4, y5, y6, y7]) w' := by
  obtain ⟨p0, w1, ad1, hp0, hn0, hl0, e1⟩ := v_deal (ρ := [.dat (.scr ns), .drw, x2, x3, x4, x5, x6, x7]) (w := w) rfl h2 (by omega)
  obtain ⟨a1, b1⟩ := ad1
  obtain ⟨q, w2, ad2, hq, hqn, hlq, e2⟩ := v_deal (ρ := [.dat (.scr ns), .drw, x2, x3, x4, x5, x6, x7]) (w := w1) rfl (by omega) (by omega)
  obtain ⟨a2, b2⟩ := ad2
  obtain ⟨k, w3, hk, ⟨a3, b3⟩, e3⟩ := v_draw (w := w2) (n := 3) (by decide) (by decide) (by omega) (by omega)
  have e3 : semDraw [.drw, .dat (.int 3)] w2 = .ok (.int (k : Int)) w3 := e3
  have e3' := dEq_nat k 0
  have fam : ∃ p w4, w3.turn ≤ w4.turn ∧ w4.turn ≤ w3.turn + 2 ∧ IsRow p ∧ p ≠ [] ∧ p.length ≤ 20 ∧ (if k = 0 then gSet 3 (fCall f__law_family_row (aCons (fCall f__law_pick (aDrw 1 (aCons (fCall f__law_ten_families aNil) aNil))) (aCons (fOp dAdd (fC (.int 1)) (fCall f__law_draw (aDrw 1 (aCons (fC (.int 10)) aNil)))) aNil))) else gNext) [.dat (.scr ns), .drw, x2, .dat (rowD p0), .dat (rowD q), x5, x6, x7] w3 = .ok (.nx [.dat (.scr ns), .drw, x2, .dat (rowD p), .dat (rowD q), x5, x6, x7]) w4 := by
    by_cases hk0 : k = 0
    · rw [if_pos hk0]
      have ef : ∀ w, f__law_ten_families [] w = .ok (.lst [Dv.str "floors up up", .str "floors up down", .str "floors down up", .str "floors down down", .str "sides up up", .str "sides up down", .str "sides down up", .str "sides down down", .str "pairs up", .str "pairs down"]) w := fun w => by
        have : (1 + 1 + 1 + 1 + 1 + 1 + 1 + 1 + 1 + 1 : Nat) ≤ big := le_big (by decide)
        simp [f__law_ten_families, semOf_eq, g__law_ten_families, this]
      obtain ⟨d, w4, hd, ⟨a4, b4⟩, e4⟩ := v_pick (w := w3) (l := [Dv.str "floors up up", .str "floors up down", .str "floors down up", .str "floors down down", .str "sides up up", .str "sides up down", .str "sides down up", .str "sides down down", .str "pairs up", .str "pairs down"]) (by decide) (by decide) (by omega) (by omega)
      obtain ⟨m, w5, hm, ⟨a5, b5⟩, e5⟩ := v_draw (w := w4) (n := 10) (by decide) (by decide) (by omega) (by omega)
      have e5 : semDraw [.drw, .dat (.int 10)] w4 = .ok (.int (m : Int)) w5 := e5
      obtain ⟨p, e6, hp, hl⟩ := v_family_row (w := w5) (k := 1 + m) (by omega) hd
      rw [show (((1 + m : Nat)) : Int) = 1 + (m : Int) by omega] at e6
      exact ⟨p, w5, by omega, by omega, hp, fun h => by rw [h] at hl; simp at hl; omega, by omega, by simp [ef, e4, e5, e6]⟩
    · rw [if_neg hk0]
      exact ⟨p0, w3, by omega, by omega, hp0, hn0, hl0, rfl⟩
  obtain ⟨p, w4, a4, b4, hp, hpn, hlp, e4⟩ := fam
  have hb := beside_row hp hq (by omega)
  have hu := under_row hp hq (by omega)
  have hlb : (besideL p q).length ≤ 40 := hb.len
  have hlu : (underL p q).length ≤ 40 := hu.len
  obtain ⟨x, w5, ⟨a5, b5⟩, e5⟩ := v_rows_loop (e0 := .dat (.scr ns)) (e2 := x2) (e3 := .dat (rowD p)) (e4 := .dat (rowD q)) (e5 := .dat (rowD (besideL p q))) (e6 := .dat (rowD (underL p q))) (e7 := x7) [p, besideL p q, underL p q] (fun r hr => by
    simp only [List.mem_cons, List.not_mem_nil, or_false] at hr
    rcases hr with rfl | rfl | rfl
    · exact hp
    · exact hb
    · exact hu) (w := w4) (by omega) (by simp only [List.length_cons, List.length_nil]; omega)
  simp only [List.length_cons, List.length_nil] at b5
  have e5 : loopD (kName 7) b_law_1 [rowD p, rowD (besideL p q), rowD (underL p q)] [.dat (.scr ns), .drw, x2, .dat (rowD p), .dat (rowD q), .dat (rowD (besideL p q)), .dat (rowD (underL p q)), x7] w4 = .ok (.nx [.dat (.scr ns), .drw, x2, .dat (rowD p), .dat (rowD q), .dat (rowD (besideL p q)), .dat (rowD (underL p q)), x]) w5 := e5
  refine ⟨.dat (rowD p), .dat (rowD q), .dat (rowD (besideL p q)), .dat (rowD (underL p q)), x, w5, ⟨by omega, by omega⟩, ?_⟩
  have s1 := same_word (w := w4) (ls := wordL (besideL p q)) (by rw [word_len]; omega)
  have s2 := same_word (w := w4) (ls := wordL (underL p q)) (by rw [word_len]; omega)
  have s3 := same_row (w := w4) (p := besideL p q) (by omega)
  have s4 := same_row (w := w4) (p := underL p q) (by omega)
  have hsl : (slotsL (besideL p q)).length = (besideL p q).length + 1 := by unfold slotsL; rw [List.length_map, List.length_range]
  have s5 := same_row (w := w5) (p := slotsL (besideL p q)) (by omega)
  have o1 := v_open_slots (w := w5) (rev_row hb)
  rw [slots_rev] at o1
  have hb3 : (1 + 1 + 1 : Nat) ≤ big := le_big (by decide)
  have efork : ∀ (A B : Ss) ρ w, (if decide (k = 0) = true then A ρ w else B ρ w) = (if k = 0 then A else B) ρ w := fun A B ρ w => by by_cases h : k = 0 <;> simp [h]
  have eif : (gIf (fBool (fOp dEq (fCall f__law_draw (aDrw 1 (aCons (fC (.int 3)) aNil))) (fC (.int 0)))) (gSet 3 (fCall f__law_family_row (aCons (fCall f__law_pick (aDrw 1 (aCons (fCall f__law_ten_families aNil) aNil))) (aCons (fOp dAdd (fC (.int 1)) (fCall f__law_draw (aDrw 1 (aCons (fC (.int 10)) aNil)))) aNil)))) gNext) [.dat (.scr ns), .drw, x2, .dat (rowD p0), .dat (rowD q), x5, x6, x7] w2 = .ok (.nx [.dat (.scr ns), .drw, x2, .dat (rowD p), .dat (rowD q), x5, x6, x7]) w4 := by
    rw [x_ifS, ← e4, ← efork]
    have e3'' : dEq (.int (k : Int)) (.int 0) = some (.bl (decide (k = 0))) := e3'
    simp only [x_bool, x_op, x_call, x_drw, x_cons, x_c, x_nil, List.getElem?_cons_succ, List.getElem?_cons_zero, RR.bind_ok, e3, e3'', RR.of_some]
  rw [u_b_law_2]
  rw [x_seq, gPar]
  simp only [x_cons, x_nil, e1, e2, RR.bind_ok, setsE, List.set_cons_succ, List.set_cons_zero, List.length_cons, List.length_nil, if_true]
  rw [x_seq, eif]
  simp only [RR.bind_ok]
  simp [gPar, setsE, v_beside hp hq (by omega : p.length + q.length ≤ 40), v_under hp hq (by omega : p.length + q.length ≤ 40), v_word_of hb, v_word_of hu, v_law_beside_word hp hq hpn hqn, v_law_under_word hp hq hpn hqn, s1, s2, s3, s4, v_law_beside hp.len hq.len, v_law_under hp.len hq.len, hb3, e5, v_turned hb, o1, v_open_slots hb, s5]
theorem law_holds : ∀ ns : List Int, ns.length ≤ 63 → ∃ w', f_law [.dat (.scr ns), .drw] (beginW ns) = .ok (.bl true) w' := fun ns hns => by
  obtain ⟨n, hn, en⟩ : ∃ n : Nat, n ≤ 8 ∧ ∀ w, fOp dAdd (fC (.int 2)) (fCB dMin2 (aCons (fCB dLen (aCons (fVar 0) aNil)) (aCons (fC (.int 6)) aNil))) [.dat (.scr ns), .drw, .un, .un, .un, .un, .un, .un] w = .ok (.int (n : Int)) w := by
    have hl : dLen [.scr ns] = some (.int (ns.length : Int)) := rfl
    refine ⟨2 + min ns.length 6, by omega, fun w => ?_⟩
    have : dMin2 [.int (ns.length : Int), .int 6] = some (.int ((min ns.length 6 : Nat) : Int)) := by
      show some (Dv.int _) = _
      congr 2
      omega
    simp [hl, this]
  have ho : okI (n : Int) := by unfold okI; omega
  obtain ⟨ρ', w', e, _⟩ := loopD_wat (k := kName 2) (g := b_law_2) (fun x : Nat => Dv.int (x : Int)) (List.range n) (fun done ρ w' => ∃ x2 x3 x4 x5 x6 x7, ρ = [.dat (.scr ns), .drw, x2, x3, x4, x5, x6, x7] ∧ 0 ≤ w'.turn ∧ w'.turn ≤ 60 * done.length) (fun done z rest ρ w1 hsp ⟨x2, x3, x4, x5, x6, x7, hρ, h1, h2⟩ => by
    subst hρ
    have hlen : done.length ≤ n := by have := congrArg List.length hsp; simp at this; omega
    obtain ⟨y3, y4, y5, y6, y7, w2, ⟨a, b⟩, e⟩ := v_round (ns := ns) (x2 := .dat (.int (z : Int))) (x3 := x3) (x4 := x4) (x5 := x5) (x6 := x6) (x7 := x7) (w := w1) h1 (by unfold most; omega)
    exact ⟨_, _, w2, rfl, e, _, _, _, _, _, _, rfl, by omega, by rw [List.length_append, List.length_singleton]; omega⟩) (List.range n) [] [.dat (.scr ns), .drw, .un, .un, .un, .un, .un, .un] (beginW ns) rfl ⟨_, _, _, _, _, _, rfl, by show (0 : Int) ≤ 0; decide, by show (0 : Int) ≤ _; omega⟩
  refine ⟨w', ?_⟩
  have e : loopD (kName 2) b_law_2 (rgD 0 (n : Int)) [.dat (.scr ns), .drw, .un, .un, .un, .un, .un, .un] (beginW ns) = .ok (.nx ρ') w' := by rw [rgD_nat]; exact e
  have ei : fIr1 (fOp dAdd (fC (.int 2)) (fCB dMin2 (aCons (fCB dLen (aCons (fVar 0) aNil)) (aCons (fC (.int 6)) aNil)))) [.dat (.scr ns), .drw, .un, .un, .un, .un, .un, .un] (beginW ns) = .ok (rgD 0 (n : Int)) (beginW ns) := by
    rw [x_ir1, en]
    simp [ho]
  show semOf 8 g_law _ _ = _
  rw [semOf_eq]
  show (match gSeq _ _ [.dat (.scr ns), .drw, .un, .un, .un, .un, .un, .un] (beginW ns) with | .ok (.rt d) w' => _ | .ok (.nx _) w' => _ | .ok _ _ => _ | .rz x w' => _ | .stuck => _) = _
  rw [x_seq, x_for, ei]
  simp only [RR.bind_ok, e]
  rfl
end thelaw

section ending
theorem all_mk {l : PySem.W.OpenLaw} {w : World} {K : PySem.W.Frag} {h : Heap} {mg : Str → Option Value} {fa : Addr} (X : K.In h) (G : h.Ns mainGlobals mg) (hfa : mg "law" = some (.ref fa))
    {f0 : Addr} {od0 an0 : Option Addr} {sl0 : Array (Option Value)} {oc0 kV0 dc0 pm0 cd0 ct0 : Value} {f1 : Addr} {od1 an1 : Option Addr} {sl1 : Array (Option Value)} {oc1 kV1 dc1 pm1 cd1 ct1 : Value} {f2 : Addr} {od2 an2 : Option Addr} {sl2 : Array (Option Value)} {oc2 kV2 dc2 pm2 cd2 ct2 : Value} {f3 : Addr} {od3 an3 : Option Addr} {sl3 : Array (Option Value)} {oc3 kV3 dc3 pm3 cd3 ct3 : Value} {f4 : Addr} {od4 an4 : Option Addr} {sl4 : Array (Option Value)} {oc4 kV4 dc4 pm4 cd4 ct4 : Value} {f5 : Addr} {od5 an5 : Option Addr} {sl5 : Array (Option Value)} {oc5 kV5 dc5 pm5 cd5 ct5 : Value} {f6 : Addr} {od6 an6 : Option Addr} {sl6 : Array (Option Value)} {oc6 kV6 dc6 pm6 cd6 ct6 : Value} {f7 : Addr} {od7 an7 : Option Addr} {sl7 : Array (Option Value)} {oc7 kV7 dc7 pm7 cd7 ct7 : Value} {f8 : Addr} {od8 an8 : Option Addr} {sl8 : Array (Option Value)} {oc8 kV8 dc8 pm8 cd8 ct8 : Value} {f9 : Addr} {od9 an9 : Option Addr} {sl9 : Array (Option Value)} {oc9 kV9 dc9 pm9 cd9 ct9 : Value} {f10 : Addr} {od10 an10 : Option Addr} {sl10 : Array (Option Value)} {oc10 kV10 dc10 pm10 cd10 ct10 : Value} {f11 : Addr} {od11 an11 : Option Addr} {sl11 : Array (Option Value)} {oc11 kV11 dc11 pm11 cd11 ct11 : Value} {f12 : Addr} {od12 an12 : Option Addr} {sl12 : Array (Option Value)} {oc12 kV12 dc12 pm12 cd12 ct12 : Value} {f13 : Addr} {od13 an13 : Option Addr} {sl13 : Array (Option Value)} {oc13 kV13 dc13 pm13 cd13 ct13 : Value} {f14 : Addr} {od14 an14 : Option Addr} {sl14 : Array (Option Value)} {oc14 kV14 dc14 pm14 cd14 ct14 : Value} {f15 : Addr} {od15 an15 : Option Addr} {sl15 : Array (Option Value)} {oc15 kV15 dc15 pm15 cd15 ct15 : Value} {f16 : Addr} {od16 an16 : Option Addr} {sl16 : Array (Option Value)} {oc16 kV16 dc16 pm16 cd16 ct16 : Value} {f17 : Addr} {od17 an17 : Option Addr} {sl17 : Array (Option Value)} {oc17 kV17 dc17 pm17 cd17 ct17 : Value} {f18 : Addr} {od18 an18 : Option Addr} {sl18 : Array (Option Value)} {oc18 kV18 dc18 pm18 cd18 ct18 : Value} {f19 : Addr} {od19 an19 : Option Addr} {sl19 : Array (Option Value)} {oc19 kV19 dc19 pm19 cd19 ct19 : Value} {f20 : Addr} {od20 an20 : Option Addr} {sl20 : Array (Option Value)} {oc20 kV20 dc20 pm20 cd20 ct20 : Value} {f21 : Addr} {od21 an21 : Option Addr} {sl21 : Array (Option Value)} {oc21 kV21 dc21 pm21 cd21 ct21 : Value} {f22 : Addr} {od22 an22 : Option Addr} {sl22 : Array (Option Value)} {oc22 kV22 dc22 pm22 cd22 ct22 : Value} {f23 : Addr} {od23 an23 : Option Addr} {sl23 : Array (Option Value)} {oc23 kV23 dc23 pm23 cd23 ct23 : Value} {f24 : Addr} {od24 an24 : Option Addr} {sl24 : Array (Option Value)} {oc24 kV24 dc24 pm24 cd24 ct24 : Value} {f25 : Addr} {od25 an25 : Option Addr} {sl25 : Array (Option Value)} {oc25 kV25 dc25 pm25 cd25 ct25 : Value} {f26 : Addr} {od26 an26 : Option Addr} {sl26 : Array (Option Value)} {oc26 kV26 dc26 pm26 cd26 ct26 : Value} {f27 : Addr} {od27 an27 : Option Addr} {sl27 : Array (Option Value)} {oc27 kV27 dc27 pm27 cd27 ct27 : Value} {f28 : Addr} {od28 an28 : Option Addr} {sl28 : Array (Option Value)} {oc28 kV28 dc28 pm28 cd28 ct28 : Value} {f29 : Addr} {od29 an29 : Option Addr} {sl29 : Array (Option Value)} {oc29 kV29 dc29 pm29 cd29 ct29 : Value} {f30 : Addr} {od30 an30 : Option Addr} {sl30 : Array (Option Value)} {oc30 kV30 dc30 pm30 cd30 ct30 : Value} {f31 : Addr} {od31 an31 : Option Addr} {sl31 : Array (Option Value)} {oc31 kV31 dc31 pm31 cd31 ct31 : Value} {f32 : Addr} {od32 an32 : Option Addr} {sl32 : Array (Option Value)} {oc32 kV32 dc32 pm32 cd32 ct32 : Value} {f33 : Addr} {od33 an33 : Option Addr} {sl33 : Array (Option Value)} {oc33 kV33 dc33 pm33 cd33 ct33 : Value} {f34 : Addr} {od34 an34 : Option Addr} {sl34 : Array (Option Value)} {oc34 kV34 dc34 pm34 cd34 ct34 : Value} {f35 : Addr} {od35 an35 : Option Addr} {sl35 : Array (Option Value)} {oc35 kV35 dc35 pm35 cd35 ct35 : Value} {f36 : Addr} {od36 an36 : Option Addr} {sl36 : Array (Option Value)} {oc36 kV36 dc36 pm36 cd36 ct36 : Value} {f37 : Addr} {od37 an37 : Option Addr} {sl37 : Array (Option Value)} {oc37 kV37 dc37 pm37 cd37 ct37 : Value} {f38 : Addr} {od38 an38 : Option Addr} {sl38 : Array (Option Value)} {oc38 kV38 dc38 pm38 cd38 ct38 : Value} {f39 : Addr} {od39 an39 : Option Addr} {sl39 : Array (Option Value)} {oc39 kV39 dc39 pm39 cd39 ct39 : Value} {od40 an40 : Option Addr} {sl40 : Array (Option Value)} {oc40 kV40 dc40 pm40 cd40 ct40 : Value} {f40 : Addr} {tMOST_ENTRIES : Tok} {tKINDS_0 : Tok} {tKINDS_1 : Tok} {tKINDS_2 : Tok} {tKINDS_3 : Tok} {aKINDS : Addr} {oaKINDS : Option Addr} {naKINDS : Nat} {saKINDS : Array (Option Value)}
    (a0 : PySem.W.nsIn K mainGlobals "is_whole" = some (some (.ref f0)))
    (l0 : K.lookup f0 = some ⟨oc0, od0, .func (PySem.W.fnOf "is_whole" "is_whole" (defArgs s_is_whole) (defBody s_is_whole) (defScope s_is_whole) .none kV0 dc0 pm0 an0 cd0 ct0), sl0⟩)
    (c0 : PySem.W.codeIn K cd0 "is_whole" = true)
    (k0 : PySem.W.keepIn K (.ref f0) = true)
    (a1 : PySem.W.nsIn K mainGlobals "is_row" = some (some (.ref f1)))
    (l1 : K.lookup f1 = some ⟨oc1, od1, .func (PySem.W.fnOf "is_row" "is_row" (defArgs s_is_row) (defBody s_is_row) (defScope s_is_row) .none kV1 dc1 pm1 an1 cd1 ct1), sl1⟩)
    (c1 : PySem.W.codeIn K cd1 "is_row" = true)
    (k1 : PySem.W.keepIn K (.ref f1) = true)
    (a2 : PySem.W.nsIn K mainGlobals "need_row" = some (some (.ref f2)))
    (l2 : K.lookup f2 = some ⟨oc2, od2, .func (PySem.W.fnOf "need_row" "need_row" (defArgs s_need_row) (defBody s_need_row) (defScope s_need_row) .none kV2 dc2 pm2 an2 cd2 ct2), sl2⟩)
    (c2 : PySem.W.codeIn K cd2 "need_row" = true)
    (k2 : PySem.W.keepIn K (.ref f2) = true)
    (a3 : PySem.W.nsIn K mainGlobals "back" = some (some (.ref f3)))
    (l3 : K.lookup f3 = some ⟨oc3, od3, .func (PySem.W.fnOf "back" "back" (defArgs s_back) (defBody s_back) (defScope s_back) .none kV3 dc3 pm3 an3 cd3 ct3), sl3⟩)
    (c3 : PySem.W.codeIn K cd3 "back" = true)
    (k3 : PySem.W.keepIn K (.ref f3) = true)
    (a4 : PySem.W.nsIn K mainGlobals "turned" = some (some (.ref f4)))
    (l4 : K.lookup f4 = some ⟨oc4, od4, .func (PySem.W.fnOf "turned" "turned" (defArgs s_turned) (defBody s_turned) (defScope s_turned) .none kV4 dc4 pm4 an4 cd4 ct4), sl4⟩)
    (c4 : PySem.W.codeIn K cd4 "turned" = true)
    (k4 : PySem.W.keepIn K (.ref f4) = true)
    (a5 : PySem.W.nsIn K mainGlobals "inverse" = some (some (.ref f5)))
    (l5 : K.lookup f5 = some ⟨oc5, od5, .func (PySem.W.fnOf "inverse" "inverse" (defArgs s_inverse) (defBody s_inverse) (defScope s_inverse) .none kV5 dc5 pm5 an5 cd5 ct5), sl5⟩)
    (c5 : PySem.W.codeIn K cd5 "inverse" = true)
    (k5 : PySem.W.keepIn K (.ref f5) = true)
    (a6 : PySem.W.nsIn K mainGlobals "sum_of" = some (some (.ref f6)))
    (l6 : K.lookup f6 = some ⟨oc6, od6, .func (PySem.W.fnOf "sum_of" "sum_of" (defArgs s_sum_of) (defBody s_sum_of) (defScope s_sum_of) .none kV6 dc6 pm6 an6 cd6 ct6), sl6⟩)
    (c6 : PySem.W.codeIn K cd6 "sum_of" = true)
    (k6 : PySem.W.keepIn K (.ref f6) = true)
    (a7 : PySem.W.nsIn K mainGlobals "skew_of" = some (some (.ref f7)))
    (l7 : K.lookup f7 = some ⟨oc7, od7, .func (PySem.W.fnOf "skew_of" "skew_of" (defArgs s_skew_of) (defBody s_skew_of) (defScope s_skew_of) .none kV7 dc7 pm7 an7 cd7 ct7), sl7⟩)
    (c7 : PySem.W.codeIn K cd7 "skew_of" = true)
    (k7 : PySem.W.keepIn K (.ref f7) = true)
    (a8 : PySem.W.nsIn K mainGlobals "need_room" = some (some (.ref f8)))
    (l8 : K.lookup f8 = some ⟨oc8, od8, .func (PySem.W.fnOf "need_room" "need_room" (defArgs s_need_room) (defBody s_need_room) (defScope s_need_room) .none kV8 dc8 pm8 an8 cd8 ct8), sl8⟩)
    (c8 : PySem.W.codeIn K cd8 "need_room" = true)
    (k8 : PySem.W.keepIn K (.ref f8) = true)
    (a9 : PySem.W.nsIn K mainGlobals "beside" = some (some (.ref f9)))
    (l9 : K.lookup f9 = some ⟨oc9, od9, .func (PySem.W.fnOf "beside" "beside" (defArgs s_beside) (defBody s_beside) (defScope s_beside) .none kV9 dc9 pm9 an9 cd9 ct9), sl9⟩)
    (c9 : PySem.W.codeIn K cd9 "beside" = true)
    (k9 : PySem.W.keepIn K (.ref f9) = true)
    (a10 : PySem.W.nsIn K mainGlobals "under" = some (some (.ref f10)))
    (l10 : K.lookup f10 = some ⟨oc10, od10, .func (PySem.W.fnOf "under" "under" (defArgs s_under) (defBody s_under) (defScope s_under) .none kV10 dc10 pm10 an10 cd10 ct10), sl10⟩)
    (c10 : PySem.W.codeIn K cd10 "under" = true)
    (k10 : PySem.W.keepIn K (.ref f10) = true)
    (a11 : PySem.W.nsIn K mainGlobals "slots_from" = some (some (.ref f11)))
    (l11 : K.lookup f11 = some ⟨oc11, od11, .func (PySem.W.fnOf "slots_from" "slots_from" (defArgs s_slots_from) (defBody s_slots_from) (defScope s_slots_from) .none kV11 dc11 pm11 an11 cd11 ct11), sl11⟩)
    (c11 : PySem.W.codeIn K cd11 "slots_from" = true)
    (k11 : PySem.W.keepIn K (.ref f11) = true)
    (a12 : PySem.W.nsIn K mainGlobals "kind_at" = some (some (.ref f12)))
    (l12 : K.lookup f12 = some ⟨oc12, od12, .func (PySem.W.fnOf "kind_at" "kind_at" (defArgs s_kind_at) (defBody s_kind_at) (defScope s_kind_at) .none kV12 dc12 pm12 an12 cd12 ct12), sl12⟩)
    (c12 : PySem.W.codeIn K cd12 "kind_at" = true)
    (k12 : PySem.W.keepIn K (.ref f12) = true)
    (a13 : PySem.W.nsIn K mainGlobals "letter_of" = some (some (.ref f13)))
    (l13 : K.lookup f13 = some ⟨oc13, od13, .func (PySem.W.fnOf "letter_of" "letter_of" (defArgs s_letter_of) (defBody s_letter_of) (defScope s_letter_of) .none kV13 dc13 pm13 an13 cd13 ct13), sl13⟩)
    (c13 : PySem.W.codeIn K cd13 "letter_of" = true)
    (k13 : PySem.W.keepIn K (.ref f13) = true)
    (a14 : PySem.W.nsIn K mainGlobals "word_in" = some (some (.ref f14)))
    (l14 : K.lookup f14 = some ⟨oc14, od14, .func (PySem.W.fnOf "word_in" "word_in" (defArgs s_word_in) (defBody s_word_in) (defScope s_word_in) .none kV14 dc14 pm14 an14 cd14 ct14), sl14⟩)
    (c14 : PySem.W.codeIn K cd14 "word_in" = true)
    (k14 : PySem.W.keepIn K (.ref f14) = true)
    (a15 : PySem.W.nsIn K mainGlobals "word_of" = some (some (.ref f15)))
    (l15 : K.lookup f15 = some ⟨oc15, od15, .func (PySem.W.fnOf "word_of" "word_of" (defArgs s_word_of) (defBody s_word_of) (defScope s_word_of) .none kV15 dc15 pm15 an15 cd15 ct15), sl15⟩)
    (c15 : PySem.W.codeIn K cd15 "word_of" = true)
    (k15 : PySem.W.keepIn K (.ref f15) = true)
    (a16 : PySem.W.nsIn K mainGlobals "open_slots" = some (some (.ref f16)))
    (l16 : K.lookup f16 = some ⟨oc16, od16, .func (PySem.W.fnOf "open_slots" "open_slots" (defArgs s_open_slots) (defBody s_open_slots) (defScope s_open_slots) .none kV16 dc16 pm16 an16 cd16 ct16), sl16⟩)
    (c16 : PySem.W.codeIn K cd16 "open_slots" = true)
    (k16 : PySem.W.keepIn K (.ref f16) = true)
    (a17 : PySem.W.nsIn K mainGlobals "slots_behind" = some (some (.ref f17)))
    (l17 : K.lookup f17 = some ⟨oc17, od17, .func (PySem.W.fnOf "slots_behind" "slots_behind" (defArgs s_slots_behind) (defBody s_slots_behind) (defScope s_slots_behind) .none kV17 dc17 pm17 an17 cd17 ct17), sl17⟩)
    (c17 : PySem.W.codeIn K cd17 "slots_behind" = true)
    (k17 : PySem.W.keepIn K (.ref f17) = true)
    (a18 : PySem.W.nsIn K mainGlobals "is_letter" = some (some (.ref f18)))
    (l18 : K.lookup f18 = some ⟨oc18, od18, .func (PySem.W.fnOf "is_letter" "is_letter" (defArgs s_is_letter) (defBody s_is_letter) (defScope s_is_letter) .none kV18 dc18 pm18 an18 cd18 ct18), sl18⟩)
    (c18 : PySem.W.codeIn K cd18 "is_letter" = true)
    (k18 : PySem.W.keepIn K (.ref f18) = true)
    (a19 : PySem.W.nsIn K mainGlobals "is_word" = some (some (.ref f19)))
    (l19 : K.lookup f19 = some ⟨oc19, od19, .func (PySem.W.fnOf "is_word" "is_word" (defArgs s_is_word) (defBody s_is_word) (defScope s_is_word) .none kV19 dc19 pm19 an19 cd19 ct19), sl19⟩)
    (c19 : PySem.W.codeIn K cd19 "is_word" = true)
    (k19 : PySem.W.keepIn K (.ref f19) = true)
    (a20 : PySem.W.nsIn K mainGlobals "put_by" = some (some (.ref f20)))
    (l20 : K.lookup f20 = some ⟨oc20, od20, .func (PySem.W.fnOf "put_by" "put_by" (defArgs s_put_by) (defBody s_put_by) (defScope s_put_by) .none kV20 dc20 pm20 an20 cd20 ct20), sl20⟩)
    (c20 : PySem.W.codeIn K cd20 "put_by" = true)
    (k20 : PySem.W.keepIn K (.ref f20) = true)
    (a21 : PySem.W.nsIn K mainGlobals "row_by" = some (some (.ref f21)))
    (l21 : K.lookup f21 = some ⟨oc21, od21, .func (PySem.W.fnOf "row_by" "row_by" (defArgs s_row_by) (defBody s_row_by) (defScope s_row_by) .none kV21 dc21 pm21 an21 cd21 ct21), sl21⟩)
    (c21 : PySem.W.codeIn K cd21 "row_by" = true)
    (k21 : PySem.W.keepIn K (.ref f21) = true)
    (a22 : PySem.W.nsIn K mainGlobals "row_of_word" = some (some (.ref f22)))
    (l22 : K.lookup f22 = some ⟨oc22, od22, .func (PySem.W.fnOf "row_of_word" "row_of_word" (defArgs s_row_of_word) (defBody s_row_of_word) (defScope s_row_of_word) .none kV22 dc22 pm22 an22 cd22 ct22), sl22⟩)
    (c22 : PySem.W.codeIn K cd22 "row_of_word" = true)
    (k22 : PySem.W.keepIn K (.ref f22) = true)
    (a23 : PySem.W.nsIn K mainGlobals "_law_begun" = some (some (.ref f23)))
    (l23 : K.lookup f23 = some ⟨oc23, od23, .func (PySem.W.fnOf "_law_begun" "_law_begun" (defArgs s_begun) (defBody s_begun) (defScope s_begun) .none kV23 dc23 pm23 an23 cd23 ct23), sl23⟩)
    (c23 : PySem.W.codeIn K cd23 "_law_begun" = true)
    (k23 : PySem.W.keepIn K (.ref f23) = true)
    (a24 : PySem.W.nsIn K mainGlobals "_law_blended" = some (some (.ref f24)))
    (l24 : K.lookup f24 = some ⟨oc24, od24, .func (PySem.W.fnOf "_law_blended" "_law_blended" (defArgs s_blended) (defBody s_blended) (defScope s_blended) .none kV24 dc24 pm24 an24 cd24 ct24), sl24⟩)
    (c24 : PySem.W.codeIn K cd24 "_law_blended" = true)
    (k24 : PySem.W.keepIn K (.ref f24) = true)
    (a25 : PySem.W.nsIn K mainGlobals "_law_draw" = some (some (.ref f25)))
    (l25 : K.lookup f25 = some ⟨oc25, od25, .func (PySem.W.fnOf "_law_draw" "_law_draw" (defArgs s_draw) (defBody s_draw) (defScope s_draw) .none kV25 dc25 pm25 an25 cd25 ct25), sl25⟩)
    (c25 : PySem.W.codeIn K cd25 "_law_draw" = true)
    (k25 : PySem.W.keepIn K (.ref f25) = true)
    (a26 : PySem.W.nsIn K mainGlobals "_law_pick" = some (some (.ref f26)))
    (l26 : K.lookup f26 = some ⟨oc26, od26, .func (PySem.W.fnOf "_law_pick" "_law_pick" (defArgs s__law_pick) (defBody s__law_pick) (defScope s__law_pick) .none kV26 dc26 pm26 an26 cd26 ct26), sl26⟩)
    (c26 : PySem.W.codeIn K cd26 "_law_pick" = true)
    (k26 : PySem.W.keepIn K (.ref f26) = true)
    (a27 : PySem.W.nsIn K mainGlobals "_law_shuffled" = some (some (.ref f27)))
    (l27 : K.lookup f27 = some ⟨oc27, od27, .func (PySem.W.fnOf "_law_shuffled" "_law_shuffled" (defArgs s__law_shuffled) (defBody s__law_shuffled) (defScope s__law_shuffled) .none kV27 dc27 pm27 an27 cd27 ct27), sl27⟩)
    (c27 : PySem.W.codeIn K cd27 "_law_shuffled" = true)
    (k27 : PySem.W.keepIn K (.ref f27) = true)
    (a28 : PySem.W.nsIn K mainGlobals "_law_is_truth" = some (some (.ref f28)))
    (l28 : K.lookup f28 = some ⟨oc28, od28, .func (PySem.W.fnOf "_law_is_truth" "_law_is_truth" (defArgs s__law_is_truth) (defBody s__law_is_truth) (defScope s__law_is_truth) .none kV28 dc28 pm28 an28 cd28 ct28), sl28⟩)
    (c28 : PySem.W.codeIn K cd28 "_law_is_truth" = true)
    (k28 : PySem.W.keepIn K (.ref f28) = true)
    (a29 : PySem.W.nsIn K mainGlobals "_law_same" = some (some (.ref f29)))
    (l29 : K.lookup f29 = some ⟨oc29, od29, .func (PySem.W.fnOf "_law_same" "_law_same" (defArgs s__law_same) (defBody s__law_same) (defScope s__law_same) .none kV29 dc29 pm29 an29 cd29 ct29), sl29⟩)
    (c29 : PySem.W.codeIn K cd29 "_law_same" = true)
    (k29 : PySem.W.keepIn K (.ref f29) = true)
    (a30 : PySem.W.nsIn K mainGlobals "_law_swapped" = some (some (.ref f30)))
    (l30 : K.lookup f30 = some ⟨oc30, od30, .func (PySem.W.fnOf "_law_swapped" "_law_swapped" (defArgs s__law_swapped) (defBody s__law_swapped) (defScope s__law_swapped) .none kV30 dc30 pm30 an30 cd30 ct30), sl30⟩)
    (c30 : PySem.W.codeIn K cd30 "_law_swapped" = true)
    (k30 : PySem.W.keepIn K (.ref f30) = true)
    (a31 : PySem.W.nsIn K mainGlobals "_law_beside" = some (some (.ref f31)))
    (l31 : K.lookup f31 = some ⟨oc31, od31, .func (PySem.W.fnOf "_law_beside" "_law_beside" (defArgs s__law_beside) (defBody s__law_beside) (defScope s__law_beside) .none kV31 dc31 pm31 an31 cd31 ct31), sl31⟩)
    (c31 : PySem.W.codeIn K cd31 "_law_beside" = true)
    (k31 : PySem.W.keepIn K (.ref f31) = true)
    (a32 : PySem.W.nsIn K mainGlobals "_law_under" = some (some (.ref f32)))
    (l32 : K.lookup f32 = some ⟨oc32, od32, .func (PySem.W.fnOf "_law_under" "_law_under" (defArgs s__law_under) (defBody s__law_under) (defScope s__law_under) .none kV32 dc32 pm32 an32 cd32 ct32), sl32⟩)
    (c32 : PySem.W.codeIn K cd32 "_law_under" = true)
    (k32 : PySem.W.keepIn K (.ref f32) = true)
    (a33 : PySem.W.nsIn K mainGlobals "_law_dealt" = some (some (.ref f33)))
    (l33 : K.lookup f33 = some ⟨oc33, od33, .func (PySem.W.fnOf "_law_dealt" "_law_dealt" (defArgs s__law_dealt) (defBody s__law_dealt) (defScope s__law_dealt) .none kV33 dc33 pm33 an33 cd33 ct33), sl33⟩)
    (c33 : PySem.W.codeIn K cd33 "_law_dealt" = true)
    (k33 : PySem.W.keepIn K (.ref f33) = true)
    (a34 : PySem.W.nsIn K mainGlobals "_law_ten_families" = some (some (.ref f34)))
    (l34 : K.lookup f34 = some ⟨oc34, od34, .func (PySem.W.fnOf "_law_ten_families" "_law_ten_families" (defArgs s__law_ten_families) (defBody s__law_ten_families) (defScope s__law_ten_families) .none kV34 dc34 pm34 an34 cd34 ct34), sl34⟩)
    (c34 : PySem.W.codeIn K cd34 "_law_ten_families" = true)
    (k34 : PySem.W.keepIn K (.ref f34) = true)
    (a35 : PySem.W.nsIn K mainGlobals "_law_family_row" = some (some (.ref f35)))
    (l35 : K.lookup f35 = some ⟨oc35, od35, .func (PySem.W.fnOf "_law_family_row" "_law_family_row" (defArgs s__law_family_row) (defBody s__law_family_row) (defScope s__law_family_row) .none kV35 dc35 pm35 an35 cd35 ct35), sl35⟩)
    (c35 : PySem.W.codeIn K cd35 "_law_family_row" = true)
    (k35 : PySem.W.keepIn K (.ref f35) = true)
    (a36 : PySem.W.nsIn K mainGlobals "_law_beside_word" = some (some (.ref f36)))
    (l36 : K.lookup f36 = some ⟨oc36, od36, .func (PySem.W.fnOf "_law_beside_word" "_law_beside_word" (defArgs s__law_beside_word) (defBody s__law_beside_word) (defScope s__law_beside_word) .none kV36 dc36 pm36 an36 cd36 ct36), sl36⟩)
    (c36 : PySem.W.codeIn K cd36 "_law_beside_word" = true)
    (k36 : PySem.W.keepIn K (.ref f36) = true)
    (a37 : PySem.W.nsIn K mainGlobals "_law_under_word" = some (some (.ref f37)))
    (l37 : K.lookup f37 = some ⟨oc37, od37, .func (PySem.W.fnOf "_law_under_word" "_law_under_word" (defArgs s__law_under_word) (defBody s__law_under_word) (defScope s__law_under_word) .none kV37 dc37 pm37 an37 cd37 ct37), sl37⟩)
    (c37 : PySem.W.codeIn K cd37 "_law_under_word" = true)
    (k37 : PySem.W.keepIn K (.ref f37) = true)
    (a38 : PySem.W.nsIn K mainGlobals "_law_back_word" = some (some (.ref f38)))
    (l38 : K.lookup f38 = some ⟨oc38, od38, .func (PySem.W.fnOf "_law_back_word" "_law_back_word" (defArgs s__law_back_word) (defBody s__law_back_word) (defScope s__law_back_word) .none kV38 dc38 pm38 an38 cd38 ct38), sl38⟩)
    (c38 : PySem.W.codeIn K cd38 "_law_back_word" = true)
    (k38 : PySem.W.keepIn K (.ref f38) = true)
    (a39 : PySem.W.nsIn K mainGlobals "_law_exchange_right" = some (some (.ref f39)))
    (l39 : K.lookup f39 = some ⟨oc39, od39, .func (PySem.W.fnOf "_law_exchange_right" "_law_exchange_right" (defArgs s__law_exchange_right) (defBody s__law_exchange_right) (defScope s__law_exchange_right) .none kV39 dc39 pm39 an39 cd39 ct39), sl39⟩)
    (c39 : PySem.W.codeIn K cd39 "_law_exchange_right" = true)
    (k39 : PySem.W.keepIn K (.ref f39) = true)
    (a40 : PySem.W.nsIn K mainGlobals "law" = some (some (.ref f40)))
    (l40 : K.lookup f40 = some ⟨oc40, od40, .func (PySem.W.fnOf "law" "law" (defArgs s_law) (defBody s_law) (defScope s_law) .none kV40 dc40 pm40 an40 cd40 ct40), sl40⟩)
    (c40 : PySem.W.codeIn K cd40 "law" = true)
    (k40 : PySem.W.keepIn K (.ref f40) = true)
    (z_abs : PySem.W.nsIn K mainGlobals "abs" = some none)
    (z_all : PySem.W.nsIn K mainGlobals "all" = some none)
    (z_bool : PySem.W.nsIn K mainGlobals "bool" = some none)
    (z_dict : PySem.W.nsIn K mainGlobals "dict" = some none)
    (z_enumerate : PySem.W.nsIn K mainGlobals "enumerate" = some none)
    (z_int : PySem.W.nsIn K mainGlobals "int" = some none)
    (z_isinstance : PySem.W.nsIn K mainGlobals "isinstance" = some none)
    (z_len : PySem.W.nsIn K mainGlobals "len" = some none)
    (z_list : PySem.W.nsIn K mainGlobals "list" = some none)
    (z_min : PySem.W.nsIn K mainGlobals "min" = some none)
    (z_range : PySem.W.nsIn K mainGlobals "range" = some none)
    (z_reversed : PySem.W.nsIn K mainGlobals "reversed" = some none)
    (z_sorted : PySem.W.nsIn K mainGlobals "sorted" = some none)
    (z_str : PySem.W.nsIn K mainGlobals "str" = some none)
    (z_tuple : PySem.W.nsIn K mainGlobals "tuple" = some none)
    (z_zip : PySem.W.nsIn K mainGlobals "zip" = some none)
    (g_MOST_ENTRIES : PySem.W.nsIn K mainGlobals "MOST_ENTRIES" = some (some (.int 40 tMOST_ENTRIES)))
    (g_KINDS : PySem.W.nsIn K mainGlobals "KINDS" = some (some (.ref aKINDS)))
    (laKINDS : K.lookup aKINDS = some ⟨.type "tuple", oaKINDS, .seq #[(.str "fill" tKINDS_0), (.str "left" tKINDS_1), (.str "right" tKINDS_2), (.str "split" tKINDS_3)] naKINDS, saKINDS⟩)
    (hlaw : ∀ ns : List Int, ns.length ≤ 63 → ∃ w', f_law [.dat (.scr ns), .drw] (beginW ns) = .ok (.bl true) w') :
    ∃ fd : FuncData, (∀ (s : Shared) (v : Value), BindsTo s fd ⟨[v], []⟩ [("script", v)]) ∧ ∀ base : Heap, K.In base → base.Ns mainGlobals mg → FnOk l.prog w K mg base (L2.CX l.prog w) 6 fa fd ["script"] (spLaw K) := by
  have e := hfa.symm.trans (PySem.W.mg_of X G a40)
  cases e
  have Z_abs := PySem.W.mg_none_of X G z_abs
  have Z_all := PySem.W.mg_none_of X G z_all
  have Z_bool := PySem.W.mg_none_of X G z_bool
  have Z_dict := PySem.W.mg_none_of X G z_dict
  have Z_enumerate := PySem.W.mg_none_of X G z_enumerate
  have Z_int := PySem.W.mg_none_of X G z_int
  have Z_isinstance := PySem.W.mg_none_of X G z_isinstance
  have Z_len := PySem.W.mg_none_of X G z_len
  have Z_list := PySem.W.mg_none_of X G z_list
  have Z_min := PySem.W.mg_none_of X G z_min
  have Z_range := PySem.W.mg_none_of X G z_range
  have Z_reversed := PySem.W.mg_none_of X G z_reversed
  have Z_sorted := PySem.W.mg_none_of X G z_sorted
  have Z_str := PySem.W.mg_none_of X G z_str
  have Z_tuple := PySem.W.mg_none_of X G z_tuple
  have Z_zip := PySem.W.mg_none_of X G z_zip
  have G_MOST_ENTRIES : Glo K mg "MOST_ENTRIES" _ (.int 40) := glo_int (PySem.W.mg_of X G g_MOST_ENTRIES)
  have G_KINDS : Glo K mg "KINDS" _ (.tup [(.str "fill"), (.str "left"), (.str "right"), (.str "split")]) := glo_tup (PySem.W.mg_of X G g_KINDS) (.tup laKINDS rfl rfl (show 4 ≤ _ by decide) (.cons (.str _ _) (.cons (.str _ _) (.cons (.str _ _) (.cons (.str _ _) .nil)))))
  refine ⟨PySem.W.fnOf "law" "law" (defArgs s_law) (defBody s_law) (defScope s_law) .none kV40 dc40 pm40 an40 cd40 ct40, fun s v => .of_eq rfl, fun base _ _ => ?_⟩
  have F0 := fun_mk (st := s_is_whole) l0 c0 k0
  have b0 := F0.binds (ps := ["value"]) fun _ _ _ _ _ _ us hl => match us, hl with | [_], _ => rfl
  have F1 := fun_mk (st := s_is_row) l1 c1 k1
  have b1 := F1.binds (ps := ["value"]) fun _ _ _ _ _ _ us hl => match us, hl with | [_], _ => rfl
  have F2 := fun_mk (st := s_need_row) l2 c2 k2
  have b2 := F2.binds (ps := ["row"]) fun _ _ _ _ _ _ us hl => match us, hl with | [_], _ => rfl
  have F3 := fun_mk (st := s_back) l3 c3 k3
  have b3 := F3.binds (ps := ["row"]) fun _ _ _ _ _ _ us hl => match us, hl with | [_], _ => rfl
  have F4 := fun_mk (st := s_turned) l4 c4 k4
  have b4 := F4.binds (ps := ["row"]) fun _ _ _ _ _ _ us hl => match us, hl with | [_], _ => rfl
  have F5 := fun_mk (st := s_inverse) l5 c5 k5
  have b5 := F5.binds (ps := ["row"]) fun _ _ _ _ _ _ us hl => match us, hl with | [_], _ => rfl
  have F6 := fun_mk (st := s_sum_of) l6 c6 k6
  have b6 := F6.binds (ps := ["one", "other"]) fun _ _ _ _ _ _ us hl => match us, hl with | [_, _], _ => rfl
  have F7 := fun_mk (st := s_skew_of) l7 c7 k7
  have b7 := F7.binds (ps := ["one", "other"]) fun _ _ _ _ _ _ us hl => match us, hl with | [_, _], _ => rfl
  have F8 := fun_mk (st := s_need_room) l8 c8 k8
  have b8 := F8.binds (ps := ["many"]) fun _ _ _ _ _ _ us hl => match us, hl with | [_], _ => rfl
  have F9 := fun_mk (st := s_beside) l9 c9 k9
  have b9 := F9.binds (ps := ["one", "other"]) fun _ _ _ _ _ _ us hl => match us, hl with | [_, _], _ => rfl
  have F10 := fun_mk (st := s_under) l10 c10 k10
  have b10 := F10.binds (ps := ["one", "other"]) fun _ _ _ _ _ _ us hl => match us, hl with | [_, _], _ => rfl
  have F11 := fun_mk (st := s_slots_from) l11 c11 k11
  have b11 := F11.binds (ps := ["row", "entry"]) fun _ _ _ _ _ _ us hl => match us, hl with | [_, _], _ => rfl
  have F12 := fun_mk (st := s_kind_at) l12 c12 k12
  have b12 := F12.binds (ps := ["place", "first", "last"]) fun _ _ _ _ _ _ us hl => match us, hl with | [_, _, _], _ => rfl
  have F13 := fun_mk (st := s_letter_of) l13 c13 k13
  have b13 := F13.binds (ps := ["row", "entry", "place"]) fun _ _ _ _ _ _ us hl => match us, hl with | [_, _, _], _ => rfl
  have F14 := fun_mk (st := s_word_in) l14 c14 k14
  have b14 := F14.binds (ps := ["row"]) fun _ _ _ _ _ _ us hl => match us, hl with | [_], _ => rfl
  have F15 := fun_mk (st := s_word_of) l15 c15 k15
  have b15 := F15.binds (ps := ["row"]) fun _ _ _ _ _ _ us hl => match us, hl with | [_], _ => rfl
  have F16 := fun_mk (st := s_open_slots) l16 c16 k16
  have b16 := F16.binds (ps := ["row"]) fun _ _ _ _ _ _ us hl => match us, hl with | [_], _ => rfl
  have F17 := fun_mk (st := s_slots_behind) l17 c17 k17
  have b17 := F17.binds (ps := ["slots", "kind"]) fun _ _ _ _ _ _ us hl => match us, hl with | [_, _], _ => rfl
  have F18 := fun_mk (st := s_is_letter) l18 c18 k18
  have b18 := F18.binds (ps := ["value"]) fun _ _ _ _ _ _ us hl => match us, hl with | [_], _ => rfl
  have F19 := fun_mk (st := s_is_word) l19 c19 k19
  have b19 := F19.binds (ps := ["value"]) fun _ _ _ _ _ _ us hl => match us, hl with | [_], _ => rfl
  have F20 := fun_mk (st := s_put_by) l20 c20 k20
  have b20 := F20.binds (ps := ["parts", "entry", "letter"]) fun _ _ _ _ _ _ us hl => match us, hl with | [_, _, _], _ => rfl
  have F21 := fun_mk (st := s_row_by) l21 c21 k21
  have b21 := F21.binds (ps := ["word"]) fun _ _ _ _ _ _ us hl => match us, hl with | [_], _ => rfl
  have F22 := fun_mk (st := s_row_of_word) l22 c22 k22
  have b22 := F22.binds (ps := ["word"]) fun _ _ _ _ _ _ us hl => match us, hl with | [_], _ => rfl
  have F23 := fun_mk (st := s_begun) l23 c23 k23
  have b23 := F23.binds (ps := ["script"]) fun _ _ _ _ _ _ us hl => match us, hl with | [_], _ => rfl
  have F24 := fun_mk (st := s_blended) l24 c24 k24
  have b24 := F24.binds (ps := ["state"]) fun _ _ _ _ _ _ us hl => match us, hl with | [_], _ => rfl
  have F25 := fun_mk (st := s_draw) l25 c25 k25
  have b25 := F25.binds (ps := ["state", "room"]) fun _ _ _ _ _ _ us hl => match us, hl with | [_, _], _ => rfl
  have F26 := fun_mk (st := s__law_pick) l26 c26 k26
  have b26 := F26.binds (ps := ["state", "some"]) fun _ _ _ _ _ _ us hl => match us, hl with | [_, _], _ => rfl
  have F27 := fun_mk (st := s__law_shuffled) l27 c27 k27
  have b27 := F27.binds (ps := ["state", "some"]) fun _ _ _ _ _ _ us hl => match us, hl with | [_, _], _ => rfl
  have F28 := fun_mk (st := s__law_is_truth) l28 c28 k28
  have b28 := F28.binds (ps := ["found", "due"]) fun _ _ _ _ _ _ us hl => match us, hl with | [_, _], _ => rfl
  have F29 := fun_mk (st := s__law_same) l29 c29 k29
  have b29 := F29.binds (ps := ["found", "due"]) fun _ _ _ _ _ _ us hl => match us, hl with | [_, _], _ => rfl
  have F30 := fun_mk (st := s__law_swapped) l30 c30 k30
  have b30 := F30.binds (ps := ["row"]) fun _ _ _ _ _ _ us hl => match us, hl with | [_], _ => rfl
  have F31 := fun_mk (st := s__law_beside) l31 c31 k31
  have b31 := F31.binds (ps := ["one", "other"]) fun _ _ _ _ _ _ us hl => match us, hl with | [_, _], _ => rfl
  have F32 := fun_mk (st := s__law_under) l32 c32 k32
  have b32 := F32.binds (ps := ["one", "other"]) fun _ _ _ _ _ _ us hl => match us, hl with | [_, _], _ => rfl
  have F33 := fun_mk (st := s__law_dealt) l33 c33 k33
  have b33 := F33.binds (ps := ["draws", "n"]) fun _ _ _ _ _ _ us hl => match us, hl with | [_, _], _ => rfl
  have F34 := fun_mk (st := s__law_ten_families) l34 c34 k34
  have b34 := F34.binds (ps := []) fun _ _ _ _ _ _ us hl => match us, hl with | [], _ => rfl
  have F35 := fun_mk (st := s__law_family_row) l35 c35 k35
  have b35 := F35.binds (ps := ["family", "k"]) fun _ _ _ _ _ _ us hl => match us, hl with | [_, _], _ => rfl
  have F36 := fun_mk (st := s__law_beside_word) l36 c36 k36
  have b36 := F36.binds (ps := ["one", "other"]) fun _ _ _ _ _ _ us hl => match us, hl with | [_, _], _ => rfl
  have F37 := fun_mk (st := s__law_under_word) l37 c37 k37
  have b37 := F37.binds (ps := ["one", "other"]) fun _ _ _ _ _ _ us hl => match us, hl with | [_, _], _ => rfl
  have F38 := fun_mk (st := s__law_back_word) l38 c38 k38
  have b38 := F38.binds (ps := ["row"]) fun _ _ _ _ _ _ us hl => match us, hl with | [_], _ => rfl
  have F39 := fun_mk (st := s__law_exchange_right) l39 c39 k39
  have b39 := F39.binds (ps := ["draws", "row"]) fun _ _ _ _ _ _ us hl => match us, hl with | [_, _], _ => rfl
  have F40 := fun_mk (st := s_law) l40 c40 k40
  have C_is_whole : Cal l.prog w K mg base "is_whole" 1 1 f_is_whole := calD F0 (PySem.W.mg_of X G a0) b0 rfl (ok_is_whole F0 Z_bool Z_int Z_isinstance)
  have C_is_row : Cal l.prog w K mg base "is_row" 2 1 f_is_row := calD F1 (PySem.W.mg_of X G a1) b1 rfl (ok_is_row F1 C_is_whole G_MOST_ENTRIES Z_all Z_isinstance Z_len Z_list Z_range Z_sorted Z_tuple)
  have C_need_row : Cal l.prog w K mg base "need_row" 3 1 f_need_row := calD F2 (PySem.W.mg_of X G a2) b2 rfl (ok_need_row F2 C_is_row)
  have C_back : Cal l.prog w K mg base "back" 1 1 f_back := calD F3 (PySem.W.mg_of X G a3) b3 rfl (ok_back F3 Z_reversed Z_tuple)
  have C_turned : Cal l.prog w K mg base "turned" 4 1 f_turned := calD F4 (PySem.W.mg_of X G a4) b4 rfl (ok_turned F4 C_need_row C_back)
  have C_inverse : Cal l.prog w K mg base "inverse" 1 1 f_inverse := calD F5 (PySem.W.mg_of X G a5) b5 rfl (ok_inverse F5 Z_enumerate Z_len Z_tuple)
  have C_sum_of : Cal l.prog w K mg base "sum_of" 1 2 f_sum_of := calD F6 (PySem.W.mg_of X G a6) b6 rfl (ok_sum_of F6 Z_len Z_tuple)
  have C_skew_of : Cal l.prog w K mg base "skew_of" 1 2 f_skew_of := calD F7 (PySem.W.mg_of X G a7) b7 rfl (ok_skew_of F7 Z_len Z_tuple)
  have C_need_room : Cal l.prog w K mg base "need_room" 1 1 f_need_room := calD F8 (PySem.W.mg_of X G a8) b8 rfl (ok_need_room F8 G_MOST_ENTRIES)
  have C_beside : Cal l.prog w K mg base "beside" 4 2 f_beside := calD F9 (PySem.W.mg_of X G a9) b9 rfl (ok_beside F9 C_need_row C_need_room C_sum_of Z_len)
  have C_under : Cal l.prog w K mg base "under" 4 2 f_under := calD F10 (PySem.W.mg_of X G a10) b10 rfl (ok_under F10 C_need_row C_need_room C_skew_of Z_len)
  have C_slots_from : Cal l.prog w K mg base "slots_from" 1 2 f_slots_from := calD F11 (PySem.W.mg_of X G a11) b11 rfl (ok_slots_from F11 Z_enumerate)
  have C_kind_at : Cal l.prog w K mg base "kind_at" 1 3 f_kind_at := calD F12 (PySem.W.mg_of X G a12) b12 rfl (ok_kind_at F12)
  have C_letter_of : Cal l.prog w K mg base "letter_of" 2 3 f_letter_of := calD F13 (PySem.W.mg_of X G a13) b13 rfl (ok_letter_of F13 C_slots_from C_kind_at Z_len)
  have C_word_in : Cal l.prog w K mg base "word_in" 3 1 f_word_in := calD F14 (PySem.W.mg_of X G a14) b14 rfl (ok_word_in F14 C_inverse C_letter_of Z_enumerate Z_tuple)
  have C_word_of : Cal l.prog w K mg base "word_of" 4 1 f_word_of := calD F15 (PySem.W.mg_of X G a15) b15 rfl (ok_word_of F15 C_need_row C_word_in)
  have C_open_slots : Cal l.prog w K mg base "open_slots" 4 1 f_open_slots := calD F16 (PySem.W.mg_of X G a16) b16 rfl (ok_open_slots F16 C_need_row C_slots_from Z_len Z_range Z_tuple)
  have C_slots_behind : Cal l.prog w K mg base "slots_behind" 1 2 f_slots_behind := calD F17 (PySem.W.mg_of X G a17) b17 rfl (ok_slots_behind F17)
  have C_is_letter : Cal l.prog w K mg base "is_letter" 2 1 f_is_letter := calD F18 (PySem.W.mg_of X G a18) b18 rfl (ok_is_letter F18 C_is_whole G_KINDS Z_isinstance Z_len Z_str Z_tuple)
  have C_is_word : Cal l.prog w K mg base "is_word" 3 1 f_is_word := calD F19 (PySem.W.mg_of X G a19) b19 rfl (ok_is_word F19 C_is_letter C_slots_behind G_MOST_ENTRIES Z_all Z_isinstance Z_len Z_tuple)
  have C_put_by : Cal l.prog w K mg base "put_by" 1 3 f_put_by := calD F20 (PySem.W.mg_of X G a20) b20 rfl (ok_put_by F20 Z_enumerate)
  have C_row_by : Cal l.prog w K mg base "row_by" 2 1 f_row_by := calD F21 (PySem.W.mg_of X G a21) b21 rfl (ok_row_by F21 C_put_by Z_enumerate Z_tuple)
  have C_row_of_word : Cal l.prog w K mg base "row_of_word" 4 1 f_row_of_word := calD F22 (PySem.W.mg_of X G a22) b22 rfl (ok_row_of_word F22 C_is_word C_row_by)
  have GB : FnOk l.prog w K mg base (L2.CX l.prog w) 1 f23 _ ["script"] (spBegun K) := ok_begun F23 Z_abs
  have GL : FnOk l.prog w K mg base (L2.CX l.prog w) 1 f24 _ ["state"] spBlended := ok_blended F24 Z_int
  have C__law_draw : Cal l.prog w K mg base "_law_draw" 2 2 f__law_draw := calD F25 (PySem.W.mg_of X G a25) b25 rfl (ok_draw F25 GL b24 (PySem.W.mg_of X G a24) k24 Z_int)
  have C__law_pick : Cal l.prog w K mg base "_law_pick" 3 2 f__law_pick := calD F26 (PySem.W.mg_of X G a26) b26 rfl (ok__law_pick F26 C__law_draw Z_len)
  have C__law_shuffled : Cal l.prog w K mg base "_law_shuffled" 3 2 f__law_shuffled := calD F27 (PySem.W.mg_of X G a27) b27 rfl (ok__law_shuffled F27 C__law_draw Z_len Z_list)
  have C__law_is_truth : Cal l.prog w K mg base "_law_is_truth" 1 2 f__law_is_truth := calD F28 (PySem.W.mg_of X G a28) b28 rfl (ok__law_is_truth F28)
  have C__law_same : Cal l.prog w K mg base "_law_same" 2 2 f__law_same := calD F29 (PySem.W.mg_of X G a29) b29 rfl (ok__law_same F29 C__law_is_truth Z_bool Z_dict Z_int Z_isinstance Z_len Z_list Z_str Z_tuple Z_zip)
  have C__law_swapped : Cal l.prog w K mg base "_law_swapped" 1 1 f__law_swapped := calD F30 (PySem.W.mg_of X G a30) b30 rfl (ok__law_swapped F30 Z_enumerate Z_len Z_tuple)
  have C__law_beside : Cal l.prog w K mg base "_law_beside" 1 2 f__law_beside := calD F31 (PySem.W.mg_of X G a31) b31 rfl (ok__law_beside F31 Z_len Z_tuple)
  have C__law_under : Cal l.prog w K mg base "_law_under" 1 2 f__law_under := calD F32 (PySem.W.mg_of X G a32) b32 rfl (ok__law_under F32 Z_len Z_tuple)
  have C__law_dealt : Cal l.prog w K mg base "_law_dealt" 4 2 f__law_dealt := calD F33 (PySem.W.mg_of X G a33) b33 rfl (ok__law_dealt F33 C__law_shuffled Z_list Z_range Z_tuple)
  have C__law_ten_families : Cal l.prog w K mg base "_law_ten_families" 1 0 f__law_ten_families := calD F34 (PySem.W.mg_of X G a34) b34 rfl (ok__law_ten_families F34)
  have C__law_family_row : Cal l.prog w K mg base "_law_family_row" 2 2 f__law_family_row := calD F35 (PySem.W.mg_of X G a35) b35 rfl (ok__law_family_row F35 C__law_swapped Z_range Z_tuple)
  have C__law_beside_word : Cal l.prog w K mg base "_law_beside_word" 5 2 f__law_beside_word := calD F36 (PySem.W.mg_of X G a36) b36 rfl (ok__law_beside_word F36 C_word_of Z_enumerate Z_tuple)
  have C__law_under_word : Cal l.prog w K mg base "_law_under_word" 5 2 f__law_under_word := calD F37 (PySem.W.mg_of X G a37) b37 rfl (ok__law_under_word F37 C_word_of Z_enumerate Z_tuple)
  have C__law_back_word : Cal l.prog w K mg base "_law_back_word" 5 1 f__law_back_word := calD F38 (PySem.W.mg_of X G a38) b38 rfl (ok__law_back_word F38 C_open_slots C_word_of Z_enumerate Z_tuple)
  have C__law_exchange_right : Cal l.prog w K mg base "_law_exchange_right" 5 2 f__law_exchange_right := calD F39 (PySem.W.mg_of X G a39) b39 rfl (ok__law_exchange_right F39 C__law_draw C_word_of C_open_slots C__law_same C_row_of_word Z_len Z_range Z_tuple)
  exact ok_law F40 GB b23 (PySem.W.mg_of X G a23) k23 C__law_dealt C__law_draw C__law_family_row C__law_pick C__law_ten_families C_under C_beside C__law_same C__law_beside_word C_word_of C__law_beside C__law_under_word C__law_under C__law_back_word C_turned C__law_exchange_right C_open_slots Z_len Z_min Z_range hlaw
theorem walk {l : PySem.W.OpenLaw} {q : Program} {loose : List Str} {XP : (Str → Option Value) → Heap → Prop} {YP : World → Heap → Prop} {d : DefRec} {K : Params → PySem.W.Frag} (hn : l.most = some 63) (hdf : d.params.defaults = [])
    (hY : ∀ (w : World) (h : Heap), YP w h → (K w.params).In h)
    (F : ∀ (w : World) (mg : Str → Option Value) (fa : Addr) (h : Heap), (K w.params).In h → h.Ns mainGlobals mg → mg d.name = some (.ref fa) →
      ∃ fd : FuncData, (∀ (s : Shared) (u : Value), BindsTo s fd ⟨[u], []⟩ [("script", u)]) ∧ ∀ base : Heap, (K w.params).In base → base.Ns mainGlobals mg → FnOk l.prog w (K w.params) mg base (L2.CX l.prog w) 6 fa fd ["script"] (spLaw (K w.params))) :
    PySem.W.WalkO q loose XP YP l.row.toRowW d [] (fun f vs => PySem.call f vs) :=
  L2.walk_of (n := 63) (k := 6) (x := "script") (CX := fun w => L2.CX l.prog w) (sp := fun w => spLaw (K w.params)) hn (by decide) hdf ⟨rfl, by decide, by decide⟩ hY F (fun _ _ a ns hl _ hS => ⟨a, ns, rfl, hS, hl, fun _ => rfl⟩) fun _ _ _ _ _ z => by
    obtain ⟨_, _, _, _, _, _, _, _, _, _, _, _, z⟩ := z
    exact z.elim
end ending
end LW

open PySem PySem.W PyProof.Rows in
set_option maxRecDepth 100000 in
set_option maxHeartbeats 0 in
theorem PySem.Challenge.cw_withinrows_k67_whole_words_put_together_holds : PySem.Challenge.rw_withinrows_k67_whole_words_put_together.Holds := by
  w_on; o_law; k_head; (case hw => w_witness2)
  k_fill
  refine LW.walk (l := PySem.Challenge.rw_withinrows_k67_whole_words_put_together) rfl rfl (fun w h Y => PySem.W.kIn_of Y) ?F
  case F =>
    intro w mg fa h KX G hmg
    refine' LW.all_mk KX G hmg ?a0 ?l0 ?c0 ?k0 ?a1 ?l1 ?c1 ?k1 ?a2 ?l2 ?c2 ?k2 ?a3 ?l3 ?c3 ?k3 ?a4 ?l4 ?c4 ?k4 ?a5 ?l5 ?c5 ?k5 ?a6 ?l6 ?c6 ?k6 ?a7 ?l7 ?c7 ?k7 ?a8 ?l8 ?c8 ?k8 ?a9 ?l9 ?c9 ?k9 ?a10 ?l10 ?c10 ?k10 ?a11 ?l11 ?c11 ?k11 ?a12 ?l12 ?c12 ?k12 ?a13 ?l13 ?c13 ?k13 ?a14 ?l14 ?c14 ?k14 ?a15 ?l15 ?c15 ?k15 ?a16 ?l16 ?c16 ?k16 ?a17 ?l17 ?c17 ?k17 ?a18 ?l18 ?c18 ?k18 ?a19 ?l19 ?c19 ?k19 ?a20 ?l20 ?c20 ?k20 ?a21 ?l21 ?c21 ?k21 ?a22 ?l22 ?c22 ?k22 ?a23 ?l23 ?c23 ?k23 ?a24 ?l24 ?c24 ?k24 ?a25 ?l25 ?c25 ?k25 ?a26 ?l26 ?c26 ?k26 ?a27 ?l27 ?c27 ?k27 ?a28 ?l28 ?c28 ?k28 ?a29 ?l29 ?c29 ?k29 ?a30 ?l30 ?c30 ?k30 ?a31 ?l31 ?c31 ?k31 ?a32 ?l32 ?c32 ?k32 ?a33 ?l33 ?c33 ?k33 ?a34 ?l34 ?c34 ?k34 ?a35 ?l35 ?c35 ?k35 ?a36 ?l36 ?c36 ?k36 ?a37 ?l37 ?c37 ?k37 ?a38 ?l38 ?c38 ?k38 ?a39 ?l39 ?c39 ?k39 ?a40 ?l40 ?c40 ?k40 ?z_abs ?z_all ?z_bool ?z_dict ?z_enumerate ?z_int ?z_isinstance ?z_len ?z_list ?z_min ?z_range ?z_reversed ?z_sorted ?z_str ?z_tuple ?z_zip ?g_MOST_ENTRIES ?g_KINDS ?laKINDS LW.law_holds
    (case a0 => k_is)
    (case l0 => k_is)
    (case c0 => k_is)
    (case k0 => k_is)
    (case a1 => k_is)
    (case l1 => k_is)
    (case c1 => k_is)
    (case k1 => k_is)
    (case a2 => k_is)
    (case l2 => k_is)
    (case c2 => k_is)
    (case k2 => k_is)
    (case a3 => k_is)
    (case l3 => k_is)
    (case c3 => k_is)
    (case k3 => k_is)
    (case a4 => k_is)
    (case l4 => k_is)
    (case c4 => k_is)
    (case k4 => k_is)
    (case a5 => k_is)
    (case l5 => k_is)
    (case c5 => k_is)
    (case k5 => k_is)
    (case a6 => k_is)
    (case l6 => k_is)
    (case c6 => k_is)
    (case k6 => k_is)
    (case a7 => k_is)
    (case l7 => k_is)
    (case c7 => k_is)
    (case k7 => k_is)
    (case a8 => k_is)
    (case l8 => k_is)
    (case c8 => k_is)
    (case k8 => k_is)
    (case a9 => k_is)
    (case l9 => k_is)
    (case c9 => k_is)
    (case k9 => k_is)
    (case a10 => k_is)
    (case l10 => k_is)
    (case c10 => k_is)
    (case k10 => k_is)
    (case a11 => k_is)
    (case l11 => k_is)
    (case c11 => k_is)
    (case k11 => k_is)
    (case a12 => k_is)
    (case l12 => k_is)
    (case c12 => k_is)
    (case k12 => k_is)
    (case a13 => k_is)
    (case l13 => k_is)
    (case c13 => k_is)
    (case k13 => k_is)
    (case a14 => k_is)
    (case l14 => k_is)
    (case c14 => k_is)
    (case k14 => k_is)
    (case a15 => k_is)
    (case l15 => k_is)
    (case c15 => k_is)
    (case k15 => k_is)
    (case a16 => k_is)
    (case l16 => k_is)
    (case c16 => k_is)
    (case k16 => k_is)
    (case a17 => k_is)
    (case l17 => k_is)
    (case c17 => k_is)
    (case k17 => k_is)
    (case a18 => k_is)
    (case l18 => k_is)
    (case c18 => k_is)
    (case k18 => k_is)
    (case a19 => k_is)
    (case l19 => k_is)
    (case c19 => k_is)
    (case k19 => k_is)
    (case a20 => k_is)
    (case l20 => k_is)
    (case c20 => k_is)
    (case k20 => k_is)
    (case a21 => k_is)
    (case l21 => k_is)
    (case c21 => k_is)
    (case k21 => k_is)
    (case a22 => k_is)
    (case l22 => k_is)
    (case c22 => k_is)
    (case k22 => k_is)
    (case a23 => k_is)
    (case l23 => k_is)
    (case c23 => k_is)
    (case k23 => k_is)
    (case a24 => k_is)
    (case l24 => k_is)
    (case c24 => k_is)
    (case k24 => k_is)
    (case a25 => k_is)
    (case l25 => k_is)
    (case c25 => k_is)
    (case k25 => k_is)
    (case a26 => k_is)
    (case l26 => k_is)
    (case c26 => k_is)
    (case k26 => k_is)
    (case a27 => k_is)
    (case l27 => k_is)
    (case c27 => k_is)
    (case k27 => k_is)
    (case a28 => k_is)
    (case l28 => k_is)
    (case c28 => k_is)
    (case k28 => k_is)
    (case a29 => k_is)
    (case l29 => k_is)
    (case c29 => k_is)
    (case k29 => k_is)
    (case a30 => k_is)
    (case l30 => k_is)
    (case c30 => k_is)
    (case k30 => k_is)
    (case a31 => k_is)
    (case l31 => k_is)
    (case c31 => k_is)
    (case k31 => k_is)
    (case a32 => k_is)
    (case l32 => k_is)
    (case c32 => k_is)
    (case k32 => k_is)
    (case a33 => k_is)
    (case l33 => k_is)
    (case c33 => k_is)
    (case k33 => k_is)
    (case a34 => k_is)
    (case l34 => k_is)
    (case c34 => k_is)
    (case k34 => k_is)
    (case a35 => k_is)
    (case l35 => k_is)
    (case c35 => k_is)
    (case k35 => k_is)
    (case a36 => k_is)
    (case l36 => k_is)
    (case c36 => k_is)
    (case k36 => k_is)
    (case a37 => k_is)
    (case l37 => k_is)
    (case c37 => k_is)
    (case k37 => k_is)
    (case a38 => k_is)
    (case l38 => k_is)
    (case c38 => k_is)
    (case k38 => k_is)
    (case a39 => k_is)
    (case l39 => k_is)
    (case c39 => k_is)
    (case k39 => k_is)
    (case a40 => k_is)
    (case l40 => k_is)
    (case c40 => k_is)
    (case k40 => k_is)
    (case z_abs => k_is)
    (case z_all => k_is)
    (case z_bool => k_is)
    (case z_dict => k_is)
    (case z_enumerate => k_is)
    (case z_int => k_is)
    (case z_isinstance => k_is)
    (case z_len => k_is)
    (case z_list => k_is)
    (case z_min => k_is)
    (case z_range => k_is)
    (case z_reversed => k_is)
    (case z_sorted => k_is)
    (case z_str => k_is)
    (case z_tuple => k_is)
    (case z_zip => k_is)
    (case g_MOST_ENTRIES => k_is)
    (case g_KINDS => k_is)
    (case laKINDS => k_is)
