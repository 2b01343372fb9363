import PyProof.Rows.All
import Wide.All
import OpenK.AllK
import Wide.FinOn
import HandS.ForMost
import HandS.IsInst
import HandS.SortInts
import HandS.Zip
import HandS.Rev
import HandS.Conv
import HandS.Deep
import HandS.DictComp
import HandS.Lambda
import HandS.TupAny
import HandS.TupMul
import HandS.Wide
import HandS.TupLe
import HandS.Flow
import HandS.Exc
import HandS.ExcOwn
import HandS.WordsExc
import KE.GoesEnum
import KE.GoesMore
import KE.SortData
import HandS.Style
import HandS.TupLen
import HandS.Dict
import HandS.More
import HandS.Text
import HandS.ExcIs
import HandS.ExcValue
import KE.KExcSuper
import KE.KSuper
import HandS.ExcField
import HandS.Small
import HandS.Defaults
import HandS.Sort
import HandS.EndTab
import KE.KNestM
import PySem.Challenge.RW_withinrows_k01_whole_turns_and_rows_put
set_option Elab.async false
set_option linter.all false
set_option maxRecDepth 100000
set_option maxHeartbeats 2000000
namespace DL
open PySem PySem.Spec PyProof.Rows L2

/-! ### data -/
/-- glo: what a name of the module holds (a def, a class); exc: a caught exception of the class of that name, its fields -/
inductive Dv where
  | non | bl (b : Bool) | int (i : Int) | str (s : Str)
  | tup (ds : List Dv) | lst (ds : List Dv) | dct (kvs : List (Dv × Dv)) | glo (n : Str) | exc (n : Str) (fs : List (Str × Dv)) | scr (ns : List Int)
  deriving Inhabited
/-- the module's name n holds the object at C -/
def HasName (K : W.Frag) (n : Str) (C : Addr) : Prop := PySem.W.nsIn K mainGlobals n = some (some (.ref C))
theorem HasName.inj {K : W.Frag} {n : Str} {C D : Addr} (h : HasName K n C) (h' : HasName K n D) : C = D := by
  unfold HasName at h h'
  rw [h] at h'
  cases h'; rfl
/-- a caught exception at a -/
def ExcV (cls : Value) (d : Option Addr) (a : Addr) : HO := .ext fun h => ∃ (oe : Obj) (vs : Array Value), h.get? a = some oe ∧ L2.Zc cls d oe ∧ oe.data = .fields vs

def kD : Key → Dv
  | .inl i => .int i
  | .inr s => .str s

mutual
inductive Rp (K : W.Frag) (F : Hp) : V → Dv → Prop
  | non : Rp K F .non .non
  | bl (b : Bool) : Rp K F (.bl b) (.bl b)
  | int (i : Int) : Rp K F (.int i) (.int i)
  | str (x : Str) : Rp K F (.str x) (.str x)
  | tup {a : Addr} {xs : List V} {ds : List Dv} : SqT K F a xs → RpAll K F xs ds → Rp K F (.ref a) (.tup ds)
  | lst {a : Addr} {xs : List V} {ds : List Dv} : F a = some (.lst xs) → RpAll K F xs ds → Rp K F (.ref a) (.lst ds)
  | dct {a : Addr} {kvs : List (Key × V)} {ds : List (Dv × Dv)} : Rd F a (.dK kvs) → RpKv K F kvs ds → Rp K F (.ref a) (.dct ds)
  | dctT {a : Addr} {kvs : List (List Key × V)} {ds : List (Dv × Dv)} : F a = some (.dT kvs) → RpKvT K F kvs ds → Rp K F (.ref a) (.dct ds)
  | glo {n : Str} {C : Addr} : HasName K n C → Rp K F (.ref C) (.glo n)
  | exc0 {n : Str} {C a : Addr} : HasName K n C → F a = some (ExcV (.ref C) none a) → Rp K F (.ref a) (.exc n [])
  | exc1 {n y : Str} {C a dx : Addr} {v : V} {d : Dv} : HasName K n C → F a = some (ExcV (.ref C) (some dx) a) → F dx = some (.xd [(y, v)]) → Rp K F v d → Rp K F (.ref a) (.exc n [(y, d)])
  | scr {a : Addr} {ns : List Int} : SqL K F a (ns.map V.int) → Rp K F (.ref a) (.scr ns)
inductive RpAll (K : W.Frag) (F : Hp) : List V → List Dv → Prop
  | nil : RpAll K F [] []
  | cons {v : V} {vs : List V} {d : Dv} {ds : List Dv} : Rp K F v d → RpAll K F vs ds → RpAll K F (v :: vs) (d :: ds)
inductive RpKv (K : W.Frag) (F : Hp) : List (Key × V) → List (Dv × Dv) → Prop
  | nil : RpKv K F [] []
  | cons {k : Key} {v : V} {vs : List (Key × V)} {d : Dv} {ds : List (Dv × Dv)} : Rp K F v d → RpKv K F vs ds → RpKv K F ((k, v) :: vs) ((kD k, d) :: ds)
inductive RpKvT (K : W.Frag) (F : Hp) : List (List Key × V) → List (Dv × Dv) → Prop
  | nil : RpKvT K F [] []
  | cons {k : List Key} {v : V} {vs : List (List Key × V)} {d : Dv} {ds : List (Dv × Dv)} : Rp K F v d → RpKvT K F vs ds → RpKvT K F ((k, v) :: vs) ((.tup (k.map kD), d) :: ds)
end

theorem sameRd {H H' : Hp} {a : Addr} {u : HO} (e : Same H H') (h : Rd H a u) : Rd H' a u := h.elim (fun h => .inl (e _ _ h)) fun ⟨o, h⟩ => .inr ⟨o, e _ _ h⟩
theorem sameT {K : W.Frag} {H H' : Hp} {a : Addr} {xs : List V} (e : Same H H') (h : SqT K H a xs) : SqT K H' a xs := h.elim (fun h => .inl (sameRd e h)) .inr

section
variable {K : W.Frag} {F F' : Hp}
mutual
theorem Rp.mono (e : Same F F') : ∀ {v : V} {d : Dv}, Rp K F v d → Rp K F' v d
  | _, _, .non => .non
  | _, _, .bl b => .bl b
  | _, _, .int b => .int b
  | _, _, .str b => .str b
  | _, _, .tup h r => .tup (sameT e h) (RpAll.mono e r)
  | _, _, .lst h r => .lst (e _ _ h) (RpAll.mono e r)
  | _, _, .dct h r => .dct (sameRd e h) (RpKv.mono e r)
  | _, _, .dctT h r => .dctT (e _ _ h) (RpKvT.mono e r)
  | _, _, .glo h => .glo h
  | _, _, .exc0 h h1 => .exc0 h (e _ _ h1)
  | _, _, .exc1 h h1 h2 r => .exc1 h (e _ _ h1) (e _ _ h2) (Rp.mono e r)
  | _, _, .scr h => .scr (e.seq h)
theorem RpAll.mono (e : Same F F') : ∀ {v : List V} {d : List Dv}, RpAll K F v d → RpAll K F' v d
  | _, _, .nil => .nil
  | _, _, .cons h r => .cons (Rp.mono e h) (RpAll.mono e r)
theorem RpKv.mono (e : Same F F') : ∀ {v : List (Key × V)} {d : List (Dv × Dv)}, RpKv K F v d → RpKv K F' v d
  | _, _, .nil => .nil
  | _, _, .cons h r => .cons (Rp.mono e h) (RpKv.mono e r)
theorem RpKvT.mono (e : Same F F') : ∀ {v : List (List Key × V)} {d : List (Dv × Dv)}, RpKvT K F v d → RpKvT K F' v d
  | _, _, .nil => .nil
  | _, _, .cons h r => .cons (Rp.mono e h) (RpKvT.mono e r)
end
theorem RpAll.length : ∀ {v : List V} {d : List Dv}, RpAll K F v d → v.length = d.length
  | _, _, .nil => rfl
  | _, _, .cons _ r => by rw [List.length_cons, List.length_cons, RpAll.length r]
theorem RpAll.append : ∀ {v v' : List V} {d d' : List Dv}, RpAll K F v d → RpAll K F v' d' → RpAll K F (v ++ v') (d ++ d')
  | _, _, _, _, .nil, s => s
  | _, _, _, _, .cons h r, s => .cons h (RpAll.append r s)
theorem RpAll.get : ∀ {v : List V} {d : List Dv} {i : Nat} {x : Dv}, RpAll K F v d → d[i]? = some x → ∃ u, v[i]? = some u ∧ Rp K F u x
  | _, _, i, x, .nil, e => by cases e
  | _, _, 0, x, .cons h r, e => by
    have e' := Option.some.inj e
    subst e'
    exact ⟨_, rfl, h⟩
  | _, _, i + 1, x, .cons h r, e => RpAll.get (i := i) r e
theorem RpAll.getV : ∀ {v : List V} {d : List Dv} {i : Nat} {u : V}, RpAll K F v d → v[i]? = some u → ∃ x, d[i]? = some x ∧ Rp K F u x
  | _, _, i, x, .nil, e => by cases e
  | _, _, 0, x, .cons h r, e => by
    have e' := Option.some.inj e
    subst e'
    exact ⟨_, rfl, h⟩
  | _, _, i + 1, x, .cons h r, e => RpAll.getV (i := i) r e
theorem RpAll.take : ∀ {v : List V} {d : List Dv} (n : Nat), RpAll K F v d → RpAll K F (v.take n) (d.take n)
  | _, _, 0, _ => by rw [List.take_zero, List.take_zero]; exact .nil
  | _, _, n + 1, .nil => .nil
  | _, _, n + 1, .cons h r => .cons h (RpAll.take n r)
theorem RpAll.drop : ∀ {v : List V} {d : List Dv} (n : Nat), RpAll K F v d → RpAll K F (v.drop n) (d.drop n)
  | _, _, 0, r => r
  | _, _, n + 1, .nil => .nil
  | _, _, n + 1, .cons h r => RpAll.drop n r
theorem RpAll.set {x : V} {y : Dv} (q : Rp K F x y) : ∀ {v : List V} {d : List Dv} (n : Nat), RpAll K F v d → RpAll K F (v.set n x) (d.set n y)
  | _, _, 0, .cons _ r => .cons q r
  | _, _, n + 1, .cons h r => .cons h (RpAll.set q n r)
  | _, _, 0, .nil => .nil
  | _, _, n + 1, .nil => .nil
theorem RpAll.reverse {v : List V} {d : List Dv} (r : RpAll K F v d) : RpAll K F v.reverse d.reverse := by
  induction v generalizing d with
  | nil => cases r; exact .nil
  | cons a l ih =>
    cases r with
    | cons h r => rw [List.reverse_cons, List.reverse_cons]; exact (ih r).append (.cons h .nil)
theorem RpAll.eraseIdx : ∀ {v : List V} {d : List Dv} (n : Nat), RpAll K F v d → RpAll K F (v.eraseIdx n) (d.eraseIdx n)
  | _, _, 0, .cons _ r => r
  | _, _, n + 1, .cons h r => .cons h (RpAll.eraseIdx n r)
  | _, _, 0, .nil => .nil
  | _, _, n + 1, .nil => .nil
theorem RpAll.dropLast {v : List V} {d : List Dv} (r : RpAll K F v d) : RpAll K F v.dropLast d.dropLast := by
  rw [List.dropLast_eq_take, List.dropLast_eq_take, r.length]; exact r.take _
theorem RpAll.replicate {x : V} {y : Dv} (q : Rp K F x y) : ∀ n : Nat, RpAll K F (List.replicate n x) (List.replicate n y)
  | 0 => .nil
  | n + 1 => .cons q (RpAll.replicate q n)
theorem RpAll.ints : ∀ {ns : List Int} {v : List V}, RpAll K F v (ns.map .int) → v = ns.map .int
  | [], _, .nil => rfl
  | n :: ns, _, .cons h r => by
    cases h
    rw [RpAll.ints r]; rfl
theorem RpAll.of_ints : ∀ (ns : List Int), RpAll K F (ns.map .int) (ns.map .int)
  | [] => .nil
  | n :: ns => .cons (.int n) (RpAll.of_ints ns)
theorem RpAll.bls : ∀ {ns : List Bool} {v : List V}, RpAll K F v (ns.map .bl) → v = ns.map .bl
  | [], _, .nil => rfl
  | n :: ns, _, .cons h r => by
    cases h
    rw [RpAll.bls r]; rfl
end

mutual
def imm : Dv → Bool
  | .tup ds => immAll ds
  | .lst _ => false
  | .dct _ => false
  | .scr _ => false
  | .exc _ _ => false
  | _ => true
def immAll : List Dv → Bool
  | [] => true
  | d :: ds => imm d && immAll ds
end

/-! ### growth of the heap and of its frozen part -/
structure Gr (F H F' H' : Hp) : Prop where
  ff : Same F F'
  hh : Same H H'
  fh : Same F' H'
  nw : ∀ a u, F' a = some u → F a = some u ∨ H a = none
theorem Gr.refl {F H : Hp} (h : Same F H) : Gr F H F H := ⟨Same.refl _, Same.refl _, h, fun _ _ e => .inl e⟩
theorem Gr.trans {F H F1 H1 F2 H2 : Hp} (a : Gr F H F1 H1) (b : Gr F1 H1 F2 H2) : Gr F H F2 H2 :=
  ⟨a.ff.trans b.ff, a.hh.trans b.hh, b.fh, fun x u e => (b.nw x u e).elim (fun q => a.nw x u q) fun q => .inr (a.hh.free q)⟩
theorem same_upd {H : Hp} {p : Addr} {o : HO} (h : H p = none) : Same H (upd H p o) := fun b x e => by
  rw [upd_ne (ne_of_none e h)]
  exact e
theorem Gr.new {F H : Hp} (h : Same F H) {p : Addr} (o : HO) (n : H p = none) : Gr F H (upd F p o) (upd H p o) where
  ff := same_upd (h.free n)
  hh := same_upd n
  fh := fun b x e => by
    by_cases q : b = p
    · subst q; rw [upd_same] at e ⊢; exact e
    · rw [upd_ne q] at e ⊢; exact h _ _ e
  nw := fun b x e => by
    by_cases q : b = p
    · subst q; exact .inr n
    · rw [upd_ne q] at e; exact .inl e
/-- a new object that stays apart -/
theorem Gr.apart {F H : Hp} (h : Same F H) {p : Addr} (o : HO) (n : H p = none) : Gr F H F (upd H p o) :=
  ⟨Same.refl _, same_upd n, h.trans (same_upd n), fun _ _ e => .inl e⟩

/-! ### the state of a def's body -/
structure DS where
  great : List Int
  cells : List Int
  rest : Int
  turn : Int
  /-- what stands in the one list of an own object that a method may change -/
  ob : List Dv := []
  deriving Inhabited
def StH (H : Hp) (a g c : Addr) (w : DS) : Prop :=
  H a = some (.dK [(.inr "great", .ref g), (.inr "cells", .ref c), (.inr "rest", .int w.rest), (.inr "turn", .int w.turn)]) ∧ H g = some (.lst (w.great.map .int)) ∧ H c = some (.lst (w.cells.map .int)) ∧ g ≠ c
theorem StH.mono {H H' : Hp} {a g c : Addr} {w : DS} (h : StH H a g c w) (e1 : ∀ o, H a = some o → H' a = some o) (e2 : ∀ o, H g = some o → H' g = some o) (e3 : ∀ o, H c = some o → H' c = some o) : StH H' a g c w := ⟨e1 _ h.1, e2 _ h.2.1, e3 _ h.2.2.1, h.2.2.2⟩

/-! ### results -/
structure Xc where
  cls : Str
  fld : Option (Str × Dv)
inductive RR (α : Type) where
  | ok (a : α) (w : DS) | rz (x : Xc) (w : DS) | stuck
  deriving Inhabited
def RR.bind {α β : Type} (r : RR α) (k : α → DS → RR β) : RR β := match r with
  | .ok d w => k d w
  | .rz x w => .rz x w
  | .stuck => .stuck
@[simp] theorem RR.bind_ok {α β : Type} (a : α) (w : DS) (k : α → DS → RR β) : (RR.ok a w).bind k = k a w := rfl
@[simp] theorem RR.bind_rz {α β : Type} (a : Xc) (w : DS) (k : α → DS → RR β) : (RR.rz a w).bind k = RR.rz a w := rfl
@[simp] theorem RR.bind_stuck {α β : Type} (k : α → DS → RR β) : (RR.stuck : RR α).bind k = RR.stuck := rfl
/-- a value that may not be there -/
def RR.of {α : Type} (o : Option α) (w : DS) : RR α := match o with
  | some a => .ok a w
  | none => .stuck
@[simp] theorem RR.of_some {α : Type} (a : α) (w : DS) : RR.of (some a) w = .ok a w := rfl
@[simp] theorem RR.of_none {α : Type} (w : DS) : RR.of (none : Option α) w = .stuck := rfl
inductive EV where
  | un | dat (d : Dv) | lst (ds : List Dv) | dct (kvs : List (Dv × Dv)) | dctT (kvs : List (Dv × Dv)) | drw | fn (f : DS → RR Dv) | lam (j : Nat)
  deriving Inhabited

/-- what a body stands on: the state of the draws, tables of code objects, what may be called -/
structure Ft where
  st : Option (Addr × Addr × Addr)
  tb : List (Addr × Str)
  clo : Addr → (DS → RR Dv) → Prop
  /-- the lambdas of this def, by their number, the name of their code -/
  lam : Nat → Addr → Addr → HO := fun _ _ _ => .tup []
  lq : Str := ""
  ob : Option Addr := none
def inDr (dr : Ft) (a : Addr) : Prop := (∃ x g c, dr.st = some (x, g, c) ∧ (a = x ∨ a = g ∨ a = c)) ∨ (∃ p ∈ dr.tb, p.1 = a) ∨ dr.ob = some a
/-- a table of code objects: each told one bears the name q and is frozen -/
def TabF (F H : Hp) (P : Addr) (q : Str) : Prop := ∃ ps : Array Value, H P = some (.tbl ps) ∧ TriplesOk ps.toList ∧ ∀ (pos : Pos) (cv : Value), codeAmong pos ps.toList = some cv → ∃ c, cv = .ref c ∧ F c = some (LamX.CodeO c q)
structure StX (K : W.Frag) (dr : Ft) (F H : Hp) (w : DS) : Prop where
  sh : ∀ a g c, dr.st = some (a, g, c) → StH H a g c w
  tab : ∀ p ∈ dr.tb, TabF F H p.1 p.2
  obj : ∀ l, dr.ob = some l → ∃ us, H l = some (.lst us) ∧ RpAll K F us w.ob ∧ immAll w.ob = true ∧ ∀ a g c, dr.st = some (a, g, c) → l ≠ g ∧ l ≠ c
theorem StX.mono {K : W.Frag} {dr : Ft} {F F' H H' : Hp} {w : DS} (h : StX K dr F H w) (e : Same F F') (k : ∀ a o, inDr dr a → H a = some o → H' a = some o) : StX K dr F' H' w where
  sh := fun a g c q => (h.sh a g c q).mono (fun o => k a o (.inl ⟨a, g, c, q, .inl rfl⟩)) (fun o => k g o (.inl ⟨a, g, c, q, .inr (.inl rfl)⟩)) fun o => k c o (.inl ⟨a, g, c, q, .inr (.inr rfl)⟩)
  tab := fun p hp => by
    obtain ⟨ps, h1, h2, h3⟩ := h.tab p hp
    refine ⟨ps, k _ _ (.inr (.inl ⟨p, hp, rfl⟩)) h1, h2, fun pos cv q => ?_⟩
    obtain ⟨c, e1, e2⟩ := h3 pos cv q
    exact ⟨c, e1, e _ _ e2⟩
  obj := fun l hl => by
    obtain ⟨us, h1, h2, h3⟩ := h.obj l hl
    exact ⟨us, k _ _ (.inr (.inr hl)) h1, h2.mono e, h3⟩
theorem StX.there {K : W.Frag} {dr : Ft} {F H : Hp} {w : DS} (h : StX K dr F H w) {a : Addr} (z : inDr dr a) : ∃ o, H a = some o := by
  rcases z with ⟨x, g, c, e1, e2⟩ | ⟨p, hp, rfl⟩ | hl
  · obtain ⟨h1, h2, h3, _⟩ := h.sh _ _ _ e1
    rcases e2 with rfl | rfl | rfl
    · exact ⟨_, h1⟩
    · exact ⟨_, h2⟩
    · exact ⟨_, h3⟩
  · obtain ⟨ps, h1, _⟩ := h.tab p hp
    exact ⟨_, h1⟩
  · obtain ⟨us, h1, _⟩ := h.obj _ hl
    exact ⟨_, h1⟩
/-- what holds at a def's entry: its heap, the frozen part, where the state of the draws stands -/
structure Z0 where
  H : Hp
  F : Hp
  dr : Ft
def Z0.foot (Z : Z0) (a : Addr) : Prop := inDr Z.dr a

def SlotR (K : W.Frag) (Z : Z0) (F H : Hp) (ow : Addr → Option Nat) (i : Nat) (s : Option (Option V)) : EV → Prop
  | .un => True
  | .dat d => ∃ v, s = some (some v) ∧ Rp K F v d
  | .lst ds => ∃ a vs, s = some (some (.ref a)) ∧ H a = some (.lst vs) ∧ ow a = some (i + 1) ∧ Z.H a = none ∧ RpAll K F vs ds
  | .dct ds => ∃ a kvs, s = some (some (.ref a)) ∧ H a = some (.dK kvs) ∧ ow a = some (i + 1) ∧ Z.H a = none ∧ RpKv K F kvs ds
  | .dctT ds => ∃ a kvs, s = some (some (.ref a)) ∧ H a = some (.dT kvs) ∧ ow a = some (i + 1) ∧ Z.H a = none ∧ RpKvT K F kvs ds
  | .drw => ∃ a g c, s = some (some (.ref a)) ∧ Z.dr.st = some (a, g, c)
  | .fn f => ∃ a, s = some (some (.ref a)) ∧ Z.dr.clo a f
  | .lam j => ∃ a c, s = some (some (.ref a)) ∧ F a = some (Z.dr.lam j c a) ∧ F c = some (LamX.CodeO c Z.dr.lq)

structure Rep (K : W.Frag) (Z : Z0) (F : Hp) (ow : Addr → Option Nat) (σ : L2.St) (H : Hp) (ρ : List EV) (w : DS) : Prop where
  sub : Same F H
  keepF : Same Z.F F
  newF : ∀ a u, F a = some u → Z.F a = some u ∨ Z.H a = none
  keep : ∀ a o, Z.H a = some o → ¬ Z.foot a → H a = some o ∧ ow a = none
  fzo : ∀ a u, F a = some u → ow a = none
  owh : ∀ a i, ow a = some i → ∃ u, H a = some u
  len : σ.length = ρ.length
  slots : ∀ i e, ρ[i]? = some e → SlotR K Z F H ow i σ[i]? e
  st : StX K Z.dr F H w
  foo : ∀ a, Z.foot a → ow a = some 0

section
variable {K : W.Frag} {Z : Z0} {F F' : Hp} {ow : Addr → Option Nat} {σ : L2.St} {H H' : Hp} {ρ : List EV} {w : DS}
theorem SlotR.grow {i : Nat} {s : Option (Option V)} (e : EV) (g1 : Same F F') (g2 : ∀ a o, ow a ≠ none → H a = some o → H' a = some o) (h : SlotR K Z F H ow i s e) : SlotR K Z F' H' ow i s e := by
  cases e with
  | un => trivial
  | dat d => obtain ⟨v, e, r⟩ := h; exact ⟨v, e, r.mono g1⟩
  | lst ds => obtain ⟨a, vs, e, h1, h2, h3, r⟩ := h; exact ⟨a, vs, e, g2 _ _ (by rw [h2]; simp) h1, h2, h3, r.mono g1⟩
  | dct ds => obtain ⟨a, vs, e, h1, h2, h3, r⟩ := h; exact ⟨a, vs, e, g2 _ _ (by rw [h2]; simp) h1, h2, h3, r.mono g1⟩
  | dctT ds => obtain ⟨a, vs, e, h1, h2, h3, r⟩ := h; exact ⟨a, vs, e, g2 _ _ (by rw [h2]; simp) h1, h2, h3, r.mono g1⟩
  | drw => exact h
  | fn f => exact h
  | lam j => obtain ⟨a, c, e, h1, h2⟩ := h; exact ⟨a, c, e, g1 _ _ h1, g1 _ _ h2⟩
theorem Rep.grow (R : Rep K Z F ow σ H ρ w) (g : Gr F H F' H') : Rep K Z F' ow σ H' ρ w where
  sub := g.fh
  keepF := R.keepF.trans g.ff
  newF := fun a u e => (g.nw a u e).elim (R.newF a u) fun n => by
    cases q : Z.H a with
    | none => exact .inr rfl
    | some o =>
      by_cases z : Z.foot a
      · obtain ⟨u, h1⟩ := R.st.there z
        rw [h1] at n; cases n
      · rw [(R.keep a o q z).1] at n; cases n
  keep := fun a o e z => ⟨g.hh _ _ (R.keep a o e z).1, (R.keep a o e z).2⟩
  fzo := fun a u e => (g.nw a u e).elim (R.fzo a u) fun n => by
    cases q : ow a with
    | none => rfl
    | some i =>
      obtain ⟨u, h⟩ := R.owh a i q
      rw [h] at n; cases n
  owh := fun a i e => let ⟨u, h⟩ := R.owh a i e; ⟨u, g.hh _ _ h⟩
  len := R.len
  slots := fun i e h => (R.slots i e h).grow e g.ff fun a o _ q => g.hh _ _ q
  st := R.st.mono g.ff fun a o _ h => g.hh _ _ h
  foo := R.foo
theorem Rep.get {i : Nat} {d : Dv} (R : Rep K Z F ow σ H ρ w) (h : ρ[i]? = some (.dat d)) : ∃ v, σ[i]? = some (some v) ∧ Rp K F v d := R.slots i _ h
/-- a slot is stored -/
theorem Rep.set {i : Nat} {v : V} {e : EV} (R : Rep K Z F ow σ H ρ w) (h : SlotR K Z F H ow i (some (some v)) e) : Rep K Z F ow (σ.set i (some v)) H (ρ.set i e) w :=
  { R with
    len := by rw [List.length_set, List.length_set]; exact R.len
    slots := fun j e' q => by
      by_cases hj : i = j
      · subst hj
        have hl : i < ρ.length := by
          have := (List.getElem?_eq_some_iff.mp q).1
          rwa [List.length_set] at this
        rw [List.getElem?_set_self hl] at q
        cases q
        rw [List.getElem?_set_self (by rw [R.len]; exact hl)]
        exact h
      · rw [List.getElem?_set_ne hj] at q ⊢
        exact R.slots j e' q }
end

/-! ### readings -/
abbrev Sx := List EV → DS → RR Dv
abbrev Sb := List EV → DS → RR Bool
abbrev Sa := List EV → DS → RR (List EV)
abbrev Sl := List EV → DS → RR (List Dv)
/-- how an exception lies -/
def XR (K : W.Frag) (F : Hp) (x : Xc) (cls : Value) (dx : Option Addr) : Prop :=
  ∃ C, HasName K x.cls C ∧ cls = .ref C ∧ match x.fld with
    | none => dx = none
    | some (n, d) => ∃ a v, dx = some a ∧ F a = some (.xd [(n, v)]) ∧ Rp K F v d
section
variable (K : W.Frag) (Z : Z0) (E : XK)
def Post (σ : L2.St) (ρ : List EV) {α : Type} (P : α → DS → Prop) : RR α → Prop
  | .ok a w => P a w
  | .rz x w => ∀ cls dx H F ow, Rep K Z F ow σ H ρ w → XR K F x cls dx → E cls dx H
  | .stuck => False
def QE (F : Hp) (σ : L2.St) (Q : VK) (ρ : List EV) (d : Dv) (w : DS) : Prop := ∀ v H' F' ow', Same F F' → Rep K Z F' ow' σ H' ρ w → Rp K F' v d → Q v H'
def QT (F : Hp) (σ : L2.St) (Q : Bool → Hp → Prop) (ρ : List EV) (b : Bool) (w : DS) : Prop := ∀ H' F' ow', Same F F' → Rep K Z F' ow' σ H' ρ w → Q b H'
end
inductive ArgR (K : W.Frag) (F : Hp) (dr : Ft) : List V → List EV → Prop
  | nil : ArgR K F dr [] []
  | dat {v : V} {d : Dv} {vs : List V} {ps : List EV} : Rp K F v d → ArgR K F dr vs ps → ArgR K F dr (v :: vs) (.dat d :: ps)
  | drw {a g c : Addr} {vs : List V} {ps : List EV} : dr.st = some (a, g, c) → ArgR K F dr vs ps → ArgR K F dr (.ref a :: vs) (.drw :: ps)
  | fn {a : Addr} {f : DS → RR Dv} {vs : List V} {ps : List EV} : dr.clo a f → ArgR K F dr vs ps → ArgR K F dr (.ref a :: vs) (.fn f :: ps)
theorem ArgR.mono {K : W.Frag} {F F' : Hp} {dr : Ft} (e : Same F F') {vs : List V} {ps : List EV} (h : ArgR K F dr vs ps) : ArgR K F' dr vs ps := by
  induction h with
  | nil => exact .nil
  | dat r _ ih => exact .dat (r.mono e) ih
  | drw e _ ih => exact .drw e ih
  | fn e _ ih => exact .fn e ih
theorem ArgR.length {K : W.Frag} {F : Hp} {dr : Ft} {vs : List V} {ps : List EV} (h : ArgR K F dr vs ps) : vs.length = ps.length := by
  induction h with
  | nil => rfl
  | dat r _ ih => rw [List.length_cons, List.length_cons, ih]
  | drw e _ ih => rw [List.length_cons, List.length_cons, ih]
  | fn e _ ih => rw [List.length_cons, List.length_cons, ih]
section
variable (K : W.Frag) (Z : Z0) (E : XK)
def QA (F : Hp) (σ : L2.St) (Q : List V → Hp → Prop) (ρ : List EV) (ps : List EV) (w : DS) : Prop := ∀ vs H' F' ow', Same F F' → Rep K Z F' ow' σ H' ρ w → ArgR K F' Z.dr vs ps → Q vs H'
/-- a new list, not frozen yet -/
def QN (F : Hp) (σ : L2.St) (Q : VK) (ρ : List EV) (ds : List Dv) (w : DS) : Prop := ∀ p vs H' F' ow', Same F F' → Rep K Z F' ow' σ H' ρ w → H' p = some (.lst vs) → ow' p = none → F' p = none → Z.H p = none → RpAll K F' vs ds → Q (.ref p) H'
def Snd (t : TE) (f : Sx) : Prop := ∀ F ow σ H ρ w Q, Rep K Z F ow σ H ρ w → Post K Z E σ ρ (QE K Z F σ Q ρ) (f ρ w) → t σ H Q
def SndT (t : TT) (f : Sb) : Prop := ∀ F ow σ H ρ w Q, Rep K Z F ow σ H ρ w → Post K Z E σ ρ (QT K Z F σ Q ρ) (f ρ w) → t σ H Q
def SndA (t : TA) (f : Sa) : Prop := ∀ F ow σ H ρ w Q, Rep K Z F ow σ H ρ w → Post K Z E σ ρ (QA K Z F σ Q ρ) (f ρ w) → t σ H Q
def SndN (t : TE) (f : Sl) : Prop := ∀ F ow σ H ρ w Q, Rep K Z F ow σ H ρ w → Post K Z E σ ρ (QN K Z F σ Q ρ) (f ρ w) → t σ H Q
end
section
variable {K : W.Frag} {Z : Z0} {E : XK} {F : Hp} {ow : Addr → Option Nat} {σ : L2.St} {H : Hp} {ρ : List EV} {w : DS}
/-- an expression, then what hangs on its value -/
theorem Snd.seq {t : TE} {f : Sx} {C : VK} {α : Type} {P : α → DS → Prop} {k : Dv → DS → RR α} (h : Snd K Z E t f) (R : Rep K Z F ow σ H ρ w) (hp : Post K Z E σ ρ P ((f ρ w).bind k))
    (c : ∀ d w' v H' F' ow', Same F F' → Rep K Z F' ow' σ H' ρ w' → Rp K F' v d → Post K Z E σ ρ P (k d w') → C v H') : t σ H C := by
  refine h F ow σ H ρ w C R ?_
  cases e : f ρ w with
  | ok d w' => rw [e] at hp; exact fun v H' F' ow' s R' r => c d w' v H' F' ow' s R' r hp
  | rz y w' => rw [e] at hp; exact hp
  | stuck => rw [e] at hp; exact hp
theorem SndT.seq {t : TT} {f : Sb} {C : Bool → Hp → Prop} {α : Type} {P : α → DS → Prop} {k : Bool → DS → RR α} (h : SndT K Z E t f) (R : Rep K Z F ow σ H ρ w) (hp : Post K Z E σ ρ P ((f ρ w).bind k))
    (c : ∀ d w' H' F' ow', Same F F' → Rep K Z F' ow' σ H' ρ w' → Post K Z E σ ρ P (k d w') → C d H') : t σ H C := by
  refine h F ow σ H ρ w C R ?_
  cases e : f ρ w with
  | ok d w' => rw [e] at hp; exact fun H' F' ow' s R' => c d w' H' F' ow' s R' hp
  | rz y w' => rw [e] at hp; exact hp
  | stuck => rw [e] at hp; exact hp
theorem SndA.seq {t : TA} {f : Sa} {C : List V → Hp → Prop} {α : Type} {P : α → DS → Prop} {k : List EV → DS → RR α} (h : SndA K Z E t f) (R : Rep K Z F ow σ H ρ w) (hp : Post K Z E σ ρ P ((f ρ w).bind k))
    (c : ∀ d w' v H' F' ow', Same F F' → Rep K Z F' ow' σ H' ρ w' → ArgR K F' Z.dr v d → Post K Z E σ ρ P (k d w') → C v H') : t σ H C := by
  refine h F ow σ H ρ w C R ?_
  cases e : f ρ w with
  | ok d w' => rw [e] at hp; exact fun v H' F' ow' s R' r => c d w' v H' F' ow' s R' r hp
  | rz y w' => rw [e] at hp; exact hp
  | stuck => rw [e] at hp; exact hp
theorem SndN.seq {t : TE} {f : Sl} {C : VK} {α : Type} {P : α → DS → Prop} {k : List Dv → DS → RR α} (h : SndN K Z E t f) (R : Rep K Z F ow σ H ρ w) (hp : Post K Z E σ ρ P ((f ρ w).bind k))
    (c : ∀ ds w' p vs H' F' ow', Same F F' → Rep K Z F' ow' σ H' ρ w' → H' p = some (.lst vs) → ow' p = none → F' p = none → Z.H p = none → RpAll K F' vs ds → Post K Z E σ ρ P (k ds w') → C (.ref p) H') : t σ H C := by
  refine h F ow σ H ρ w C R ?_
  cases e : f ρ w with
  | ok d w' => rw [e] at hp; exact fun p vs H' F' ow' s R' h1 h2 h3 h4 r => c d w' p vs H' F' ow' s R' h1 h2 h3 h4 r hp
  | rz y w' => rw [e] at hp; exact hp
  | stuck => rw [e] at hp; exact hp
theorem QE.up {F F1 : Hp} {Q : VK} {d : Dv} {w : DS} (e : Same F F1) (h : QE K Z F σ Q ρ d w) : QE K Z F1 σ Q ρ d w := fun v H' F' ow' s => h v H' F' ow' (e.trans s)
theorem Post.imp {α : Type} {P P' : α → DS → Prop} {r : RR α} (h : Post K Z E σ ρ P r) (i : ∀ a w, P a w → P' a w) : Post K Z E σ ρ P' r := by
  cases r with
  | ok a w => exact i _ _ h
  | rz x w => exact h
  | stuck => exact h
theorem freezeRep {p : Addr} {o : HO} (R : Rep K Z F ow σ H ρ w) (hp : H p = some o) (hw : ow p = none) (hf : F p = none) (hz : Z.H p = none) : Rep K Z (upd F p o) ow σ H ρ w :=
  have ef : Same F (upd F p o) := same_upd hf
  { R with
    sub := fun b x eb => by
      by_cases z : b = p
      · subst z; rw [upd_same] at eb; cases eb; exact hp
      · rw [upd_ne z] at eb; exact R.sub _ _ eb
    keepF := R.keepF.trans ef
    newF := fun b x eb => by
      by_cases z : b = p
      · subst z; exact .inr hz
      · rw [upd_ne z] at eb; exact R.newF _ _ eb
    fzo := fun b x eb => by
      by_cases z : b = p
      · subst z; exact hw
      · rw [upd_ne z] at eb; exact R.fzo _ _ eb
    st := R.st.mono ef fun _ _ _ q => q
    slots := fun i x h => (R.slots i x h).grow x ef fun _ _ _ q => q }
/-- a new address is nobody's -/
theorem Rep.fresh (R : Rep K Z F ow σ H ρ w) {p : Addr} (n : H p = none) : ow p = none ∧ F p = none ∧ Z.H p = none := by
  refine ⟨?_, R.sub.free n, ?_⟩
  · cases q : ow p with
    | none => rfl
    | some i => obtain ⟨u, h⟩ := R.owh p i q; rw [h] at n; cases n
  · cases q : Z.H p with
    | none => rfl
    | some o =>
      by_cases z : Z.foot p
      · obtain ⟨u, h1⟩ := R.st.there z
        rw [h1] at n; cases n
      · rw [(R.keep p o q z).1] at n; cases n
theorem SndN.snd {t : TE} {f : Sl} (h : SndN K Z E t f) : Snd K Z E t (fun ρ w => (f ρ w).bind fun ds w => .ok (.lst ds) w) := fun F ow σ H ρ w Q R q =>
  h.seq R q fun ds w' p vs H' F' ow' s R' hp hw hf hz r q' =>
    have ef : Same F' (upd F' p (.lst vs)) := same_upd hf
    q' (.ref p) H' (upd F' p (.lst vs)) ow' (s.trans ef) (freezeRep R' hp hw hf hz) (.lst upd_same (r.mono ef))
end
end DL

namespace DL
open PySem PySem.Spec PyProof.Rows L2

/-- an expression of the text, its reading, what it is over data -/
structure DE (X : Cx) (Z : Z0) (E : XK) (e : Expr) (t : TE) (f : Sx) : Prop where
  pe : PE X e t
  sn : Snd X.K Z E t f
structure DT (X : Cx) (Z : Z0) (E : XK) (e : Expr) (t : TT) (f : Sb) : Prop where
  pt : PT X e t
  sn : SndT X.K Z E t f
structure DW (X : Cx) (Z : Z0) (E : XK) (e : Expr) (t : TT) (f : Sb) : Prop where
  pw : PW X e t
  sn : SndT X.K Z E t f
structure DA (X : Cx) (Z : Z0) (E : XK) (es : List Expr) (t : TA) (f : Sa) : Prop where
  pa : PA X es t
  sn : SndA X.K Z E t f
/-- a new list -/
structure DN (X : Cx) (Z : Z0) (E : XK) (e : Expr) (t : TE) (f : Sl) : Prop where
  pe : PE X e t
  sn : SndN X.K Z E t f

/-! ### what they are over data -/
def fVar (i : Nat) : Sx := fun ρ w => match ρ[i]? with
  | some (.dat d) => .ok d w
  | _ => .stuck
def fC (d : Dv) : Sx := fun _ w => .ok d w
def fOp (op : Dv → Dv → Option Dv) (fa fb : Sx) : Sx := fun ρ w => (fa ρ w).bind fun d w1 => (fb ρ w1).bind fun e w2 => .of (op d e) w2
def fUn (op : Dv → Option Dv) (fa : Sx) : Sx := fun ρ w => (fa ρ w).bind fun d w1 => .of (op d) w1
def fBool (f : Sx) : Sb := fun ρ w => (f ρ w).bind fun d w1 => match d with
  | .bl b => .ok b w1
  | _ => .stuck
def fAnd (fa fb : Sb) : Sb := fun ρ w => (fa ρ w).bind fun b w1 => if b = true then fb ρ w1 else .ok false w1
def fOr (fa fb : Sb) : Sb := fun ρ w => (fa ρ w).bind fun b w1 => if b = true then .ok true w1 else fb ρ w1
def fNot (fa : Sb) : Sb := fun ρ w => (fa ρ w).bind fun b w1 => .ok (!b) w1
def fOfB (fa : Sb) : Sx := fun ρ w => (fa ρ w).bind fun b w1 => .ok (.bl b) w1
def fIf (fc : Sb) (fa fb : Sx) : Sx := fun ρ w => (fc ρ w).bind fun b w1 => if b = true then fa ρ w1 else fb ρ w1
def aNil : Sa := fun _ w => .ok [] w
def aCons (fa : Sx) (fr : Sa) : Sa := fun ρ w => (fa ρ w).bind fun d w1 => (fr ρ w1).bind fun ps w2 => .ok (.dat d :: ps) w2
def aDrw (i : Nat) (fr : Sa) : Sa := fun ρ w => match ρ[i]? with
  | some .drw => (fr ρ w).bind fun ps w2 => .ok (.drw :: ps) w2
  | _ => .stuck
def datsOf : List EV → Option (List Dv)
  | [] => some []
  | .dat d :: r => (datsOf r).map (d :: ·)
  | _ => none
def fDats (fa : Sa) : Sl := fun ρ w => (fa ρ w).bind fun ps w1 => .of (datsOf ps) w1
def big : Nat := 16777216
def fTup (fa : Sa) : Sx := fun ρ w => (fDats fa ρ w).bind fun ds w1 => if ds.length ≤ big then .ok (.tup ds) w1 else .stuck
def fLst (fa : Sa) : Sl := fun ρ w => (fDats fa ρ w).bind fun ds w1 => if ds.length ≤ big then .ok ds w1 else .stuck
def fCB (op : List Dv → Option Dv) (fa : Sa) : Sx := fun ρ w => (fDats fa ρ w).bind fun ds w1 => .of (op ds) w1
def fCN (op : List Dv → Option (List Dv)) (fa : Sa) : Sl := fun ρ w => (fDats fa ρ w).bind fun ds w1 => .of (op ds) w1
def fFrz (f : Sl) : Sx := fun ρ w => (f ρ w).bind fun ds w => .ok (.lst ds) w
abbrev Fsem := List EV → DS → RR Dv
def fCall (sem : Fsem) (fa : Sa) : Sx := fun ρ w => (fa ρ w).bind fun ps w1 => sem ps w1

theorem ArgR.dats {K : W.Frag} {F : Hp} {dr : Ft} {vs : List V} {ps : List EV} (h : ArgR K F dr vs ps) : ∀ {ds : List Dv}, datsOf ps = some ds → RpAll K F vs ds := by
  induction h with
  | nil => intro ds e; cases e; exact .nil
  | @dat v d vs ps r _ ih =>
    intro ds e
    simp only [datsOf] at e
    cases q : datsOf ps with
    | none => rw [q] at e; cases e
    | some es => rw [q] at e; cases e; exact .cons r (ih q)
  | drw _ _ ih => intro ds e; cases e
  | fn _ _ ih => intro ds e; cases e

section
variable {X : Cx} {Z : Z0} {E : XK} {pos : Pos} {ta tb : TE} {fa fb : Sx} {a b : Expr}

theorem e_var (i : Nat) {x : Str} (hN : X.N[i]? = some x := by rfl) (hv : Vis X.env.scope x := by first | exact Or.inl rfl | exact Or.inr (Or.inl rfl) | exact Or.inr (Or.inr rfl)) (hd : (x == ("__debug__" : Str)) = false := by decide)
    (hcd : (x == ("__classdict__" : Str)) = false := by decide) : DE X Z E (.Name x pos) (tVar i) (fVar i) := ⟨pe_var hN hv hd hcd, by
  intro F ow σ H ρ w Q R q
  unfold fVar at q
  cases e : ρ[i]? with
  | none => rw [e] at q; exact q.elim
  | some s =>
    rw [e] at q
    cases s with
    | dat d =>
      obtain ⟨v, h, r⟩ := R.get e
      exact ⟨v, h, q v H F ow (Same.refl _) R r⟩
    | _ => exact q.elim⟩
theorem s_c {K : W.Frag} {v : V} {d : Dv} (h : ∀ F, Rp K F v d) : Snd K Z E (tC v) (fC d) := fun F ow σ H ρ w Q R q => q v H F ow (Same.refl _) R (h F)
theorem e_int {i : Int} {j} : DE X Z E (.Constant (.int i) j pos) (tC (.int i)) (fC (.int i)) := ⟨pe_int, s_c fun _ => .int i⟩
theorem e_bl {i : Bool} {j} : DE X Z E (.Constant (.bool i) j pos) (tC (.bl i)) (fC (.bl i)) := ⟨pe_bl, s_c fun _ => .bl i⟩
theorem e_non {j} : DE X Z E (.Constant .none j pos) (tC .non) (fC .non) := ⟨pe_non, s_c fun _ => .non⟩
theorem e_str {i : Str} {j} : DE X Z E (.Constant (.str i) j pos) (tC (.str i)) (fC (.str i)) := ⟨pe_str, s_c fun _ => .str i⟩
theorem e_glob {x : Str} {u : Value} {v : V} {d : Dv} (hg : Gl X x) (hm : X.mg x = some u) (r : RelV v u) (h : ∀ F, Rp X.K F v d) (hd : (x == ("__debug__" : Str)) = false := by decide) : DE X Z E (.Name x pos) (tC v) (fC d) := ⟨pe_glob hg hm r hd, s_c h⟩

/-- an operator by values -/
def OpS (K : W.Frag) (r : R2) (op : Dv → Dv → Option Dv) : Prop := ∀ F H x y d e z (Q : VK), op d e = some z → Same F H → Rp K F x d → Rp K F y e → (∀ v F' H', Gr F H F' H' → Rp K F' v z → Q v H') → r x y H Q
theorem s_op {K : W.Frag} {r : R2} {op : Dv → Dv → Option Dv} (o : OpS K r op) (ha : Snd K Z E ta fa) (hb : Snd K Z E tb fb) : Snd K Z E (tOp r ta tb) (fOp op fa fb) := fun F ow σ H ρ w Q R q =>
  ha.seq R q fun d w1 x H1 F1 ow1 s1 R1 r1 q1 => hb.seq R1 q1 fun e w2 y H2 F2 ow2 s2 R2 r2 q2 => by
    cases ez : op d e with
    | none => rw [ez] at q2; exact q2.elim
    | some z =>
      rw [ez] at q2
      exact o F2 H2 x y d e z Q ez R2.sub (r1.mono s2) r2 fun v F' H' g rz => q2 v H' F' ow2 ((s1.trans s2).trans g.ff) (R2.grow g) rz
theorem e_op {K0 : W.Frag} {r : R2} {op : Dv → Dv → Option Dv} {bo : Operator} (ho : OpR X (binaryOp bo) r) (o : OpS K0 r op) (ha : DE X Z E a ta fa) (hb : DE X Z E b tb fb) (hK0 : X.K = K0 := by rfl) : DE X Z E (.BinOp a bo b pos) (tOp r ta tb) (fOp op fa fb) := by subst hK0; exact ⟨pe_op ho ha.pe hb.pe, s_op o ha.sn hb.sn⟩
theorem e_cmp {K0 : W.Frag} {r : R2} {op : Dv → Dv → Option Dv} {bo : CmpOp} (ho : OpR X (compareOp bo) r) (o : OpS K0 r op) (ha : DE X Z E a ta fa) (hb : DE X Z E b tb fb) (hm : behindInMarks bo b = false) (hK0 : X.K = K0 := by rfl) : DE X Z E (.Compare a [bo] [b] pos) (tOp r ta tb) (fOp op fa fb) := by subst hK0; exact ⟨pe_cmpR ho ha.pe hb.pe hm, s_op o ha.sn hb.sn⟩
theorem s_test {K : W.Frag} {t : TE} {f : Sx} (h : Snd K Z E t f) : SndT K Z E (fun σ H Q => t σ H fun x H' => ∃ k, x = .bl k ∧ Q k H') (fBool f) := fun F ow σ H ρ w Q R q =>
  h.seq R q fun d w1 x H1 F1 ow1 s1 R1 r1 q1 => by
    cases d with
    | bl b => cases r1; exact ⟨b, rfl, q1 H1 F1 ow1 s1 R1⟩
    | _ => exact q1.elim
theorem t_cmp {K0 : W.Frag} {r : R2} {op : Dv → Dv → Option Dv} {bo : CmpOp} (ho : OpR X (compareOp bo) r) (o : OpS K0 r op) (ha : DE X Z E a ta fa) (hb : DE X Z E b tb fb) (hm : behindInMarks bo b = false) (hK0 : X.K = K0 := by rfl) : DT X Z E (.Compare a [bo] [b] pos) (tTest (tOp r ta tb)) (fBool (fOp op fa fb)) := by subst hK0; exact 
  ⟨pt_cmpR ho ha.pe hb.pe hm, s_test (s_op o ha.sn hb.sn)⟩
theorem t_val {t : TE} {f : Sx} {e : Expr} (h : DE X Z E e t f) (he : ∀ whole, isTrue e X.env whole = (do let v ← whole; standAt e.pos; holding [v] (truthy v)) := by intro _; rfl) : DT X Z E e (tB t) (fBool f) := ⟨pt_val h.pe he, s_test h.sn⟩
theorem s_and {K : W.Frag} {t u : TT} {f g : Sb} (h1 : SndT K Z E t f) (h2 : SndT K Z E u g) : SndT K Z E (tAnd t u) (fAnd f g) := fun F ow σ H ρ w Q R q =>
  h1.seq R q fun b w1 H1 F1 ow1 s1 R1 q1 => by
    cases b with
    | true => rw [if_pos rfl] at q1 ⊢; exact h2 F1 ow1 σ H1 ρ w1 Q R1 (q1.imp fun b w h H' F' ow' s => h H' F' ow' (s1.trans s))
    | false => rw [if_neg Bool.false_ne_true] at q1 ⊢; exact q1 H1 F1 ow1 s1 R1
theorem s_or {K : W.Frag} {t u : TT} {f g : Sb} (h1 : SndT K Z E t f) (h2 : SndT K Z E u g) : SndT K Z E (tOr t u) (fOr f g) := fun F ow σ H ρ w Q R q =>
  h1.seq R q fun b w1 H1 F1 ow1 s1 R1 q1 => by
    cases b with
    | false => rw [if_neg Bool.false_ne_true] at q1 ⊢; exact h2 F1 ow1 σ H1 ρ w1 Q R1 (q1.imp fun b w h H' F' ow' s => h H' F' ow' (s1.trans s))
    | true => rw [if_pos rfl] at q1 ⊢; exact q1 H1 F1 ow1 s1 R1
theorem s_not {K : W.Frag} {t : TT} {f : Sb} (h1 : SndT K Z E t f) : SndT K Z E (tNot t) (fNot f) := fun F ow σ H ρ w Q R q =>
  h1.seq R q fun b w1 H1 F1 ow1 s1 R1 q1 => q1 H1 F1 ow1 s1 R1
theorem DW.dt {e : Expr} {t : TT} {f : Sb} (h : DW X Z E e t f) : DT X Z E e t f := ⟨h.pw.pt, h.sn⟩
section
variable {rest : List Expr} {t u : TT} {f g : Sb}
theorem w_and1 (h : DT X Z E a t f) : DW X Z E (.BoolOp .And [a] pos) t f := ⟨pw_and1 h.pt, h.sn⟩
theorem w_or1 (h : DT X Z E a t f) : DW X Z E (.BoolOp .Or [a] pos) t f := ⟨pw_or1 h.pt, h.sn⟩
theorem w_and (h : DT X Z E a t f) (h2 : DW X Z E (.BoolOp .And (b :: rest) pos) u g) : DW X Z E (.BoolOp .And (a :: b :: rest) pos) (tAnd t u) (fAnd f g) := ⟨pw_and h.pt h2.pw, s_and h.sn h2.sn⟩
theorem w_or (h : DT X Z E a t f) (h2 : DW X Z E (.BoolOp .Or (b :: rest) pos) u g) : DW X Z E (.BoolOp .Or (a :: b :: rest) pos) (tOr t u) (fOr f g) := ⟨pw_or h.pt h2.pw, s_or h.sn h2.sn⟩
theorem t_not (h : DT X Z E a t f) : DT X Z E (.UnaryOp .Not a pos) (tNot t) (fNot f) := ⟨pt_not h.pt, s_not h.sn⟩
theorem e_if {c : Expr} (hc : DT X Z E c t f) (ha : DE X Z E a ta fa) (hb : DE X Z E b tb fb) : DE X Z E (.IfExp c a b pos) (tIf t ta tb) (fIf f fa fb) := ⟨pe_ifExp hc.pt ha.pe hb.pe, fun F ow σ H ρ w Q R q =>
  hc.sn.seq R q fun k w1 H1 F1 ow1 s1 R1 q1 => by
    cases k with
    | true => rw [if_pos rfl] at q1 ⊢; exact ha.sn F1 ow1 σ H1 ρ w1 Q R1 (q1.imp fun d w h => h.up s1)
    | false => rw [if_neg Bool.false_ne_true] at q1 ⊢; exact hb.sn F1 ow1 σ H1 ρ w1 Q R1 (q1.imp fun d w h => h.up s1)⟩
end
/-! and, or, not as values (bools) -/
def fAndV (fa fb : Sx) : Sx := fun ρ w => (fa ρ w).bind fun d w1 => match d with
  | .bl true => fb ρ w1
  | .bl false => .ok (.bl false) w1
  | _ => .stuck
def fOrV (fa fb : Sx) : Sx := fun ρ w => (fa ρ w).bind fun d w1 => match d with
  | .bl false => fb ρ w1
  | .bl true => .ok (.bl true) w1
  | _ => .stuck
def fNotV (fa : Sx) : Sx := fun ρ w => (fa ρ w).bind fun d w1 => match d with
  | .bl b => .ok (.bl (!b)) w1
  | _ => .stuck
theorem e_one {op} {t : TE} {f : Sx} (h : DE X Z E a t f) : DE X Z E (.BoolOp op [a] pos) t f := ⟨pe_one h.pe, h.sn⟩
theorem e_and {rest : List Expr} (ha : DE X Z E a ta fa) (hb : DE X Z E (.BoolOp .And (b :: rest) pos) tb fb) : DE X Z E (.BoolOp .And (a :: b :: rest) pos) (tAndV ta tb) (fAndV fa fb) := ⟨pe_and ha.pe hb.pe, fun F ow σ H ρ w Q R q =>
  ha.sn.seq R q fun d w1 v H1 F1 ow1 s1 R1 r1 q1 => by
    cases d with
    | bl k =>
      cases r1
      cases k with
      | true => exact ⟨true, rfl, by rw [if_pos rfl]; exact hb.sn F1 ow1 σ H1 ρ w1 Q R1 (q1.imp fun d w h => h.up s1)⟩
      | false => exact ⟨false, rfl, by rw [if_neg Bool.false_ne_true]; exact q1 _ H1 F1 ow1 s1 R1 (.bl false)⟩
    | _ => exact q1.elim⟩
theorem e_or {rest : List Expr} (ha : DE X Z E a ta fa) (hb : DE X Z E (.BoolOp .Or (b :: rest) pos) tb fb) : DE X Z E (.BoolOp .Or (a :: b :: rest) pos) (tOrV ta tb) (fOrV fa fb) := ⟨pe_or ha.pe hb.pe, fun F ow σ H ρ w Q R q =>
  ha.sn.seq R q fun d w1 v H1 F1 ow1 s1 R1 r1 q1 => by
    cases d with
    | bl k =>
      cases r1
      cases k with
      | false => exact ⟨false, rfl, by rw [if_neg Bool.false_ne_true]; exact hb.sn F1 ow1 σ H1 ρ w1 Q R1 (q1.imp fun d w h => h.up s1)⟩
      | true => exact ⟨true, rfl, by rw [if_pos rfl]; exact q1 _ H1 F1 ow1 s1 R1 (.bl true)⟩
    | _ => exact q1.elim⟩
theorem e_not (ha : DE X Z E a ta fa) : DE X Z E (.UnaryOp .Not a pos) (tNotV ta) (fNotV fa) := ⟨pe_not ha.pe, fun F ow σ H ρ w Q R q =>
  ha.sn.seq R q fun d w1 v H1 F1 ow1 s1 R1 r1 q1 => by
    cases d with
    | bl k => cases r1; exact ⟨k, rfl, q1 _ H1 F1 ow1 s1 R1 (.bl _)⟩
    | _ => exact q1.elim⟩
def UnS (K : W.Frag) (r : V → Hp → VK → Prop) (op : Dv → Option Dv) : Prop := ∀ F H x d z (Q : VK), op d = some z → Same F H → Rp K F x d → (∀ v F' H', Gr F H F' H' → Rp K F' v z → Q v H') → r x H Q
theorem e_un {K0 : W.Frag} {r : V → Hp → VK → Prop} {op : Dv → Option Dv} {uo : UnaryOp} (ho : UnR X (unaryOp uo) r) (o : UnS K0 r op) (ha : DE X Z E a ta fa) (hK0 : X.K = K0 := by rfl) : DE X Z E (.UnaryOp uo a pos) (tUn r ta) (fUn op fa) := by subst hK0; exact ⟨pe_un ho ha.pe, fun F ow σ H ρ w Q R q =>
  ha.sn.seq R q fun d w1 x H1 F1 ow1 s1 R1 r1 q1 => by
    cases ez : op d with
    | none => rw [ez] at q1; exact q1.elim
    | some z => rw [ez] at q1; exact o F1 H1 x d z Q ez R1.sub r1 fun v F' H' g rz => q1 v H' F' ow1 (s1.trans g.ff) (R1.grow g) rz⟩

/-! ### arguments -/
theorem a_nil : DA X Z E [] tNil aNil := ⟨pa_nil, fun F ow σ H ρ w Q R q => q [] H F ow (Same.refl _) R .nil⟩
theorem a_cons {e : Expr} {es : List Expr} {te : TE} {fe : Sx} {t : TA} {f : Sa} (ha : DE X Z E e te fe) (hr : DA X Z E es t f) (hs : starEach (e :: es) X.env = (false, eval e X.env) :: starEach es X.env := by rfl) : DA X Z E (e :: es) (tCons te t) (aCons fe f) :=
  ⟨pa_cons ha.pe hr.pa hs, fun F ow σ H ρ w Q R q => ha.sn.seq R q fun d w1 x H1 F1 ow1 s1 R1 r1 q1 => hr.sn.seq R1 q1 fun ps w2 vs H2 F2 ow2 s2 R2 r2 q2 =>
    q2 (x :: vs) H2 F2 ow2 (s1.trans s2) R2 (.dat (r1.mono s2) r2)⟩
theorem a_drw (i : Nat) {x : Str} {es : List Expr} {t : TA} {f : Sa} (hr : DA X Z E es t f) (hN : X.N[i]? = some x := by rfl) (hv : Vis X.env.scope x := by first | exact Or.inl rfl | exact Or.inr (Or.inl rfl) | exact Or.inr (Or.inr rfl)) (hd : (x == ("__debug__" : Str)) = false := by decide)
    (hcd : (x == ("__classdict__" : Str)) = false := by decide) (hs : starEach (.Name x pos :: es) X.env = (false, eval (.Name x pos) X.env) :: starEach es X.env := by rfl) : DA X Z E (.Name x pos :: es) (tCons (tVar i) t) (aDrw i f) :=
  ⟨pa_cons (pe_var hN hv hd hcd) hr.pa hs, fun F ow σ H ρ w Q R q => by
    unfold aDrw at q
    cases e : ρ[i]? with
    | none => rw [e] at q; exact q.elim
    | some s =>
      rw [e] at q
      cases s with
      | drw =>
        obtain ⟨a, g, c, h, hz⟩ := R.slots i _ e
        exact ⟨_, h, hr.sn.seq R q fun ps w2 vs H2 F2 ow2 s2 R2 r2 q2 => q2 (.ref a :: vs) H2 F2 ow2 s2 R2 (.drw hz r2)⟩
      | _ => exact q.elim⟩
/-- arguments that are data -/
theorem SndA.dats {K : W.Frag} {F : Hp} {ow : Addr → Option Nat} {σ : L2.St} {H : Hp} {ρ : List EV} {w : DS} {t : TA} {f : Sa} {C : List V → Hp → Prop} {α : Type} {P : α → DS → Prop} {k : List Dv → DS → RR α} (h : SndA K Z E t f) (R : Rep K Z F ow σ H ρ w)
    (hp : Post K Z E σ ρ P ((fDats f ρ w).bind k)) (c : ∀ ds w' vs H' F' ow', Same F F' → Rep K Z F' ow' σ H' ρ w' → RpAll K F' vs ds → Post K Z E σ ρ P (k ds w') → C vs H') : t σ H C := by
  refine h.seq (P := P) (k := fun ps w1 => (RR.of (datsOf ps) w1).bind k) R ?_ fun ps w' vs H' F' ow' s R' r q => ?_
  · unfold fDats at hp
    cases e : f ρ w with
    | ok ps w1 => rw [e] at hp; exact hp
    | rz x w1 => rw [e] at hp; exact hp
    | stuck => rw [e] at hp; exact hp
  · cases e : datsOf ps with
    | none => rw [e] at q; exact q.elim
    | some ds => rw [e] at q; exact c ds w' vs H' F' ow' s R' (r.dats e) q
theorem sizeLine_big : sizeLine = big := sizeLine_eq
theorem e_tup {es : List Expr} {x1} {t : TA} {f : Sa} (h : DA X Z E es t f) : DE X Z E (.Tuple es x1 pos) (tTup t) (fTup f) := ⟨pe_tup h.pa, fun F ow σ H ρ w Q R q =>
  h.sn.dats R q fun ds w' vs H' F' ow' s R' r q' => by
    by_cases hl : ds.length ≤ big
    · rw [if_pos hl] at q'
      refine ⟨by rw [r.length, sizeLine_big]; exact hl, fun p np => ?_⟩
      have g := Gr.new R'.sub (.tup vs) np
      exact q' (.ref p) _ _ ow' (s.trans g.ff) (R'.grow g) (.tup (.of upd_same) (r.mono g.ff))
    · rw [if_neg hl] at q'; exact q'.elim⟩
theorem n_lst {es : List Expr} {t : TA} {f : Sa} (h : DA X Z E es t f) : DN X Z E (.List es pos) (tLst t) (fLst f) := ⟨pe_lst h.pa, fun F ow σ H ρ w Q R q =>
  h.sn.dats R q fun ds w' vs H' F' ow' s R' r q' => by
    by_cases hl : ds.length ≤ big
    · rw [if_pos hl] at q'
      refine ⟨by rw [r.length, sizeLine_big]; exact hl, fun p np => ?_⟩
      obtain ⟨h1, h2, h3⟩ := R'.fresh np
      have g := Gr.apart R'.sub (.lst vs) np
      exact q' p vs _ F' ow' s (R'.grow g) upd_same h1 h2 h3 r
    · rw [if_neg hl] at q'; exact q'.elim⟩
theorem e_frz {e : Expr} {t : TE} {f : Sl} (h : DN X Z E e t f) : DE X Z E e t (fFrz f) := ⟨h.pe, h.sn.snd⟩

/-! ### calls of built-ins -/
def CallS (K : W.Frag) (r : List V → Hp → VK → Prop) (op : List Dv → Option Dv) : Prop := ∀ F H xs ds z (Q : VK), op ds = some z → Same F H → RpAll K F xs ds → (∀ v F' H', Gr F H F' H' → Rp K F' v z → Q v H') → r xs H Q
def CallN (K : W.Frag) (r : List V → Hp → VK → Prop) (op : List Dv → Option (List Dv)) : Prop := ∀ F H xs ds zs (Q : VK), op ds = some zs → Same F H → RpAll K F xs ds →
  (∀ p vs F1 H1, Gr F H F1 H1 → H1 p = none → RpAll K F1 vs zs → Q (.ref p) (upd H1 p (.lst vs))) → r xs H Q
theorem s_cb {K : W.Frag} {r : List V → Hp → VK → Prop} {op : List Dv → Option Dv} {t : TA} {f : Sa} (o : CallS K r op) (h : SndA K Z E t f) : Snd K Z E (tCB r t) (fCB op f) := fun F ow σ H ρ w Q R q =>
  h.dats R q fun ds w' vs H' F' ow' s R' r q' => by
    cases ez : op ds with
    | none => rw [ez] at q'; exact q'.elim
    | some z => rw [ez] at q'; exact o F' H' vs ds z Q ez R'.sub r fun v F2 H2 g rz => q' v H2 F2 ow' (s.trans g.ff) (R'.grow g) rz
theorem s_cn {K : W.Frag} {r : List V → Hp → VK → Prop} {op : List Dv → Option (List Dv)} {t : TA} {f : Sa} (o : CallN K r op) (h : SndA K Z E t f) : SndN K Z E (tCB r t) (fCN op f) := fun F ow σ H ρ w Q R q =>
  h.dats R q fun ds w' vs H' F' ow' s R' r q' => by
    cases ez : op ds with
    | none => rw [ez] at q'; exact q'.elim
    | some z =>
      rw [ez] at q'
      refine o F' H' vs ds z Q ez R'.sub r fun p us F1 H1 g np rz => ?_
      have R1 := R'.grow g
      obtain ⟨h1, h2, h3⟩ := R1.fresh np
      exact q' p us _ F1 ow' (s.trans g.ff) (R1.grow (Gr.apart R1.sub (.lst us) np)) upd_same h1 h2 h3 rz
section
variable {r : List V → Hp → VK → Prop} {op : List Dv → Option Dv} {opN : List Dv → Option (List Dv)} {x : Str} {e : Expr} {es : List Expr} {t : TA} {f : Sa} {p : Pos} {id : String} {T : String}
theorem e_cb {K0 : W.Frag} (hc : CallR X (.builtin id) r) (o : CallS K0 r op) (hm : X.mg x = none) (ha : DA X Z E (e :: es) t f) (hg : Gl X x := by rfl) (hv : bootBuiltins x = some (.builtin id) := by decide +kernel) (hn : x ≠ "__name__" := by decide) (hdb : (x == ("__debug__" : Str)) = false := by decide)
    (he : starEach (e :: es) X.env = (false, eval e X.env) :: starEach es X.env := by rfl) (hpl : (backTo pos (starEach es X.env)).any (·.1) = false := by rfl) (hK0 : X.K = K0 := by rfl) : DE X Z E (.Call (.Name x p) (e :: es) [] pos) (tCB r t) (fCB op f) := by subst hK0; exact ⟨pe_callB hc hg hm hv ha.pa hn hdb he hpl, s_cb o ha.sn⟩
theorem e_ct {K0 : W.Frag} (hc : CallR X (.type T) r) (o : CallS K0 r op) (hm : X.mg x = none) (ha : DA X Z E (e :: es) t f) (hg : Gl X x := by rfl) (hv : bootBuiltins x = some (.type T) := by decide +kernel) (hn : x ≠ "__name__" := by decide) (hdb : (x == ("__debug__" : Str)) = false := by decide)
    (he : starEach (e :: es) X.env = (false, eval e X.env) :: starEach es X.env := by rfl) (hpl : (backTo pos (starEach es X.env)).any (·.1) = false := by rfl) (hK0 : X.K = K0 := by rfl) : DE X Z E (.Call (.Name x p) (e :: es) [] pos) (tCB r t) (fCB op f) := by subst hK0; exact ⟨pe_callTy hc hg hm hv ha.pa hn hdb he hpl, s_cb o ha.sn⟩
theorem n_cb {K0 : W.Frag} (hc : CallR X (.builtin id) r) (o : CallN K0 r opN) (hm : X.mg x = none) (ha : DA X Z E (e :: es) t f) (hg : Gl X x := by rfl) (hv : bootBuiltins x = some (.builtin id) := by decide +kernel) (hn : x ≠ "__name__" := by decide) (hdb : (x == ("__debug__" : Str)) = false := by decide)
    (he : starEach (e :: es) X.env = (false, eval e X.env) :: starEach es X.env := by rfl) (hpl : (backTo pos (starEach es X.env)).any (·.1) = false := by rfl) (hK0 : X.K = K0 := by rfl) : DN X Z E (.Call (.Name x p) (e :: es) [] pos) (tCB r t) (fCN opN f) := by subst hK0; exact ⟨pe_callB hc hg hm hv ha.pa hn hdb he hpl, s_cn o ha.sn⟩
theorem n_ct {K0 : W.Frag} (hc : CallR X (.type T) r) (o : CallN K0 r opN) (hm : X.mg x = none) (ha : DA X Z E (e :: es) t f) (hg : Gl X x := by rfl) (hv : bootBuiltins x = some (.type T) := by decide +kernel) (hn : x ≠ "__name__" := by decide) (hdb : (x == ("__debug__" : Str)) = false := by decide)
    (he : starEach (e :: es) X.env = (false, eval e X.env) :: starEach es X.env := by rfl) (hpl : (backTo pos (starEach es X.env)).any (·.1) = false := by rfl) (hK0 : X.K = K0 := by rfl) : DN X Z E (.Call (.Name x p) (e :: es) [] pos) (tCB r t) (fCN opN f) := by subst hK0; exact ⟨pe_callTy hc hg hm hv ha.pa hn hdb he hpl, s_cn o ha.sn⟩
end
end

/-! ### promises of defs -/
structure GrX (F H F' H' : Hp) (dr : Ft) : Prop where
  ff : Same F F'
  fh : Same F' H'
  nw : ∀ a u, F' a = some u → F a = some u ∨ H a = none
  hh : ∀ a o, H a = some o → ¬ inDr dr a → H' a = some o
theorem Rep.call {K : W.Frag} {Z : Z0} {F F' : Hp} {ow : Addr → Option Nat} {σ : L2.St} {H H' : Hp} {ρ : List EV} {w w' : DS} (R : Rep K Z F ow σ H ρ w) (g : GrX F H F' H' Z.dr) (st : StX K Z.dr F' H' w') : Rep K Z F' ow σ H' ρ w' where
  sub := g.fh
  keepF := R.keepF.trans g.ff
  newF := fun a u e => (g.nw a u e).elim (R.newF a u) fun n => .inr (R.fresh n).2.2
  keep := fun a o e z => ⟨g.hh _ _ (R.keep a o e z).1 fun q => z q, (R.keep a o e z).2⟩
  fzo := fun a u e => (g.nw a u e).elim (R.fzo a u) fun n => (R.fresh n).1
  owh := fun a i e => by
    obtain ⟨u, h⟩ := R.owh a i e
    by_cases z : inDr Z.dr a
    · exact st.there z
    · exact ⟨u, g.hh _ _ h z⟩
  len := R.len
  slots := fun i e h => by
    have nd : ∀ a, ow a = some (i + 1) → ¬ inDr Z.dr a := fun a ho z => by
      have := R.foo a z
      rw [this] at ho; cases ho
    have h := R.slots i e h
    cases e with
    | un => trivial
    | dat d => obtain ⟨v, e, r⟩ := h; exact ⟨v, e, r.mono g.ff⟩
    | lst ds => obtain ⟨a, vs, e, h1, h2, h3, r⟩ := h; exact ⟨a, vs, e, g.hh _ _ h1 (nd a h2), h2, h3, r.mono g.ff⟩
    | dct ds => obtain ⟨a, vs, e, h1, h2, h3, r⟩ := h; exact ⟨a, vs, e, g.hh _ _ h1 (nd a h2), h2, h3, r.mono g.ff⟩
    | dctT ds => obtain ⟨a, vs, e, h1, h2, h3, r⟩ := h; exact ⟨a, vs, e, g.hh _ _ h1 (nd a h2), h2, h3, r.mono g.ff⟩
    | drw => exact h
    | fn f => exact h
    | lam j => obtain ⟨a, c, e, h1, h2⟩ := h; exact ⟨a, c, e, g.ff _ _ h1, g.ff _ _ h2⟩
  st := st
  foo := R.foo

def PostC (K : W.Frag) (F H : Hp) (dr : Ft) (Q : VK) (E : XK) : RR Dv → Prop
  | .ok d w' => ∀ v H' F', GrX F H F' H' dr → StX K dr F' H' w' → Rp K F' v d → Q v H'
  | .rz x w' => ∀ cls dx H' F', GrX F H F' H' dr → StX K dr F' H' w' → XR K F' x cls dx → E cls dx H'
  | .stuck => False
/-- the promise of a def over data -/
def spD (K : W.Frag) (n : Nat) (sem : Fsem) : Sp := fun vs H Q E => ∃ (F : Hp) (dr : Ft) (ps : List EV) (w : DS), ps.length = n ∧ Same F H ∧ ArgR K F dr vs ps ∧ StX K dr F H w ∧ (∀ a, inDr dr a → F a = none) ∧ PostC K F H dr Q E (sem ps w)

section
variable {X : Cx} {Z : Z0} {E : XK} {pos : Pos}
theorem s_call {K : W.Frag} {n : Nat} {sem : Fsem} {t : TA} {f : Sa} (h : SndA K Z E t f) (hl : ∀ ρ w ps w', f ρ w = .ok ps w' → ps.length = n) : Snd K Z E (tCall (spD K n sem) [] E t) (fCall sem f) := fun F ow σ H ρ w Q R q => by
  have hl' := hl ρ w
  refine h F ow σ H ρ w _ R ?_
  unfold fCall at q
  cases e : f ρ w with
  | stuck => rw [e] at q; exact q
  | rz x w1 => rw [e] at q; exact q
  | ok ps w1 =>
    rw [e] at q
    intro vs H1 F1 ow1 s1 R1 r1
    show spD K n sem (vs ++ []) H1 Q E
    rw [List.append_nil]
    refine ⟨F1, Z.dr, ps, w1, hl' _ _ e, R1.sub, r1, R1.st, fun a z => ?_, ?_⟩
    · cases q : F1 a with
      | none => rfl
      | some u =>
        have z2 := R1.fzo a u q
        rw [R1.foo a z] at z2; cases z2
    · have q : Post K Z E σ ρ (QE K Z F σ Q ρ) (sem ps w1) := q
      cases e2 : sem ps w1 with
      | stuck => rw [e2] at q; exact q
      | ok d w2 => rw [e2] at q; exact fun v H' F' g st r => q v H' F' ow1 (s1.trans g.ff) (R1.call g st) r
      | rz x w2 => rw [e2] at q; exact fun cls dx H' F' g st r => q cls dx H' F' ow1 (R1.call g st) r
/-- where nothing may be let out -/
def semN (sem : Fsem) : Fsem := fun ps w => match sem ps w with
  | .rz _ _ => .stuck
  | r => r
theorem spD_semN {K : W.Frag} {n : Nat} {sem : Fsem} {vs : List V} {H : Hp} {Q : VK} {E : XK} (h : spD K n (semN sem) vs H Q E) : spD K n sem vs H Q E := by
  obtain ⟨F, dr, ps, w, hn, h1, h2, h3, h4, q⟩ := h
  refine ⟨F, dr, ps, w, hn, h1, h2, h3, h4, ?_⟩
  unfold semN at q
  cases e : sem ps w with
  | stuck => rw [e] at q; exact q
  | ok d w2 => rw [e] at q; exact q
  | rz x w2 => rw [e] at q; exact q.elim
/-- the written arguments alone are as many as they are -/
def argN : List EV → Nat := List.length
theorem aCons_len {fe : Sx} {f : Sa} {n : Nat} (h : ∀ ρ w ps w', f ρ w = .ok ps w' → ps.length = n) : ∀ ρ w ps w', aCons fe f ρ w = .ok ps w' → ps.length = n + 1 := fun ρ w ps w' e => by
  unfold aCons at e
  cases e1 : fe ρ w with
  | stuck => rw [e1] at e; cases e
  | rz x w1 => rw [e1] at e; cases e
  | ok d w1 =>
    rw [e1] at e
    simp only [RR.bind_ok] at e
    cases e2 : f ρ w1 with
    | stuck => rw [e2] at e; cases e
    | rz x w1 => rw [e2] at e; cases e
    | ok qs w2 =>
      rw [e2] at e
      cases e
      rw [List.length_cons, h _ _ _ _ e2]
theorem aDrw_len {i : Nat} {f : Sa} {n : Nat} (h : ∀ ρ w ps w', f ρ w = .ok ps w' → ps.length = n) : ∀ ρ w ps w', aDrw i f ρ w = .ok ps w' → ps.length = n + 1 := fun ρ w ps w' e => by
  unfold aDrw at e
  cases e1 : ρ[i]? with
  | none => rw [e1] at e; cases e
  | some s =>
    rw [e1] at e
    cases s with
    | drw =>
      simp only at e
      cases e2 : f ρ w with
      | stuck => rw [e2] at e; cases e
      | rz x w1 => rw [e2] at e; cases e
      | ok qs w2 =>
        rw [e2] at e
        cases e
        rw [List.length_cons, h _ _ _ _ e2]
    | _ => cases e
theorem aNil_len : ∀ ρ w ps w', aNil ρ w = .ok ps w' → ps.length = 0 := fun ρ w ps w' e => by cases e; rfl
end
end DL

namespace DL
open PySem PySem.Spec PyProof.Rows L2

/-! ### calls of the text's own defs -/
structure Cal (P : Program) (w : World) (K : W.Frag) (mg : Str → Option Value) (base : Heap) (x : Str) (k n : Nat) (sem : Fsem) : Prop where
  ex : ∃ (f : Addr) (fd : FuncData) (ps : List Str), ps.length = n ∧ FnOk P w K mg base (L2.CX P w) k f fd ps (spD K n sem) ∧ mg x = some (.ref f) ∧ W.keepIn K (.ref f) = true ∧ L2.Binds K fd ps []
section
variable {X : Cx} {Z : Z0} {E : XK} {pos : Pos}
/-- what is let out is taken -/
def PX (X : Cx) (E : XK) : Prop := Passes (L2.CX X.prog X.w) X E
theorem DA.len {es : List Expr} {t : TA} {f : Sa} {n : Nat} (h : ∀ ρ w ps w', f ρ w = .ok ps w' → ps.length = n) : ∀ ρ w ps w', f ρ w = .ok ps w' → ps.length = n := h
theorem e_call {x : Str} {k k' n : Nat} {sem : Fsem} {e : Expr} {es : List Expr} {t : TA} {fa : Sa} {p : Pos} (C : Cal X.prog X.w X.K X.mg X.base x k n sem) (hr : Room k' X.A) (hk : k ≤ k') (hx : PX X E) (ha : DA X Z E (e :: es) t fa) (hl : ∀ ρ w ps w', fa ρ w = .ok ps w' → ps.length = n)
    (hg : Gl X x := by rfl) (hdb : (x == ("__debug__" : Str)) = false := by decide) (he : starEach (e :: es) X.env = (false, eval e X.env) :: starEach es X.env := by rfl) (hpl : (backTo pos (starEach es X.env)).any (·.1) = false := by rfl) {K0 : W.Frag} (hK0 : X.K = K0 := by rfl) :
    DE X Z E (.Call (.Name x p) (e :: es) [] pos) (tCall (spD K0 n sem) [] E t) (fCall sem fa) := by subst hK0; exact (by
  obtain ⟨f, fd, ps, hn, F, hm, hkp, hb⟩ := C.ex
  exact ⟨pe_call F (hr.mono hk) hg hm hkp hb .nil hx ha.pa hdb he hpl, s_call ha.sn hl⟩)
theorem e_call0 {x : Str} {k k' : Nat} {sem : Fsem} {p : Pos} (C : Cal X.prog X.w X.K X.mg X.base x k 0 sem) (hr : Room k' X.A) (hk : k ≤ k') (hx : PX X E)
    (hg : Gl X x := by rfl) (hdb : (x == ("__debug__" : Str)) = false := by decide) {K0 : W.Frag} (hK0 : X.K = K0 := by rfl) : DE X Z E (.Call (.Name x p) [] [] pos) (tCall (spD K0 0 sem) [] E tNil) (fCall sem aNil) := by subst hK0; exact (by
  obtain ⟨f, fd, ps, hn, F, hm, hkp, hb⟩ := C.ex
  exact ⟨pe_call0 F (hr.mono hk) hg hm hkp hb .nil hx hdb, s_call (a_nil (X := X) (Z := Z) (E := E)).sn aNil_len⟩)
end

/-! ### statements -/
inductive SF where
  | nx (ρ : List EV) | bk (ρ : List EV) | ct (ρ : List EV) | rt (d : Dv)
abbrev Ss := List EV → DS → RR SF
def PostS (K : W.Frag) (Z : Z0) (E : XK) (F0 : Hp) (D : Ends) : RR SF → Prop
  | .ok (.nx ρ) w => ∀ σ H F ow, Same F0 F → Rep K Z F ow σ H ρ w → D.nx σ H
  | .ok (.bk ρ) w => ∀ σ H F ow, Same F0 F → Rep K Z F ow σ H ρ w → D.bk σ H
  | .ok (.ct ρ) w => ∀ σ H F ow, Same F0 F → Rep K Z F ow σ H ρ w → D.ct σ H
  | .ok (.rt d) w => ∀ v σ H F ow ρ, Same F0 F → Rep K Z F ow σ H ρ w → Rp K F v d → D.rt v H
  | .rz x w => ∀ cls dx σ H F ow ρ, Rep K Z F ow σ H ρ w → XR K F x cls dx → E cls dx H
  | .stuck => False
theorem PostS.up {K : W.Frag} {Z : Z0} {E : XK} {F F1 : Hp} {D : Ends} {r : RR SF} (s : Same F F1) (h : PostS K Z E F D r) : PostS K Z E F1 D r := by
  cases r with
  | stuck => exact h
  | rz x w => exact h
  | ok sf w =>
    cases sf with
    | nx ρ => exact fun σ H F ow e => h σ H F ow (s.trans e)
    | bk ρ => exact fun σ H F ow e => h σ H F ow (s.trans e)
    | ct ρ => exact fun σ H F ow e => h σ H F ow (s.trans e)
    | rt d => exact fun v σ H F ow ρ e => h v σ H F ow ρ (s.trans e)
def SndS (K : W.Frag) (Z : Z0) (E : XK) (t : TS) (g : Ss) : Prop := ∀ F ow σ H ρ w D, Rep K Z F ow σ H ρ w → PostS K Z E F D (g ρ w) → t D σ H
structure DSt (X : Cx) (Z : Z0) (E : XK) (st : Stmt) (t : TS) (g : Ss) : Prop where
  ps : PS X st t
  sn : SndS X.K Z E t g
structure DB (X : Cx) (Z : Z0) (E : XK) (sts : List Stmt) (t : TS) (g : Ss) : Prop where
  ps : PSs X sts t
  sn : SndS X.K Z E t g

section
variable {K : W.Frag} {Z : Z0} {E : XK} {F : Hp} {ow : Addr → Option Nat} {σ : L2.St} {H : Hp} {ρ : List EV} {w : DS} {D : Ends}
theorem Snd.seqS {t : TE} {f : Sx} {C : VK} {k : Dv → DS → RR SF} (h : Snd K Z E t f) (R : Rep K Z F ow σ H ρ w) (hp : PostS K Z E F D ((f ρ w).bind k))
    (c : ∀ d w' v H' F' ow', Same F F' → Rep K Z F' ow' σ H' ρ w' → Rp K F' v d → PostS K Z E F' D (k d w') → C v H') : t σ H C := by
  refine h F ow σ H ρ w C R ?_
  cases e : f ρ w with
  | ok d w' => rw [e] at hp; exact fun v H' F' ow' s R' r => c d w' v H' F' ow' s R' r (hp.up s)
  | rz y w' => rw [e] at hp; exact fun cls dx H F ow R x => hp cls dx σ H F ow ρ R x
  | stuck => rw [e] at hp; exact hp
theorem SndT.seqS {t : TT} {f : Sb} {C : Bool → Hp → Prop} {k : Bool → DS → RR SF} (h : SndT K Z E t f) (R : Rep K Z F ow σ H ρ w) (hp : PostS K Z E F D ((f ρ w).bind k))
    (c : ∀ d w' H' F' ow', Same F F' → Rep K Z F' ow' σ H' ρ w' → PostS K Z E F' D (k d w') → C d H') : t σ H C := by
  refine h F ow σ H ρ w C R ?_
  cases e : f ρ w with
  | ok d w' => rw [e] at hp; exact fun H' F' ow' s R' => c d w' H' F' ow' s R' (hp.up s)
  | rz y w' => rw [e] at hp; exact fun cls dx H F ow R x => hp cls dx σ H F ow ρ R x
  | stuck => rw [e] at hp; exact hp
theorem SndN.seqS {t : TE} {f : Sl} {C : VK} {k : List Dv → DS → RR SF} (h : SndN K Z E t f) (R : Rep K Z F ow σ H ρ w) (hp : PostS K Z E F D ((f ρ w).bind k))
    (c : ∀ ds w' p vs H' F' ow', Same F F' → Rep K Z F' ow' σ H' ρ w' → H' p = some (.lst vs) → ow' p = none → F' p = none → Z.H p = none → RpAll K F' vs ds → PostS K Z E F' D (k ds w') → C (.ref p) H') : t σ H C := by
  refine h F ow σ H ρ w C R ?_
  cases e : f ρ w with
  | ok d w' => rw [e] at hp; exact fun p vs H' F' ow' s R' h1 h2 h3 h4 r => c d w' p vs H' F' ow' s R' h1 h2 h3 h4 r (hp.up s)
  | rz y w' => rw [e] at hp; exact fun cls dx H F ow R x => hp cls dx σ H F ow ρ R x
  | stuck => rw [e] at hp; exact hp
theorem SndA.seqS {t : TA} {f : Sa} {C : List V → Hp → Prop} {k : List EV → DS → RR SF} (h : SndA K Z E t f) (R : Rep K Z F ow σ H ρ w) (hp : PostS K Z E F D ((f ρ w).bind k))
    (c : ∀ ps w' vs H' F' ow', Same F F' → Rep K Z F' ow' σ H' ρ w' → ArgR K F' Z.dr vs ps → PostS K Z E F' D (k ps w') → C vs H') : t σ H C := by
  refine h F ow σ H ρ w C R ?_
  cases e : f ρ w with
  | ok d w' => rw [e] at hp; exact fun v H' F' ow' s R' r => c d w' v H' F' ow' s R' r (hp.up s)
  | rz y w' => rw [e] at hp; exact fun cls dx H F ow R x => hp cls dx σ H F ow ρ R x
  | stuck => rw [e] at hp; exact hp
/-- a slot gets a new list of its own -/
theorem Rep.setNew {i : Nat} {p : Addr} {vs : List V} {ds : List Dv} (R : Rep K Z F ow σ H ρ w) (h1 : H p = some (.lst vs)) (h2 : ow p = none) (h3 : F p = none) (h4 : Z.H p = none) (r : RpAll K F vs ds) :
    Rep K Z F (fun a => if a = p then some (i + 1) else ow a) (σ.set i (some (.ref p))) H (ρ.set i (.lst ds)) w := by
  have ne : ∀ a j, ow a = some j → a ≠ p := fun a j e z => by rw [z, h2] at e; cases e
  have same : ∀ a j, ow a = some j → (if a = p then some (i + 1) else ow a) = some j := fun a j e => by rw [if_neg (ne a j e)]; exact e
  have R' : Rep K Z F (fun a => if a = p then some (i + 1) else ow a) σ H ρ w := { R with
    keep := fun a o e z => by
      refine ⟨(R.keep a o e z).1, ?_⟩
      have na : a ≠ p := fun q => by rw [q, h4] at e; cases e
      show (if a = p then some (i + 1) else ow a) = none
      rw [if_neg na]; exact (R.keep a o e z).2
    fzo := fun a u e => by
      have na : a ≠ p := fun q => by rw [q, h3] at e; cases e
      show (if a = p then some (i + 1) else ow a) = none
      rw [if_neg na]; exact R.fzo a u e
    owh := fun a j e => by
      by_cases z : a = p
      · exact ⟨_, by rw [z]; exact h1⟩
      · rw [if_neg z] at e; exact R.owh a j e
    slots := fun j e q => by
      have h := R.slots j e q
      cases e with
      | un => trivial
      | dat d => exact h
      | lst ds => obtain ⟨a, vs, e, g1, g2, g3, r⟩ := h; exact ⟨a, vs, e, g1, same a _ g2, g3, r⟩
      | dct ds => obtain ⟨a, vs, e, g1, g2, g3, r⟩ := h; exact ⟨a, vs, e, g1, same a _ g2, g3, r⟩
      | dctT ds => obtain ⟨a, vs, e, g1, g2, g3, r⟩ := h; exact ⟨a, vs, e, g1, same a _ g2, g3, r⟩
      | drw => exact h
      | fn f => exact h
      | lam j => exact h
    st := R.st
    foo := fun a z => same _ _ (R.foo a z) }
  exact R'.set ⟨p, vs, rfl, h1, if_pos rfl, h4, r⟩
/-- the same for a dict of any kind -/
theorem Rep.own {p : Addr} {u : HO} (R : Rep K Z F ow σ H ρ w) (n : Nat) (h1 : H p = some u) (h2 : ow p = none) (h3 : F p = none) (h4 : Z.H p = none) :
    Rep K Z F (fun a => if a = p then some n else ow a) σ H ρ w := by
  have ne : ∀ a j, ow a = some j → a ≠ p := fun a j e z => by rw [z, h2] at e; cases e
  have same : ∀ a j, ow a = some j → (if a = p then some n else ow a) = some j := fun a j e => by rw [if_neg (ne a j e)]; exact e
  exact { R with
    keep := fun a o e z => by
      refine ⟨(R.keep a o e z).1, ?_⟩
      have na : a ≠ p := fun q => by rw [q, h4] at e; cases e
      show (if a = p then some n else ow a) = none
      rw [if_neg na]; exact (R.keep a o e z).2
    fzo := fun a u e => by
      have na : a ≠ p := fun q => by rw [q, h3] at e; cases e
      show (if a = p then some n else ow a) = none
      rw [if_neg na]; exact R.fzo a u e
    owh := fun a j e => by
      by_cases z : a = p
      · exact ⟨_, by rw [z]; exact h1⟩
      · rw [if_neg z] at e; exact R.owh a j e
    slots := fun j e q => by
      have h := R.slots j e q
      cases e with
      | un => trivial
      | dat d => exact h
      | lst ds => obtain ⟨a, vs, e, g1, g2, g3, r⟩ := h; exact ⟨a, vs, e, g1, same a _ g2, g3, r⟩
      | dct ds => obtain ⟨a, vs, e, g1, g2, g3, r⟩ := h; exact ⟨a, vs, e, g1, same a _ g2, g3, r⟩
      | dctT ds => obtain ⟨a, vs, e, g1, g2, g3, r⟩ := h; exact ⟨a, vs, e, g1, same a _ g2, g3, r⟩
      | drw => exact h
      | fn f => exact h
      | lam j => exact h
    st := R.st
    foo := fun a z => same _ _ (R.foo a z) }
/-- an owned object is written -/
theorem Rep.write {i : Nat} {a : Addr} {o : HO} {e : EV} (R : Rep K Z F ow σ H ρ w) (ha : ow a = some (i + 1)) (hi : i < ρ.length) (h : SlotR K Z F (upd H a o) ow i σ[i]? e) : Rep K Z F ow σ (upd H a o) (ρ.set i e) w := by
  have zk : ∀ b u, Z.H b = some u → ¬ Z.foot b → b ≠ a := fun b u e z q => by
    have := (R.keep b u e z).2
    rw [q, ha] at this; cases this
  have fk : ∀ b u, F b = some u → b ≠ a := fun b u e q => by
    have := R.fzo b u e
    rw [q, ha] at this; cases this
  have ok : ∀ b j, ow b = some j → j ≠ i + 1 → b ≠ a := fun b j e n q => by
    rw [q, ha] at e; cases e; exact n rfl
  refine { R with
    sub := fun b u e => by rw [upd_ne (fk b u e)]; exact R.sub b u e
    keep := fun b u e z => by
      refine ⟨?_, (R.keep b u e z).2⟩
      rw [upd_ne (zk b u e z)]; exact (R.keep b u e z).1
    owh := fun b j e => by
      by_cases z : b = a
      · exact ⟨o, by rw [z, upd_same]⟩
      · obtain ⟨u, h⟩ := R.owh b j e; exact ⟨u, by rw [upd_ne z]; exact h⟩
    len := by rw [List.length_set]; exact R.len
    slots := fun j e' q => ?_
    st := R.st.mono (Same.refl _) fun b u z q => by rw [upd_ne (ok b _ (R.foo b z) (by omega))]; exact q }
  · by_cases hj : i = j
    · subst hj
      rw [List.getElem?_set_self hi] at q
      cases q; exact h
    · rw [List.getElem?_set_ne hj] at q
      have h' := R.slots j e' q
      have nj : j + 1 ≠ i + 1 := by omega
      cases e' with
      | un => trivial
      | dat d => exact h'
      | lst ds => obtain ⟨b, vs, e, g1, g2, g3, r⟩ := h'; exact ⟨b, vs, e, by rw [upd_ne (ok b _ g2 nj)]; exact g1, g2, g3, r⟩
      | dct ds => obtain ⟨b, vs, e, g1, g2, g3, r⟩ := h'; exact ⟨b, vs, e, by rw [upd_ne (ok b _ g2 nj)]; exact g1, g2, g3, r⟩
      | dctT ds => obtain ⟨b, vs, e, g1, g2, g3, r⟩ := h'; exact ⟨b, vs, e, by rw [upd_ne (ok b _ g2 nj)]; exact g1, g2, g3, r⟩
      | drw => exact h'
      | fn f => exact h'
      | lam j => exact h'
end

/-! #### over data -/
def gNext : Ss := fun ρ w => .ok (.nx ρ) w
def gSeq (g h : Ss) : Ss := fun ρ w => (g ρ w).bind fun s w1 => match s with
  | .nx ρ1 => h ρ1 w1
  | s => .ok s w1
def gSet (i : Nat) (f : Sx) : Ss := fun ρ w => (f ρ w).bind fun d w1 => .ok (.nx (ρ.set i (.dat d))) w1
def gSetN (i : Nat) (f : Sl) : Ss := fun ρ w => (f ρ w).bind fun ds w1 => .ok (.nx (ρ.set i (.lst ds))) w1
def gDrop (f : Sx) : Ss := fun ρ w => (f ρ w).bind fun _ w1 => .ok (.nx ρ) w1
def gRet (f : Sx) : Ss := fun ρ w => (f ρ w).bind fun d w1 => .ok (.rt d) w1
def gRetN : Ss := fun _ w => .ok (.rt .non) w
def gIf (fc : Sb) (g h : Ss) : Ss := fun ρ w => (fc ρ w).bind fun b w1 => if b = true then g ρ w1 else h ρ w1
def gBreak : Ss := fun ρ w => .ok (.bk ρ) w
def gCont : Ss := fun ρ w => .ok (.ct ρ) w
def gNever : Ss := fun _ _ => .stuck
/-- targets -/
abbrev Sg := Dv → List EV → Option (List EV)
def kName (i : Nat) : Sg := fun d ρ => some (ρ.set i (.dat d))
abbrev Sgs := List Dv → List EV → Option (List EV)
def kNil : Sgs := fun ds ρ => match ds with
  | [] => some ρ
  | _ => none
def kCons (g : Sg) (gs : Sgs) : Sgs := fun ds ρ => match ds with
  | d :: r => (g d ρ).bind fun ρ1 => gs r ρ1
  | _ => none
def kTup (n : Nat) (gs : Sgs) : Sg := fun d ρ => match d with
  | .tup ds => if ds.length = n then gs ds ρ else none
  | _ => none
def gAsg (f : Sx) (g : Sg) : Ss := fun ρ w => (f ρ w).bind fun d w1 => match g d ρ with
  | some ρ1 => .ok (.nx ρ1) w1
  | none => .stuck

section
variable {K : W.Frag} {Z : Z0} {E : XK}
def SndG (K : W.Frag) (Z : Z0) (g : TG) (k : Sg) (sl : List Nat) : Prop := ∀ F ow σ H ρ w v d ρ' (Q : L2.St → Hp → Prop), k d ρ = some ρ' → Rep K Z F ow σ H ρ w → Rp K F v d →
  (∀ σ', Rep K Z F ow σ' H ρ' w → (∀ vs, (∀ i ∈ sl, i ∈ vs) → wipe σ' vs = wipe σ vs) → Q σ' H) → g v σ H Q
def SndGs (K : W.Frag) (Z : Z0) (g : TGs) (k : Sgs) (sl : List Nat) : Prop := ∀ F ow σ H ρ w vs ds ρ' (Q : L2.St → Hp → Prop), k ds ρ = some ρ' → Rep K Z F ow σ H ρ w → RpAll K F vs ds →
  (∀ σ', Rep K Z F ow σ' H ρ' w → (∀ vs, (∀ i ∈ sl, i ∈ vs) → wipe σ' vs = wipe σ vs) → Q σ' H) → g vs σ H Q
theorem wipe_set {i : Nat} {x : Option V} {σ : L2.St} : ∀ {vs : List Nat}, i ∈ vs → wipe (σ.set i x) vs = wipe σ vs
  | v :: vs, h => by
    by_cases e : i ∈ vs
    · unfold wipe; rw [wipe_set e]
    · have e2 : i = v := by
        rcases List.mem_cons.mp h with z | z
        · exact z
        · exact (e z).elim
      subst e2
      have gen : ∀ ws : List Nat, i ∉ ws → wipe (σ.set i x) ws = (wipe σ ws).set i x := fun ws => by
        induction ws with
        | nil => intro _; rfl
        | cons y ws ih =>
          intro hn
          have h1 : i ≠ y := fun q => hn (by rw [q]; exact List.mem_cons_self)
          have h2 : i ∉ ws := fun q => hn (List.mem_cons_of_mem _ q)
          unfold wipe
          rw [ih h2, List.set_comm _ _ h1]
      unfold wipe
      rw [gen vs e, List.set_set]
theorem k_name (i : Nat) : SndG K Z (gName i) (kName i) [i] := fun F ow σ H ρ w v d ρ' Q e R r q => by
  cases e
  exact q _ (R.set ⟨v, rfl, r⟩) fun vs h => wipe_set (h i (List.mem_singleton.mpr rfl))
theorem k_nil : SndGs K Z gNil kNil [] := fun F ow σ H ρ w vs ds ρ' Q e R r q => by
  cases r with
  | nil => cases e; exact ⟨rfl, q _ R fun _ _ => rfl⟩
  | cons _ _ => cases e
theorem k_cons {g : TG} {gs : TGs} {k : Sg} {ks : Sgs} {l ls : List Nat} (h1 : SndG K Z g k l) (h2 : SndGs K Z gs ks ls) : SndGs K Z (gCons g gs) (kCons k ks) (l ++ ls) := fun F ow σ H ρ w vs ds ρ' Q e R r q => by
  cases r with
  | nil => cases e
  | @cons v vs d ds r1 r2 =>
    have e : (k d ρ).bind (fun ρ1 => ks ds ρ1) = some ρ' := e
    cases e1 : k d ρ with
    | none => rw [e1] at e; cases e
    | some ρ1 =>
      rw [e1] at e
      exact ⟨v, vs, rfl, h1 F ow σ H ρ w v d ρ1 _ e1 R r1 fun σ1 R1 w1 => h2 F ow σ1 H ρ1 w vs ds ρ' Q e R1 r2 fun σ2 R2 w2 => q σ2 R2 fun us hu =>
        (w2 us fun i hi => hu i (List.mem_append_right _ hi)).trans (w1 us fun i hi => hu i (List.mem_append_left _ hi))⟩
theorem k_tup {n : Nat} {gs : TGs} {ks : Sgs} {l : List Nat} (h : SndGs K Z gs ks l) : SndG K Z (gTup K n gs) (kTup n ks) l := fun F ow σ H ρ w v d ρ' Q e R r q => by
  cases d with
  | tup ds =>
    have e : (if ds.length = n then ks ds ρ else none) = some ρ' := e
    by_cases hl : ds.length = n
    · rw [if_pos hl] at e
      cases r with
      | tup ht ra => exact ⟨_, _, rfl, sameT R.sub ht, by rw [ra.length]; exact hl, h F ow σ H ρ w _ ds ρ' Q e R ra q⟩
    · rw [if_neg hl] at e; cases e
  | _ => cases e
end
structure DG (X : Cx) (Z : Z0) (tg : Expr) (g : TG) (k : Sg) (l : List Nat) : Prop where
  pg : PG X tg g
  sn : SndG X.K Z g k l
  fr : ∀ d ρ ρ', k d ρ = some ρ' → ∀ i, i ∉ l → ρ'[i]? = ρ[i]?
structure DGs (X : Cx) (Z : Z0) (tg : List Expr) (g : TGs) (k : Sgs) (l : List Nat) : Prop where
  pg : PGs X tg g
  sn : SndGs X.K Z g k l
  fr : ∀ d ρ ρ', k d ρ = some ρ' → ∀ i, i ∉ l → ρ'[i]? = ρ[i]?

section
variable {X : Cx} {Z : Z0} {E : XK} {pos : Pos} {st : Stmt} {rest : List Stmt} {t u : TS} {g h : Ss}
theorem g_name (i : Nat) {x : Str} (hN : X.N.Nodup) (hi : X.N[i]? = some x := by rfl) (hx : Loc X.env.scope x := by first | exact Or.inl rfl | exact Or.inr rfl) (hf : X.fn x = true ∨ X.env.scope.names.lookup x = some .local := by first | exact .inl rfl | exact .inr rfl | assumption) :
    DG X Z (.Name x pos) (gName i) (kName i) [i] := ⟨pg_name hN hi hx hf, k_name i, fun d ρ ρ' e j hj => by cases e; exact List.getElem?_set_ne (fun q => hj (List.mem_singleton.mpr q.symm))⟩
theorem gs_nil : DGs X Z [] gNil kNil [] := ⟨pgs_nil, k_nil, fun d ρ ρ' e j hj => by
  cases d with
  | nil => cases e; rfl
  | cons _ _ => cases e⟩
theorem gs_cons {e : Expr} {es : List Expr} {t : TG} {u : TGs} {k : Sg} {ks : Sgs} {l ls : List Nat} (h1 : DG X Z e t k l) (h2 : DGs X Z es u ks ls) (hs : (assignEach (e :: es) X.env).map (·.2) = assign e X.env :: (assignEach es X.env).map (·.2) := by rfl) : DGs X Z (e :: es) (gCons t u) (kCons k ks) (l ++ ls) := ⟨pgs_cons h1.pg h2.pg hs, k_cons h1.sn h2.sn, fun d ρ ρ' e j hj => by
  cases d with
  | nil => cases e
  | cons d ds =>
    have e : (k d ρ).bind (fun ρ1 => ks ds ρ1) = some ρ' := e
    cases e1 : k d ρ with
    | none => rw [e1] at e; cases e
    | some ρ1 =>
      rw [e1] at e
      exact (h2.fr ds ρ1 ρ' e j fun z => hj (List.mem_append_right _ z)).trans (h1.fr d ρ ρ1 e1 j fun z => hj (List.mem_append_left _ z))⟩
theorem g_tup {es : List Expr} {k : Nat} {t : TGs} {ks : Sgs} {n : Nat} {l : List Nat} (hc : X.calm = true) (h : DGs X Z es t ks l) (hn : (assignEach es X.env).length = n := by rfl) (hst : (assignEach es X.env).findIdx? (·.1) = none := by rfl) {K0 : W.Frag} (hK0 : X.K = K0 := by rfl) : DG X Z (.Tuple es k pos) (gTup K0 n t) (kTup n ks) l := by subst hK0; exact ⟨pg_tup hc h.pg hn hst, k_tup h.sn, fun d ρ ρ' e j hj => by
  cases d with
  | tup ds =>
    have e : (if ds.length = n then ks ds ρ else none) = some ρ' := e
    by_cases hl : ds.length = n
    · rw [if_pos hl] at e; exact h.fr ds ρ ρ' e j hj
    · rw [if_neg hl] at e; cases e
  | _ => cases e⟩

theorem b_nil : DB X Z E [] tNext gNext := ⟨pss_nil, fun F ow σ H ρ w D R q => q σ H F ow (Same.refl _) R⟩
theorem b_one (h1 : DSt X Z E st t g) : DB X Z E [st] t g := ⟨pss_one h1.ps, h1.sn⟩
theorem s_seq {K : W.Frag} (h1 : SndS K Z E t g) (h2 : SndS K Z E u h) : SndS K Z E (tSeq t u) (gSeq g h) := fun F ow σ H ρ w D R q => by
  refine h1 F ow σ H ρ w _ R ?_
  unfold gSeq at q
  cases e : g ρ w with
  | stuck => rw [e] at q; exact q
  | rz x w1 => rw [e] at q; exact q
  | ok s w1 =>
    rw [e] at q
    cases s with
    | nx ρ1 => exact fun σ1 H1 F1 ow1 s1 R1 => h2 F1 ow1 σ1 H1 ρ1 w1 D R1 (PostS.up s1 q)
    | bk ρ1 => exact q
    | ct ρ1 => exact q
    | rt d => exact q
theorem b_cons (h1 : DSt X Z E st t g) (h2 : DB X Z E rest u h) : DB X Z E (st :: rest) (tSeq t u) (gSeq g h) := ⟨pss_cons h1.ps h2.ps, s_seq h1.sn h2.sn⟩
theorem d_never : DSt X Z E st tNever gNever := ⟨ps_never, fun F ow σ H ρ w D R q => q.elim⟩
theorem d_pass : DSt X Z E (.Pass pos) tNext gNext := ⟨ps_pass, fun F ow σ H ρ w D R q => q σ H F ow (Same.refl _) R⟩
theorem d_break : DSt X Z E (.Break pos) tBreak gBreak := ⟨ps_break, fun F ow σ H ρ w D R q => q σ H F ow (Same.refl _) R⟩
theorem d_cont : DSt X Z E (.Continue pos) tCont gCont := ⟨ps_continue, fun F ow σ H ρ w D R q => q σ H F ow (Same.refl _) R⟩
variable {e : Expr} {te : TE} {f : Sx} {fl : Sl}
theorem d_set (i : Nat) {x : Str} {pos' : Pos} (hN : X.N.Nodup) (he : DE X Z E e te f) (hi : X.N[i]? = some x := by rfl) (hx : Loc X.env.scope x := by first | exact Or.inl rfl | exact Or.inr rfl) (hs : swapsWith e (some (.Name x pos')) pos.line X.env = pure false := by rfl) (hf : X.fn x = true ∨ X.env.scope.names.lookup x = some .local := by first | exact .inl rfl | exact .inr rfl | assumption) :
    DSt X Z E (.Assign [.Name x pos'] e pos) (tAsg te (gName i)) (gSet i f) := ⟨ps_set hN hi hx he.pe hs hf, fun F ow σ H ρ w D R q =>
  he.sn.seqS R q fun d w1 v H1 F1 ow1 s R1 r q1 => q1 _ H1 F1 ow1 (Same.refl _) (R1.set ⟨v, rfl, r⟩)⟩
theorem d_setN (i : Nat) {x : Str} {pos' : Pos} (hN : X.N.Nodup) (he : DN X Z E e te fl) (hi : X.N[i]? = some x := by rfl) (hx : Loc X.env.scope x := by first | exact Or.inl rfl | exact Or.inr rfl) (hs : swapsWith e (some (.Name x pos')) pos.line X.env = pure false := by rfl) (hf : X.fn x = true ∨ X.env.scope.names.lookup x = some .local := by first | exact .inl rfl | exact .inr rfl | assumption) :
    DSt X Z E (.Assign [.Name x pos'] e pos) (tAsg te (gName i)) (gSetN i fl) := ⟨ps_set hN hi hx he.pe hs hf, fun F ow σ H ρ w D R q =>
  he.sn.seqS R q fun ds w1 p vs H1 F1 ow1 s R1 h1 h2 h3 h4 r q1 => q1 _ H1 F1 _ (Same.refl _) (R1.setNew h1 h2 h3 h4 r)⟩
theorem d_asg {tg : Expr} {gg : TG} {k : Sg} {l : List Nat} (he : DE X Z E e te f) (hg : DG X Z tg gg k l) (hs : swapsWithSole [tg] e pos.line X.env = pure false := by rfl) (hw : swappedStores [tg] e X.env = pure none := by rfl)
    (h1 : (assignEach [tg] X.env).map (·.2) = [assign tg X.env] := by rfl) : DSt X Z E (.Assign [tg] e pos) (tAsg te gg) (gAsg f k) := ⟨ps_asg he.pe hg.pg hs hw h1, fun F ow σ H ρ w D R q =>
  he.sn.seqS R q fun d w1 v H1 F1 ow1 s R1 r q1 => by
    cases e1 : k d ρ with
    | none => rw [e1] at q1; exact q1.elim
    | some ρ1 => rw [e1] at q1; exact hg.sn F1 ow1 σ H1 ρ w1 v d ρ1 _ e1 R1 r fun σ1 R2 _ => q1 σ1 H1 F1 ow1 (Same.refl _) R2⟩
theorem d_drop (he : DE X Z E e te f) (hs : swapsWith e none pos.line X.env = pure false := by rfl) : DSt X Z E (.Expr e pos) (tDrop te) (gDrop f) := ⟨ps_expr he.pe hs, fun F ow σ H ρ w D R q =>
  he.sn.seqS R q fun d w1 v H1 F1 ow1 s R1 r q1 => q1 σ H1 F1 ow1 (Same.refl _) R1⟩
theorem d_ret (he : DE X Z E e te f) : DSt X Z E (.Return (some e) pos) (tRet te) (gRet f) := ⟨ps_ret he.pe, fun F ow σ H ρ w D R q =>
  he.sn.seqS R q fun d w1 v H1 F1 ow1 s R1 r q1 => q1 v σ H1 F1 ow1 ρ (Same.refl _) R1 r⟩
theorem d_retN : DSt X Z E (.Return none pos) tRetN gRetN := ⟨ps_retN, fun F ow σ H ρ w D R q => q .non σ H F ow ρ (Same.refl _) R .non⟩
theorem d_if {c : Expr} {a b : List Stmt} {tc : TT} {fc : Sb} (hc : DT X Z E c tc fc) (ha : DB X Z E a t g) (hb : DB X Z E b u h) : DSt X Z E (.If c a b pos) (tIfS tc t u) (gIf fc g h) := ⟨ps_if hc.pt ha.ps hb.ps, fun F ow σ H ρ w D R q =>
  hc.sn.seqS R q fun k w1 H1 F1 ow1 s R1 q1 => by
    cases k with
    | true => rw [if_pos rfl] at q1 ⊢; exact ha.sn F1 ow1 σ H1 ρ w1 D R1 q1
    | false => rw [if_neg Bool.false_ne_true] at q1 ⊢; exact hb.sn F1 ow1 σ H1 ρ w1 D R1 q1⟩
end

/-! ### what is walked -/
/-- the walk yields these -/
structure WalkD (K : W.Frag) (J : It) (F0 : Hp) (items : List Dv) : Prop where
  stop : ∀ (Z : Z0) F ow σ H ρ w i, Same F0 F → Rep K Z F ow σ H ρ w → items[i]? = none → J.stop i H
  item : ∀ (Z : Z0) F ow σ H ρ w i d, Same F0 F → Rep K Z F ow σ H ρ w → items[i]? = some d → J.go i H ∧ ∀ x H', J.yld i H x H' → ∃ F' ow', Same F F' ∧ Rep K Z F' ow' σ H' ρ w ∧ Rp K F' x d
def QI (K : W.Frag) (Z : Z0) (F : Hp) (σ : L2.St) (R : It → Hp → Prop) (ρ : List EV) (items : List Dv) (w : DS) : Prop := ∀ J H' F' ow', Same F F' → Rep K Z F' ow' σ H' ρ w → WalkD K J F' items → R J H'
def SndI (K : W.Frag) (Z : Z0) (E : XK) (wi : TI) (f : Sl) : Prop := ∀ F ow σ H ρ w R, Rep K Z F ow σ H ρ w → Post K Z E σ ρ (QI K Z F σ R ρ) (f ρ w) → wi σ H R
structure DI (X : Cx) (Z : Z0) (E : XK) (tg iter : Expr) (wi : TI) (f : Sl) : Prop where
  pi : PI X tg iter wi
  sn : SndI X.K Z E wi f
def loopD (k : Sg) (g : Ss) : List Dv → Ss
  | [] => fun ρ w => .ok (.nx ρ) w
  | d :: ds => fun ρ w => match k d ρ with
    | none => .stuck
    | some ρ1 => (g ρ1 w).bind fun s w1 => match s with
      | .nx ρ2 => loopD k g ds ρ2 w1
      | .ct ρ2 => loopD k g ds ρ2 w1
      | .bk ρ2 => .ok (.nx ρ2) w1
      | .rt d => .ok (.rt d) w1
def gFor (f : Sl) (k : Sg) (g : Ss) : Ss := fun ρ w => (f ρ w).bind fun items w1 => loopD k g items ρ w1
theorem SndI.seqS {K : W.Frag} {Z : Z0} {E : XK} {F : Hp} {ow : Addr → Option Nat} {σ : L2.St} {H : Hp} {ρ : List EV} {w : DS} {D : Ends} {wi : TI} {f : Sl} {C : It → Hp → Prop} {k : List Dv → DS → RR SF} (h : SndI K Z E wi f) (R : Rep K Z F ow σ H ρ w) (hp : PostS K Z E F D ((f ρ w).bind k))
    (c : ∀ ds w' J H' F' ow', Same F F' → Rep K Z F' ow' σ H' ρ w' → WalkD K J F' ds → PostS K Z E F' D (k ds w') → C J H') : wi σ H C := by
  refine h F ow σ H ρ w C R ?_
  cases e : f ρ w with
  | ok d w' => rw [e] at hp; exact fun J H' F' ow' s R' r => c d w' J H' F' ow' s R' r (hp.up s)
  | rz y w' => rw [e] at hp; exact fun cls dx H F ow R x => hp cls dx σ H F ow ρ R x
  | stuck => rw [e] at hp; exact hp
theorem drop_at {α : Type} {xs : List α} {i : Nat} {d : α} {ds : List α} (h : xs.drop i = d :: ds) : xs[i]? = some d ∧ xs.drop (i + 1) = ds := by
  constructor
  · have := congrArg (·[0]?) h
    simpa [List.getElem?_drop] using this
  · have := congrArg List.tail h
    rw [List.tail_drop] at this
    exact this
section
variable {X : Cx} {Z : Z0} {E : XK} {pos : Pos}
theorem s_for {K : W.Frag} {wi : TI} {g : TG} {tb : TS} {f : Sl} {k : Sg} {gb : Ss} {l : List Nat} (hi : SndI K Z E wi f) (hg : SndG K Z g k l) (hb : SndS K Z E tb gb) : SndS K Z E (tFor wi g tb) (gFor f k gb) := fun F ow σ H ρ w D R q =>
  hi.seqS R q fun items w1 J H1 F1 ow1 s R1 wk q1 => by
    refine ⟨fun i m σ H => ∃ F ow ρ w, Same F1 F ∧ Rep K Z F ow σ H ρ w ∧ m = (items.drop i).length ∧ PostS K Z E F1 D (loopD k gb (items.drop i) ρ w), ⟨_, F1, ow1, ρ, w1, Same.refl _, R1, rfl, q1⟩, ?_⟩
    rintro i m σ2 H2 ⟨F2, ow2, ρ2, w2, s2, R2, rfl, q2⟩
    cases ed : items.drop i with
    | nil =>
      rw [ed] at q2
      have hn : items[i]? = none := List.getElem?_eq_none_iff.mpr (by
        have := congrArg List.length ed
        rw [List.length_drop] at this
        simp only [List.length_nil] at this
        omega)
      exact .inl ⟨wk.stop Z F2 ow2 σ2 H2 ρ2 w2 i s2 R2 hn, q2 σ2 H2 F2 ow2 s2 R2⟩
    | cons d ds =>
      rw [ed] at q2
      obtain ⟨hd, hds⟩ := drop_at ed
      obtain ⟨go, yl⟩ := wk.item Z F2 ow2 σ2 H2 ρ2 w2 i d s2 R2 hd
      refine .inr ⟨go, fun σ H => ∃ F ow ρ w, Same F1 F ∧ Rep K Z F ow σ H ρ w ∧ PostS K Z E F1 D (loopD k gb ds ρ w), ?_, ?_⟩
      · rintro σ' H' ⟨F3, ow3, ρ3, w3, s3, R3, q3⟩
        refine ⟨ds.length, by simp, F3, ow3, ρ3, w3, s3, R3, by rw [hds], ?_⟩
        rw [hds]; exact q3
      · intro x H' hy
        obtain ⟨F3, ow3, s3, R3, rx⟩ := yl x H' hy
        have q3 : PostS K Z E F1 D (match k d ρ2 with
          | none => .stuck
          | some ρ1 => (gb ρ1 w2).bind fun s w1 => match s with
            | .nx ρ2 => loopD k gb ds ρ2 w1
            | .ct ρ2 => loopD k gb ds ρ2 w1
            | .bk ρ2 => .ok (.nx ρ2) w1
            | .rt d => .ok (.rt d) w1) := q2
        cases ek : k d ρ2 with
        | none => rw [ek] at q3; exact q3.elim
        | some ρ3 =>
          rw [ek] at q3
          refine hg F3 ow3 σ2 H' ρ2 w2 x d ρ3 _ ek R3 rx fun σ3 R4 _ => hb F3 ow3 σ3 H' ρ3 w2 _ R4 ?_
          have q3 : PostS K Z E F1 D ((gb ρ3 w2).bind fun s w1 => match s with
            | .nx ρ2 => loopD k gb ds ρ2 w1
            | .ct ρ2 => loopD k gb ds ρ2 w1
            | .bk ρ2 => .ok (.nx ρ2) w1
            | .rt d => .ok (.rt d) w1) := q3
          cases eb : gb ρ3 w2 with
          | stuck => rw [eb] at q3; exact q3
          | rz x w => rw [eb] at q3; exact q3
          | ok sf w4 =>
            rw [eb] at q3
            cases sf with
            | nx ρ5 => exact fun σ5 H5 F5 ow5 s5 R5 => ⟨F5, ow5, ρ5, w4, (s2.trans s3).trans s5, R5, q3⟩
            | ct ρ5 => exact fun σ5 H5 F5 ow5 s5 R5 => ⟨F5, ow5, ρ5, w4, (s2.trans s3).trans s5, R5, q3⟩
            | bk ρ5 => exact PostS.up (r := .ok (.nx ρ5) w4) (s2.trans s3) q3
            | rt d => exact PostS.up (r := .ok (.rt d) w4) (s2.trans s3) q3
end
end DL

namespace DL
open PySem PySem.Spec PyProof.Rows L2

/-! ### a def's body -/
def semOf (n : Nat) (g : Ss) : Fsem := fun ps w => match g (ps ++ List.replicate (n - ps.length) .un) w with
  | .ok (.rt d) w' => .ok d w'
  | .ok (.nx _) w' => .ok .non w'
  | .ok _ _ => .stuck
  | .rz x w' => .rz x w'
  | .stuck => .stuck
theorem ArgR.get {K : W.Frag} {F H : Hp} {ow : Addr → Option Nat} {Z : Z0} {dr : Ft} (hz : Z.dr = dr) : ∀ {vs : List V} {ps : List EV}, ArgR K F dr vs ps → ∀ (i j : Nat) {e : EV}, ps[j]? = some e → SlotR K Z F H ow i (vs.map some)[j]? e
  | _, _, .dat r _, i, 0, e, h => by cases h; exact ⟨_, rfl, r⟩
  | _, _, .drw q _, i, 0, e, h => by cases h; exact ⟨_, _, _, rfl, by rw [hz]; exact q⟩
  | _, _, .fn q _, i, 0, e, h => by cases h; exact ⟨_, rfl, by rw [hz]; exact q⟩
  | _, _, .dat _ t, i, j + 1, e, h => ArgR.get hz t i j h
  | _, _, .fn _ t, i, j + 1, e, h => ArgR.get hz t i j h
  | _, _, .drw _ t, i, j + 1, e, h => ArgR.get hz t i j h
  | _, _, .nil, i, j, e, h => by cases h
open Classical in
theorem body_core {K : W.Frag} {n : Nat} {vs : List V} {H F : Hp} {dr : Ft} {ps : List EV} {w : DS} {Q : VK} {E : XK} {N : List Str} {t : TS} {g : Ss} (hn : n ≤ N.length) (hpn : ps.length = n) (sub : Same F H) (ar : ArgR K F dr vs ps) (st : StX K dr F H w) (nf : ∀ a, inDr dr a → F a = none)
    (q : PostC K F H dr Q E (semOf N.length g ps w)) (hb : SndS K ⟨H, F, dr⟩ E t g) : t { nx := fun _ H' => Q .non H', rt := Q } (L2.start N vs) H := by
  refine hb F (fun a => if inDr dr a then some 0 else none) (L2.start N vs) H (ps ++ List.replicate (N.length - ps.length) .un) w _ ?_ ?_
  · have hl := ar.length
    exact {
      sub := sub
      keepF := Same.refl _
      newF := fun a u e => .inl e
      keep := fun a o e z => ⟨e, if_neg z⟩
      fzo := fun a u e => if_neg fun z => by rw [nf a z] at e; cases e
      owh := fun a i e => by
        by_cases z : inDr dr a
        · exact st.there z
        · rw [if_neg z] at e; cases e
      len := by
        unfold L2.start
        rw [List.length_append, List.length_append, List.length_map, List.length_replicate, List.length_replicate, hl]
      slots := fun i e he => by
        unfold L2.start
        by_cases hi : i < ps.length
        · rw [List.getElem?_append_left hi] at he
          rw [List.getElem?_append_left (by rw [List.length_map, hl]; exact hi)]
          exact ar.get rfl i i he
        · rw [List.getElem?_append_right (Nat.le_of_not_lt hi)] at he
          have := List.mem_of_getElem? he
          rw [List.mem_replicate] at this
          rw [this.2]
          trivial
      st := st
      foo := fun a z => if_pos z }
  · have grx : ∀ {F' : Hp} {ow' : Addr → Option Nat} {σ' : L2.St} {H' : Hp} {ρ' : List EV} {w' : DS}, Rep K ⟨H, F, dr⟩ F' ow' σ' H' ρ' w' → GrX F H F' H' dr ∧ StX K dr F' H' w' := fun R =>
      ⟨⟨R.keepF, R.sub, fun a u e => R.newF a u e, fun a o e z => (R.keep a o e z).1⟩, R.st⟩
    unfold semOf at q
    cases eg : g (ps ++ List.replicate (N.length - ps.length) .un) w with
    | stuck => rw [eg] at q; exact q
    | rz x w1 => rw [eg] at q; exact fun cls dx σ1 H1 F1 ow1 ρ1 R1 xr => q cls dx H1 F1 (grx R1).1 (grx R1).2 xr
    | ok sf w1 =>
      rw [eg] at q
      cases sf with
      | nx ρ1 => exact fun σ1 H1 F1 ow1 _ R1 => q .non H1 F1 (grx R1).1 (grx R1).2 .non
      | rt d => exact fun v σ1 H1 F1 ow1 ρ1 _ R1 r => q v H1 F1 (grx R1).1 (grx R1).2 r
      | bk ρ1 => exact q.elim
      | ct ρ1 => exact q.elim
theorem body_of {K : W.Frag} {n : Nat} {vs : List V} {H : Hp} {Q : VK} {E : XK} {N : List Str} {t : TS} {g : Ss} (hn : n ≤ N.length) (h : spD K n (semOf N.length g) vs H Q E) (hb : ∀ Z, SndS K Z E t g) : t { nx := fun _ H' => Q .non H', rt := Q } (L2.start N vs) H := by
  obtain ⟨F, dr, ps, w, hpn, sub, ar, st, nf, q⟩ := h
  exact body_core hn hpn sub ar st nf q (hb _)
/-- THE RULE: a def over data -/
theorem fnD {P : Program} {w : World} {K : W.Frag} {mg : Str → Option Value} {base : Heap} {x qual : Str} {st : Stmt} {f : Addr} {fd : FuncData} {N ps : List Str} {k : Nat} {g : Ss} (F : Fun K x qual st f fd) (S : FnScope N ps (defScope st))
    (hb : ∀ (cdv : Value) (A : Around) (outer : List Env) (s : Shared) (H : Hp) (E : XK), Room k (A.deeper (envOfC qual (defScope st) s.heap.objs.size f cdv)) →
      ∃ t, ∀ Z, DB (cxOf (L2.CX P w) P w K mg base N qual (defScope st) f cdv A outer s H E) Z E (defBody st) t g) (hl : ps.length ≤ N.length := by decide) :
    FnOk P w K mg base (L2.CX P w) (k + 1) f fd ps (spD K ps.length (semOf N.length g)) := by
  refine F.okX S (fun vs H Q E h => ?_) (fun cdv A outer s H vs Q E hr h => ?_)
  · obtain ⟨F, dr, qs, w, hpn, sub, ar, _⟩ := h
    rw [ar.length, hpn]
  · obtain ⟨t, ht⟩ := hb cdv A outer s H E hr
    exact ⟨t, (ht ⟨H, H, { st := none, tb := [], clo := fun _ _ => True }⟩).ps, body_of hl h fun Z => (ht Z).sn⟩
theorem calD {P : Program} {w : World} {K : W.Frag} {mg : Str → Option Value} {base : Heap} {x : Str} {st : Stmt} {f : Addr} {fd : FuncData} {ps : List Str} {k n : Nat} {sem : Fsem} (F : Fun K x x st f fd) (hm : mg x = some (.ref f)) (hb : L2.Binds K fd ps []) (hn : ps.length = n)
    (G : FnOk P w K mg base (L2.CX P w) k f fd ps (spD K ps.length sem)) : Cal P w K mg base x k n sem := by
  subst hn
  exact ⟨f, fd, ps, rfl, G, hm, F.kp, hb⟩

section
variable {X : Cx} {Z : Z0} {E : XK} {pos : Pos}
theorem d_for {tg iter : Expr} {body : List Stmt} {wi : TI} {g : TG} {tb : TS} {f : Sl} {k : Sg} {gb : Ss} {l : List Nat} (hp : PassesOwn (model X.prog X.w) X.A X.env X.xe) (hc : X.calm = true) (hi : DI X Z E tg iter wi f) (hg : DG X Z tg g k l) (hb : DB X Z E body tb gb)
    (hs : ∀ x, foldedSetIterable iter X.env x = pure x := by intro _; rfl) : DSt X Z E (.For tg iter body [] pos) (tFor wi g tb) (gFor f k gb) := ⟨ps_for hp hc hi.pi hg.pg hb.ps hs, s_for hi.sn hg.sn hb.sn⟩

/-! ### while -/
def whileD (fc : Sb) (gb : Ss) : Nat → Ss
  | 0 => fun _ _ => .stuck
  | n + 1 => fun ρ w => (fc ρ w).bind fun b w1 => if b = true then (gb ρ w1).bind fun s w2 => match s with
      | .nx ρ2 => whileD fc gb n ρ2 w2
      | .ct ρ2 => whileD fc gb n ρ2 w2
      | .bk ρ2 => .ok (.nx ρ2) w2
      | .rt d => .ok (.rt d) w2
    else .ok (.nx ρ) w1
def gWhile (fuel : List EV → DS → Nat) (fc : Sb) (gb : Ss) : Ss := fun ρ w => whileD fc gb (fuel ρ w) ρ w
theorem s_while {K : W.Frag} {fuel : List EV → DS → Nat} {tc : TT} {tb : TS} {fc : Sb} {gb : Ss} (hc : SndT K Z E tc fc) (hb : SndS K Z E tb gb) : SndS K Z E (tWhile tc tb) (gWhile fuel fc gb) := fun F ow σ H ρ w D R q => by
  refine ⟨fun m σ H => ∃ F1 ow ρ w, Rep K Z F1 ow σ H ρ w ∧ PostS K Z E F1 D (whileD fc gb m ρ w), ⟨_, F, ow, ρ, w, R, q⟩, ?_⟩
  rintro m σ1 H1 ⟨F1, ow1, ρ1, w1, R1, q1⟩
  cases m with
  | zero => exact q1.elim
  | succ m =>
    have q1 : PostS K Z E F1 D ((fc ρ1 w1).bind fun b w1 => if b = true then (gb ρ1 w1).bind fun s w2 => match s with
      | .nx ρ2 => whileD fc gb m ρ2 w2
      | .ct ρ2 => whileD fc gb m ρ2 w2
      | .bk ρ2 => .ok (.nx ρ2) w2
      | .rt d => .ok (.rt d) w2
      else .ok (.nx ρ1) w1) := q1
    refine hc.seqS R1 q1 fun b w2 H2 F2 ow2 s2 R2 q2 => ?_
    cases b with
    | false =>
      rw [if_neg Bool.false_ne_true] at q2 ⊢
      exact q2 σ1 H2 F2 ow2 (Same.refl _) R2
    | true =>
      rw [if_pos rfl] at q2 ⊢
      refine ⟨fun σ H => ∃ F3 ow ρ w, Rep K Z F3 ow σ H ρ w ∧ PostS K Z E F3 D (whileD fc gb m ρ w), fun σ' H' ⟨F3, ow3, ρ3, w3, R3, q3⟩ => ⟨m, Nat.lt_succ_self _, F3, ow3, ρ3, w3, R3, q3⟩, ?_⟩
      refine hb F2 ow2 σ1 H2 ρ1 w2 _ R2 ?_
      cases eb : gb ρ1 w2 with
      | stuck => rw [eb] at q2; exact q2
      | rz x w => rw [eb] at q2; exact q2
      | ok sf w4 =>
        rw [eb] at q2
        cases sf with
        | nx ρ5 => exact fun σ5 H5 F5 ow5 s5 R5 => ⟨F5, ow5, ρ5, w4, R5, PostS.up s5 q2⟩
        | ct ρ5 => exact fun σ5 H5 F5 ow5 s5 R5 => ⟨F5, ow5, ρ5, w4, R5, PostS.up s5 q2⟩
        | bk ρ5 => exact q2
        | rt d => exact q2
theorem d_while (fuel : List EV → DS → Nat) {c : Expr} {body : List Stmt} {tc : TT} {tb : TS} {fc : Sb} {gb : Ss} (hp : PassesOwn (model X.prog X.w) X.A X.env X.xe) (hc : DT X Z E c tc fc) (hb : DB X Z E body tb gb) : DSt X Z E (.While c body [] pos) (tWhile tc tb) (gWhile fuel fc gb) := ⟨ps_while hp hc.pt hb.ps, s_while hc.sn hb.sn⟩

/-! ### comprehensions -/
def wipeE (ρ : List EV) : List Nat → List EV
  | [] => ρ
  | v :: vs => (wipeE ρ vs).set v .un
def fYes : Sb := fun _ w => .ok true w
def lcD (k : Sg) (ft : Sb) (fe : Sx) (ρ : List EV) : List Dv → DS → RR (List Dv)
  | [], w => .ok [] w
  | d :: ds, w => match k d ρ with
    | none => .stuck
    | some ρ1 => match ft ρ1 w with
      | .ok true w1 => (match fe ρ1 w1 with
        | .ok y w2 => (lcD k ft fe ρ ds w2).bind fun ys w3 => .ok (y :: ys) w3
        | _ => .stuck)
      | .ok false w1 => lcD k ft fe ρ ds w1
      | _ => .stuck
section
variable {K : W.Frag} {F : Hp} {ow : Addr → Option Nat} {σ : L2.St} {H : Hp} {ρ : List EV} {w : DS}
theorem Rep.unset {i : Nat} (R : Rep K Z F ow σ H ρ w) : Rep K Z F ow (σ.set i none) H (ρ.set i .un) w :=
  { R with
    len := by rw [List.length_set, List.length_set]; exact R.len
    slots := fun j e' q => by
      by_cases hj : i = j
      · subst hj
        have hl : i < ρ.length := by
          have := (List.getElem?_eq_some_iff.mp q).1
          rwa [List.length_set] at this
        rw [List.getElem?_set_self hl] at q
        cases q
        trivial
      · rw [List.getElem?_set_ne hj] at q ⊢
        exact R.slots j e' q }
theorem Rep.wipe (R : Rep K Z F ow σ H ρ w) : ∀ vs : List Nat, Rep K Z F ow (L2.wipe σ vs) H (wipeE ρ vs) w
  | [] => R
  | v :: vs => (Rep.wipe R vs).unset
/-- a new object is kept an eye on -/
theorem Rep.guard {D : Addr} {o : HO} (R : Rep K Z F ow σ H ρ w) (h1 : H D = some o) (h2 : ow D = none) (h3 : F D = none) : Rep K ⟨upd Z.H D o, Z.F, Z.dr⟩ F ow σ H ρ w where
  sub := R.sub
  keepF := R.keepF
  newF := fun a u e => (R.newF a u e).elim .inl fun n => by
    refine .inr ?_
    show upd Z.H D o a = none
    rw [upd_ne (fun z => by rw [z, h3] at e; cases e)]; exact n
  keep := fun a u e z => by
    by_cases q : a = D
    · subst q
      have e : upd Z.H a o a = some u := e
      rw [upd_same] at e; cases e
      exact ⟨h1, h2⟩
    · have e : upd Z.H D o a = some u := e
      rw [upd_ne q] at e
      exact R.keep a u e z
  fzo := R.fzo
  owh := R.owh
  len := R.len
  slots := fun i e h => by
    have h := R.slots i e h
    have k : ∀ a j, ow a = some j → Z.H a = none → upd Z.H D o a = none := fun a j ha n => by
      rw [upd_ne (fun z => by rw [z, h2] at ha; cases ha)]; exact n
    cases e with
    | un => trivial
    | dat d => exact h
    | lst ds => obtain ⟨a, vs, e, g1, g2, g3, r⟩ := h; exact ⟨a, vs, e, g1, g2, k _ _ g2 g3, r⟩
    | dct ds => obtain ⟨a, vs, e, g1, g2, g3, r⟩ := h; exact ⟨a, vs, e, g1, g2, k _ _ g2 g3, r⟩
    | dctT ds => obtain ⟨a, vs, e, g1, g2, g3, r⟩ := h; exact ⟨a, vs, e, g1, g2, k _ _ g2 g3, r⟩
    | drw => exact h
    | fn f => exact h
    | lam j => exact h
  st := R.st
  foo := R.foo
theorem Rep.unguard {D : Addr} {o : HO} (hZ : Z.H D = none) (nf : ¬ Z.foot D) (hF : Z.F D = none) (R : Rep K ⟨upd Z.H D o, Z.F, Z.dr⟩ F ow σ H ρ w) : Rep K Z F ow σ H ρ w ∧ H D = some o ∧ ow D = none ∧ F D = none := by
  have kd := R.keep D o (show upd Z.H D o D = some o from upd_same) nf
  have hz : ∀ a, upd Z.H D o a = none → Z.H a = none := fun a e => by
    by_cases q : a = D
    · rw [q]; exact hZ
    · rw [upd_ne q] at e; exact e
  refine ⟨{
    sub := R.sub
    keepF := R.keepF
    newF := fun a u e => (R.newF a u e).imp id (hz a)
    keep := fun a u e z => R.keep a u (by
      show upd Z.H D o a = some u
      rw [upd_ne (fun q => by rw [q, hZ] at e; cases e)]; exact e) z
    fzo := R.fzo
    owh := R.owh
    len := R.len
    slots := fun i e h => by
      have h := R.slots i e h
      cases e with
      | un => trivial
      | dat d => exact h
      | lst ds => obtain ⟨a, vs, e, g1, g2, g3, r⟩ := h; exact ⟨a, vs, e, g1, g2, hz _ g3, r⟩
      | dct ds => obtain ⟨a, vs, e, g1, g2, g3, r⟩ := h; exact ⟨a, vs, e, g1, g2, hz _ g3, r⟩
      | dctT ds => obtain ⟨a, vs, e, g1, g2, g3, r⟩ := h; exact ⟨a, vs, e, g1, g2, hz _ g3, r⟩
      | drw => exact h
      | fn f => exact h
      | lam j => exact h
    st := R.st
    foo := R.foo }, kd.1, kd.2, ?_⟩
  cases q : F D with
  | none => rfl
  | some u =>
    rcases R.newF D u q with z | z
    · have z : Z.F D = some u := z
      rw [hF] at z; cases z
    · have z : upd Z.H D o D = none := z
      rw [upd_same] at z; cases z
/-- the guarded object is written -/
theorem Rep.mark {D : Addr} {o : HO} (R : Rep K Z F ow σ H ρ w) (h2 : ow D = none) (h3 : F D = none) (hZ : Z.H D = none) (nf : ¬ Z.foot D) : Rep K Z F ow σ (upd H D o) ρ w :=
  { R with
    sub := fun a u e => by rw [upd_ne (fun z => by rw [z, h3] at e; cases e)]; exact R.sub a u e
    keep := fun a u e z => ⟨by rw [upd_ne (fun q => by rw [q, hZ] at e; cases e)]; exact (R.keep a u e z).1, (R.keep a u e z).2⟩
    owh := fun a i e => by obtain ⟨u, h⟩ := R.owh a i e; exact ⟨u, by rw [upd_ne (fun z => by rw [z, h2] at e; cases e)]; exact h⟩
    slots := fun i e h => (R.slots i e h).grow e (Same.refl _) fun a u n q => by rw [upd_ne (fun z => n (by rw [z]; exact h2))]; exact q
    st := R.st.mono (Same.refl _) fun a u z q => by rw [upd_ne (fun e => by rw [e] at z; have := R.foo D z; rw [h2] at this; cases this)]; exact q }
end
theorem SndI.seq {K : W.Frag} {F : Hp} {ow : Addr → Option Nat} {σ : L2.St} {H : Hp} {ρ : List EV} {w : DS} {wi : TI} {f : Sl} {C : It → Hp → Prop} {α : Type} {P : α → DS → Prop} {k : List Dv → DS → RR α} (h : SndI K Z E wi f) (R : Rep K Z F ow σ H ρ w) (hp : Post K Z E σ ρ P ((f ρ w).bind k))
    (c : ∀ ds w' J H' F' ow', Same F F' → Rep K Z F' ow' σ H' ρ w' → WalkD K J F' ds → Post K Z E σ ρ P (k ds w') → C J H') : wi σ H C := by
  refine h F ow σ H ρ w C R ?_
  cases e : f ρ w with
  | ok d w' => rw [e] at hp; exact fun J H' F' ow' s R' r => c d w' J H' F' ow' s R' r hp
  | rz y w' => rw [e] at hp; exact hp
  | stuck => rw [e] at hp; exact hp
theorem wipe_sub {σ : L2.St} {vs : List Nat} : ∀ us : List Nat, (∀ i ∈ us, i ∈ vs) → L2.wipe (L2.wipe σ us) vs = L2.wipe σ vs
  | [], _ => rfl
  | v :: us, h => by
    show L2.wipe ((L2.wipe σ us).set v none) vs = _
    rw [wipe_set (h v List.mem_cons_self), wipe_sub us fun i hi => h i (List.mem_cons_of_mem _ hi)]
theorem wipe_out {σ : L2.St} {i : Nat} : ∀ {vs : List Nat}, i ∉ vs → (L2.wipe σ vs)[i]? = σ[i]?
  | [], _ => rfl
  | v :: vs, h => by
    show ((L2.wipe σ vs).set v none)[i]? = _
    rw [List.getElem?_set_ne (fun q => h (by rw [q]; exact List.mem_cons_self)), wipe_out fun q => h (List.mem_cons_of_mem _ q)]
theorem wipeE_out {ρ : List EV} {i : Nat} : ∀ {vs : List Nat}, i ∉ vs → (wipeE ρ vs)[i]? = ρ[i]?
  | [], _ => rfl
  | v :: vs, h => by
    show ((wipeE ρ vs).set v .un)[i]? = _
    rw [List.getElem?_set_ne (fun q => h (by rw [q]; exact List.mem_cons_self)), wipeE_out fun q => h (List.mem_cons_of_mem _ q)]
/-- the slots of a comprehension's own names hold nothing owned -/
def plainEV : EV → Bool
  | .un => true
  | .dat _ => true
  | _ => false
def okW (ρ : List EV) (vs : List Nat) : Bool := vs.all fun i => plainEV (ρ.getD i .un)
theorem Rep.back {K : W.Frag} {F F' : Hp} {ow ow' : Addr → Option Nat} {σ σ' : L2.St} {H H' : Hp} {ρ ρ' : List EV} {w w' : DS} {vs : List Nat} (R0 : Rep K Z F ow σ H ρ w) (R1 : Rep K Z F' ow' σ' H' ρ' w') (s : Same F F') (hs : ∀ i, i ∉ vs → σ'[i]? = σ[i]?) (hr : ∀ i, i ∉ vs → ρ'[i]? = ρ[i]?) (ok : okW ρ vs = true) :
    Rep K Z F' ow' σ H' ρ w' :=
  { R1 with
    len := R0.len
    slots := fun i e h => by
      by_cases hi : i ∈ vs
      · have z := List.all_eq_true.mp ok i hi
        rw [List.getD_eq_getElem?_getD, h] at z
        have h0 := R0.slots i e h
        cases e with
        | un => trivial
        | dat d => obtain ⟨v, e, r⟩ := h0; exact ⟨v, e, r.mono s⟩
        | _ => cases z
      · have h1 := R1.slots i e (by rw [hr i hi]; exact h)
        rw [hs i hi] at h1
        exact h1 }
def fLcW (fi : Sl) (k : Sg) (ft : Sb) (fe : Sx) (vs : List Nat) : Sl := fun ρ w => (fi ρ w).bind fun items w1 => if items.length ≤ big ∧ okW ρ vs = true then lcD k ft fe (wipeE ρ vs) items w1 else .stuck
theorem s_lc {K : W.Frag} {wi : TI} {g : TG} {tt : TT} {te : TE} {fi : Sl} {k : Sg} {ft : Sb} {fe : Sx} {vs l : List Nat} (hi : SndI K Z E wi fi) (hg : ∀ Z', SndG K Z' g k l) (fr : ∀ d ρ ρ', k d ρ = some ρ' → ∀ i, i ∉ l → ρ'[i]? = ρ[i]?) (ht : ∀ Z', SndT K Z' E0 tt ft) (he : ∀ Z', Snd K Z' E0 te fe) (hl : ∀ i ∈ l, i ∈ vs) :
    SndN K Z E (tLc wi g tt te vs) (fLcW fi k ft fe vs) := fun F ow σ H ρ w Q R q => by
  refine hi.seq R q fun items w1 J H1 F1 ow1 s1 R1 wk q1 => ?_
  by_cases hb : items.length ≤ big ∧ okW ρ vs = true
  case neg => rw [if_neg hb] at q1; exact q1.elim
  rw [if_pos hb] at q1
  obtain ⟨hbig, hok⟩ := hb
  intro D nD
  obtain ⟨d2, d3, d4⟩ := R1.fresh nD
  have nf : ¬ Z.foot D := fun z => by
    obtain ⟨u, h1⟩ := R1.st.there z
    rw [h1] at nD; cases nD
  have zF : Z.F D = none := R1.keepF.free d3
  have z4 := d4
  refine ⟨fun i m H => ∃ F2 ow2 w2 acc accD, Same F1 F2 ∧ Rep K Z F2 ow2 σ H ρ w2 ∧ H D = some (.lst acc) ∧ ow2 D = none ∧ F2 D = none ∧ RpAll K F2 acc accD ∧ m = (items.drop i).length ∧ acc.length ≤ i ∧
      Post K Z E σ ρ (fun ys w => QN K Z F σ Q ρ (accD ++ ys) w) (lcD k ft fe (wipeE ρ vs) (items.drop i) w2),
    ⟨_, F1, ow1, w1, [], [], Same.refl _, R1.mark d2 d3 d4 nf, upd_same, d2, d3, .nil, rfl, Nat.zero_le _, q1⟩, ?_⟩
  rintro i m H2 ⟨F2, ow2, w2, acc, accD, s2, R2, e2, o2, f2, r2, rfl, hle, q2⟩
  cases ed : items.drop i with
  | nil =>
    rw [ed] at q2
    have hn : items[i]? = none := List.getElem?_eq_none_iff.mpr (by
      have := congrArg List.length ed
      rw [List.length_drop] at this
      simp only [List.length_nil] at this
      omega)
    have q3 : QN K Z F σ Q ρ (accD ++ []) w2 := q2
    rw [List.append_nil] at q3
    exact .inl ⟨wk.stop Z F2 ow2 σ H2 ρ w2 i s2 R2 hn, q3 D acc H2 F2 ow2 (s1.trans s2) R2 e2 o2 f2 z4 r2⟩
  | cons d ds =>
    rw [ed] at q2
    obtain ⟨hd, hds⟩ := drop_at ed
    have Rg := R2.guard e2 o2 f2
    obtain ⟨go, yl⟩ := wk.item _ F2 ow2 σ H2 ρ w2 i d s2 Rg hd
    have hib : i < items.length := (List.getElem?_eq_some_iff.mp hd).1
    refine .inr ⟨(wk.item Z F2 ow2 σ H2 ρ w2 i d s2 R2 hd).1, fun H => ∃ F3 ow3 w3 acc3 accD3, Same F2 F3 ∧ Rep K Z F3 ow3 σ H ρ w3 ∧ H D = some (.lst acc3) ∧ ow3 D = none ∧ F3 D = none ∧ RpAll K F3 acc3 accD3 ∧ acc3.length ≤ i + 1 ∧
      Post K Z E σ ρ (fun ys w => QN K Z F σ Q ρ (accD3 ++ ys) w) (lcD k ft fe (wipeE ρ vs) ds w3), ?_, ?_⟩
    · rintro H' ⟨F3, ow3, w3, acc3, accD3, s3, R3, e3, o3, f3, r3, l3, q3⟩
      exact ⟨ds.length, by simp, F3, ow3, w3, acc3, accD3, s2.trans s3, R3, e3, o3, f3, r3, by rw [hds], l3, by rw [hds]; exact q3⟩
    · intro x H3 hy
      obtain ⟨F3, ow3, s3, R3, rx⟩ := yl x H3 hy
      have q3 : Post K Z E σ ρ (fun ys w => QN K Z F σ Q ρ (accD ++ ys) w) (match k d (wipeE ρ vs) with
        | none => .stuck
        | some ρ1 => match ft ρ1 w2 with
          | .ok true w1 => (match fe ρ1 w1 with
            | .ok y w2 => (lcD k ft fe (wipeE ρ vs) ds w2).bind fun ys w3 => .ok (y :: ys) w3
            | _ => .stuck)
          | .ok false w1 => lcD k ft fe (wipeE ρ vs) ds w1
          | _ => .stuck) := q2
      cases ek : k d (wipeE ρ vs) with
      | none => rw [ek] at q3; exact q3.elim
      | some ρ1 =>
        rw [ek] at q3
        refine hg _ F3 ow3 (L2.wipe σ vs) H3 (wipeE ρ vs) w2 x d ρ1 _ ek (R3.wipe vs) rx fun σ2 R4 hw => ?_
        have hws : L2.wipe σ2 vs = L2.wipe σ vs := (hw vs hl).trans (wipe_sub vs fun i h => h)
        have hs2 : ∀ i, i ∉ vs → σ2[i]? = σ[i]? := fun j hj => by rw [← wipe_out (σ := σ2) hj, hws, wipe_out hj]
        have hr2 : ∀ i, i ∉ vs → ρ1[i]? = ρ[i]? := fun j hj => by rw [fr d _ ρ1 ek j fun z => hj (hl j z), wipeE_out hj]
        refine ⟨hws, ?_⟩
        have q3 : Post K Z E σ ρ (fun ys w => QN K Z F σ Q ρ (accD ++ ys) w) (match ft ρ1 w2 with
          | .ok true w1 => (match fe ρ1 w1 with
            | .ok y w2 => (lcD k ft fe (wipeE ρ vs) ds w2).bind fun ys w3 => .ok (y :: ys) w3
            | _ => .stuck)
          | .ok false w1 => lcD k ft fe (wipeE ρ vs) ds w1
          | _ => .stuck) := q3
        refine ht _ F3 ow3 σ2 H3 ρ1 w2 _ R4 ?_
        cases et : ft ρ1 w2 with
        | stuck => rw [et] at q3; exact q3.elim
        | rz y w => rw [et] at q3; exact q3.elim
        | ok b w3 =>
          rw [et] at q3
          intro H4 F4 ow4 s4 R5
          cases b with
          | false =>
            rw [if_neg Bool.false_ne_true]
            obtain ⟨R6, g1, g2, g3⟩ := Rep.unguard z4 nf zF R5
            exact ⟨F4, ow4, w3, acc, accD, s3.trans s4, R2.back R6 (s3.trans s4) hs2 hr2 hok, g1, g2, g3, r2.mono (s3.trans s4), Nat.le_succ_of_le hle, q3⟩
          | true =>
            rw [if_pos rfl]
            have q3 : Post K Z E σ ρ (fun ys w => QN K Z F σ Q ρ (accD ++ ys) w) (match fe ρ1 w3 with
              | .ok y w2 => (lcD k ft fe (wipeE ρ vs) ds w2).bind fun ys w3 => .ok (y :: ys) w3
              | _ => .stuck) := q3
            refine he _ F4 ow4 σ2 H4 ρ1 w3 _ R5 ?_
            cases ee : fe ρ1 w3 with
            | stuck => rw [ee] at q3; exact q3.elim
            | rz y w => rw [ee] at q3; exact q3.elim
            | ok y w4 =>
              rw [ee] at q3
              intro v H5 F5 ow5 s5 R7 ry
              obtain ⟨R6, g1, g2, g3⟩ := Rep.unguard z4 nf zF R7
              have s25 := (s3.trans s4).trans s5
              refine ⟨acc, g1, by rw [sizeLine_big]; omega, F5, ow5, w4, acc ++ [v], accD ++ [y], s25, (R2.back R6 s25 hs2 hr2 hok).mark g2 g3 z4 nf, upd_same, g2, g3, (r2.mono s25).append (.cons ry .nil), by rw [List.length_append, List.length_singleton]; omega, ?_⟩
              have q3 : Post K Z E σ ρ (fun ys w => QN K Z F σ Q ρ (accD ++ ys) w) ((lcD k ft fe (wipeE ρ vs) ds w4).bind fun ys w3 => .ok (y :: ys) w3) := q3
              cases el : lcD k ft fe (wipeE ρ vs) ds w4 with
              | stuck => rw [el] at q3; exact q3.elim
              | rz x w => rw [el] at q3; exact q3
              | ok ys w5 =>
                rw [el] at q3
                have q3 : QN K Z F σ Q ρ (accD ++ (y :: ys)) w5 := q3
                show QN K Z F σ Q ρ ((accD ++ [y]) ++ ys) w5
                rw [List.append_assoc]; exact q3
structure DTs (X : Cx) (Z : Z0) (E : XK) (ifs : List Expr) (t : TT) (f : Sb) : Prop where
  pt : PTs X ifs t
  sn : SndT X.K Z E t f
theorem ts_nil : DTs X Z E [] tYes fYes := ⟨pts_nil, fun F ow σ H ρ w Q R q => q H F ow (Same.refl _) R⟩
theorem ts_one {c : Expr} {t : TT} {f : Sb} (h : DT X Z E c t f) : DTs X Z E [c] t f := ⟨pts_one h.pt, h.sn⟩
def sh0 : Shared := {}
theorem n_lc {elt tg iter : Expr} {ifs : List Expr} {scope : Scope} {own : List (Str × Nat)} {wi : TI} {g : TG} {tt : TT} {te : TE} {fi : Sl} {k : Sg} {ft : Sb} {fe : Sx} {l : List Nat} (hc : X.calm = true) (hN : X.N.Nodup) (hi : DI X Z E tg iter wi fi) (ok : BlkOk X.N X.env.scope scope own)
    (hg : ∀ (Z' : Z0) (s : Shared) (H : Hp) (C : Addr) (cl : List (Str × Addr)) (fp : List Addr), DG (X.blk s H scope (compEnvC scope cl C X.env) fp) Z' tg g k l) (ht : ∀ (Z' : Z0) (s : Shared) (H : Hp) (C : Addr) (cl : List (Str × Addr)) (fp : List Addr), DTs (X.blk s H scope (compEnvC scope cl C X.env) fp) Z' E0 ifs tt ft)
    (he : ∀ (Z' : Z0) (s : Shared) (H : Hp) (C : Addr) (cl : List (Str × Addr)) (fp : List Addr), DE (X.blk s H scope (compEnvC scope cl C X.env) fp) Z' E0 elt te fe) (hl : ∀ i ∈ l, i ∈ own.map (·.2)) (hs : ∀ x, foldedSetIterable iter X.env x = pure x := by intro _; rfl) :
    DN X Z E (.ListComp elt [⟨tg, iter, ifs, 0⟩] scope pos) (tLc wi g tt te (own.map (·.2))) (fLcW fi k ft fe (own.map (·.2))) :=
  ⟨pe_lc hc hN hi.pi ok (fun s H C cl fp => (hg Z s H C cl fp).pg) (fun s H C cl fp => (ht Z s H C cl fp).pt) (fun s H C cl fp => (he Z s H C cl fp).pe) hs,
   s_lc hi.sn (fun Z' => (hg Z' sh0 (fun _ => none) 0 [] []).sn) (hg Z sh0 (fun _ => none) 0 [] []).fr (fun Z' => (ht Z' sh0 (fun _ => none) 0 [] []).sn) (fun Z' => (he Z' sh0 (fun _ => none) 0 [] []).sn) hl⟩
end
end DL

/-! enumerate over a tuple -/
namespace PySem
open Sem (wp)
open AutoSeq1 (wpAny_loadPart')
theorem dl_enum_new {v : Value} {o : Obj} {H : Heap → Prop} (B : Begins v o H) :
    Meets (Builtin.«enumerate.__new__» ⟨[.type "enumerate", v], []⟩) (fun _ R s => H s.heap ∧
      R (.ok (.ret (.ref (s.heap.push o).objs.size))) { s with heap := (s.heap.push o).push { cls := .type "enumerate", data := .fields #[.none, .bool false, .ref s.heap.objs.size, rawInt 0, .none, .none] } }) :=
  .of_wp fun prog w A R s h => by
    obtain ⟨hp, g, d, tk, os⟩ := s; obtain ⟨h1, h⟩ := h
    have hsub := sub_enumerate
    have q1 : ∀ {A' : Around} {E : Value → Shared → Prop} {Q : Value → Shared → Prop}, Q (.ref hp.objs.size) ⟨hp.push o, g, d, tk, os⟩ → wpAny (model prog w) A' (pyIter v) Q E ⟨hp, g, d, tk, os⟩ :=
      fun q => B.iter prog w _ _ ⟨hp, g, d, tk, os⟩ _ h1 q
    wp_walk using q1
    refine wpAny_stack_any fun st => wpAny_pure ?_
    split
    · rename_i c _ _ _ _ _
      cases (c == Value.type "enumerate")
      · wp_walk using q1
        exact ⟨_, rfl, h⟩
      · wp_walk using q1
        exact ⟨_, rfl, h⟩
    · wp_walk using q1
      exact ⟨_, rfl, h⟩
theorem dl_enum_begins {prog : Program} {w : World} {A : Around} {E : Value → Shared → Prop} {s : Shared} {v : Value} {o : Obj} {H : Heap → Prop} {Q : Value → Shared → Prop} (B : Begins v o H) (h1 : H s.heap)
    (h : ∀ h', IsEnum h' (s.heap.objs.size + 1) s.heap.objs.size 0 .none → h'.get? s.heap.objs.size = some o → h'.objs.size = s.heap.objs.size + 2 →
      (∀ b o, s.heap.get? b = some o → h'.get? b = some o) → Q (.ref (s.heap.objs.size + 1)) { s with heap := h' }) :
    wpAny (model prog w) A (call (.type "enumerate") [v]) Q E s := by
  refine callType_new F.called_enumerate (by decide) (F.typeCall_enumerate_1 _) (F.newCall_enumerate_1 _) (fun obj => F.args_object_init_2 obj _) F.entry_enumerate_new
    (dl_enum_new B) ⟨h1, ?_⟩
  have hz : (s.heap.push o).objs.size = s.heap.objs.size + 1 := Heap.size_push ..
  show _ ∧ _
  rw [hz]
  have he : IsEnum ((s.heap.push o).push { cls := .type "enumerate", data := .fields #[.none, .bool false, .ref s.heap.objs.size, rawInt 0, .none, .none] }) (s.heap.objs.size + 1) s.heap.objs.size 0 .none := by
    have := Heap.get?_push_size (s.heap.push o) (o := { cls := .type "enumerate", data := .fields #[.none, .bool false, .ref s.heap.objs.size, rawInt 0, .none, .none] }) rfl
    rw [hz] at this; exact this
  refine ⟨⟨_, he, rfl⟩, h _ he (Heap.get?_push_of_some _ (Heap.get?_push_size _ B.free)) (by rw [Heap.size_push, hz]) fun b o x => Heap.get?_push_of_some _ (Heap.get?_push_of_some _ x)⟩
end PySem
namespace DL
open PySem PySem.Spec PyProof.Rows L2
def IteT (K : W.Frag) (a : Addr) : It :=
  ⟨fun i H => ∃ (xs : List V) (x : V), SqT K H a xs ∧ xs[i]? = some x, fun i H v H' => ∃ T x, v = .ref T ∧ H T = none ∧ H' = upd H T (.tup [.int (i : Nat), x]) ∧ ∀ xs, SqT K H a xs → xs[i]? = some x, fun i H => ∃ xs : List V, SqT K H a xs ∧ xs.length ≤ i⟩
theorem turn_enumT {P : Program} {w : World} {K : W.Frag} {elts : List Expr} {kk : Nat} {tpos : Pos} (a e it : Addr) (nea : e ≠ a) (nia : a ≠ it) :
    Turn P w K (.Tuple elts kk tpos) (IteT K a) [e, it] e (fun i h => (∃ old, IsEnum h e it ((i : Nat) : Int) old) ∧ h.IsTupleIter it a i ∧ e ≠ it) where
  mem := by simp
  obj := fun i h st b hb => by
    obtain ⟨⟨old, he⟩, ⟨o, ho, hc, hd⟩, _⟩ := st
    have e' : b = e ∨ b = it := by simpa using hb
    rcases e' with z | z
    · rw [z]; exact ⟨_, he, fun v q => nomatch q⟩
    · rw [z]; exact ⟨o, ho, fun v q => by rw [hd] at q; cases q⟩
  keep := fun i h h' st k => let ⟨⟨old, he⟩, hi, hne⟩ := st; ⟨⟨old, k e (by simp) _ he⟩, hi.at fun o q => k it (by simp) o q, hne⟩
  item := by
    intro X hP hw hK hc i pins s σ H E I hf st hg
    subst hP hw hK
    obtain ⟨⟨old, he⟩, hit, hne⟩ := st
    obtain ⟨xs, x, hq, hx⟩ := hg
    obtain ⟨its, rv, p, hz⟩ := I.tuple hq
    obtain ⟨u, hu, ru⟩ := rv.get hx
    have hel : e < s.heap.objs.size := Heap.lt_size he
    have hil : it < s.heap.objs.size := by obtain ⟨_, q, _⟩ := hit; exact Heap.lt_size q
    have D := Draws.tuple (prog := X.prog) (w := X.w) (A := X.A.in1) (show X.A.in1.handled = none from I.ok.hd hc) it a nia its.toArray
    have hlt : i < its.toArray.size := by
      have := (List.getElem?_eq_some_iff.mp hu).1
      simpa using this
    refine wpAny_pyNext_enum_itemD D he ⟨hit, p⟩ hlt hne (by simp; exact ⟨hne, nea⟩) fun y h' tk hy ho hit' hT hsz hk => ?_
    have ey : y = u := by
      have : its.toArray[i]? = some u := by simpa using hu
      exact Option.some.inj (hy.symm.trans this)
    subst ey
    refine ⟨_, rfl, wpAny_letOwnedTupleGo_enum (s := { s with heap := h', toks := tk + 1 }) ho fun h'' he' sb => ?_⟩
    have hT2 : h''.get? s.heap.objs.size = some { cls := .type "tuple", data := .seq #[.int i tk, y] } := (sb.2 _ (Nat.ne_of_gt hel)).trans hT
    have new : ObjOk X.prog X.w (upd H s.heap.objs.size (.tup [.int (i : Nat), x])) h'' s.heap.objs.size (.tup [.int (i : Nat), x]) :=
      ⟨by show 2 ≤ sizeLine; decide, [.int i tk, y], .cons ⟨_, rfl⟩ (.cons ru .nil), ⟨_, hT2, rfl, _, rfl⟩⟩
    have I1 : Inv X pins σ (upd H s.heap.objs.size (.tup [.int (i : Nat), x])) { s with heap := h'', toks := tk + 1 } :=
      I.turnedNew (ch := [e, it]) (fun b ob hb q => (sb.2 b (fun z => hb (by simp [z]))).trans (hk b ob (fun z => hb (by simp [z])) (fun z => hb (by simp [z])) q)) hf (Nat.le_refl _) new
    refine ⟨.ref s.heap.objs.size, _, I1, rfl, ⟨_, x, rfl, I.hok.fresh (Nat.le_refl _), rfl, fun ys hy => by rw [I.tuple_inj hy hq]; exact hx⟩, ⟨⟨y, ?_⟩, hit'.1.at fun o q => (sb.2 it (Ne.symm hne)).trans q, hne⟩, fun b hb => ?_⟩
    · have e1 : ((i + 1 : Nat) : Int) = (i : Int) + 1 := by omega
      rw [e1]; exact he'
    · have hb' : b < s.heap.objs.size := by
        have e' : b = e ∨ b = it := by simpa using hb
        rcases e' with z | z
        · rw [z]; exact hel
        · rw [z]; exact hil
      rw [upd_ne (Nat.ne_of_lt hb')]
      exact (hf b hb).1
  done := by
    intro X hP hw hK hc i pins s σ H E I hf st hg
    subst hP hw hK
    obtain ⟨⟨old, he⟩, hit, hne⟩ := st
    obtain ⟨xs, hq, hx⟩ := hg
    obtain ⟨its, rv, p, hz⟩ := I.tuple hq
    obtain ⟨f0, f1, f2, f3, f4, f5⟩ := hf it (by simp)
    have hl := rv.length
    have hT : s.TypeIs (.ref e) "enumerate" := ⟨_, he, rfl⟩
    unfold pyNext
    refine wpAny_bind (wpAny_attempt (wpAny_callSpecial?_slot (name := Str.ofString "__next__") hT F.slot_enumerate_next
      (wpAny_call_entry F.slot_enumerate_next hT F.entry_enumerate_next ?_ (F.args_enumerate_next_1 _))))
    show wpAny _ _ (field (.ref e) 2 >>= _) _ _ _
    refine wpAny_bind (wpAny_field he rfl (x := .ref it) rfl ?_)
    refine wpAny_bind (wpAny_nextOf_tuple_end (show X.A.in1.handled = none from I.ok.hd hc) hit p (by simp; omega) fun h' x he' hx' => ?_)
    obtain ⟨o, ho, hc'⟩ := hx'
    refine wpAny_bind (wpAny_isInstance (T := "StopIteration") (b := true) ⟨o, ho, hc'⟩ isSubtype_stop ?_)
    exact wpAny_pure ⟨rfl, I.turned (t' := s.toks) (fun b o hb q => he' b o hb q) f0 f1 f3 f4 f5⟩
  self := fun A i s Q E st h => let ⟨⟨_, he⟩, _⟩ := st; wpAny_pyIter_enum he h
/-- enumerate(x), x a list or a tuple -/
def iEnumA (K : W.Frag) (ta : TA) : TI := fun σ H R => ta σ H fun vs H1 => ∃ a xs, vs = [.ref a] ∧ ((SqL K H1 a xs ∧ R (Ite K a) H1) ∨ (SqT K H1 a xs ∧ R (IteT K a) H1))
theorem pi_enumA {X : Cx} {e : Expr} {ta : TA} {p pos tpos : Pos} {elts : List Expr} {kk : Nat} (hg : Gl X "enumerate") (hm : X.mg "enumerate" = none) (ha : PA X [e] ta) (hs : starEach [e] X.env = [(false, eval e X.env)] := by rfl) :
    PI X (.Tuple elts kk tpos) (.Call (.Name "enumerate" p) [e] [] pos) (iEnumA X.K ta) := by
  refine ⟨fun pins s σ H R I h => ?_⟩
  refine Call_ (ld_blt I hg hm boot_enumerate (PyProof.Rows.callWith_type1 (thn (ha.run pos pins s σ H _ I h) fun us s1 ⟨vs, H1, I1, r1, q1⟩ => ?_) hs rfl))
  obtain ⟨a, xs, ex, q1⟩ := q1
  subst ex
  cases r1 with
  | cons r rr =>
    cases rr
    cases r
    have two : ∀ b, b ∈ [s1.heap.objs.size + 1, s1.heap.objs.size] → FpOk X pins H1 b := fun b hb => by
      have e' : b = s1.heap.objs.size + 1 ∨ b = s1.heap.objs.size := by simpa using hb
      have hle : s1.heap.objs.size ≤ b := by
        rcases e' with z | z
        · rw [z]; exact Nat.le_add_right _ _
        · rw [z]; exact Nat.le_refl _
      exact I1.fpOk hle (I1.hok.fresh hle)
    rcases q1 with ⟨hq, q⟩ | ⟨hq, q⟩
    · obtain ⟨its, rv, p', hz⟩ := I1.list hq
      refine call_enumerate_list p'.isList fun h' he hit hsz hk => wpAny_pyIter_enum he ?_
      have I2 : Inv X pins σ H1 { s1 with heap := h' } := I1.kept (t' := s1.toks) hk
      exact ⟨s1.heap.objs.size + 1, [s1.heap.objs.size + 1, s1.heap.objs.size], _, _, H1, rfl, I2, turn_enum a (s1.heap.objs.size + 1) s1.heap.objs.size, ⟨⟨.none, he⟩, hit, Nat.succ_ne_self _⟩, two, q⟩
    · obtain ⟨its, rv, p', hz⟩ := I1.tuple hq
      obtain ⟨o, ho, _⟩ := id p'
      have hl : a < s1.heap.objs.size := Heap.lt_size ho
      refine dl_enum_begins (begins_tuple a its.toArray) p' fun h' he hit hsz hk => wpAny_pyIter_enum he ?_
      have I2 : Inv X pins σ H1 { s1 with heap := h' } := I1.kept (t' := s1.toks) hk
      exact ⟨s1.heap.objs.size + 1, [s1.heap.objs.size + 1, s1.heap.objs.size], _, _, H1, rfl, I2, turn_enumT a (s1.heap.objs.size + 1) s1.heap.objs.size (Nat.ne_of_gt (Nat.lt_succ_of_lt hl)) (Nat.ne_of_lt hl), ⟨⟨.none, he⟩, ⟨_, hit, rfl, rfl⟩, Nat.succ_ne_self _⟩, two, q⟩
end DL

/-! sorted(..) of a list or a tuple of data -/
namespace DL
open PySem PySem.Spec PyProof.Rows L2
section
variable {prog : Program} {w : World} {A : Around} {E : Value → Shared → Prop} {s : Shared}
theorem collect_tup {l : Addr} {vs : List Value} {Q : List Value → Shared → Prop} (hl : s.heap.IsTuple l vs.toArray)
    (h : Q vs { s with heap := (s.heap.push (seqObj "list" #[] 0)).update s.heap.objs.size (Obj.mapSeq (· ++ vs.toArray)) }) (hsz : vs.length ≤ sizeLine) :
    wpAny (model prog w) A (collect (.ref l)) Q E s := by
  obtain ⟨o, ho, hc, n, hd⟩ := id hl
  unfold collect
  refine wpAny_bind (wpAny_runValue (codeAny_builtin entry_proto_collect' ?_))
  show wpAny _ _ (do again (.builtin "list.__iadd__" ⟨[← newList [], .ref l], []⟩)) _ _ s
  refine wpAny_bind (wpAny_newList (wpAny_pure ⟨Code.quiet_builtin _ (by decide +kernel), codeAny_builtin entry_list_iadd' ?_⟩))
  show wpAny _ _ (Builtin.List.listExtendWith (.ref s.heap.objs.size) (.ref l) (.ref s.heap.objs.size)) _ _ { s with heap := s.heap.push (seqObj "list" #[] 0) }
  unfold Builtin.List.listExtendWith
  have ho' : (s.heap.push (seqObj "list" #[] 0)).get? l = some o := Heap.get?_push_of_some _ ho
  refine wpAny_bind (wpAny_typeOf (T := "tuple") ⟨o, ho', hc⟩ ?_)
  have ht : (Value.type "tuple" == Value.type "tuple") = true := by rfl
  rw [if_pos (by rw [ht]; simp)]
  refine wpAny_bind (listItems_at ho' hd ?_)
  refine wpAny_bind (listItems_at (xs := #[]) (n := 0) (Heap.get?_push_size _ rfl) rfl ?_)
  rw [if_neg (by simp)]
  refine wpAny_bind (listUpdate_at (xs := #[]) (n := 0) (Heap.get?_push_size _ rfl) rfl ?_ (Nat.zero_le _) (by show (#[] ++ vs.toArray).size ≤ sizeLine + 1; simp only [Array.size_append, List.size_toArray, List.length_nil]; omega))
  refine wpAny_pure ?_
  show wpAny (model prog w) A (do
      let o ← load s.heap.objs.size
      match o.data with
      | .seq xs _ => pure xs.toList
      | _ => unsupported "internal:collect") Q E { s with heap := (s.heap.push (seqObj "list" #[] 0)).update s.heap.objs.size (Obj.mapSeq (· ++ vs.toArray)) }
  refine wpAny_bind (wpAny_load (get?_update_seq (Heap.get?_push_size _ rfl) _) ?_)
  show wpAny _ _ (pure ((#[] : Array Value) ++ vs.toArray).toList) Q E _
  rw [show ((#[] : Array Value) ++ vs.toArray).toList = vs by simp]
  exact wpAny_pure h
/-- what collecting gives -/
def Col (prog : Program) (w : World) (s : Shared) (l : Addr) (vs : List Value) : Prop := ∀ (A : Around) (E : Value → Shared → Prop) (Q : List Value → Shared → Prop),
  Q vs { s with heap := (s.heap.push (seqObj "list" #[] 0)).update s.heap.objs.size (Obj.mapSeq (· ++ vs.toArray)) } → wpAny (model prog w) A (collect (.ref l)) Q E s
open PySem.W in
theorem sorted_of_sortC {l : Addr} {vs : List Value} {kw : List (Str × Value)} {Q : Value → Shared → Prop} (hC : Col prog w s l vs) (hL : vs.length ≤ sizeLine) (ha1 : argsOk "sorted" ⟨[.ref l], kw⟩) (ha2 : ∀ x, argsOk "list.sort" ⟨[.ref x], kw⟩)
    (body : ∀ E' : Value → Shared → Prop, wpAny (model prog w) A.in1.in1 (Builtin.«list.sort» ⟨[.ref (s.heap.objs.size + 1)], kw⟩) (fun f s' => f = .done (.ret .none) ∧ Q (.ref (s.heap.objs.size + 1)) s') E' { s with heap := copyHeap s.heap vs }) :
    wpAny (model prog w) A (call (.builtin "sorted") [.ref l] kw) Q E s := by
  refine call_function_entry_kw kind_sorted plain_sorted entry_sorted ha1 ?_
  unfold Builtin.«sorted»
  refine wpAny_bind (m := checkCount "sorted" 1 1 _) (wpAny_pure ?_)
  refine wpAny_bind (hC _ _ _ ?_)
  refine wpAny_bind (wpAny_newList ?_ hL)
  have hsz : ((s.heap.push (seqObj "list" #[] 0)).update s.heap.objs.size (Obj.mapSeq (· ++ vs.toArray))).objs.size = s.heap.objs.size + 1 := by
    rw [Heap.size_update, size_push']
  show wpAny _ _ _ _ _ { s with heap := copyHeap s.heap vs }
  rw [hsz]
  refine wpAny_bind (wpAny_holding (wpAny_call_entry_kw slot_list_sort ⟨_, copyHeap_at s.heap vs, rfl⟩ entry_list_sort ?body (ha2 _)))
  case body =>
    show wpAny (model prog w) A.in1.in1 (Builtin.«list.sort» ⟨[.ref (s.heap.objs.size + 1)], kw⟩) _ _ _
    refine wpAny_mono (body _) (fun f s' hf => ?_) fun _ _ e => e
    obtain ⟨rfl, hq⟩ := hf
    exact ⟨_, rfl, wpAny_pure ⟨_, rfl, hq⟩⟩
open PySem.W in
theorem sorted_dataC {β : Type} {R : Value → β → Prop} {enc : β → PyData} {vs : List Value} {bs : List β} {l : Addr} {Q : Value → Shared → Prop} (hC : Col prog w s l vs) (e : EachIs R vs bs) (er : EachIs (fun v b => ∃ as, Reads s.heap v (enc b) as) vs bs) (hal : AllAlike (bs.map enc)) (hk : Sortable (bs.map enc)) (hL : bs.length ≤ sizeLine)
    (hu : ∀ b, b ∈ bs → A.units + 2 + (enc b).depth < cLine) (h : ∀ out, out.length = bs.length → EachIs R out (bs.mergeSort (dataLe false enc)) → Q (.ref (s.heap.objs.size + 1)) { s with heap := sortedAll s.heap vs (List.toArray out) }) :
    wpAny (model prog w) A (call (.builtin "sorted") [.ref l]) Q E s := by
  have er' : EachIs (fun v b => ∃ as, Reads (sortingHeap (copyHeap s.heap vs) (s.heap.objs.size + 1) vs) v (enc b) as) vs bs := er.mono fun _ _ ⟨as, r⟩ => ⟨as, PyProof.Rows.Reads.keeps (fun _ _ => sorting_copy_old) r⟩
  refine sorted_of_sortC hC (by rw [e.length]; exact hL) (args_sorted1 _) (fun _ => args_list_sort _) fun _ => list_sort_vals (s := { s with heap := copyHeap s.heap vs }) (copyHeap_at s.heap vs) (κ := dataKind (sortingHeap (copyHeap s.heap vs) (s.heap.objs.size + 1) vs) (bs.map enc)) ?_ (by rw [e.length]; exact hL) ⟨rfl, ?_⟩
  · exact SortsAt.data (s := { s with heap := sortingHeap (copyHeap s.heap vs) (s.heap.objs.size + 1) vs }) (each_map (R := fun v d => ∃ as, Reads (sortingHeap (copyHeap s.heap vs) (s.heap.objs.size + 1) vs) v d as) enc er') hal hk (bound_map hu)
  · exact h _ (by rw [sortVals_length false rfl]; exact e.length) (sortVals_data false e er' hal)
end

/-! #### data as the library's -/
mutual
def toPy : Dv → PyData
  | .non => .none
  | .bl b => .bool b
  | .int i => .int i
  | .str s => .str s
  | .tup ds => .tuple (toPys ds)
  | .lst ds => .list (toPys ds)
  | .dct _ => .dict []
  | .glo _ => .dict []
  | .exc _ _ => .dict []
  | .scr _ => .dict []
def toPys : List Dv → List PyData
  | [] => []
  | d :: ds => toPy d :: toPys ds
end
theorem toPys_map : ∀ ds : List Dv, toPys ds = ds.map toPy
  | [] => rfl
  | d :: ds => by rw [toPys, toPys_map ds]; rfl
section
variable {K : W.Frag} {F : Hp}
mutual
theorem Rp.dp : ∀ {v : V} {d : Dv}, Rp K F v d → (toPy d).canLay0 = true → Dp K F v (toPy d)
  | _, _, .non, _ => .non
  | _, _, .bl b, _ => .bl b
  | _, _, .int b, _ => .int b
  | _, _, .str b, _ => .str b
  | _, _, .tup h r, c => .tup h (RpAll.dp r (by simpa [toPy, PyData.canLay0] using c))
  | _, _, .lst h r, c => .lst (SqL.of h) (RpAll.dp r (by simpa [toPy, PyData.canLay0] using c))
  | _, _, .dct _ _, c => by simp [toPy, PyData.canLay0] at c
  | _, _, .dctT _ _, c => by simp [toPy, PyData.canLay0] at c
  | _, _, .glo _, c => by simp [toPy, PyData.canLay0] at c
  | _, _, .exc0 _ _, c => by simp [toPy, PyData.canLay0] at c
  | _, _, .exc1 _ _ _ _, c => by simp [toPy, PyData.canLay0] at c
  | _, _, .scr _, c => by simp [toPy, PyData.canLay0] at c
theorem RpAll.dp : ∀ {v : List V} {d : List Dv}, RpAll K F v d → PyData.canLayAll0 (toPys d) = true → DpAll K F v (toPys d)
  | _, _, .nil, _ => .nil
  | v :: vs, d :: ds, .cons h r, c => by
    have c' : (toPy d).canLay0 = true ∧ PyData.canLayAll0 (toPys ds) = true := by simpa [toPys, PyData.canLayAll0] using c
    exact .cons (Rp.dp h c'.1) (RpAll.dp r c'.2)
end
end
theorem dp_mono {K : W.Frag} {F F' : Hp} (e : Same F F') : ∀ {v : V} {d : PyData}, Dp K F v d → Dp K F' v d := by
  intro v d h
  refine Dp.rec (motive_1 := fun v d _ => Dp K F' v d) (motive_2 := fun vs ds _ => DpAll K F' vs ds) .non (fun b => .bl b) (fun i => .int i) (fun x => .str x) (fun h _ r => .lst (e.seq h) r) (fun h _ r => .tup (sameT e h) r) .nil (fun _ _ a b => .cons a b) h

section
variable {X : Cx} {pins : List (Addr × Obj)} {σ : L2.St} {H : Hp} {s : Shared}
/-- sorted(x): x a list or a tuple; the pairs tell the items and what they stand for -/
def rSortedD (K : W.Frag) : List V → Hp → VK → Prop := fun vs H Q => ∃ (a : Addr) (zs : List (V × Dv)), vs = [V.ref a] ∧ (SqL K H a (zs.map (·.1)) ∨ SqT K H a (zs.map (·.1))) ∧ (∀ z ∈ zs, Dp K H z.1 (toPy z.2)) ∧
  W.AllAlike (zs.map fun z => toPy z.2) ∧ W.Sortable (zs.map fun z => toPy z.2) ∧ (∀ z ∈ zs, (toPy z.2).depth ≤ 60) ∧
  ∀ p, H p = none → Q (.ref p) (upd H p (.lst ((zs.mergeSort (W.dataLe false fun z => toPy z.2)).map (·.1))))
theorem each_vals {R : Value → V × Dv → Prop} : ∀ {us : List Value} {zs : List (V × Dv)}, Vals (zs.map (·.1)) us → (∀ u z, z ∈ zs → RelV z.1 u → R u z) → W.EachIs R us zs
  | _, [], .nil, _ => .nil
  | _, z :: zs, .cons r t, h => .cons (h _ z List.mem_cons_self r) (each_vals t fun u y hy => h u y (List.mem_cons_of_mem _ hy))
theorem vals_each : ∀ {us : List Value} {zs : List (V × Dv)}, W.EachIs (fun u z => RelV z.1 u) us zs → Vals (zs.map (·.1)) us
  | _, _, .nil => .nil
  | _, _, .cons r t => .cons r (vals_each t)
theorem cr_sortedD (hu : X.A.units + 64 < cLine) : CallR X (.builtin "sorted") (rSortedD X.K) := by
  intro pins s σ H vs us Q I r h
  obtain ⟨a, zs, rfl, hs, hd, hal, hk, hdep, q⟩ := h
  rw [Vals.ref1 r]
  have both : ∃ its : List Value, Vals (zs.map (·.1)) its ∧ Col X.prog X.w s a its ∧ (zs.map (·.1)).length ≤ sizeLine := by
    rcases hs with hs | hs
    · obtain ⟨its, rv, hl, hz⟩ := I.list hs
      exact ⟨its, rv, fun A E Q h => collect_list hl.isList h (by rw [← rv.length]; exact hz), hz⟩
    · obtain ⟨its, rv, hl, hz⟩ := I.tuple hs
      exact ⟨its, rv, fun A E Q h => collect_tup hl h (by rw [← rv.length]; exact hz), hz⟩
  obtain ⟨its, rv, hC, hz⟩ := both
  rw [List.length_map] at hz
  refine sorted_dataC (R := fun u z => RelV z.1 u) (enc := fun z => toPy z.2) (bs := zs) hC (each_vals rv fun u z _ r => r) (each_vals rv fun u z hm r => Dp.reads I _ _ _ (hd z hm) r) hal hk hz (fun z hm => ?_) fun out ho eo => ?_
  · have := hdep z hm
    omega
  · obtain ⟨ep, he'⟩ := PyProof.Rows.sortedAll_at s.heap its out.toArray
    have hv := vals_each eo
    have hlen : ((zs.mergeSort (W.dataLe false fun z => toPy z.2)).map (·.1)).length ≤ sizeLine := by
      rw [List.length_map, List.length_mergeSort]; exact hz
    exact ⟨.ref _, upd H (s.heap.objs.size + 1) (.lst _), I.laid (t' := s.toks) (fun _ _ => PyProof.Rows.sortedAll_old) (Nat.le_succ _) ⟨hlen, out, ep, hv, he'⟩, rfl, q _ (I.hok.fresh (Nat.le_succ _))⟩
end
/-- sorted over data -/
def leD (a b : Dv) : Bool := W.dataLe false toPy a b
open Classical in
noncomputable def dSorted : List Dv → Option (List Dv)
  | [.lst ds] | [.tup ds] => if W.AllAlike (ds.map toPy) ∧ W.Sortable (ds.map toPy) ∧ ∀ d ∈ ds, (toPy d).canLay0 = true ∧ (toPy d).depth ≤ 60 then some (ds.mergeSort leD) else none
  | _ => none
theorem rpAll_mem {K : W.Frag} {F : Hp} : ∀ {vs : List V} {ds : List Dv}, RpAll K F vs ds → ∀ z ∈ vs.zip ds, Rp K F z.1 z.2
  | _, _, .nil, z, h => by cases h
  | _, _, .cons r t, z, h => by
    rw [List.zip_cons_cons] at h
    rcases List.mem_cons.mp h with rfl | h
    · exact r
    · exact rpAll_mem t z h
theorem rpAll_of {K : W.Frag} {F : Hp} : ∀ {zs : List (V × Dv)}, (∀ z ∈ zs, Rp K F z.1 z.2) → RpAll K F (zs.map (·.1)) (zs.map (·.2))
  | [], _ => .nil
  | z :: zs, h => .cons (h z List.mem_cons_self) (rpAll_of fun y hy => h y (List.mem_cons_of_mem _ hy))
theorem sorted_ok {K : W.Frag} {F H : Hp} {a : Addr} {xs : List V} {ds ds' : List Dv} {Q : VK} (hs : SqL K H a xs ∨ SqT K H a xs) (ra : RpAll K F xs ds) (sub : Same F H)
    (c : W.AllAlike (ds.map toPy) ∧ W.Sortable (ds.map toPy) ∧ ∀ d ∈ ds, (toPy d).canLay0 = true ∧ (toPy d).depth ≤ 60) (e : ds.mergeSort leD = ds')
    (h : ∀ p vs F1 H1, Gr F H F1 H1 → H1 p = none → RpAll K F1 vs ds' → Q (.ref p) (upd H1 p (.lst vs))) : rSortedD K [.ref a] H Q := by
  obtain ⟨c1, c2, c3⟩ := c
  have l1 : (xs.zip ds).map (·.1) = xs := List.map_fst_zip (Nat.le_of_eq ra.length)
  have l2 : (xs.zip ds).map (·.2) = ds := List.map_snd_zip (Nat.le_of_eq ra.length.symm)
  have l3 : (xs.zip ds).map (fun z => toPy z.2) = ds.map toPy := by
    rw [show (fun z : V × Dv => toPy z.2) = toPy ∘ (fun z : V × Dv => z.2) from rfl, ← List.map_map, l2]
  have md : ∀ z ∈ xs.zip ds, z.2 ∈ ds := fun z hz => by
    have := List.mem_map_of_mem (f := fun z : V × Dv => z.2) hz
    rwa [l2] at this
  refine ⟨a, xs.zip ds, rfl, by rw [l1]; exact hs, fun z hz => dp_mono sub (Rp.dp (rpAll_mem ra z hz) (c3 z.2 (md z hz)).1), by rw [l3]; exact c1, by rw [l3]; exact c2, fun z hz => (c3 z.2 (md z hz)).2, fun p np => ?_⟩
  refine h p _ F H (Gr.refl sub) np ?_
  have e2 : ((xs.zip ds).mergeSort (W.dataLe false fun z => toPy z.2)).map (·.2) = ds' := by
    have q := List.map_mergeSort (r := W.dataLe false fun z : V × Dv => toPy z.2) (s := leD) (f := fun z : V × Dv => z.2) (l := xs.zip ds) (fun _ _ _ _ => rfl)
    rw [← e, q, l2]
  rw [← e2]
  exact rpAll_of fun z hz => rpAll_mem ra z ((List.mergeSort_perm _ _).mem_iff.mp hz)
theorem o_sorted {K : W.Frag} : CallN K (rSortedD K) dSorted := fun F H xs ds zs Q e sub r h => by
  cases r with
  | nil => cases e
  | @cons v vs d ds r1 r2 =>
    cases r2 with
    | cons _ _ => cases d <;> cases e
    | nil =>
      cases d with
      | lst items =>
        unfold dSorted at e
        dsimp only at e
        split at e
        · rename_i c
          cases r1 with
          | lst hs ra => exact sorted_ok (.inl (sub.seq (SqL.of hs))) ra sub c (Option.some.inj e) h
        · cases e
      | tup items =>
        unfold dSorted at e
        dsimp only at e
        split at e
        · rename_i c
          cases r1 with
          | tup hs ra => exact sorted_ok (.inr (sameT sub hs)) ra sub c (Option.some.inj e) h
        · cases e
      | _ => cases e
end DL

namespace DL
open PySem PySem.Spec PyProof.Rows L2

/-! ### unions of rules -/
section
variable {X : Cx}
theorem OpR.or {f : Value → Value → PySem.Sem Value} {r r' : R2} (h : OpR X f r) (h' : OpR X f r') : OpR X f (fun x y H Q => r x y H Q ∨ r' x y H Q) := fun pins s σ H x y v u Q I rx ry q =>
  q.elim (h pins s σ H x y v u Q I rx ry) (h' pins s σ H x y v u Q I rx ry)
theorem CallR.or {f : Value} {r r' : List V → Hp → VK → Prop} (h : CallR X f r) (h' : CallR X f r') : CallR X f (fun xs H Q => r xs H Q ∨ r' xs H Q) := fun pins s σ H vs us Q I rv q =>
  q.elim (h pins s σ H vs us Q I rv) (h' pins s σ H vs us Q I rv)
theorem pe_or2 {e : Expr} {t t' : TE} (h : PE X e t) (h' : PE X e t') : PE X e (fun σ H Q => t σ H Q ∨ t' σ H Q) := ⟨fun pins s σ H Q I q => q.elim (h.run pins s σ H Q I) (h'.run pins s σ H Q I)⟩
theorem pi_or2 {tg e : Expr} {t t' : TI} (h : PI X tg e t) (h' : PI X tg e t') : PI X tg e (fun σ H R => t σ H R ∨ t' σ H R) := ⟨fun pins s σ H Q I q => q.elim (h.run pins s σ H Q I) (h'.run pins s σ H Q I)⟩
end

/-! ### operators -/
def rAddA (K : W.Frag) : R2 := fun x y H Q => (rI0 fun i j => .int (i + j)) x y H Q ∨ ((fun x y H Q => ∃ i j, x = .str i ∧ y = .str j ∧ i.length + j.length ≤ sizeLine ∧ Q (.str (i ++ j)) H) : R2) x y H Q ∨ rCatA K x y H Q
theorem op_addA {X : Cx} {K0 : W.Frag} (hK0 : X.K = K0 := by rfl) : OpR X (binaryOp .Add) (rAddA K0) := by subst hK0; exact OpR.or op_add (OpR.or op_add_str op_catA)
def dAdd : Dv → Dv → Option Dv
  | .int a, .int b => some (.int (a + b))
  | .str a, .str b => if a.length + b.length ≤ big then some (.str (a ++ b)) else none
  | .tup a, .tup b => if a.length + b.length ≤ big then some (.tup (a ++ b)) else none
  | _, _ => none
theorem o_add {K : W.Frag} : OpS K (rAddA K) dAdd := fun F H x y d e z Q ez sub rx ry h => by
  cases d with
  | int i =>
    cases e with
    | int j => cases ez; cases rx; cases ry; exact .inl ⟨_, _, rfl, rfl, h _ F H (Gr.refl sub) (.int _)⟩
    | _ => cases ez
  | str i =>
    cases e with
    | str j =>
      have ez : (if i.length + j.length ≤ big then some (Dv.str (i ++ j)) else none) = some z := ez
      split at ez
      · rename_i hl
        cases ez; cases rx; cases ry
        exact .inr (.inl ⟨_, _, rfl, rfl, by rw [sizeLine_big]; exact hl, h _ F H (Gr.refl sub) (.str _)⟩)
      · cases ez
    | _ => cases ez
  | tup xs =>
    cases e with
    | tup ys =>
      have ez : (if xs.length + ys.length ≤ big then some (Dv.tup (xs ++ ys)) else none) = some z := ez
      split at ez
      · rename_i hl
        cases ez
        cases rx with
        | @tup a us _ ha ra =>
          cases ry with
          | @tup b ws _ hb rb =>
            refine .inr (.inr ⟨_, _, us, ws, rfl, rfl, sameT sub ha, sameT sub hb, by rw [sizeLine_big, ra.length, rb.length]; exact hl, fun e0 => ?_, fun _ e1 => ?_, fun _ _ p np => ?_⟩)
            · subst e0; cases ra; exact h _ F H (Gr.refl sub) (.tup hb rb)
            · subst e1; cases rb; rw [List.append_nil] at h; exact h _ F H (Gr.refl sub) (.tup ha ra)
            · have g := Gr.new sub (.tup (us ++ ws)) np
              exact h _ _ _ g (.tup (.of upd_same) ((ra.mono g.ff).append (rb.mono g.ff)))
      · cases ez
    | _ => cases ez
  | _ => cases e <;> cases ez
def dI (g : Int → Int → Dv) : Dv → Dv → Option Dv
  | .int a, .int b => some (g a b)
  | _, _ => none
theorem o_i0 {K : W.Frag} {g : Int → Int → V} {k : Int → Int → Dv} (hk : ∀ F i j, Rp K F (g i j) (k i j)) : OpS K (rI0 g) (dI k) := fun F H x y d e z Q ez sub rx ry h => by
  cases d with
  | int i =>
    cases e with
    | int j => cases ez; cases rx; cases ry; exact ⟨_, _, rfl, rfl, h _ F H (Gr.refl sub) (hk _ _ _)⟩
    | _ => cases ez
  | _ => cases e <;> cases ez
theorem o_sub {K : W.Frag} : OpS K (rI0 fun i j => .int (i - j)) (dI fun i j => .int (i - j)) := o_i0 fun _ _ _ => .int _
theorem o_lt {K : W.Frag} : OpS K (rI0 fun i j => .bl (decide (i < j))) (dI fun i j => .bl (decide (i < j))) := o_i0 fun _ _ _ => .bl _
theorem o_le {K : W.Frag} : OpS K (rI0 fun i j => .bl (decide (i ≤ j))) (dI fun i j => .bl (decide (i ≤ j))) := o_i0 fun _ _ _ => .bl _
theorem o_gt {K : W.Frag} : OpS K (rI0 fun i j => .bl (decide (j < i))) (dI fun i j => .bl (decide (j < i))) := o_i0 fun _ _ _ => .bl _
theorem o_ge {K : W.Frag} : OpS K (rI0 fun i j => .bl (decide (j ≤ i))) (dI fun i j => .bl (decide (j ≤ i))) := o_i0 fun _ _ _ => .bl _
open Classical in
noncomputable def dIC (C : Int → Int → Prop) (g : Int → Int → Dv) : Dv → Dv → Option Dv
  | .int a, .int b => if C a b then some (g a b) else none
  | _, _ => none
theorem o_ic {K : W.Frag} {C : Int → Int → Prop} {g : Int → Int → V} {k : Int → Int → Dv} (hk : ∀ F i j, Rp K F (g i j) (k i j)) : OpS K (rI C g) (dIC C k) := fun F H x y d e z Q ez sub rx ry h => by
  cases d with
  | int i =>
    cases e with
    | int j =>
      unfold dIC at ez
      dsimp only at ez
      split at ez
      · rename_i hc
        cases ez; cases rx; cases ry; exact ⟨_, _, rfl, rfl, hc, h _ F H (Gr.refl sub) (hk _ _ _)⟩
      · cases ez
    | _ => cases ez
  | _ => cases e <;> cases ez
theorem o_mul {K : W.Frag} : OpS K (rI CMulW fun i j => .int (i * j)) (dIC CMulW fun i j => .int (i * j)) := o_ic fun _ _ _ => .int _
theorem o_fdiv {K : W.Frag} : OpS K (rI CDivW fun i j => .int (i / j)) (dIC CDivW fun i j => .int (i / j)) := o_ic fun _ _ _ => .int _
def CMod (_ j : Int) : Prop := 0 < j
theorem o_mod {K : W.Frag} : OpS K (rI (fun _ j => 0 < j) fun i j => .int (i % j)) (dIC CMod fun i j => .int (i % j)) := o_ic fun _ _ _ => .int _
theorem o_pow {K : W.Frag} : OpS K (rI CPow fun i j => .int (i ^ j.toNat)) (dIC CPow fun i j => .int (i ^ j.toNat)) := o_ic fun _ _ _ => .int _
theorem u_neg {K : W.Frag} : UnS K (rU fun i => .int (-i)) (fun d => match d with | .int i => some (.int (-i)) | _ => none) := fun F H x d z Q ez sub rx h => by
  cases d with
  | int i => cases ez; cases rx; exact ⟨_, rfl, h _ F H (Gr.refl sub) (.int _)⟩
  | _ => cases ez
/-! == and != of data -/
def dEq (d e : Dv) : Option Dv := if SeqAt.shaped (toPy d) = true ∧ SeqAt.shaped (toPy e) = true then some (.bl (PyData.eqv (toPy d) (toPy e))) else none
def dNe (d e : Dv) : Option Dv := if SeqAt.shaped (toPy d) = true ∧ SeqAt.shaped (toPy e) = true then some (.bl (!PyData.eqv (toPy d) (toPy e))) else none
theorem o_eq {K : W.Frag} : OpS K (rEqD K) dEq := fun F H x y d e z Q ez sub rx ry h => by
  unfold dEq at ez
  split at ez
  · rename_i hc
    cases ez
    exact ⟨toPy d, toPy e, dp_mono sub (rx.dp (SeqAt.canLay_of_shaped hc.1)), dp_mono sub (ry.dp (SeqAt.canLay_of_shaped hc.2)), hc.1, hc.2, h _ F H (Gr.refl sub) (.bl _)⟩
  · cases ez
theorem o_ne {K : W.Frag} : OpS K (rNeD K) dNe := fun F H x y d e z Q ez sub rx ry h => by
  unfold dNe at ez
  split at ez
  · rename_i hc
    cases ez
    exact ⟨toPy d, toPy e, dp_mono sub (rx.dp (SeqAt.canLay_of_shaped hc.1)), dp_mono sub (ry.dp (SeqAt.canLay_of_shaped hc.2)), hc.1, hc.2, h _ F H (Gr.refl sub) (.bl _)⟩
  · cases ez
/-! is None -/
def isNon : Dv → Option Bool
  | .non => some true
  | .scr _ => none
  | _ => some false
def dIsN (neg : Bool) : Dv → Dv → Option Dv
  | d, .non => (isNon d).map fun b => .bl (if neg then !b else b)
  | _, _ => none
theorem isNon_ok {K : W.Frag} {F : Hp} {x : V} {d : Dv} {b : Bool} (r : Rp K F x d) (h : isNon d = some b) : decide (x = V.non) = b := by
  cases r <;> cases h <;> rfl
theorem o_isN {K : W.Frag} : OpS K (fun x y H Q => y = .non ∧ Q (.bl (decide (x = .non))) H) (dIsN false) := fun F H x y d e z Q ez sub rx ry h => by
  cases e with
  | non =>
    cases ry
    have ez : (isNon d).map (fun b => Dv.bl (if false = true then !b else b)) = some z := ez
    cases q : isNon d with
    | none => rw [q] at ez; cases ez
    | some b =>
      rw [q] at ez; cases ez
      exact ⟨rfl, by rw [isNon_ok rx q]; exact h _ F H (Gr.refl sub) (.bl _)⟩
  | _ => cases ez
theorem o_notN {K : W.Frag} : OpS K (fun x y H Q => y = .non ∧ Q (.bl (!decide (x = .non))) H) (dIsN true) := fun F H x y d e z Q ez sub rx ry h => by
  cases e with
  | non =>
    cases ry
    have ez : (isNon d).map (fun b => Dv.bl (if true = true then !b else b)) = some z := ez
    cases q : isNon d with
    | none => rw [q] at ez; cases ez
    | some b =>
      rw [q] at ez; cases ez
      exact ⟨rfl, by rw [isNon_ok rx q]; exact h _ F H (Gr.refl sub) (.bl _)⟩
  | _ => cases ez
/-! is True, is False (of bools) -/
def dIsB (neg : Bool) : Dv → Dv → Option Dv
  | .bl a, .bl b => some (.bl (if neg then !decide (a = b) else decide (a = b)))
  | _, _ => none
theorem o_isB {K : W.Frag} : OpS K (fun x y H Q => ∃ a b, x = .bl a ∧ y = .bl b ∧ Q (.bl (decide (a = b))) H) (dIsB false) := fun F H x y d e z Q ez sub rx ry h => by
  cases d with
  | bl i =>
    cases e with
    | bl j => cases ez; cases rx; cases ry; exact ⟨_, _, rfl, rfl, h _ F H (Gr.refl sub) (.bl _)⟩
    | _ => cases ez
  | _ => cases e <;> cases ez
theorem o_isNotB {K : W.Frag} : OpS K (fun x y H Q => ∃ a b, x = .bl a ∧ y = .bl b ∧ Q (.bl (!decide (a = b))) H) (dIsB true) := fun F H x y d e z Q ez sub rx ry h => by
  cases d with
  | bl i =>
    cases e with
    | bl j => cases ez; cases rx; cases ry; exact ⟨_, _, rfl, rfl, h _ F H (Gr.refl sub) (.bl _)⟩
    | _ => cases ez
  | _ => cases e <;> cases ez
/-! in, not in: flat items -/
def flV : Dv → Option V
  | .non => some .non
  | .bl b => some (.bl b)
  | .int i => some (.int i)
  | .str s => some (.str s)
  | _ => none
def flVs : List Dv → Option (List V)
  | [] => some []
  | d :: ds => match flV d, flVs ds with
    | some v, some vs => some (v :: vs)
    | _, _ => none
theorem flV_ok {K : W.Frag} {F : Hp} {x v : V} {d : Dv} (r : Rp K F x d) (h : flV d = some v) : x = v ∧ flatV v = true := by
  cases r <;> cases h <;> exact ⟨rfl, rfl⟩
theorem flVs_ok {K : W.Frag} {F : Hp} : ∀ {xs : List V} {ds : List Dv} {vs : List V}, RpAll K F xs ds → flVs ds = some vs → xs = vs ∧ vs.all flatV = true
  | _, _, _, .nil, h => by cases h; exact ⟨rfl, rfl⟩
  | _, _, _, .cons (d := d) (ds := ds) r t, h => by
    unfold flVs at h
    cases e1 : flV d with
    | none => rw [e1] at h; cases h
    | some v =>
      cases e2 : flVs ds with
      | none => rw [e1, e2] at h; cases h
      | some vs =>
        rw [e1, e2] at h
        cases h
        obtain ⟨h1, h2⟩ := flV_ok r e1
        obtain ⟨h3, h4⟩ := flVs_ok t e2
        exact ⟨by rw [h1, h3], by rw [List.all_cons, h2, h4]; rfl⟩
def dIn (neg : Bool) (d e : Dv) : Option Dv := match flV d, e with
  | some v, .lst ds => (flVs ds).map fun vs => .bl (if neg then !inV v vs else inV v vs)
  | some v, .tup ds => (flVs ds).map fun vs => .bl (if neg then !inV v vs else inV v vs)
  | _, _ => none
theorem o_inG {K : W.Frag} {neg : Bool} : OpS K (rIn K neg) (dIn neg) := fun F H x y d e z Q ez sub rx ry h => by
  unfold dIn at ez
  cases e1 : flV d with
  | none => rw [e1] at ez; cases ez
  | some v =>
    rw [e1] at ez
    obtain ⟨hx, hf⟩ := flV_ok rx e1
    subst hx
    cases e with
    | lst ds =>
      cases e2 : flVs ds with
      | none => simp only [e2] at ez; cases ez
      | some vs =>
        simp only [e2] at ez
        cases ez
        cases ry with
        | lst hs ra =>
          obtain ⟨h1, h2⟩ := flVs_ok ra e2
          subst h1
          exact ⟨_, _, rfl, .inl (sub.seq (SqL.of hs)), hf, h2, h _ F H (Gr.refl sub) (.bl _)⟩
    | tup ds =>
      cases e2 : flVs ds with
      | none => simp only [e2] at ez; cases ez
      | some vs =>
        simp only [e2] at ez
        cases ez
        cases ry with
        | tup hs ra =>
          obtain ⟨h1, h2⟩ := flVs_ok ra e2
          subst h1
          exact ⟨_, _, rfl, .inr (sameT sub hs), hf, h2, h _ F H (Gr.refl sub) (.bl _)⟩
    | _ => cases ez

/-! ### subscripts -/
def dIx : Dv → Dv → Option Dv
  | .lst ds, .int i => L2.atI ds i
  | .tup ds, .int i => L2.atI ds i
  | .str z, .int i => if z.length ≤ big then (L2.atI z.cps.toList i).map fun c => .str ⟨#[c]⟩ else none
  | _, _ => none
theorem rpAll_at {K : W.Frag} {F : Hp} {xs : List V} {ds : List Dv} {i : Int} {z : Dv} (r : RpAll K F xs ds) (h : L2.atI ds i = some z) : ∃ v, L2.atI xs i = some v ∧ Rp K F v z := by
  unfold L2.atI at h ⊢
  rw [r.length]
  cases e : L2.ixN ds.length i with
  | none => rw [e] at h; cases h
  | some j =>
    rw [e] at h
    exact r.get h
theorem o_ix {K : W.Frag} : OpS K (rIx K) dIx := fun F H x y d e z Q ez sub rx ry h => by
  cases e with
  | int i =>
    cases ry
    cases d with
    | lst ds =>
      cases rx with
      | lst hs ra =>
        obtain ⟨v, e1, r⟩ := rpAll_at ra ez
        exact .inl ⟨_, _, _, v, rfl, rfl, sub.seq (SqL.of hs), e1, h v F H (Gr.refl sub) r⟩
    | tup ds =>
      cases rx with
      | tup hs ra =>
        obtain ⟨v, e1, r⟩ := rpAll_at ra ez
        exact .inr (.inl ⟨_, _, _, v, rfl, rfl, sameT sub hs, e1, h v F H (Gr.refl sub) r⟩)
    | str s =>
      cases rx
      have ez : (if s.length ≤ big then (L2.atI s.cps.toList i).map fun c => Dv.str ⟨#[c]⟩ else none) = some z := ez
      split at ez
      · rename_i hl
        cases e1 : L2.atI s.cps.toList i with
        | none => rw [e1] at ez; cases ez
        | some c =>
          rw [e1] at ez; cases ez
          exact .inr (.inr ⟨_, _, c, rfl, rfl, by rw [sizeLine_big]; exact hl, e1, h _ F H (Gr.refl sub) (.str _)⟩)
      · cases ez
    | _ => cases ez
  | _ => cases d <;> cases ez
/-! dicts by a key -/
def isKD (k : Key) : Dv → Bool
  | .int i => decide (k = .inl i)
  | .str s => decide (k = .inr s)
  | _ => false
def toKey : Dv → Option Key
  | .int i => some (.inl i)
  | .str s => some (.inr s)
  | _ => none
def toKeys : List Dv → Option (List Key)
  | [] => some []
  | d :: ds => match toKey d, toKeys ds with
    | some v, some vs => some (v :: vs)
    | _, _ => none
/-- the key that a value is, as text of the dict's own -/
def keyOf : Dv → Option (Key ⊕ List Key)
  | .tup ds => (toKeys ds).map .inr
  | d => (toKey d).map .inl
def dLook (kvs : List (Dv × Dv)) (k : Dv) : Option Dv := (kvs.find? fun p => decide ((keyOf p.1).isSome = true ∧ keyOf p.1 = keyOf k)).map (·.2)
theorem toKey_kD (k : Key) : toKey (kD k) = some k := by cases k <;> rfl
theorem keyOf_kD (k : Key) : keyOf (kD k) = some (.inl k) := by cases k <;> rfl
theorem toKeys_kD : ∀ ks : List Key, toKeys (ks.map kD) = some ks
  | [] => rfl
  | k :: ks => by show (match toKey (kD k), toKeys (ks.map kD) with | some v, some vs => some (v :: vs) | _, _ => none) = _; rw [toKey_kD, toKeys_kD ks]
theorem keyOf_kDs (ks : List Key) : keyOf (.tup (ks.map kD)) = some (.inr ks) := by show (toKeys (ks.map kD)).map Sum.inr = _; rw [toKeys_kD]; rfl
theorem toKey_inv {d : Dv} {k : Key} (h : toKey d = some k) : d = kD k := by cases d <;> cases h <;> rfl
theorem toKeys_inv : ∀ {ds : List Dv} {ks : List Key}, toKeys ds = some ks → ds = ks.map kD
  | [], _, h => by cases h; rfl
  | d :: ds, ks, h => by
    unfold toKeys at h
    cases e1 : toKey d with
    | none => rw [e1] at h; cases h
    | some k =>
      cases e2 : toKeys ds with
      | none => rw [e1, e2] at h; cases h
      | some ks' => rw [e1, e2] at h; cases h; rw [toKey_inv e1, toKeys_inv e2]; rfl
theorem kD_V {K : W.Frag} {F : Hp} {v : V} {k : Key} (r : Rp K F v (kD k)) : v = kV k := by
  cases k <;> (cases r; rfl)
theorem kDs_V {K : W.Frag} {F : Hp} : ∀ {vs : List V} {ks : List Key}, RpAll K F vs (ks.map kD) → vs = ks.map kV
  | _, [], .nil => rfl
  | _, k :: ks, .cons r t => by rw [kD_V r, kDs_V t]; rfl
theorem look_kv {K : W.Frag} {F : Hp} {k : Key} : ∀ {kvs : List (Key × V)} {ds : List (Dv × Dv)}, RpKv K F kvs ds → (match dLook ds (kD k) with
    | some z => ∃ v, valV kvs k = some v ∧ Rp K F v z
    | none => valV kvs k = none)
  | _, _, .nil => rfl
  | _, _, .cons (k := k') (v := v) (vs := vs) (d := d) (ds := ds) r t => by
    unfold dLook valV
    rw [List.find?_cons, List.find?_cons]
    by_cases e : k' = k
    · subst e
      rw [decide_eq_true (show (keyOf (kD k')).isSome = true ∧ keyOf (kD k') = keyOf (kD k') from ⟨by rw [keyOf_kD]; rfl, rfl⟩), decide_eq_true rfl]
      exact ⟨v, rfl, r⟩
    · have ne : ¬ ((keyOf (kD k')).isSome = true ∧ keyOf (kD k') = keyOf (kD k)) := fun ⟨_, q⟩ => by
        rw [keyOf_kD, keyOf_kD] at q
        exact e (Sum.inl.inj (Option.some.inj q))
      rw [decide_eq_false ne, decide_eq_false e]
      exact look_kv t
theorem look_kvT {K : W.Frag} {F : Hp} {k : List Key} : ∀ {kvs : List (List Key × V)} {ds : List (Dv × Dv)}, RpKvT K F kvs ds → (match dLook ds (.tup (k.map kD)) with
    | some z => ∃ v, valV kvs k = some v ∧ Rp K F v z
    | none => valV kvs k = none)
  | _, _, .nil => rfl
  | _, _, .cons (k := k') (v := v) (vs := vs) (d := d) (ds := ds) r t => by
    unfold dLook valV
    rw [List.find?_cons, List.find?_cons]
    by_cases e : k' = k
    · subst e
      rw [decide_eq_true (show (keyOf (.tup (k'.map kD))).isSome = true ∧ keyOf (.tup (k'.map kD)) = keyOf (.tup (k'.map kD)) from ⟨by rw [keyOf_kDs]; rfl, rfl⟩), decide_eq_true rfl]
      exact ⟨v, rfl, r⟩
    · have ne : ¬ ((keyOf (.tup (k'.map kD))).isSome = true ∧ keyOf (.tup (k'.map kD)) = keyOf (.tup (k.map kD))) := fun ⟨_, q⟩ => by
        rw [keyOf_kDs, keyOf_kDs] at q
        exact e (Sum.inr.inj (Option.some.inj q))
      rw [decide_eq_false ne, decide_eq_false e]
      exact look_kvT t
end DL

namespace DL
open PySem PySem.Spec PyProof.Rows L2
/-! ### o[i] of lists, tuples, texts, dicts -/
def isTupD : Dv → Bool
  | .tup _ => true
  | _ => false
/-- the dict has keys of the kind of k -/
def agree (kvs : List (Dv × Dv)) (k : Dv) : Bool := match kvs with
  | [] => false
  | (k', _) :: _ => isTupD k' == isTupD k
def dSub (d k : Dv) : Option Dv := match d with
  | .dct kvs => if agree kvs k = true ∧ (keyOf k).isSome = true then dLook kvs k else none
  | d => dIx d k
theorem kD_notTup (k : Key) : isTupD (kD k) = false := by cases k <;> rfl
theorem dget_ok {K : W.Frag} {F H : Hp} {x y : V} {kvs : List (Dv × Dv)} {k : Dv} (sub : Same F H) (rx : Rp K F x (.dct kvs)) (ry : Rp K F y k) (hy : ∀ b xs, y = .ref b → SqT K F b xs → H b = some (.tup xs)) (hk : (keyOf k).isSome = true) (ha : agree kvs k = true) :
    ∃ a, x = .ref a ∧ ∃ o : Option V, DGet H a y o ∧ (match dLook kvs k with
      | some z => ∃ v, o = some v ∧ Rp K F v z
      | none => o = none) := by
  cases rx with
  | @dct a kv _ hd r =>
    refine ⟨a, rfl, ?_⟩
    have nt : isTupD k = false := by
      cases r with
      | nil => cases ha
      | @cons k0 v0 vs d0 ds0 _ _ =>
        have ha : (isTupD (kD k0) == isTupD k) = true := ha
        rw [kD_notTup] at ha
        have := eq_of_beq ha
        exact this.symm
    cases k with
    | int i =>
      cases ry
      refine ⟨valV kv (.inl i), .inl ⟨kv, .inl i, sameRd sub hd, rfl, rfl⟩, ?_⟩
      have q := look_kv (k := .inl i) r
      have e : dLook kvs (kD (.inl i)) = dLook kvs (.int i) := rfl
      rw [e] at q
      cases e2 : dLook kvs (.int i) with
      | none => rw [e2] at q; exact q
      | some z => rw [e2] at q; exact q
    | str i =>
      cases ry
      refine ⟨valV kv (.inr i), .inl ⟨kv, .inr i, sameRd sub hd, rfl, rfl⟩, ?_⟩
      have q := look_kv (k := .inr i) r
      have e : dLook kvs (kD (.inr i)) = dLook kvs (.str i) := rfl
      rw [e] at q
      cases e2 : dLook kvs (.str i) with
      | none => rw [e2] at q; exact q
      | some z => rw [e2] at q; exact q
    | tup ds => cases nt
    | _ => cases hk
  | @dctT a kv _ hd r =>
    refine ⟨a, rfl, ?_⟩
    have nt : isTupD k = true := by
      cases r with
      | nil => cases ha
      | @cons k0 v0 vs d0 ds0 _ _ =>
        have ha : (true == isTupD k) = true := ha
        exact (eq_of_beq ha).symm
    cases k with
    | tup ds =>
      cases e1 : toKeys ds with
      | none =>
        have hk : ((toKeys ds).map (Sum.inr : List Key → Key ⊕ List Key)).isSome = true := hk
        rw [e1] at hk; cases hk
      | some ks =>
        have ed := toKeys_inv e1
        subst ed
        cases ry with
        | tup hs ra =>
          have ev := kDs_V ra
          subst ev
          refine ⟨valV kv ks, .inr ⟨kv, ks, _, .inl (sub _ _ hd), rfl, hy _ _ rfl hs, rfl⟩, ?_⟩
          have q := look_kvT (k := ks) r
          cases e2 : dLook kvs (.tup (ks.map kD)) with
          | none => rw [e2] at q; exact q
          | some z => rw [e2] at q; exact q
    | _ => cases nt
/-- a tuple that is tracked in the frozen part itself -/
def plainT (F : Hp) (y : V) : Prop := True
section
variable {X : Cx} {Z : Z0} {E : XK} {pos : Pos} {a b : Expr} {ta tb : TE} {fa fb : Sx}
/-- where the keys are ints and texts -/
def dSubI (d k : Dv) : Option Dv := match d with
  | .dct kvs => if agree kvs k = true ∧ (toKey k).isSome = true then dLook kvs k else none
  | d => dIx d k
theorem s_sub {K : W.Frag} (ha : Snd K Z E ta fa) (hb : Snd K Z E tb fb) : Snd K Z E (fun σ H Q => tOp (rIx K) ta tb σ H Q ∨ tDGet ta tb σ H Q) (fOp dSubI fa fb) := fun F ow σ H ρ w Q R q => by
  have go : ∀ {d w1}, fa ρ w = .ok d w1 → (∀ kvs, d ≠ .dct kvs) → tOp (rIx K) ta tb σ H Q := fun {d w1} e n => by
    refine s_op o_ix ha hb F ow σ H ρ w Q R ?_
    have q : Post K Z E σ ρ (QE K Z F σ Q ρ) ((fa ρ w).bind fun d w1 => (fb ρ w1).bind fun e w2 => RR.of (dSubI d e) w2) := q
    show Post K Z E σ ρ (QE K Z F σ Q ρ) ((fa ρ w).bind fun d w1 => (fb ρ w1).bind fun e w2 => RR.of (dIx d e) w2)
    rw [e] at q ⊢
    have eq : ∀ k, dSubI d k = dIx d k := fun k => by cases d <;> first | rfl | exact (n _ rfl).elim
    simp only [RR.bind_ok, eq] at q ⊢
    exact q
  cases e : fa ρ w with
  | stuck => unfold fOp at q; rw [e] at q; exact q.elim
  | rz x w1 =>
    left
    refine s_op o_ix ha hb F ow σ H ρ w Q R ?_
    unfold fOp at q ⊢
    rw [e] at q ⊢; exact q
  | ok d w1 =>
    cases d with
    | dct kvs =>
      right
      unfold fOp at q
      refine ha F ow σ H ρ w _ R ?_
      rw [e] at q ⊢
      intro x H1 F1 ow1 s1 R1 r1
      have q : Post K Z E σ ρ (QE K Z F σ Q ρ) ((fb ρ w1).bind fun e w2 => RR.of (dSubI (.dct kvs) e) w2) := q
      refine hb.seq R1 q fun k w2 y H2 F2 ow2 s2 R2 r2 q2 => ?_
      have q2 : Post K Z E σ ρ (QE K Z F σ Q ρ) (RR.of (if agree kvs k = true ∧ (toKey k).isSome = true then dLook kvs k else none) w2) := q2
      split at q2
      · rename_i hc
        have hk : (keyOf k).isSome = true := by
          obtain ⟨_, hk⟩ := hc
          cases k <;> first | rfl | cases hk
        obtain ⟨a, rfl, o, g, m⟩ := dget_ok R2.sub (r1.mono s2) r2 (fun b xs eb _ => by
          obtain ⟨_, hk⟩ := hc
          cases k <;> first | (cases hk; done) | (cases r2; cases eb)) hk hc.1
        cases el : dLook kvs k with
        | none => rw [el] at q2; exact q2.elim
        | some z =>
          rw [el] at m q2
          obtain ⟨v, rfl, rz⟩ := m
          exact ⟨a, v, rfl, g, q2 v H2 F2 ow2 (s1.trans s2) R2 rz⟩
      · exact q2.elim
    | _ => exact .inl (go e fun _ h => by cases h)
theorem e_sub {k : Nat} (hr : Room k X.A) (ha : DE X Z E a ta fa) (hb : DE X Z E b tb fb) (h1 : PlainIx b := by exact fun _ _ => rfl) (h2 : NoSl b := by exact fun _ _ => rfl) {K0 : W.Frag} (hK0 : X.K = K0 := by rfl) : DE X Z E (.Subscript a b pos) (fun σ H Q => tOp (rIx K0) ta tb σ H Q ∨ tDGet ta tb σ H Q) (fOp dSubI fa fb) := by subst hK0; exact 
  ⟨pe_or2 (pe_ix ix_seq ha.pe hb.pe h1) (pe_dget (hu_of hr) ha.pe hb.pe h2), s_sub ha.sn hb.sn⟩

/-! ### built-ins -/
def dLen : List Dv → Option Dv
  | [.str z] => if z.length ≤ big then some (.int z.length) else none
  | [.lst ds] => some (.int ds.length)
  | [.tup ds] => some (.int ds.length)
  | [.scr ns] => some (.int ns.length)
  | _ => none
theorem one_arg' {K : W.Frag} {F : Hp} {xs : List V} {ds : List Dv} {d : Dv} (r : RpAll K F xs ds) (e : ds = [d]) : ∃ x, xs = [x] ∧ Rp K F x d := by
  subst e
  cases r with
  | cons r t => cases t; exact ⟨_, rfl, r⟩
theorem o_len {K : W.Frag} : CallS K (fun xs H Q => ∃ x n, xs = [x] ∧ LenV K x H n ∧ Q (.int n) H) dLen := fun F H xs ds z Q ez sub r h => by
  unfold dLen at ez
  split at ez
  · rename_i y
    split at ez
    · rename_i hl
      cases ez
      obtain ⟨x, rfl, rx⟩ := one_arg' r rfl
      cases rx
      exact ⟨_, y.length, rfl, ⟨by rw [sizeLine_big]; exact hl, rfl⟩, h _ F H (Gr.refl sub) (.int _)⟩
    · cases ez
  · cases ez
    obtain ⟨x, rfl, rx⟩ := one_arg' r rfl
    cases rx with
    | @lst a vs _ hs ra => exact ⟨_, vs.length, rfl, .inl ⟨vs, sub.seq (SqL.of hs), rfl⟩, by rw [ra.length]; exact h _ F H (Gr.refl sub) (.int _)⟩
  · cases ez
    obtain ⟨x, rfl, rx⟩ := one_arg' r rfl
    cases rx with
    | @tup a vs _ hs ra => exact ⟨_, vs.length, rfl, .inr ⟨vs, sameT sub hs, rfl⟩, by rw [ra.length]; exact h _ F H (Gr.refl sub) (.int _)⟩
  · rename_i ns
    cases ez
    obtain ⟨x, rfl, rx⟩ := one_arg' r rfl
    cases rx with
    | @scr a _ hs => exact ⟨_, (ns.map V.int).length, rfl, .inl ⟨ns.map V.int, sub.seq hs, rfl⟩, by rw [List.length_map]; exact h _ F H (Gr.refl sub) (.int _)⟩
  · cases ez
def blsOf : List Dv → Option (List Bool)
  | [] => some []
  | .bl b :: r => (blsOf r).map (b :: ·)
  | _ => none
def intsOf : List Dv → Option (List Int)
  | [] => some []
  | .int b :: r => (intsOf r).map (b :: ·)
  | _ => none
theorem blsOf_inv : ∀ {ds : List Dv} {bs : List Bool}, blsOf ds = some bs → ds = bs.map .bl
  | [], _, h => by cases h; rfl
  | d :: ds, bs, h => by
    cases d with
    | bl b =>
      have h : (blsOf ds).map (b :: ·) = some bs := h
      cases e : blsOf ds with
      | none => rw [e] at h; cases h
      | some cs => rw [e] at h; cases h; rw [blsOf_inv e]; rfl
    | _ => cases h
theorem intsOf_inv : ∀ {ds : List Dv} {bs : List Int}, intsOf ds = some bs → ds = bs.map .int
  | [], _, h => by cases h; rfl
  | d :: ds, bs, h => by
    cases d with
    | int b =>
      have h : (intsOf ds).map (b :: ·) = some bs := h
      cases e : intsOf ds with
      | none => rw [e] at h; cases h
      | some cs => rw [e] at h; cases h; rw [intsOf_inv e]; rfl
    | _ => cases h
@[simp] theorem blsOf_map (bs : List Bool) : blsOf (bs.map .bl) = some bs := by
  induction bs with
  | nil => rfl
  | cons b bs ih => show (blsOf (bs.map .bl)).map (b :: ·) = _; rw [ih]; rfl
@[simp] theorem intsOf_map (bs : List Int) : intsOf (bs.map .int) = some bs := by
  induction bs with
  | nil => rfl
  | cons b bs ih => show (intsOf (bs.map .int)).map (b :: ·) = _; rw [ih]; rfl
def dAll : List Dv → Option Dv
  | [.lst ds] => (blsOf ds).map fun bs => .bl (bs.all id)
  | _ => none
def dAny : List Dv → Option Dv
  | [.lst ds] => (blsOf ds).map fun bs => .bl (bs.any id)
  | _ => none
def dSum : List Dv → Option Dv
  | [.lst ds] => (intsOf ds).map fun bs => .int bs.sum
  | _ => none
theorem o_all {K : W.Frag} : CallS K (rAll K) dAll := fun F H xs ds z Q ez sub r h => by
  unfold dAll at ez
  split at ez
  · rename_i ds
    obtain ⟨x, rfl, rx⟩ := one_arg' r rfl
    cases e : blsOf ds with
    | none => rw [e] at ez; cases ez
    | some bs =>
      rw [e] at ez; cases ez
      have := blsOf_inv e
      subst this
      cases rx with
      | @lst a vs _ hs ra => exact ⟨a, bs, rfl, by rw [← RpAll.bls ra]; exact sub.seq (SqL.of hs), h _ F H (Gr.refl sub) (.bl _)⟩
  · cases ez
theorem o_any {K : W.Frag} : CallS K (rAny K) dAny := fun F H xs ds z Q ez sub r h => by
  unfold dAny at ez
  split at ez
  · rename_i ds
    obtain ⟨x, rfl, rx⟩ := one_arg' r rfl
    cases e : blsOf ds with
    | none => rw [e] at ez; cases ez
    | some bs =>
      rw [e] at ez; cases ez
      have := blsOf_inv e
      subst this
      cases rx with
      | @lst a vs _ hs ra => exact ⟨a, bs, rfl, by rw [← RpAll.bls ra]; exact sub.seq (SqL.of hs), h _ F H (Gr.refl sub) (.bl _)⟩
  · cases ez
theorem o_sum {K : W.Frag} : CallS K (rSum K) dSum := fun F H xs ds z Q ez sub r h => by
  unfold dSum at ez
  split at ez
  · rename_i ds
    obtain ⟨x, rfl, rx⟩ := one_arg' r rfl
    cases e : intsOf ds with
    | none => rw [e] at ez; cases ez
    | some bs =>
      rw [e] at ez; cases ez
      have := intsOf_inv e
      subst this
      cases rx with
      | @lst a vs _ hs ra => exact ⟨a, bs, rfl, by rw [← RpAll.ints ra]; exact sub.seq (SqL.of hs), h _ F H (Gr.refl sub) (.int _)⟩
  · cases ez
def dAbs : List Dv → Option Dv
  | [.int i] => some (.int (if i < 0 then -i else i))
  | _ => none
theorem o_abs {K : W.Frag} : CallS K (fun xs H Q => ∃ i, xs = [.int i] ∧ Q (.int (if i < 0 then -i else i)) H) dAbs := fun F H xs ds z Q ez sub r h => by
  unfold dAbs at ez
  split at ez
  · obtain ⟨x, rfl, rx⟩ := one_arg' r rfl
    cases ez; cases rx
    exact ⟨_, rfl, h _ F H (Gr.refl sub) (.int _)⟩
  · cases ez
def dInt : List Dv → Option Dv
  | [.int i] => some (.int i)
  | _ => none
theorem o_int {K : W.Frag} : CallS K (fun xs H Q => (∃ i, xs = [.int i] ∧ Q (.int i) H) ∨ ∃ k, xs = [.bl k] ∧ Q (.int (if k then 1 else 0)) H) dInt := fun F H xs ds z Q ez sub r h => by
  unfold dInt at ez
  split at ez
  · obtain ⟨x, rfl, rx⟩ := one_arg' r rfl
    cases ez; cases rx
    exact .inl ⟨_, rfl, h _ F H (Gr.refl sub) (.int _)⟩
  · cases ez
def dMin2 : List Dv → Option Dv
  | [.int i, .int j] => some (.int (if j < i then j else i))
  | _ => none
theorem o_min2 {K : W.Frag} : CallS K (fun xs H Q => ∃ i j, xs = [.int i, .int j] ∧ Q (.int (if j < i then j else i)) H) dMin2 := fun F H xs ds z Q ez sub r h => by
  unfold dMin2 at ez
  split at ez
  · cases ez
    cases r with
    | cons r1 t => cases t with
      | cons r2 t2 => cases t2; cases r1; cases r2; exact ⟨_, _, rfl, h _ F H (Gr.refl sub) (.int _)⟩
  · cases ez
def dMax2 : List Dv → Option Dv
  | [.int i, .int j] => some (.int (if j > i then j else i))
  | _ => none
theorem o_max2 {K : W.Frag} : CallS K (fun xs H Q => ∃ i j, xs = [.int i, .int j] ∧ Q (.int (if j > i then j else i)) H) dMax2 := fun F H xs ds z Q ez sub r h => by
  unfold dMax2 at ez
  split at ez
  · cases ez
    cases r with
    | cons r1 t => cases t with
      | cons r2 t2 => cases t2; cases r1; cases r2; exact ⟨_, _, rfl, h _ F H (Gr.refl sub) (.int _)⟩
  · cases ez
/-! list(x): a new list -/
def dList : List Dv → Option (List Dv)
  | [.lst ds] => some ds
  | [.tup ds] => some ds
  | _ => none
theorem o_list {K : W.Frag} : CallN K (fun xs H Q => ∃ p ys, xs = [.ref p] ∧ (SqL K H p ys ∨ SqT K H p ys) ∧ ∀ l, H l = none → Q (.ref l) (upd H l (.lst ys))) dList := fun F H xs ds z Q ez sub r h => by
  unfold dList at ez
  split at ez
  · obtain ⟨x, rfl, rx⟩ := one_arg' r rfl
    cases ez
    cases rx with
    | @lst a vs _ hs ra => exact ⟨a, vs, rfl, .inl (sub.seq (SqL.of hs)), fun l nl => h l vs F H (Gr.refl sub) nl ra⟩
  · obtain ⟨x, rfl, rx⟩ := one_arg' r rfl
    cases ez
    cases rx with
    | @tup a vs _ hs ra => exact ⟨a, vs, rfl, .inr (sameT sub hs), fun l nl => h l vs F H (Gr.refl sub) nl ra⟩
  · cases ez
/-! tuple(x) -/
def dTupOf : Dv → Option Dv
  | .lst ds => some (.tup ds)
  | .tup ds => some (.tup ds)
  | _ => none
theorem e_tupleOf {p : Pos} (hm : X.mg "tuple" = none) (ha : DE X Z E a ta fa) (hg : Gl X "tuple" := by rfl) (na : starEach [a] X.env = (false, eval a X.env) :: starEach [] X.env := by rfl) {K0 : W.Frag} (hK0 : X.K = K0 := by rfl) : DE X Z E (.Call (.Name "tuple" p) [a] [] pos) (tThen ta (L2.kTup K0)) (fUn dTupOf fa) := by subst hK0; exact ⟨pe_tupleOf hg hm ha.pe na, fun F ow σ H ρ w Q R q =>
  ha.sn.seq R q fun d w1 x H1 F1 ow1 s1 R1 r1 q1 => by
    cases d with
    | lst ds =>
      cases r1 with
      | @lst a vs _ hs ra =>
        refine .inl ⟨a, vs, rfl, R1.sub.seq (SqL.of hs), fun p np => ?_⟩
        have g := Gr.new R1.sub (.tup vs) np
        exact q1 _ _ _ ow1 (s1.trans g.ff) (R1.grow g) (.tup (.of upd_same) (ra.mono g.ff))
    | tup ds =>
      cases r1 with
      | @tup a vs _ hs ra => exact .inr ⟨a, vs, rfl, sameT R1.sub hs, q1 _ H1 F1 ow1 s1 R1 (.tup hs ra)⟩
    | _ => exact q1.elim⟩
/-! tuple(reversed(x)), list(range(..)), slices -/
def rgD (a b : Int) : List Dv := (List.range (b - a).toNat).map fun i => .int (a + (i : Nat))
theorem rgD_rp {K : W.Frag} {F : Hp} (a b : Int) : RpAll K F (rgV a b) (rgD a b) := by
  unfold rgV rgD
  generalize List.range (b - a).toNat = l
  induction l with
  | nil => exact .nil
  | cons i l ih => exact .cons (.int _) ih
def okRg (a b : Int) : Prop := -(2 ^ 62) ≤ a ∧ a < 2 ^ 62 ∧ -(2 ^ 62) ≤ b ∧ b < 2 ^ 62 ∧ (b - a).toNat ≤ 2 ^ 24
noncomputable instance (a b : Int) : Decidable (okRg a b) := Classical.propDecidable _
noncomputable def fRg1 (fa : Sx) : Sl := fun ρ w => (fa ρ w).bind fun d w1 => match d with
  | .int n => if okRg 0 n then .ok (rgD 0 n) w1 else .stuck
  | _ => .stuck
noncomputable def fRg2 (fa fb : Sx) : Sl := fun ρ w => (fa ρ w).bind fun d w1 => (fb ρ w1).bind fun e w2 => match d, e with
  | .int m, .int n => if okRg m n then .ok (rgD m n) w2 else .stuck
  | _, _ => .stuck
theorem n_listRg1 {p p2 pos2 : Pos} (hc : X.calm = true) (hm : X.mg "list" = none) (hm2 : X.mg "range" = none) (ha : DE X Z E a ta fa) (hg : Gl X "list" := by rfl) (hg2 : Gl X "range" := by rfl) (na : starEach [a] X.env = (false, eval a X.env) :: starEach [] X.env := by rfl)
    (na2 : starEach [.Call (.Name "range" p2) [a] [] pos2] X.env = (false, eval (.Call (.Name "range" p2) [a] [] pos2) X.env) :: starEach [] X.env := by rfl) :
    DN X Z E (.Call (.Name "list" p) [.Call (.Name "range" p2) [a] [] pos2] [] pos) (tLstRg (tRg1 ta)) (fRg1 fa) := ⟨pe_listRg hc hg hm (prg_1 hg2 hm2 ha.pe na) na2, fun F ow σ H ρ w Q R q =>
  ha.sn.seq R q fun d w1 x H1 F1 ow1 s1 R1 r1 q1 => by
    cases d with
    | int n =>
      cases r1
      have q1 : Post X.K Z E σ ρ (QN X.K Z F σ Q ρ) (if okRg 0 n then .ok (rgD 0 n) w1 else .stuck) := q1
      split at q1
      · rename_i hk
        refine ⟨n, rfl, hk, fun p np => ?_⟩
        obtain ⟨h1, h2, h3⟩ := R1.fresh np
        exact q1 p _ _ F1 ow1 s1 (R1.grow (Gr.apart R1.sub _ np)) upd_same h1 h2 h3 (rgD_rp 0 n)
      · exact q1.elim
    | _ => exact q1.elim⟩
theorem n_listRg2 {p p2 pos2 : Pos} (hc : X.calm = true) (hm : X.mg "list" = none) (hm2 : X.mg "range" = none) (ha : DE X Z E a ta fa) (hb : DE X Z E b tb fb) (hg : Gl X "list" := by rfl) (hg2 : Gl X "range" := by rfl) (na : starEach [a, b] X.env = (false, eval a X.env) :: starEach [b] X.env := by rfl) (nb : starEach [b] X.env = (false, eval b X.env) :: starEach [] X.env := by rfl)
    (hp : (backTo pos2 (starEach [b] X.env)).any (·.1) = false := by rfl)
    (na2 : starEach [.Call (.Name "range" p2) [a, b] [] pos2] X.env = (false, eval (.Call (.Name "range" p2) [a, b] [] pos2) X.env) :: starEach [] X.env := by rfl) :
    DN X Z E (.Call (.Name "list" p) [.Call (.Name "range" p2) [a, b] [] pos2] [] pos) (tLstRg (tRg2 ta tb)) (fRg2 fa fb) := ⟨pe_listRg hc hg hm (prg_2 hg2 hm2 ha.pe hb.pe na nb hp) na2, fun F ow σ H ρ w Q R q =>
  ha.sn.seq R q fun d w1 x H1 F1 ow1 s1 R1 r1 q1 => hb.sn.seq R1 q1 fun e w2 y H2 F2 ow2 s2 R2 r2 q2 => by
    cases d with
    | int m =>
      cases e with
      | int n =>
        cases r1; cases r2
        have q2 : Post X.K Z E σ ρ (QN X.K Z F σ Q ρ) (if okRg m n then .ok (rgD m n) w2 else .stuck) := q2
        split at q2
        · rename_i hk
          refine ⟨m, n, rfl, rfl, hk, fun p np => ?_⟩
          obtain ⟨h1, h2, h3⟩ := R2.fresh np
          exact q2 p _ _ F2 ow2 (s1.trans s2) (R2.grow (Gr.apart R2.sub _ np)) upd_same h1 h2 h3 (rgD_rp m n)
        · exact q2.elim
      | _ => exact q2.elim
    | _ => exact q2.elim⟩
theorem e_tupRg1 {p p2 pos2 : Pos} (hc : X.calm = true) (hm : X.mg "tuple" = none) (hm2 : X.mg "range" = none) (ha : DE X Z E a ta fa) (hg : Gl X "tuple" := by rfl) (hg2 : Gl X "range" := by rfl) (na : starEach [a] X.env = (false, eval a X.env) :: starEach [] X.env := by rfl)
    (na2 : starEach [.Call (.Name "range" p2) [a] [] pos2] X.env = (false, eval (.Call (.Name "range" p2) [a] [] pos2) X.env) :: starEach [] X.env := by rfl) :
    DE X Z E (.Call (.Name "tuple" p) [.Call (.Name "range" p2) [a] [] pos2] [] pos) (tTupRg (tRg1 ta)) (fun ρ w => (fRg1 fa ρ w).bind fun ds w => .ok (.tup ds) w) := ⟨pe_tupRg hc hg hm (prg_1 hg2 hm2 ha.pe na) na2, fun F ow σ H ρ w Q R q => by
  have q : Post X.K Z E σ ρ (QE X.K Z F σ Q ρ) ((fa ρ w).bind fun d w1 => (match d with
    | .int n => if okRg 0 n then RR.ok (rgD 0 n) w1 else .stuck
    | _ => .stuck).bind fun ds w => .ok (.tup ds) w) := by
    unfold fRg1 at q
    cases e : fa ρ w with
    | stuck => rw [e] at q; exact q
    | rz x w1 => rw [e] at q; exact q
    | ok d w1 => rw [e] at q; exact q
  refine ha.sn.seq R q fun d w1 x H1 F1 ow1 s1 R1 r1 q1 => ?_
  cases d with
  | int n =>
    cases r1
    have q1 : Post X.K Z E σ ρ (QE X.K Z F σ Q ρ) ((if okRg 0 n then RR.ok (rgD 0 n) w1 else .stuck).bind fun ds w => .ok (.tup ds) w) := q1
    split at q1
    · rename_i hk
      refine ⟨n, rfl, hk, fun p np => ?_⟩
      have g := Gr.new R1.sub (.tup (rgV 0 n)) np
      exact q1 _ _ _ ow1 (s1.trans g.ff) (R1.grow g) (.tup (.of upd_same) (rgD_rp 0 n))
    · exact q1.elim
  | _ => exact q1.elim⟩
end
end DL

namespace DL
open PySem PySem.Spec PyProof.Rows L2
section
variable {X : Cx} {Z : Z0} {E : XK} {pos : Pos} {a b : Expr} {ta tb : TE} {fa fb : Sx}

/-! ### what is walked -/
def itemsOf : Dv → Option (List Dv)
  | .lst ds => some ds
  | .tup ds => some ds
  | _ => none
/-- the script too -/
def itemsS : Dv → Option (List Dv)
  | .scr ns => some (ns.map .int)
  | d => itemsOf d
def fItems (fa : Sx) : Sl := fun ρ w => (fa ρ w).bind fun d w1 => .of (itemsS d) w1
theorem walk_list {K : W.Frag} {F : Hp} {a : Addr} {vs : List V} {ds : List Dv} (hs : SqL K F a vs) (ra : RpAll K F vs ds) : WalkD K (Itl K a) F ds where
  stop := fun Z F1 ow σ H ρ w i s R hn => ⟨vs, (s.trans R.sub).seq hs, by rw [ra.length]; exact List.getElem?_eq_none_iff.mp hn⟩
  item := fun Z F1 ow σ H ρ w i d s R hd => by
    obtain ⟨v, hv, r⟩ := ra.get hd
    refine ⟨⟨vs, v, (s.trans R.sub).seq hs, hv⟩, fun x H' ⟨e, y⟩ => ?_⟩
    subst e
    have := y vs ((s.trans R.sub).seq hs)
    rw [hv] at this; cases this
    exact ⟨F1, ow, Same.refl _, R, r.mono s⟩
theorem walk_tup {K : W.Frag} {F : Hp} {a : Addr} {vs : List V} {ds : List Dv} (hs : SqT K F a vs) (ra : RpAll K F vs ds) : WalkD K (Itt K a) F ds where
  stop := fun Z F1 ow σ H ρ w i s R hn => ⟨vs, sameT (s.trans R.sub) hs, by rw [ra.length]; exact List.getElem?_eq_none_iff.mp hn⟩
  item := fun Z F1 ow σ H ρ w i d s R hd => by
    obtain ⟨v, hv, r⟩ := ra.get hd
    refine ⟨⟨vs, v, sameT (s.trans R.sub) hs, hv⟩, fun x H' ⟨e, y⟩ => ?_⟩
    subst e
    have := y vs (sameT (s.trans R.sub) hs)
    rw [hv] at this; cases this
    exact ⟨F1, ow, Same.refl _, R, r.mono s⟩
/-- an iterable by what its expression gives -/
theorem i_by {K : W.Frag} {t : TE} {f : Sx} {op : Dv → Option (List Dv)} {wi : TI} (h : Snd K Z E t f) (hw : ∀ {F ow σ H ρ w R}, Rep K Z F ow σ H ρ w → (∀ C : VK, (Post K Z E σ ρ (QE K Z F σ C ρ) (f ρ w) → t σ H C)) → Post K Z E σ ρ (QI K Z F σ R ρ) ((f ρ w).bind fun d w1 => .of (op d) w1) → wi σ H R) : SndI K Z E wi (fun ρ w => (f ρ w).bind fun d w1 => .of (op d) w1) := fun F ow σ H ρ w R Rp q =>
  hw Rp (fun C q => h F ow σ H ρ w C Rp q) q
theorem s_seq2 {K : W.Frag} (ha : Snd K Z E ta fa) : SndI K Z E (fun σ H R => iList K ta σ H R ∨ iTup K ta σ H R) (fItems fa) := fun F ow σ H ρ w R Rr q => by
  unfold fItems at q
  cases e : fa ρ w with
  | stuck => rw [e] at q; exact q.elim
  | rz x w1 =>
    left
    refine ha F ow σ H ρ w _ Rr ?_
    rw [e] at q ⊢; exact q
  | ok d w1 =>
    cases d with
    | lst ds =>
      left
      refine ha F ow σ H ρ w _ Rr ?_
      rw [e] at q ⊢
      intro v H1 F1 ow1 s1 R1 r1
      cases r1 with
      | @lst a vs _ hs ra => exact ⟨a, rfl, ⟨vs, R1.sub.seq (SqL.of hs)⟩, q _ H1 F1 ow1 s1 R1 (walk_list (SqL.of hs) ra)⟩
    | tup ds =>
      right
      refine ha F ow σ H ρ w _ Rr ?_
      rw [e] at q ⊢
      intro v H1 F1 ow1 s1 R1 r1
      cases r1 with
      | @tup a vs _ hs ra => exact ⟨a, rfl, ⟨vs, sameT R1.sub hs⟩, q _ H1 F1 ow1 s1 R1 (walk_tup hs ra)⟩
    | scr ns =>
      left
      refine ha F ow σ H ρ w _ Rr ?_
      rw [e] at q ⊢
      intro v H1 F1 ow1 s1 R1 r1
      cases r1 with
      | @scr a _ hs => exact ⟨a, rfl, ⟨_, R1.sub.seq hs⟩, q _ H1 F1 ow1 s1 R1 (walk_list hs (RpAll.of_ints ns))⟩
    | _ => rw [e] at q; exact q.elim
theorem i_seq {tg : Expr} (ha : DE X Z E a ta fa) {K0 : W.Frag} (hK0 : X.K = K0 := by rfl) : DI X Z E tg a (fun σ H R => iList K0 ta σ H R ∨ iTup K0 ta σ H R) (fItems fa) := by subst hK0; exact ⟨pi_or2 (pi_list ha.pe) (pi_tup ha.pe), s_seq2 ha.sn⟩
theorem walk_rng {K : W.Frag} {F : Hp} (m n : Int) : WalkD K (Itr m (n - m).toNat) F (rgD m n) where
  stop := fun Z F1 ow σ H ρ w i s R hn => by
    unfold rgD at hn
    rw [List.getElem?_map] at hn
    have := List.getElem?_eq_none_iff.mp (Option.map_eq_none_iff.mp hn)
    rwa [List.length_range] at this
  item := fun Z F1 ow σ H ρ w i d s R hd => by
    unfold rgD at hd
    rw [List.getElem?_map] at hd
    obtain ⟨j, hj, rfl⟩ := Option.map_eq_some_iff.mp hd
    obtain ⟨hl, rfl⟩ := List.getElem?_eq_some_iff.mp hj
    rw [List.length_range] at hl
    refine ⟨hl, fun x H' ⟨e, y⟩ => ?_⟩
    subst e y
    rw [List.getElem_range]
    exact ⟨F1, ow, Same.refl _, R, .int _⟩
def okI (m : Int) : Prop := -(2 ^ 62) ≤ m ∧ m < 2 ^ 62
noncomputable instance (a : Int) : Decidable (okI a) := Classical.propDecidable _
noncomputable def fIr1 (fa : Sx) : Sl := fun ρ w => (fa ρ w).bind fun d w1 => match d with
  | .int n => if okI n then .ok (rgD 0 n) w1 else .stuck
  | _ => .stuck
noncomputable def fIr2 (fa fb : Sx) : Sl := fun ρ w => (fa ρ w).bind fun d w1 => (fb ρ w1).bind fun e w2 => match d, e with
  | .int m, .int n => if okI m ∧ okI n then .ok (rgD m n) w2 else .stuck
  | _, _ => .stuck
theorem i_range1 {tg : Expr} {p : Pos} (hm : X.mg "range" = none) (ha : DE X Z E a ta fa) (hg : Gl X "range" := by rfl) (hs1 : starEach (a :: []) X.env = (false, eval a X.env) :: starEach [] X.env := by rfl) (hs : starEach [a] X.env = [(false, eval a X.env)] := by rfl) :
    DI X Z E tg (.Call (.Name "range" p) [a] [] pos) (iRng1 (tCons ta tNil)) (fIr1 fa) := ⟨pi_range1 hg hm (pa_cons ha.pe pa_nil hs1) hs, fun F ow σ H ρ w Q R q =>
  ha.sn.seq R q fun d w1 x H1 F1 ow1 s1 R1 r1 q1 => by
    cases d with
    | int n =>
      cases r1
      have q1 : Post X.K Z E σ ρ (QI X.K Z F σ Q ρ) (if okI n then .ok (rgD 0 n) w1 else .stuck) := q1
      split at q1
      · rename_i hk
        refine ⟨n, rfl, hk.1, hk.2, ?_⟩
        have wk := walk_rng (K := X.K) (F := F1) 0 n
        rw [Int.sub_zero] at wk
        exact q1 _ H1 F1 ow1 s1 R1 wk
      · exact q1.elim
    | _ => exact q1.elim⟩
theorem i_range2 {tg : Expr} {p : Pos} (hm : X.mg "range" = none) (ha : DE X Z E a ta fa) (hb : DE X Z E b tb fb) (hg : Gl X "range" := by rfl) (hs1 : starEach (a :: [b]) X.env = (false, eval a X.env) :: starEach [b] X.env := by rfl) (hs2 : starEach (b :: []) X.env = (false, eval b X.env) :: starEach [] X.env := by rfl)
    (hs : starEach [a, b] X.env = [(false, eval a X.env), (false, eval b X.env)] := by rfl) (hs3 : starEach [b] X.env = [(false, eval b X.env)] := by rfl) :
    DI X Z E tg (.Call (.Name "range" p) [a, b] [] pos) (iRng2 (tCons ta (tCons tb tNil))) (fIr2 fa fb) := ⟨pi_range2 hg hm (pa_cons ha.pe (pa_cons hb.pe pa_nil hs2) hs1) hs hs3, fun F ow σ H ρ w Q R q =>
  ha.sn.seq R q fun d w1 x H1 F1 ow1 s1 R1 r1 q1 => hb.sn.seq R1 q1 fun e w2 y H2 F2 ow2 s2 R2 r2 q2 => by
    cases d with
    | int m =>
      cases e with
      | int n =>
        cases r1; cases r2
        have q2 : Post X.K Z E σ ρ (QI X.K Z F σ Q ρ) (if okI m ∧ okI n then .ok (rgD m n) w2 else .stuck) := q2
        split at q2
        · rename_i hk
          exact ⟨m, n, rfl, ⟨hk.1.1, hk.1.2, hk.2.1, hk.2.2⟩, q2 _ H2 F2 ow2 (s1.trans s2) R2 (walk_rng m n)⟩
        · exact q2.elim
      | _ => exact q2.elim
    | _ => exact q2.elim⟩
/-- range(a, b, -1) -/
def downD (m n : Int) : List Dv := (List.range (m - n).toNat).map fun i => .int (m - (i : Nat))
noncomputable def fIrD (fa fb : Sx) : Sl := fun ρ w => (fa ρ w).bind fun d w1 => (fb ρ w1).bind fun e w2 => match d, e with
  | .int m, .int n => if okI m ∧ okI n then .ok (downD m n) w2 else .stuck
  | _, _ => .stuck
/-! enumerate -/
def enumD (k : Nat) : List Dv → List Dv
  | [] => []
  | d :: ds => .tup [.int k, d] :: enumD (k + 1) ds
theorem enumD_length : ∀ (k : Nat) (ds : List Dv), (enumD k ds).length = ds.length
  | _, [] => rfl
  | k, d :: ds => by show (enumD (k + 1) ds).length + 1 = ds.length + 1; rw [enumD_length]
theorem enumD_get : ∀ (k : Nat) (ds : List Dv) (i : Nat), (enumD k ds)[i]? = ds[i]?.map fun d => .tup [.int ((k + i : Nat) : Int), d]
  | k, [], i => by simp [enumD]
  | k, d :: ds, 0 => by simp [enumD]
  | k, d :: ds, i + 1 => by
    show (enumD (k + 1) ds)[i]? = _
    rw [enumD_get (k + 1) ds i]
    have : k + 1 + i = k + (i + 1) := by omega
    rw [this]; simp
def fEnum (fa : Sx) : Sl := fun ρ w => (fa ρ w).bind fun d w1 => .of ((itemsOf d).map (enumD 0)) w1
theorem new_pair {K : W.Frag} {F : Hp} {ow : Addr → Option Nat} {σ : L2.St} {H : Hp} {ρ : List EV} {w : DS} {T : Addr} {x y : V} {d e : Dv} (R : Rep K Z F ow σ H ρ w) (n : H T = none) (r1 : Rp K F x d) (r2 : Rp K F y e) :
    ∃ F' ow', Same F F' ∧ Rep K Z F' ow' σ (upd H T (.tup [x, y])) ρ w ∧ Rp K F' (.ref T) (.tup [d, e]) := by
  have g := Gr.new R.sub (.tup [x, y]) n
  exact ⟨_, ow, g.ff, R.grow g, .tup (.of upd_same) (.cons (r1.mono g.ff) (.cons (r2.mono g.ff) .nil))⟩
theorem walk_enumL {K : W.Frag} {F : Hp} {a : Addr} {vs : List V} {ds : List Dv} (hs : SqL K F a vs) (ra : RpAll K F vs ds) : WalkD K (Ite K a) F (enumD 0 ds) where
  stop := fun Z F1 ow σ H ρ w i s R hn => ⟨vs, (s.trans R.sub).seq hs, by
    have := List.getElem?_eq_none_iff.mp hn
    rw [enumD_length] at this
    rw [ra.length]; exact this⟩
  item := fun Z F1 ow σ H ρ w i d s R hd => by
    rw [enumD_get] at hd
    obtain ⟨e, he, rfl⟩ := Option.map_eq_some_iff.mp hd
    obtain ⟨v, hv, r⟩ := ra.get he
    refine ⟨⟨vs, v, (s.trans R.sub).seq hs, hv⟩, fun x H' ⟨T, y, ex, nT, eH, yy⟩ => ?_⟩
    subst ex eH
    have := yy vs ((s.trans R.sub).seq hs)
    rw [hv] at this; cases this
    rw [Nat.zero_add]
    exact new_pair R nT (.int _) (r.mono s)
theorem walk_enumT {K : W.Frag} {F : Hp} {a : Addr} {vs : List V} {ds : List Dv} (hs : SqT K F a vs) (ra : RpAll K F vs ds) : WalkD K (IteT K a) F (enumD 0 ds) where
  stop := fun Z F1 ow σ H ρ w i s R hn => ⟨vs, sameT (s.trans R.sub) hs, by
    have := List.getElem?_eq_none_iff.mp hn
    rw [enumD_length] at this
    rw [ra.length]; exact this⟩
  item := fun Z F1 ow σ H ρ w i d s R hd => by
    rw [enumD_get] at hd
    obtain ⟨e, he, rfl⟩ := Option.map_eq_some_iff.mp hd
    obtain ⟨v, hv, r⟩ := ra.get he
    refine ⟨⟨vs, v, sameT (s.trans R.sub) hs, hv⟩, fun x H' ⟨T, y, ex, nT, eH, yy⟩ => ?_⟩
    subst ex eH
    have := yy vs (sameT (s.trans R.sub) hs)
    rw [hv] at this; cases this
    rw [Nat.zero_add]
    exact new_pair R nT (.int _) (r.mono s)
theorem i_enum {p tpos : Pos} {elts : List Expr} {kk : Nat} (hm : X.mg "enumerate" = none) (ha : DE X Z E a ta fa) (hg : Gl X "enumerate" := by rfl) (hs1 : starEach (a :: []) X.env = (false, eval a X.env) :: starEach [] X.env := by rfl) (hs : starEach [a] X.env = [(false, eval a X.env)] := by rfl) {K0 : W.Frag} (hK0 : X.K = K0 := by rfl) :
    DI X Z E (.Tuple elts kk tpos) (.Call (.Name "enumerate" p) [a] [] pos) (iEnumA K0 (tCons ta tNil)) (fEnum fa) := by subst hK0; exact ⟨pi_enumA hg hm (pa_cons ha.pe pa_nil hs1) hs, fun F ow σ H ρ w Q R q =>
  ha.sn.seq R q fun d w1 x H1 F1 ow1 s1 R1 r1 q1 => by
    cases d with
    | lst ds => cases r1 with
      | @lst a vs _ hs ra => exact ⟨a, vs, rfl, .inl ⟨R1.sub.seq (SqL.of hs), q1 _ H1 F1 ow1 s1 R1 (walk_enumL (SqL.of hs) ra)⟩⟩
    | tup ds => cases r1 with
      | @tup a vs _ hs ra => exact ⟨a, vs, rfl, .inr ⟨sameT R1.sub hs, q1 _ H1 F1 ow1 s1 R1 (walk_enumT hs ra)⟩⟩
    | _ => exact q1.elim⟩
/-! zip of two lists, of two tuples -/
def zipD (xs ys : List Dv) : List Dv := List.zipWith (fun x y => .tup [x, y]) xs ys
def dZip : Dv → Dv → Option (List Dv)
  | .lst xs, .lst ys => some (zipD xs ys)
  | .tup xs, .tup ys => some (zipD xs ys)
  | _, _ => none
def fZip (fa fb : Sx) : Sl := fun ρ w => (fa ρ w).bind fun d w1 => (fb ρ w1).bind fun e w2 => .of (dZip d e) w2
theorem zipD_get {xs ys : List Dv} {i : Nat} : (zipD xs ys)[i]? = match xs[i]?, ys[i]? with
    | some x, some y => some (.tup [x, y])
    | _, _ => none := by
  unfold zipD
  rw [List.getElem?_zipWith]
  cases xs[i]? <;> cases ys[i]? <;> rfl
theorem zip_none {xs ys : List Dv} {i : Nat} (h : (zipD xs ys)[i]? = none) : xs.length ≤ i ∨ ys.length ≤ i := by
  have := List.getElem?_eq_none_iff.mp h
  unfold zipD at this
  rw [List.length_zipWith] at this
  omega
theorem walk_zipL {K : W.Frag} {F : Hp} {a b : Addr} {vs us : List V} {ds es : List Dv} (hs : SqL K F a vs) (ra : RpAll K F vs ds) (hs2 : SqL K F b us) (rb : RpAll K F us es) : WalkD K (Itz K a b) F (zipD ds es) where
  stop := fun Z F1 ow σ H ρ w i s R hn => ⟨vs, us, (s.trans R.sub).seq hs, (s.trans R.sub).seq hs2, by rw [ra.length, rb.length]; exact zip_none hn⟩
  item := fun Z F1 ow σ H ρ w i d s R hd => by
    rw [zipD_get] at hd
    cases e1 : ds[i]? with
    | none => rw [e1] at hd; cases hd
    | some x =>
      cases e2 : es[i]? with
      | none => rw [e1, e2] at hd; cases hd
      | some y =>
        rw [e1, e2] at hd; cases hd
        obtain ⟨v, hv, r⟩ := ra.get e1
        obtain ⟨u, hu, r'⟩ := rb.get e2
        refine ⟨⟨vs, us, v, u, (s.trans R.sub).seq hs, (s.trans R.sub).seq hs2, hv, hu⟩, fun z H' ⟨T, p, q, ez, nT, eH, y1, y2⟩ => ?_⟩
        subst ez eH
        have k1 := y1 vs ((s.trans R.sub).seq hs)
        have k2 := y2 us ((s.trans R.sub).seq hs2)
        rw [hv] at k1; cases k1
        rw [hu] at k2; cases k2
        exact new_pair R nT (r.mono s) (r'.mono s)
theorem walk_zipT {K : W.Frag} {F : Hp} {a b : Addr} {vs us : List V} {ds es : List Dv} (hs : SqT K F a vs) (ra : RpAll K F vs ds) (hs2 : SqT K F b us) (rb : RpAll K F us es) : WalkD K (RZ.ItzT K a b) F (zipD ds es) where
  stop := fun Z F1 ow σ H ρ w i s R hn => ⟨vs, us, sameT (s.trans R.sub) hs, sameT (s.trans R.sub) hs2, by rw [ra.length, rb.length]; exact zip_none hn⟩
  item := fun Z F1 ow σ H ρ w i d s R hd => by
    rw [zipD_get] at hd
    cases e1 : ds[i]? with
    | none => rw [e1] at hd; cases hd
    | some x =>
      cases e2 : es[i]? with
      | none => rw [e1, e2] at hd; cases hd
      | some y =>
        rw [e1, e2] at hd; cases hd
        obtain ⟨v, hv, r⟩ := ra.get e1
        obtain ⟨u, hu, r'⟩ := rb.get e2
        refine ⟨⟨vs, us, v, u, sameT (s.trans R.sub) hs, sameT (s.trans R.sub) hs2, hv, hu⟩, fun z H' ⟨T, p, q, ez, nT, eH, y1, y2⟩ => ?_⟩
        subst ez eH
        have k1 := y1 vs (sameT (s.trans R.sub) hs)
        have k2 := y2 us (sameT (s.trans R.sub) hs2)
        rw [hv] at k1; cases k1
        rw [hu] at k2; cases k2
        exact new_pair R nT (r.mono s) (r'.mono s)
theorem i_zip {p tpos : Pos} {elts : List Expr} {kk : Nat} (hm : X.mg "zip" = none) (ha : DE X Z E a ta fa) (hb : DE X Z E b tb fb) (hg : Gl X "zip" := by rfl) (hs1 : starEach (a :: [b]) X.env = (false, eval a X.env) :: starEach [b] X.env := by rfl) (hs2 : starEach (b :: []) X.env = (false, eval b X.env) :: starEach [] X.env := by rfl)
    (hpl : (backTo pos (starEach [b] X.env)).any (·.1) = false := by rfl) {K0 : W.Frag} (hK0 : X.K = K0 := by rfl) :
    DI X Z E (.Tuple elts kk tpos) (.Call (.Name "zip" p) [a, b] [] pos) (RZ.iZipA K0 (tCons ta (tCons tb tNil))) (fZip fa fb) := by subst hK0; exact ⟨RZ.pi_zipA hg hm (pa_cons ha.pe (pa_cons hb.pe pa_nil hs2) hs1) hs1 hpl, fun F ow σ H ρ w Q R q =>
  ha.sn.seq R q fun d w1 x H1 F1 ow1 s1 R1 r1 q1 => hb.sn.seq R1 q1 fun e w2 y H2 F2 ow2 s2 R2 r2 q2 => by
    cases d with
    | lst ds =>
      cases e with
      | lst es => cases r1 with
        | @lst a vs _ hs ra => cases r2 with
          | @lst b us _ hs' rb => exact ⟨a, b, vs, us, rfl, .inl ⟨(s2.trans R2.sub).seq (SqL.of hs), R2.sub.seq (SqL.of hs'), q2 _ H2 F2 ow2 (s1.trans s2) R2 (walk_zipL (s2.seq (SqL.of hs)) (ra.mono s2) (SqL.of hs') rb)⟩⟩
      | _ => exact q2.elim
    | tup ds =>
      cases e with
      | tup es => cases r1 with
        | @tup a vs _ hs ra => cases r2 with
          | @tup b us _ hs' rb => exact ⟨a, b, vs, us, rfl, .inr ⟨sameT (s2.trans R2.sub) hs, sameT R2.sub hs', q2 _ H2 F2 ow2 (s1.trans s2) R2 (walk_zipT (sameT s2 hs) (ra.mono s2) hs' rb)⟩⟩
      | _ => exact q2.elim
    | _ => exact q2.elim⟩
/-! reversed -/
def fRev (fa : Sx) : Sl := fun ρ w => (fa ρ w).bind fun d w1 => .of ((itemsOf d).map List.reverse) w1
theorem rev_get {α : Type} {xs : List α} {i : Nat} (h : i < xs.length) : xs.reverse[i]? = xs[xs.length - 1 - i]? := by rw [List.getElem?_reverse h]
theorem walk_revL {K : W.Frag} {F : Hp} {a : Addr} {vs : List V} {ds : List Dv} (hs : SqL K F a vs) (ra : RpAll K F vs ds) : WalkD K (Itv K a vs.length) F ds.reverse where
  stop := fun Z F1 ow σ H ρ w i s R hn => by
    have := List.getElem?_eq_none_iff.mp hn
    rw [List.length_reverse, ← ra.length] at this
    exact this
  item := fun Z F1 ow σ H ρ w i d s R hd => by
    have hl : i < ds.length := by have := (List.getElem?_eq_some_iff.mp hd).1; rwa [List.length_reverse] at this
    rw [rev_get hl, ← ra.length] at hd
    obtain ⟨v, hv, r⟩ := ra.get hd
    refine ⟨⟨by rw [ra.length]; exact hl, vs, v, (s.trans R.sub).seq hs, hv⟩, fun x H' ⟨e, y⟩ => ?_⟩
    subst e
    have := y vs ((s.trans R.sub).seq hs)
    rw [hv] at this; cases this
    exact ⟨F1, ow, Same.refl _, R, r.mono s⟩
theorem walk_revT {K : W.Frag} {F : Hp} {a : Addr} {vs : List V} {ds : List Dv} (hs : SqT K F a vs) (ra : RpAll K F vs ds) : WalkD K (RT.ItvT K a vs.length) F ds.reverse where
  stop := fun Z F1 ow σ H ρ w i s R hn => by
    have := List.getElem?_eq_none_iff.mp hn
    rw [List.length_reverse, ← ra.length] at this
    exact this
  item := fun Z F1 ow σ H ρ w i d s R hd => by
    have hl : i < ds.length := by have := (List.getElem?_eq_some_iff.mp hd).1; rwa [List.length_reverse] at this
    rw [rev_get hl, ← ra.length] at hd
    obtain ⟨v, hv, r⟩ := ra.get hd
    refine ⟨⟨by rw [ra.length]; exact hl, vs, v, sameT (s.trans R.sub) hs, hv⟩, fun x H' ⟨e, y⟩ => ?_⟩
    subst e
    have := y vs (sameT (s.trans R.sub) hs)
    rw [hv] at this; cases this
    exact ⟨F1, ow, Same.refl _, R, r.mono s⟩
theorem i_rev {tg : Expr} {p : Pos} (hm : X.mg "reversed" = none) (ha : DE X Z E a ta fa) (hg : Gl X "reversed" := by rfl) (hs : starEach [a] X.env = (false, eval a X.env) :: starEach [] X.env := by rfl) {K0 : W.Frag} (hK0 : X.K = K0 := by rfl) : DI X Z E tg (.Call (.Name "reversed" p) [a] [] pos) (RT.iRevA K0 ta) (fRev fa) := by subst hK0; exact ⟨RT.pi_revA hg hm ha.pe hs, fun F ow σ H ρ w Q R q =>
  ha.sn.seq R q fun d w1 x H1 F1 ow1 s1 R1 r1 q1 => by
    cases d with
    | lst ds => cases r1 with
      | @lst a vs _ hs ra => exact ⟨a, vs, rfl, .inl ⟨R1.sub.seq (SqL.of hs), q1 _ H1 F1 ow1 s1 R1 (walk_revL (SqL.of hs) ra)⟩⟩
    | tup ds => cases r1 with
      | @tup a vs _ hs ra => exact ⟨a, vs, rfl, .inr ⟨sameT R1.sub hs, q1 _ H1 F1 ow1 s1 R1 (walk_revT hs ra)⟩⟩
    | _ => exact q1.elim⟩
end
end DL

namespace DL
open PySem PySem.Spec PyProof.Rows L2

/-! ### isinstance -/
def tyN : Dv → Option String
  | .non => some "NoneType"
  | .bl _ => some "bool"
  | .int _ => some "int"
  | .str _ => some "str"
  | .tup _ => some "tuple"
  | .lst _ => some "list"
  | .dct _ => some "dict"
  | .glo _ => none
  | .exc _ _ => none
  | .scr _ => none
def tyNs : List String := ["NoneType", "bool", "int", "str", "tuple", "list", "dict"]
def isB (t n : String) : Bool := t == n || (t == "bool" && n == "int")
theorem kitB_all : ∀ t ∈ tyNs, ∀ n ∈ tyNs, kitB t n = some (isB t n) := by decide +kernel
theorem tyN_mem {d : Dv} {t : String} (h : tyN d = some t) : t ∈ tyNs := by
  cases d <;> cases h <;> decide
theorem tyX_of {K : W.Frag} {F H : Hp} {x : V} {d : Dv} {t : String} (sub : Same F H) (r : Rp K F x d) (h : tyN d = some t) : TyX K H x (.type t) := by
  cases r with
  | non => cases h; exact .base .non
  | bl b => cases h; exact .base (.bl b)
  | int b => cases h; exact .base (.int b)
  | str b => cases h; exact .base (.str b)
  | tup hs _ =>
    cases h
    rcases hs with (hs | ⟨o, hs⟩) | ⟨o, its, n, e, c, _⟩
    · exact .base (.tup (sub _ _ hs))
    · exact .fTuple (sub _ _ hs)
    · exact .kTuple e c
  | lst hs _ => cases h; exact .base (.lst (sub _ _ hs))
  | dct hs _ =>
    cases h
    rcases hs with hs | ⟨o, hs⟩
    · exact .base (.dK (sub _ _ hs))
    · exact .fDict (sub _ _ hs)
  | dctT hs _ => cases h; exact .base (.dT (sub _ _ hs))
  | glo v => cases h
  | exc0 _ _ => cases h
  | exc1 _ _ _ _ => cases h
  | scr hs => cases h
section
variable {X : Cx} {Z : Z0} {E : XK} {pos : Pos} {a b : Expr} {ta tb : TE} {fa fb : Sx}
def fIsi (ns : List String) (fa : Sx) : Sx := fun ρ w => (fa ρ w).bind fun d w1 => .of ((tyN d).map fun t => .bl (ns.any fun n => isB t n)) w1
theorem e_isi {p p2 : Pos} {T : Str} {T' : String} (hm : X.mg "isinstance" = none) (ha : DE X Z E a ta fa) (hmT : X.mg T = none) (hv : bootBuiltins T = some (.type T')) (hT : T' ∈ tyNs) (hg : Gl X "isinstance" := by rfl) (hgT : Gl X T := by rfl) (hn : T ≠ "__name__" := by decide) (hd : (T == ("__debug__" : Str)) = false := by decide)
    (hs1 : starEach (a :: [.Name T p2]) X.env = (false, eval a X.env) :: starEach [.Name T p2] X.env := by rfl) (hs2 : starEach (.Name T p2 :: []) X.env = (false, eval (.Name T p2) X.env) :: starEach [] X.env := by rfl) (hpl : (backTo pos (starEach [.Name T p2] X.env)).any (·.1) = false := by rfl) {K0 : W.Frag} (hK0 : X.K = K0 := by rfl) :
    DE X Z E (.Call (.Name "isinstance" p) [a, .Name T p2] [] pos) (tCB (rIsi K0) (tCons ta (tCons (tC (.ty T')) tNil))) (fIsi [T'] fa) := by subst hK0; exact 
  ⟨pe_callB call_isi hg hm boot_isinstance (pa_cons ha.pe (pa_cons (pe_bltn hgT hmT hv rfl hn hd) pa_nil hs2) hs1) (by decide) (by decide) hs1 hpl, fun F ow σ H ρ w Q R q => ha.sn.seq R q fun d w1 x H1 F1 ow1 s1 R1 r1 q1 => by
    cases e : tyN d with
    | none => rw [e] at q1; exact q1.elim
    | some t =>
      rw [e] at q1
      have q1 : QE X.K Z F σ Q ρ (.bl ([T'].any fun n => isB t n)) w1 := q1
      have e2 : ([T'].any fun n => isB t n) = isB t T' := by simp
      rw [e2] at q1
      exact ⟨x, .ty T', .type t, .type T', isB t T', rfl, .ty _, tyX_of R1.sub r1 e, kit_ty (kitB_all t (tyN_mem e) T' hT), q1 _ H1 F1 ow1 s1 R1 (.bl _)⟩⟩
theorem kitAny_ns {K : W.Frag} {t : String} (ht : t ∈ tyNs) : ∀ {ns : List String}, (∀ n ∈ ns, n ∈ tyNs) → W.kitAny K (.type t) (ns.map Value.type) = some (ns.any fun n => isB t n)
  | [], _ => kitAny_nil
  | n :: ns, h => by
    rw [List.map_cons, List.any_cons]
    refine kitAny_cons (kit_ty (kitB_all t ht n (h n List.mem_cons_self))) (fun e => ?_) fun e => by rw [e]; rfl
    rw [e, Bool.false_or]
    exact kitAny_ns ht fun m hm => h m (List.mem_cons_of_mem _ hm)
theorem clsV_ns : ∀ ns : List String, Paired ClsV (ns.map V.ty) (ns.map Value.type)
  | [] => .nil
  | n :: ns => .cons (.ty n) (clsV_ns ns)
/-- isinstance(x, (T1, T2, ..)) -/
theorem e_isiT {p p2 : Pos} {es : List Expr} {k : Nat} {ns : List String} {t : TA} (hm : X.mg "isinstance" = none) (ha : DE X Z E a ta fa) (ht : PA X es t) (st : ∀ σ H (Q : List V → Hp → Prop), Q (ns.map V.ty) H → t σ H Q) (hT : ∀ n ∈ ns, n ∈ tyNs) (hz : ns.length ≤ 100) (hg : Gl X "isinstance" := by rfl)
    (hs1 : starEach (a :: [.Tuple es k p2]) X.env = (false, eval a X.env) :: starEach [.Tuple es k p2] X.env := by rfl) (hs2 : starEach (.Tuple es k p2 :: []) X.env = (false, eval (.Tuple es k p2) X.env) :: starEach [] X.env := by rfl) (hpl : (backTo pos (starEach [.Tuple es k p2] X.env)).any (·.1) = false := by rfl) {K0 : W.Frag} (hK0 : X.K = K0 := by rfl) :
    DE X Z E (.Call (.Name "isinstance" p) [a, .Tuple es k p2] [] pos) (tCB (rIsiT K0) (tCons ta (tCons (tTup t) tNil))) (fIsi ns fa) := by subst hK0; exact 
  ⟨pe_callB call_isiT hg hm boot_isinstance (pa_cons ha.pe (pa_cons (pe_tup ht) pa_nil hs2) hs1) (by decide) (by decide) hs1 hpl, fun F ow σ H ρ w Q R q => ha.sn.seq R q fun d w1 x H1 F1 ow1 s1 R1 r1 q1 => by
    cases e : tyN d with
    | none => rw [e] at q1; exact q1.elim
    | some t =>
      rw [e] at q1
      refine st σ H1 _ ⟨by rw [List.length_map, sizeLine_big]; exact Nat.le_trans hz (by decide), fun tp np => ?_⟩
      have g := Gr.new R1.sub (.tup (ns.map V.ty)) np
      have R2 := R1.grow g
      exact ⟨x, tp, ns.map V.ty, .type t, ns.map Value.type, _, rfl, upd_same, clsV_ns ns, tyX_of R2.sub (r1.mono g.ff) e, kitAny_ns (tyN_mem e) hT, q1 _ _ _ ow1 (s1.trans g.ff) R2 (.bl _)⟩⟩
theorem at_nil : ∀ σ H (Q : List V → Hp → Prop), Q (([] : List String).map V.ty) H → tNil σ H Q := fun _ _ _ q => q
theorem at_cons {n : String} {ns : List String} {t : TA} (h : ∀ σ H (Q : List V → Hp → Prop), Q (ns.map V.ty) H → t σ H Q) : ∀ σ H (Q : List V → Hp → Prop), Q ((n :: ns).map V.ty) H → tCons (tC (.ty n)) t σ H Q := fun σ H Q q => h σ H _ q

/-! ### slices -/
def SndO (K : W.Frag) (Z : Z0) (E : XK) (t : TO) (f : List EV → DS → RR (Option Int)) : Prop := ∀ F ow σ H ρ w (C : Option Int → Hp → Prop), Rep K Z F ow σ H ρ w → Post K Z E σ ρ (fun o w' => ∀ H' F' ow', Same F F' → Rep K Z F' ow' σ H' ρ w' → C o H') (f ρ w) → t σ H C
structure DO (X : Cx) (Z : Z0) (E : XK) (e : Option Expr) (t : TO) (f : List EV → DS → RR (Option Int)) : Prop where
  po : PO X e t
  sn : SndO X.K Z E t f
def oNone : List EV → DS → RR (Option Int) := fun _ w => .ok none w
def oSome (fa : Sx) : List EV → DS → RR (Option Int) := fun ρ w => (fa ρ w).bind fun d w1 => match d with
  | .int i => .ok (some i) w1
  | _ => .stuck
theorem o_none : DO X Z E none tNoPart oNone := ⟨po_none, fun F ow σ H ρ w C R q => q H F ow (Same.refl _) R⟩
theorem o_some (ha : DE X Z E a ta fa) : DO X Z E (some a) (tPart ta) (oSome fa) := ⟨po_some ha.pe, fun F ow σ H ρ w C R q => ha.sn.seq R q fun d w1 x H1 F1 ow1 s1 R1 r1 q1 => by
  cases d with
  | int i => cases r1; exact ⟨i, rfl, q1 H1 F1 ow1 s1 R1⟩
  | _ => exact q1.elim⟩
def cutD (xs : List Dv) (lo hi : Option Int) : List Dv := (xs.drop (HT.sIx xs.length 0 lo)).take (HT.sIx xs.length xs.length hi - HT.sIx xs.length 0 lo)
theorem cut_rp {K : W.Frag} {F : Hp} {xs : List V} {ds : List Dv} (r : RpAll K F xs ds) (lo hi : Option Int) : RpAll K F (cutV xs lo hi) (cutD ds lo hi) := by
  unfold cutV cutD
  rw [r.length]
  exact (r.drop _).take _
theorem cutD_whole {ds : List Dv} {lo hi : Option Int} (h : HT.sIx ds.length 0 lo = 0 ∧ HT.sIx ds.length ds.length hi = ds.length) : cutD ds lo hi = ds := by
  unfold cutD
  rw [h.1, h.2]; simp
def dSl (lo hi : Option Int) : Dv → Option Dv
  | .lst ds => some (.lst (cutD ds lo hi))
  | .tup ds => some (.tup (cutD ds lo hi))
  | _ => none
def fSl (fa : Sx) (fl fh : List EV → DS → RR (Option Int)) : Sx := fun ρ w => (fa ρ w).bind fun d w1 => (fl ρ w1).bind fun lo w2 => (fh ρ w2).bind fun hi w3 => .of (dSl lo hi d) w3
theorem SndO.seq {K : W.Frag} {F : Hp} {ow : Addr → Option Nat} {σ : L2.St} {H : Hp} {ρ : List EV} {w : DS} {t : TO} {f : List EV → DS → RR (Option Int)} {C : Option Int → Hp → Prop} {α : Type} {P : α → DS → Prop} {k : Option Int → DS → RR α} (h : SndO K Z E t f) (R : Rep K Z F ow σ H ρ w) (hp : Post K Z E σ ρ P ((f ρ w).bind k))
    (c : ∀ o w' H' F' ow', Same F F' → Rep K Z F' ow' σ H' ρ w' → Post K Z E σ ρ P (k o w') → C o H') : t σ H C := by
  refine h F ow σ H ρ w C R ?_
  cases e : f ρ w with
  | ok d w' => rw [e] at hp; exact fun H' F' ow' s R' => c d w' H' F' ow' s R' hp
  | rz y w' => rw [e] at hp; exact hp
  | stuck => rw [e] at hp; exact hp
theorem e_sl {lo hi : Option Expr} {p2 : Pos} {tl th : TO} {fl fh : List EV → DS → RR (Option Int)} (ha : DE X Z E a ta fa) (hl : DO X Z E lo tl fl) (hh : DO X Z E hi th fh) {K0 : W.Frag} (hK0 : X.K = K0 := by rfl) : DE X Z E (.Subscript a (.Slice lo hi none p2) pos) (tSl (fun x lo hi H Q => rSlL K0 x lo hi H Q ∨ rSlA K0 x lo hi H Q) ta tl th) (fSl fa fl fh) := by subst hK0; exact 
  ⟨pe_slice (SlR.or sl_list sl_tupA) ha.pe hl.po hh.po, fun F ow σ H ρ w Q R q => ha.sn.seq R q fun d w1 x H1 F1 ow1 s1 R1 r1 q1 => hl.sn.seq R1 q1 fun l w2 H2 F2 ow2 s2 R2 q2 => hh.sn.seq R2 q2 fun u w3 H3 F3 ow3 s3 R3 q3 => by
    have r3 := r1.mono (s2.trans s3)
    have s := (s1.trans s2).trans s3
    cases d with
    | lst ds =>
      cases r3 with
      | @lst a vs _ hs ra =>
        refine .inl ⟨a, vs, rfl, R3.sub.seq (SqL.of hs), fun p np => ?_⟩
        have g := Gr.new R3.sub (.lst (cutV vs l u)) np
        exact q3 _ _ _ ow3 (s.trans g.ff) (R3.grow g) (.lst upd_same ((cut_rp ra l u).mono g.ff))
    | tup ds =>
      cases r3 with
      | @tup a vs _ hs ra =>
        refine .inr ⟨a, vs, rfl, sameT R3.sub hs, fun hw => ?_, fun hw p np => ?_⟩
        · rw [ra.length] at hw
          have e := cutD_whole hw
          have q3 : QE X.K Z F σ Q ρ (.tup (cutD ds l u)) w3 := q3
          rw [e] at q3
          exact q3 _ H3 F3 ow3 s R3 (.tup hs ra)
        · have g := Gr.new R3.sub (.tup (cutV vs l u)) np
          exact q3 _ _ _ ow3 (s.trans g.ff) (R3.grow g) (.tup (.of upd_same) ((cut_rp ra l u).mono g.ff))
    | _ => exact q3.elim⟩
def dRevL : Dv → Option Dv
  | .lst ds => some (.lst ds.reverse)
  | _ => none
theorem e_revL {k : Nat} {p1 p2 p3 : Pos} (ha : DE X Z E a ta fa) {K0 : W.Frag} (hK0 : X.K = K0 := by rfl) : DE X Z E (.Subscript a (.Slice none none (some (.UnaryOp .USub (.Constant (.int 1) k p1) p2)) p3) pos) (tRevL K0 ta) (fUn dRevL fa) := by subst hK0; exact ⟨pe_revL ha.pe, fun F ow σ H ρ w Q R q => ha.sn.seq R q fun d w1 x H1 F1 ow1 s1 R1 r1 q1 => by
  cases d with
  | lst ds =>
    cases r1 with
    | @lst a vs _ hs ra =>
      refine ⟨a, vs, rfl, R1.sub.seq (SqL.of hs), fun p np => ?_⟩
      have g := Gr.new R1.sub (.lst vs.reverse) np
      exact q1 _ _ _ ow1 (s1.trans g.ff) (R1.grow g) (.lst upd_same (ra.reverse.mono g.ff))
  | _ => exact q1.elim⟩
/-! list * int, list + list: new lists -/
def okRp (k : Int) (n : Nat) : Prop := -(2 ^ 63) ≤ k ∧ k < 2 ^ 63 ∧ n * k.toNat ≤ big
noncomputable instance (k : Int) (n : Nat) : Decidable (okRp k n) := Classical.propDecidable _
noncomputable def fRep (fa : Sl) (fb : Sx) : Sl := fun ρ w => (fa ρ w).bind fun ds w1 => (fb ρ w1).bind fun e w2 => match e with
  | .int k => if okRp k ds.length then .ok (List.replicate k.toNat ds).flatten w2 else .stuck
  | _ => .stuck
theorem flat_rep {K : W.Frag} {F : Hp} {vs : List V} {ds : List Dv} (r : RpAll K F vs ds) : ∀ n : Nat, RpAll K F (List.replicate n vs).flatten (List.replicate n ds).flatten
  | 0 => .nil
  | n + 1 => by rw [List.replicate_succ, List.replicate_succ, List.flatten_cons, List.flatten_cons]; exact r.append (flat_rep r n)
theorem n_rep {fl : Sl} (ha : DN X Z E a ta fl) (hb : DE X Z E b tb fb) : DN X Z E (.BinOp a .Mult b pos) (tOp rRep ta tb) (fRep fl fb) := ⟨pe_op op_rep ha.pe hb.pe, fun F ow σ H ρ w Q R q =>
  ha.sn.seq R q fun ds w1 p vs H1 F1 ow1 s1 R1 h1 h2 h3 h4 r q1 => by
    have ef : Same F1 (upd F1 p (.lst vs)) := same_upd h3
    refine hb.sn.seq (freezeRep R1 h1 h2 h3 h4) q1 fun e w2 y H2 F2 ow2 s2 R2 r2 q2 => ?_
    have hp : H2 p = some (.lst vs) := R2.sub _ _ (s2 _ _ upd_same)
    cases e with
    | int k =>
      cases r2
      have q2 : Post X.K Z E σ ρ (QN X.K Z F σ Q ρ) (if okRp k ds.length then .ok (List.replicate k.toNat ds).flatten w2 else .stuck) := q2
      split at q2
      · rename_i hk
        refine ⟨p, k, vs, rfl, rfl, hp, hk.1, hk.2.1, by rw [r.length, sizeLine_big]; exact hk.2.2, fun l nl => ?_⟩
        obtain ⟨g1, g2, g3⟩ := R2.fresh nl
        exact q2 l _ _ F2 ow2 ((s1.trans ef).trans s2) (R2.grow (Gr.apart R2.sub _ nl)) upd_same g1 g2 g3 (flat_rep (r.mono (ef.trans s2)) _)
      · exact q2.elim
    | _ => exact q2.elim⟩
def fCat (fa fb : Sl) : Sl := fun ρ w => (fa ρ w).bind fun ds w1 => (fb ρ w1).bind fun es w2 => if ds.length + es.length ≤ big then .ok (ds ++ es) w2 else .stuck
theorem n_cat {fl fm : Sl} (ha : DN X Z E a ta fl) (hb : DN X Z E b tb fm) : DN X Z E (.BinOp a .Add b pos) (tOp rCat ta tb) (fCat fl fm) := ⟨pe_op op_cat ha.pe hb.pe, fun F ow σ H ρ w Q R q =>
  ha.sn.seq R q fun ds w1 p vs H1 F1 ow1 s1 R1 h1 h2 h3 h4 r q1 => by
    have ef : Same F1 (upd F1 p (.lst vs)) := same_upd h3
    refine hb.sn.seq (freezeRep R1 h1 h2 h3 h4) q1 fun es w2 p2 us H2 F2 ow2 s2 R2 k1 k2 k3 k4 r2 q2 => ?_
    have hp : H2 p = some (.lst vs) := R2.sub _ _ (s2 _ _ upd_same)
    have q2 : Post X.K Z E σ ρ (QN X.K Z F σ Q ρ) (if ds.length + es.length ≤ big then .ok (ds ++ es) w2 else .stuck) := q2
    split at q2
    · rename_i hk
      refine ⟨p, p2, vs, us, rfl, rfl, hp, k1, by rw [r.length, r2.length, sizeLine_big]; exact hk, fun l nl => ?_⟩
      obtain ⟨g1, g2, g3⟩ := R2.fresh nl
      exact q2 l _ _ F2 ow2 ((s1.trans ef).trans s2) (R2.grow (Gr.apart R2.sub _ nl)) upd_same g1 g2 g3 ((r.mono (ef.trans s2)).append r2)
    · exact q2.elim⟩
/-- an old list, or a slice, as the left or right of a sum: copied by its own rule -/
def fOld (fa : Sx) : Sl := fun ρ w => (fa ρ w).bind fun d w1 => match d with
  | .lst ds => .ok ds w1
  | _ => .stuck

/-! ### owned objects: lending, freezing -/
def immKv : List (Dv × Dv) → Bool
  | [] => true
  | (_, d) :: r => imm d && immKv r
section
variable {K : W.Frag} {F F' : Hp}
mutual
theorem imm_rp (k : ∀ a xs, SqT K F a xs → SqT K F' a xs) : ∀ {v : V} {d : Dv}, Rp K F v d → imm d = true → Rp K F' v d
  | _, _, .non, _ => .non
  | _, _, .bl b, _ => .bl b
  | _, _, .int b, _ => .int b
  | _, _, .str b, _ => .str b
  | _, _, .tup h r, c => .tup (k _ _ h) (immAll_rp k r (by simpa [imm] using c))
  | _, _, .lst _ _, c => by simp [imm] at c
  | _, _, .dct _ _, c => by simp [imm] at c
  | _, _, .dctT _ _, c => by simp [imm] at c
  | _, _, .glo v, _ => .glo v
  | _, _, .exc0 _ _, c => by simp [imm] at c
  | _, _, .exc1 _ _ _ _, c => by simp [imm] at c
  | _, _, .scr _, c => by simp [imm] at c
theorem immAll_rp (k : ∀ a xs, SqT K F a xs → SqT K F' a xs) : ∀ {v : List V} {d : List Dv}, RpAll K F v d → immAll d = true → RpAll K F' v d
  | _, _, .nil, _ => .nil
  | v :: vs, d :: ds, .cons h r, c => by
    have c' : imm d = true ∧ immAll ds = true := by simpa [immAll] using c
    exact .cons (imm_rp k h c'.1) (immAll_rp k r c'.2)
end
theorem immKv_rp (k : ∀ a xs, SqT K F a xs → SqT K F' a xs) : ∀ {v : List (Key × V)} {d : List (Dv × Dv)}, RpKv K F v d → immKv d = true → RpKv K F' v d
  | _, _, .nil, _ => .nil
  | _, (_, d) :: ds, .cons h r, c => by
    have c' : imm d = true ∧ immKv ds = true := by simpa [immKv] using c
    exact .cons (imm_rp k h c'.1) (immKv_rp k r c'.2)
theorem immKvT_rp (k : ∀ a xs, SqT K F a xs → SqT K F' a xs) : ∀ {v : List (List Key × V)} {d : List (Dv × Dv)}, RpKvT K F v d → immKv d = true → RpKvT K F' v d
  | _, _, .nil, _ => .nil
  | _, (_, d) :: ds, .cons h r, c => by
    have c' : imm d = true ∧ immKv ds = true := by simpa [immKv] using c
    exact .cons (imm_rp k h c'.1) (immKvT_rp k r c'.2)
end
def immEV : EV → Bool
  | .lst ds => immAll ds
  | .dct ds => immKv ds
  | .dctT ds => immKv ds
  | _ => true
def okLend (ρ : List EV) (i : Nat) : Bool := (ρ.set i .un).all immEV
theorem okLend_at {ρ : List EV} {i j : Nat} {e : EV} (h : okLend ρ i = true) (hj : i ≠ j) (he : ρ[j]? = some e) : immEV e = true :=
  List.all_eq_true.mp h e (List.mem_of_getElem? (by rw [List.getElem?_set_ne hj]; exact he))
/-- what an owned slot is as data -/
def lent : EV → Option Dv
  | .lst ds => some (.lst ds)
  | .dct ds => some (.dct ds)
  | .dctT ds => some (.dct ds)
  | _ => none
theorem Rep.freeze {K : W.Frag} {F : Hp} {ow : Addr → Option Nat} {σ : L2.St} {H : Hp} {ρ : List EV} {w : DS} {i : Nat} {e : EV} {d : Dv} (R : Rep K Z F ow σ H ρ w) (he : ρ[i]? = some e) (hd : lent e = some d) :
    ∃ a u, H a = some u ∧ ow a = some (i + 1) ∧ Z.H a = none ∧ F a = none ∧ (∀ xs, u ≠ .tup xs) ∧ (∀ o x, u ≠ .frz o x) ∧ (∀ φ, u ≠ .ext φ) ∧ σ[i]? = some (some (.ref a)) ∧ Rep K Z (upd F a u) (fun b => if b = a then none else ow b) σ H (ρ.set i (.dat d)) w := by
  have main : ∀ a u, H a = some u → ow a = some (i + 1) → Z.H a = none → F a = none → σ[i]? = some (some (.ref a)) → (∃ v, σ[i]? = some (some v) ∧ Rp K (upd F a u) v d) → Rep K Z (upd F a u) (fun b => if b = a then none else ow b) σ H (ρ.set i (.dat d)) w := fun a u h1 h2 h3 h4 h5 h6 =>
    have ef : Same F (upd F a u) := same_upd h4
    have hi : i < ρ.length := (List.getElem?_eq_some_iff.mp he).1
    have nz : ∀ b j, ow b = some j → j ≠ i + 1 → (if b = a then none else ow b) = some j := fun b j hb n => by
      rw [if_neg (fun z => by rw [z, h2] at hb; cases hb; exact n rfl)]; exact hb
    { sub := fun b x eb => by
        by_cases z : b = a
        · subst z; rw [upd_same] at eb; cases eb; exact h1
        · rw [upd_ne z] at eb; exact R.sub _ _ eb
      keepF := R.keepF.trans ef
      newF := fun b x eb => by
        by_cases z : b = a
        · subst z; exact .inr h3
        · rw [upd_ne z] at eb; exact R.newF _ _ eb
      keep := fun b o e z => by
        obtain ⟨k1, k2⟩ := R.keep b o e z
        refine ⟨k1, ?_⟩
        show (if b = a then none else ow b) = none
        split
        · rfl
        · exact k2
      fzo := fun b x eb => by
        show (if b = a then none else ow b) = none
        by_cases z : b = a
        · rw [if_pos z]
        · rw [upd_ne z] at eb; rw [if_neg z]; exact R.fzo _ _ eb
      owh := fun b j e => by
        have e : (if b = a then none else ow b) = some j := e
        split at e
        · cases e
        · exact R.owh b j e
      len := by rw [List.length_set]; exact R.len
      slots := fun j e' h => by
        by_cases hj : i = j
        · subst hj
          rw [List.getElem?_set_self hi] at h
          cases h; exact h6
        · rw [List.getElem?_set_ne hj] at h
          have h' := (R.slots j e' h).grow e' ef fun _ _ _ q => q
          have nj : j + 1 ≠ i + 1 := by omega
          cases e' with
          | un => trivial
          | dat d => exact h'
          | lst ds => obtain ⟨b, vs, e, g1, g2, g3, r⟩ := h'; exact ⟨b, vs, e, g1, nz b _ g2 nj, g3, r⟩
          | dct ds => obtain ⟨b, vs, e, g1, g2, g3, r⟩ := h'; exact ⟨b, vs, e, g1, nz b _ g2 nj, g3, r⟩
          | dctT ds => obtain ⟨b, vs, e, g1, g2, g3, r⟩ := h'; exact ⟨b, vs, e, g1, nz b _ g2 nj, g3, r⟩
          | drw => exact h'
          | fn f => exact h'
          | lam j => exact h'
      st := R.st.mono ef fun _ _ _ q => q
      foo := fun a z => nz _ _ (R.foo a z) (by omega) }
  have fn : ∀ a, ow a = some (i + 1) → F a = none := fun a h => by
    cases q : F a with
    | none => rfl
    | some u => have := R.fzo a u q; rw [this] at h; cases h
  have hs := R.slots i e he
  cases e with
  | lst ds =>
    cases hd
    obtain ⟨a, vs, e, g1, g2, g3, r⟩ := hs
    exact ⟨a, _, g1, g2, g3, fn a g2, (fun _ z => by cases z), (fun _ _ z => by cases z), (fun _ z => by cases z), e, main a _ g1 g2 g3 (fn a g2) e ⟨_, e, .lst upd_same (r.mono (same_upd (fn a g2)))⟩⟩
  | dct ds =>
    cases hd
    obtain ⟨a, vs, e, g1, g2, g3, r⟩ := hs
    exact ⟨a, _, g1, g2, g3, fn a g2, (fun _ z => by cases z), (fun _ _ z => by cases z), (fun _ z => by cases z), e, main a _ g1 g2 g3 (fn a g2) e ⟨_, e, .dct (.inl upd_same) (r.mono (same_upd (fn a g2)))⟩⟩
  | dctT ds =>
    cases hd
    obtain ⟨a, vs, e, g1, g2, g3, r⟩ := hs
    exact ⟨a, _, g1, g2, g3, fn a g2, (fun _ z => by cases z), (fun _ _ z => by cases z), (fun _ z => by cases z), e, main a _ g1 g2 g3 (fn a g2) e ⟨_, e, .dctT upd_same (r.mono (same_upd (fn a g2)))⟩⟩
  | _ => cases hd
def delF (F : Hp) (a : Addr) : Hp := fun b => if b = a then none else F b
/-- back from lending -/
theorem Rep.thaw {K : W.Frag} {F F' : Hp} {ow ow' : Addr → Option Nat} {σ : L2.St} {H H' : Hp} {ρ : List EV} {w w' : DS} {i : Nat} {e : EV} {d : Dv} {a : Addr} {u : HO} (R : Rep K Z F ow σ H ρ w) (he : ρ[i]? = some e) (hd : lent e = some d) (h1 : H a = some u) (h3 : Z.H a = none) (h4 : F a = none)
    (h5 : σ[i]? = some (some (.ref a))) (R' : Rep K Z F' ow' σ H' (ρ.set i (.dat d)) w') (s : Same (upd F a u) F') (nt : ∀ xs, u ≠ .tup xs) (nf : ∀ o x, u ≠ .frz o x) (ne : ∀ φ, u ≠ .ext φ) (ok : okLend ρ i = true) :
    Rep K Z (delF F' a) (fun b => if b = a then some (i + 1) else ow' b) σ H' ρ w' ∧ Same F (delF F' a) ∧ ∀ b xs, SqT K F' b xs → SqT K (delF F' a) b xs := by
  have hu : F' a = some u := s _ _ upd_same
  have ha : ow' a = none := R'.fzo a u hu
  have ef : Same F (delF F' a) := fun b x eb => by
    have nb : b ≠ a := fun z => by rw [z, h4] at eb; cases eb
    show (if b = a then none else F' b) = some x
    rw [if_neg nb]
    exact s _ _ (by rw [upd_ne nb]; exact eb)
  have dl : ∀ b x, delF F' a b = some x → b ≠ a ∧ F' b = some x := fun b x eb => by
    have eb : (if b = a then none else F' b) = some x := eb
    split at eb
    · cases eb
    · rename_i z; exact ⟨z, eb⟩
  have hi : i < ρ.length := (List.getElem?_eq_some_iff.mp he).1
  have no : ∀ b j, ow' b = some j → (if b = a then some (i + 1) else ow' b) = some j := fun b j hb => by
    rw [if_neg (fun z => by rw [z, ha] at hb; cases hb)]; exact hb
  have kt : ∀ b xs, SqT K F' b xs → SqT K (delF F' a) b xs := fun b xs h => by
    have keep : ∀ x, F' b = some x → (∀ xs, x ≠ .tup xs) ∧ (∀ o y, x ≠ .frz o y) ∨ delF F' a b = some x := fun x e => by
      by_cases z : b = a
      · rw [z, hu] at e; cases e; exact .inl ⟨nt, nf⟩
      · right; show (if b = a then none else F' b) = some x; rw [if_neg z]; exact e
    rcases h with (h | ⟨o, h⟩) | h
    · rcases keep _ h with z | z
      · exact (z.1 _ rfl).elim
      · exact .inl (.inl z)
    · rcases keep _ h with z | z
      · exact (z.2 _ _ rfl).elim
      · exact .inl (.inr ⟨o, z⟩)
    · exact .inr h
  refine ⟨{
    sub := fun b x eb => R'.sub b x (dl b x eb).2
    keepF := R.keepF.trans ef
    newF := fun b x eb => R'.newF b x (dl b x eb).2
    keep := fun b o e z => by
      obtain ⟨k1, k2⟩ := R'.keep b o e z
      refine ⟨k1, ?_⟩
      show (if b = a then some (i + 1) else ow' b) = none
      rw [if_neg (fun z => by rw [z, h3] at e; cases e)]; exact k2
    fzo := fun b x eb => by
      show (if b = a then some (i + 1) else ow' b) = none
      rw [if_neg (dl b x eb).1]
      exact R'.fzo b x (dl b x eb).2
    owh := fun b j e => by
      by_cases z : b = a
      · exact ⟨u, by rw [z]; exact R'.sub _ _ hu⟩
      · rw [if_neg z] at e; exact R'.owh b j e
    len := R.len
    slots := fun j e' h => by
      by_cases hj : i = j
      · subst hj
        have hs := R.slots i e' h
        rw [he] at h
        cases h
        cases e with
        | lst ds =>
          obtain ⟨b, vs, e, g1, g2, g3, r⟩ := hs
          rw [h5] at e; cases e
          rw [h1] at g1; cases g1
          exact ⟨_, vs, h5, R'.sub _ _ hu, if_pos rfl, g3, r.mono ef⟩
        | dct ds =>
          obtain ⟨b, vs, e, g1, g2, g3, r⟩ := hs
          rw [h5] at e; cases e
          rw [h1] at g1; cases g1
          exact ⟨_, vs, h5, R'.sub _ _ hu, if_pos rfl, g3, r.mono ef⟩
        | dctT ds =>
          obtain ⟨b, vs, e, g1, g2, g3, r⟩ := hs
          rw [h5] at e; cases e
          rw [h1] at g1; cases g1
          exact ⟨_, vs, h5, R'.sub _ _ hu, if_pos rfl, g3, r.mono ef⟩
        | _ => cases hd
      · have hs := R.slots j e' h
        have hs' := R'.slots j e' (by rw [List.getElem?_set_ne hj]; exact h)
        cases e' with
        | un => trivial
        | dat d => obtain ⟨v, e, r⟩ := hs; exact ⟨v, e, r.mono ef⟩
        | lst ds =>
          obtain ⟨b, vs, e, g1, g2, g3, r⟩ := hs'
          exact ⟨b, vs, e, g1, no _ _ g2, g3, immAll_rp kt r (okLend_at ok hj h)⟩
        | dct ds =>
          obtain ⟨b, vs, e, g1, g2, g3, r⟩ := hs'
          exact ⟨b, vs, e, g1, no _ _ g2, g3, immKv_rp kt r (okLend_at ok hj h)⟩
        | dctT ds =>
          obtain ⟨b, vs, e, g1, g2, g3, r⟩ := hs'
          exact ⟨b, vs, e, g1, no _ _ g2, g3, immKvT_rp kt r (okLend_at ok hj h)⟩
        | drw => exact hs
        | fn f => exact hs
        | lam j => obtain ⟨b, c, e, r1, r2⟩ := hs; exact ⟨b, c, e, ef _ _ r1, ef _ _ r2⟩
    st := ⟨R'.st.sh, fun p hp => by
      obtain ⟨ps, t1, t2, t3⟩ := R'.st.tab p hp
      refine ⟨ps, t1, t2, fun pos cv q => ?_⟩
      obtain ⟨c, e1, e2⟩ := t3 pos cv q
      refine ⟨c, e1, ?_⟩
      have nc : c ≠ a := fun z => by
        rw [z, hu] at e2
        exact ne _ (Option.some.inj e2)
      show (if c = a then none else F' c) = _
      rw [if_neg nc]; exact e2, fun l hl => by
      obtain ⟨us, h1, h2, h3, h4⟩ := R'.st.obj l hl
      exact ⟨us, h1, immAll_rp kt h2 h3, h3, h4⟩⟩
    foo := fun a z => no _ _ (R'.foo a z) }, ef, kt⟩
/-- an expression that reads the owned object of a slot -/
def lendE (i : Nat) (f : Sx) : Sx := fun ρ w => match (ρ[i]?).bind lent with
  | some d => if okLend ρ i = true then (match f (ρ.set i (.dat d)) w with
    | .ok z w1 => if imm z = true then .ok z w1 else .stuck
    | _ => .stuck) else .stuck
  | none => .stuck
def lendT (i : Nat) (f : Sb) : Sb := fun ρ w => match (ρ[i]?).bind lent with
  | some d => if okLend ρ i = true then (match f (ρ.set i (.dat d)) w with
    | .ok z w1 => .ok z w1
    | _ => .stuck) else .stuck
  | none => .stuck
def lendN (i : Nat) (f : Sl) : Sl := fun ρ w => match (ρ[i]?).bind lent with
  | some d => if okLend ρ i = true then (match f (ρ.set i (.dat d)) w with
    | .ok z w1 => if immAll z = true then .ok z w1 else .stuck
    | _ => .stuck) else .stuck
  | none => .stuck
theorem lent_some {ρ : List EV} {i : Nat} {d : Dv} (h : (ρ[i]?).bind lent = some d) : ∃ e, ρ[i]? = some e ∧ lent e = some d := by
  cases q : ρ[i]? with
  | none => rw [q] at h; cases h
  | some e => rw [q] at h; exact ⟨e, rfl, h⟩
theorem s_lendE {K : W.Frag} {t : TE} {f : Sx} (i : Nat) (h : Snd K Z E t f) : Snd K Z E t (lendE i f) := fun F ow σ H ρ w Q R q => by
  unfold lendE at q
  cases ed : (ρ[i]?).bind lent with
  | none => rw [ed] at q; exact q.elim
  | some d =>
    rw [ed] at q
    dsimp only at q
    split at q
    case isFalse => exact q.elim
    rename_i ok
    obtain ⟨e, he, hd⟩ := lent_some ed
    obtain ⟨a, u, h1, h2, h3, h4, nt, nf, ne, h5, R1⟩ := R.freeze he hd
    refine h _ _ σ H _ w Q R1 ?_
    cases ef : f (ρ.set i (.dat d)) w with
    | stuck => rw [ef] at q; exact q.elim
    | rz x w1 => rw [ef] at q; exact q.elim
    | ok z w1 =>
      rw [ef] at q
      have q : Post K Z E σ ρ (QE K Z F σ Q ρ) (if imm z = true then .ok z w1 else .stuck) := q
      split at q
      · rename_i hz
        intro v H' F' ow' s R' r
        obtain ⟨R2, sf, kt⟩ := Rep.thaw R he hd h1 h3 h4 h5 R' s nt nf ne ok
        exact q v H' _ _ sf R2 (imm_rp kt r hz)
      · exact q.elim
theorem s_lendT {K : W.Frag} {t : TT} {f : Sb} (i : Nat) (h : SndT K Z E t f) : SndT K Z E t (lendT i f) := fun F ow σ H ρ w Q R q => by
  unfold lendT at q
  cases ed : (ρ[i]?).bind lent with
  | none => rw [ed] at q; exact q.elim
  | some d =>
    rw [ed] at q
    dsimp only at q
    split at q
    case isFalse => exact q.elim
    rename_i ok
    obtain ⟨e, he, hd⟩ := lent_some ed
    obtain ⟨a, u, h1, h2, h3, h4, nt, nf, ne, h5, R1⟩ := R.freeze he hd
    refine h _ _ σ H _ w Q R1 ?_
    cases ef : f (ρ.set i (.dat d)) w with
    | stuck => rw [ef] at q; exact q.elim
    | rz x w1 => rw [ef] at q; exact q.elim
    | ok z w1 =>
      rw [ef] at q
      intro H' F' ow' s R'
      obtain ⟨R2, sf, kt⟩ := Rep.thaw R he hd h1 h3 h4 h5 R' s nt nf ne ok
      exact q H' _ _ sf R2
theorem s_lendN {K : W.Frag} {t : TE} {f : Sl} (i : Nat) (h : SndN K Z E t f) : SndN K Z E t (lendN i f) := fun F ow σ H ρ w Q R q => by
  unfold lendN at q
  cases ed : (ρ[i]?).bind lent with
  | none => rw [ed] at q; exact q.elim
  | some d =>
    rw [ed] at q
    dsimp only at q
    split at q
    case isFalse => exact q.elim
    rename_i ok
    obtain ⟨e, he, hd⟩ := lent_some ed
    obtain ⟨a, u, h1, h2, h3, h4, nt, nf, ne, h5, R1⟩ := R.freeze he hd
    refine h _ _ σ H _ w Q R1 ?_
    cases ef : f (ρ.set i (.dat d)) w with
    | stuck => rw [ef] at q; exact q.elim
    | rz x w1 => rw [ef] at q; exact q.elim
    | ok z w1 =>
      rw [ef] at q
      have q : Post K Z E σ ρ (QN K Z F σ Q ρ) (if immAll z = true then .ok z w1 else .stuck) := q
      split at q
      · rename_i hz
        intro p vs H' F' ow' s R' hp hw hf hzp r
        obtain ⟨R2, sf, kt⟩ := Rep.thaw R he hd h1 h3 h4 h5 R' s nt nf ne ok
        have pa : p ≠ a := fun z => by
          have := s a u upd_same
          rw [← z, hf] at this; cases this
        exact q p vs H' _ _ sf R2 hp (by show (if p = a then some (i + 1) else ow' p) = none; rw [if_neg pa]; exact hw) (by show (if p = a then none else F' p) = none; rw [if_neg pa]; exact hf) hzp (immAll_rp kt r hz)
      · exact q.elim
theorem e_lend {e : Expr} {t : TE} {f : Sx} (i : Nat) (h : DE X Z E e t f) : DE X Z E e t (lendE i f) := ⟨h.pe, s_lendE i h.sn⟩
theorem t_lend {e : Expr} {t : TT} {f : Sb} (i : Nat) (h : DT X Z E e t f) : DT X Z E e t (lendT i f) := ⟨h.pt, s_lendT i h.sn⟩
theorem n_lend {e : Expr} {t : TE} {f : Sl} (i : Nat) (h : DN X Z E e t f) : DN X Z E e t (lendN i f) := ⟨h.pe, s_lendN i h.sn⟩
/-- a statement ahead of which the owned object of a slot is frozen for good -/
def gFrz (i : Nat) (g : Ss) : Ss := fun ρ w => match (ρ[i]?).bind lent with
  | some d => g (ρ.set i (.dat d)) w
  | none => .stuck
theorem s_frz {K : W.Frag} {t : TS} {g : Ss} (i : Nat) (h : SndS K Z E t g) : SndS K Z E t (gFrz i g) := fun F ow σ H ρ w D R q => by
  unfold gFrz at q
  cases ed : (ρ[i]?).bind lent with
  | none => rw [ed] at q; exact q.elim
  | some d =>
    rw [ed] at q
    obtain ⟨e, he, hd⟩ := lent_some ed
    obtain ⟨a, u, h1, h2, h3, h4, nt, nf, ne, h5, R1⟩ := R.freeze he hd
    exact h _ _ σ H _ w D R1 (PostS.up (same_upd h4) q)
theorem d_frz {st : Stmt} {t : TS} {g : Ss} (i : Nat) (h : DSt X Z E st t g) : DSt X Z E st t (gFrz i g) := ⟨h.ps, s_frz i h.sn⟩
theorem b_frz {sts : List Stmt} {t : TS} {g : Ss} (i : Nat) (h : DB X Z E sts t g) : DB X Z E sts t (gFrz i g) := ⟨h.ps, s_frz i h.sn⟩
end
end DL

namespace DL
open PySem PySem.Spec PyProof.Rows L2

/-! ### expressions that change the owned lists -/
abbrev Sf := List EV → DS → RR (Dv × List EV)
def PostF (K : W.Frag) (Z : Z0) (E : XK) (F : Hp) (σ : L2.St) (Q : VK) : RR (Dv × List EV) → Prop
  | .ok (d, ρ') w => ∀ v H' F' ow', Same F F' → Rep K Z F' ow' σ H' ρ' w → Rp K F' v d → Q v H'
  | .rz x w => ∀ cls dx H F ow ρ, Rep K Z F ow σ H ρ w → XR K F x cls dx → E cls dx H
  | .stuck => False
def SndF (K : W.Frag) (Z : Z0) (E : XK) (t : TE) (f : Sf) : Prop := ∀ F ow σ H ρ w Q, Rep K Z F ow σ H ρ w → PostF K Z E F σ Q (f ρ w) → t σ H Q
structure DF (X : Cx) (Z : Z0) (E : XK) (e : Expr) (t : TE) (f : Sf) : Prop where
  pe : PE X e t
  sn : SndF X.K Z E t f
def fPure (f : Sx) : Sf := fun ρ w => (f ρ w).bind fun d w1 => .ok (d, ρ) w1
section
variable {K : W.Frag} {X : Cx} {Z : Z0} {E : XK} {F : Hp} {ow : Addr → Option Nat} {σ : L2.St} {H : Hp} {ρ : List EV} {w : DS} {pos : Pos} {e a b : Expr} {te ta tb : TE} {f fa fb : Sx} {ff : Sf}
theorem PostF.up {F1 : Hp} {Q : VK} {r : RR (Dv × List EV)} (s : Same F F1) (h : PostF K Z E F σ Q r) : PostF K Z E F1 σ Q r := by
  cases r with
  | stuck => exact h
  | rz x w => exact h
  | ok p w => exact fun v H' F' ow' s' => h v H' F' ow' (s.trans s')
/-- an expression, then what hangs on it -/
theorem Snd.seqF {t : TE} {f : Sx} {C Q : VK} {k : Dv → DS → RR (Dv × List EV)} (h : Snd K Z E t f) (R : Rep K Z F ow σ H ρ w) (hp : PostF K Z E F σ Q ((f ρ w).bind k))
    (c : ∀ d w' v H' F' ow', Same F F' → Rep K Z F' ow' σ H' ρ w' → Rp K F' v d → PostF K Z E F' σ Q (k d w') → C v H') : t σ H C := by
  refine h F ow σ H ρ w C R ?_
  cases e : f ρ w with
  | ok d w' => rw [e] at hp; exact fun v H' F' ow' s R' r => c d w' v H' F' ow' s R' r (hp.up s)
  | rz y w' => rw [e] at hp; exact fun cls dx H F ow R x => hp cls dx H F ow ρ R x
  | stuck => rw [e] at hp; exact hp
theorem SndF.seqF {t : TE} {f : Sf} {C Q : VK} {k : Dv → List EV → DS → RR (Dv × List EV)} (h : SndF K Z E t f) (R : Rep K Z F ow σ H ρ w) (hp : PostF K Z E F σ Q ((f ρ w).bind fun p w1 => k p.1 p.2 w1))
    (c : ∀ d ρ' w' v H' F' ow', Same F F' → Rep K Z F' ow' σ H' ρ' w' → Rp K F' v d → PostF K Z E F' σ Q (k d ρ' w') → C v H') : t σ H C := by
  refine h F ow σ H ρ w C R ?_
  cases e : f ρ w with
  | ok p w' => rw [e] at hp; obtain ⟨d, ρ'⟩ := p; exact fun v H' F' ow' s R' r => c d ρ' w' v H' F' ow' s R' r (hp.up s)
  | rz y w' => rw [e] at hp; exact hp
  | stuck => rw [e] at hp; exact hp
theorem SndF.seqS {t : TE} {f : Sf} {C : VK} {D : Ends} {k : Dv → List EV → DS → RR SF} (h : SndF K Z E t f) (R : Rep K Z F ow σ H ρ w) (hp : PostS K Z E F D ((f ρ w).bind fun p w1 => k p.1 p.2 w1))
    (c : ∀ d ρ' w' v H' F' ow', Same F F' → Rep K Z F' ow' σ H' ρ' w' → Rp K F' v d → PostS K Z E F' D (k d ρ' w') → C v H') : t σ H C := by
  refine h F ow σ H ρ w C R ?_
  cases e : f ρ w with
  | ok p w' => rw [e] at hp; obtain ⟨d, ρ'⟩ := p; exact fun v H' F' ow' s R' r => c d ρ' w' v H' F' ow' s R' r (hp.up s)
  | rz y w' => rw [e] at hp; exact fun cls dx H F ow ρ R x => hp cls dx σ H F ow ρ R x
  | stuck => rw [e] at hp; exact hp
theorem f_of (h : DE X Z E e te f) : DF X Z E e te (fPure f) := ⟨h.pe, fun F ow σ H ρ w Q R q =>
  h.sn.seqF R q fun d w' v H' F' ow' s R' r q' => q' v H' F' ow' (Same.refl _) R' r⟩
/-- the owned list of a slot -/
theorem Rep.own_at {i : Nat} {ds : List Dv} (R : Rep K Z F ow σ H ρ w) (h : ρ[i]? = some (.lst ds)) : ∃ l xs, σ[i]? = some (some (.ref l)) ∧ H l = some (.lst xs) ∧ ow l = some (i + 1) ∧ Z.H l = none ∧ RpAll K F xs ds ∧ i < ρ.length := by
  obtain ⟨l, xs, h1, h2, h3, h4, r⟩ := R.slots i _ h
  exact ⟨l, xs, h1, h2, h3, h4, r, (List.getElem?_eq_some_iff.mp h).1⟩
theorem Rep.writeL {i : Nat} {ds es : List Dv} {l : Addr} {ys : List V} (R : Rep K Z F ow σ H ρ w) (h : ρ[i]? = some (.lst ds)) (hs : σ[i]? = some (some (.ref l))) (r : RpAll K F ys es) : Rep K Z F ow σ (upd H l (.lst ys)) (ρ.set i (.lst es)) w := by
  obtain ⟨l', xs, h1, h2, h3, h4, _, hi⟩ := R.own_at h
  rw [hs] at h1; cases h1
  exact R.write h3 hi ⟨l, ys, hs, upd_same, h3, h4, r⟩

/-! #### pop -/
def fPop0 (i : Nat) : Sf := fun ρ w => match ρ[i]? with
  | some (.lst ds) => match ds[ds.length - 1]? with
    | some d => .ok (d, ρ.set i (.lst ds.dropLast)) w
    | none => .stuck
  | _ => .stuck
theorem f_pop0 (i : Nat) {x : Str} {p apos : Pos} (hN : X.N[i]? = some x := by rfl) (hv : Vis X.env.scope x := by first | exact Or.inl rfl | exact Or.inr (Or.inl rfl) | exact Or.inr (Or.inr rfl)) (hd : (x == ("__debug__" : Str)) = false := by decide)
    (hcd : (x == ("__classdict__" : Str)) = false := by decide) (hbase : attributeBase (.Name x p) "pop" X.env (eval (.Name x p) X.env) = eval (.Name x p) X.env := by rfl) (hline : (apos.endLine == pos.line) = true := by rfl) :
    DF X Z E (.Call (.Attribute (.Name x p) "pop" apos) [] [] pos) (tBM0 X.K "list" rPop (tVar i)) (fPop0 i) := ⟨pe_bm0 PySem.F.plainAttrs_list PySem.F.slot_list_pop PySem.F.type_list_pop mt_pop (pe_var hN hv hd hcd) hbase hline, fun F ow σ H ρ w Q R q => by
  unfold fPop0 at q
  cases e : ρ[i]? with
  | none => rw [e] at q; exact q.elim
  | some s =>
    rw [e] at q
    cases s with
    | lst ds =>
      obtain ⟨l, xs, h1, h2, h3, h4, r, hi⟩ := R.own_at e
      dsimp only at q
      cases ed : ds[ds.length - 1]? with
      | none => rw [ed] at q; exact q.elim
      | some d =>
        rw [ed] at q
        obtain ⟨u, hu, ru⟩ := r.get ed
        refine ⟨_, h1, .inl ⟨rfl, _, SqL.of h2⟩, l, xs, u, rfl, rfl, h2, by rw [r.length]; exact hu, ?_⟩
        exact q u _ F ow (Same.refl _) (R.writeL e h1 r.dropLast) ru
    | _ => exact q.elim⟩
def fPopAt (i : Nat) (fe : Sx) : Sf := fun ρ w => match ρ[i]? with
  | some (.lst _) => (fe ρ w).bind fun k w1 => match k, ρ[i]? with
    | .int k, some (.lst ds) => match (if ds.length ≤ big then ixN ds.length k else none) with
      | some j => match ds[j]? with
        | some d => .ok (d, ρ.set i (.lst (ds.eraseIdx j))) w1
        | none => .stuck
      | none => .stuck
    | _, _ => .stuck
  | _ => .stuck
theorem f_popAt (i : Nat) {x : Str} {p apos : Pos} (he : DE X Z E e te f) (hN : X.N[i]? = some x := by rfl) (hv : Vis X.env.scope x := by first | exact Or.inl rfl | exact Or.inr (Or.inl rfl) | exact Or.inr (Or.inr rfl)) (hd : (x == ("__debug__" : Str)) = false := by decide)
    (hcd : (x == ("__classdict__" : Str)) = false := by decide) (hbase : attributeBase (.Name x p) "pop" X.env (eval (.Name x p) X.env) = eval (.Name x p) X.env := by rfl)
    (hfew : ((backTo pos (starEach [e] X.env)).all (fun x => !x.1) && (backToKw pos (keywordEach [] X.env)).all (fun x => x.1.isSome) && decide ([e].length + ([] : List Keyword).length + (if ([] : List Keyword).isEmpty then 0 else 1) < 30)) = true := by rfl)
    (hline : (apos.endLine == pos.line) = true := by rfl) (hs : starEach [e] X.env = (false, eval e X.env) :: starEach [] X.env := by rfl) (hplain : (backTo pos (starEach [] X.env)).any (·.1) = false := by rfl) :
    DF X Z E (.Call (.Attribute (.Name x p) "pop" apos) [e] [] pos) (tBM X.K "list" rPopAt (tVar i) (tCons te tNil)) (fPopAt i f) := ⟨pe_bm PySem.F.plainAttrs_list PySem.F.slot_list_pop PySem.F.type_list_pop mt_popAt (pe_var hN hv hd hcd) (pa_cons he.pe pa_nil hs) hbase hfew hline hs hplain, fun F ow σ H ρ w Q R q => by
  unfold fPopAt at q
  cases e : ρ[i]? with
  | none => rw [e] at q; exact q.elim
  | some s =>
    cases s with
    | lst ds =>
      obtain ⟨l, xs, h1, h2, h3, h4, r, hi⟩ := R.own_at e
      simp only [e] at q
      refine ⟨_, h1, .inl ⟨rfl, _, SqL.of h2⟩, ?_⟩
      refine he.sn.seqF R q fun k w1 y H1 F1 ow1 s1 R1 r1 q1 => ?_
      cases k with
      | int k =>
        cases r1
        obtain ⟨l1, xs1, g1, g2, g3, g4, rr, _⟩ := R1.own_at e
        rw [h1] at g1; cases g1
        dsimp only at q1
        cases ek : (if ds.length ≤ big then ixN ds.length k else none) with
        | none => rw [ek] at q1; exact q1.elim
        | some j =>
          rw [ek] at q1
          dsimp only at q1
          cases ed : ds[j]? with
          | none => rw [ed] at q1; exact q1.elim
          | some d =>
            rw [ed] at q1
            obtain ⟨u, hu, ru⟩ := rr.get ed
            split at ek
            case isFalse => cases ek
            rename_i hbig
            obtain ⟨z1, z2, z3, z4⟩ := ixN_seq ek
            unfold big at hbig
            refine ⟨_, xs1, k, j, u, rfl, rfl, g2, ?_, ?_, by rw [rr.length]; exact z1, hu, ?_⟩
            · omega
            · omega
            · exact q1 u _ F1 ow1 (Same.refl _) (R1.writeL e h1 (rr.eraseIdx j)) ru
      | _ => exact q1.elim
    | _ => simp only [e] at q; exact q.elim⟩

/-! #### statements over them -/
def gSetF (i : Nat) (f : Sf) : Ss := fun ρ w => (f ρ w).bind fun p w1 => .ok (.nx (p.2.set i (.dat p.1))) w1
def gAsgF (f : Sf) (g : Sg) : Ss := fun ρ w => (f ρ w).bind fun p w1 => match g p.1 p.2 with
  | some ρ1 => .ok (.nx ρ1) w1
  | none => .stuck
def gDropF (f : Sf) : Ss := fun ρ w => (f ρ w).bind fun p w1 => .ok (.nx p.2) w1
def gApp (i : Nat) (f : Sf) : Ss := fun ρ w => match ρ[i]? with
  | some (.lst _) => (f ρ w).bind fun p w1 => match p.2[i]? with
    | some (.lst ds) => if ds.length < big then .ok (.nx (p.2.set i (.lst (ds ++ [p.1])))) w1 else .stuck
    | _ => .stuck
  | _ => .stuck
def gExtN (i : Nat) (f : Sl) : Ss := fun ρ w => match ρ[i]? with
  | some (.lst _) => (f ρ w).bind fun es w1 => match ρ[i]? with
    | some (.lst ds) => if ds.length + es.length ≤ big then .ok (.nx (ρ.set i (.lst (ds ++ es)))) w1 else .stuck
    | _ => .stuck
  | _ => .stuck
/-- xs[i] = v -/
def gPutL (i : Nat) (fi fv : Sx) : Ss := fun ρ w => (fv ρ w).bind fun d w1 => match ρ[i]? with
  | some (.lst _) => (fi ρ w1).bind fun k w2 => match k, ρ[i]? with
    | .int k, some (.lst ds) => match ixN ds.length k with
      | some j => .ok (.nx (ρ.set i (.lst (ds.set j d)))) w2
      | none => .stuck
    | _, _ => .stuck
  | _ => .stuck
theorem d_setF (i : Nat) {x : Str} {pos' : Pos} (hN : X.N.Nodup) (he : DF X Z E e te ff) (hi : X.N[i]? = some x := by rfl) (hx : Loc X.env.scope x := by first | exact Or.inl rfl | exact Or.inr rfl) (hs : swapsWith e (some (.Name x pos')) pos.line X.env = pure false := by rfl) (hf : X.fn x = true ∨ X.env.scope.names.lookup x = some .local := by first | exact .inl rfl | exact .inr rfl | assumption) :
    DSt X Z E (.Assign [.Name x pos'] e pos) (tAsg te (gName i)) (gSetF i ff) := ⟨ps_set hN hi hx he.pe hs hf, fun F ow σ H ρ w D R q =>
  he.sn.seqS (k := fun d ρ' w' => .ok (.nx (ρ'.set i (.dat d))) w') R q fun d ρ' w1 v H1 F1 ow1 s R1 r q1 => q1 _ H1 F1 ow1 (Same.refl _) (R1.set ⟨v, rfl, r⟩)⟩
theorem d_asgF {tg : Expr} {gg : TG} {k : Sg} {l : List Nat} (he : DF X Z E e te ff) (hg : DG X Z tg gg k l) (hs : swapsWithSole [tg] e pos.line X.env = pure false := by rfl) (hw : swappedStores [tg] e X.env = pure none := by rfl)
    (h1 : (assignEach [tg] X.env).map (·.2) = [assign tg X.env] := by rfl) : DSt X Z E (.Assign [tg] e pos) (tAsg te gg) (gAsgF ff k) := ⟨ps_asg he.pe hg.pg hs hw h1, fun F ow σ H ρ w D R q =>
  he.sn.seqS (k := fun d ρ' w' => match k d ρ' with
    | some ρ1 => .ok (.nx ρ1) w'
    | none => .stuck) R q fun d ρ' w1 v H1 F1 ow1 s R1 r q1 => by
    cases e1 : k d ρ' with
    | none => rw [e1] at q1; exact q1.elim
    | some ρ1 => rw [e1] at q1; exact hg.sn F1 ow1 σ H1 ρ' w1 v d ρ1 _ e1 R1 r fun σ1 R2 _ => q1 σ1 H1 F1 ow1 (Same.refl _) R2⟩
theorem d_dropF (he : DF X Z E e te ff) (hs : swapsWith e none pos.line X.env = pure false := by rfl) : DSt X Z E (.Expr e pos) (tDrop te) (gDropF ff) := ⟨ps_expr he.pe hs, fun F ow σ H ρ w D R q =>
  he.sn.seqS (k := fun d ρ' w' => .ok (.nx ρ') w') R q fun d ρ' w1 v H1 F1 ow1 s R1 r q1 => q1 σ H1 F1 ow1 (Same.refl _) R1⟩
theorem d_app (i : Nat) {x : Str} {p apos pos2 : Pos} (he : DF X Z E e te ff) (hN : X.N[i]? = some x := by rfl) (hv : Vis X.env.scope x := by first | exact Or.inl rfl | exact Or.inr (Or.inl rfl) | exact Or.inr (Or.inr rfl)) (hd : (x == ("__debug__" : Str)) = false := by decide)
    (hcd : (x == ("__classdict__" : Str)) = false := by decide) (hbase : attributeBase (.Name x p) "append" X.env (eval (.Name x p) X.env) = eval (.Name x p) X.env := by rfl)
    (hfew : ((backTo pos (starEach [e] X.env)).all (fun x => !x.1) && (backToKw pos (keywordEach [] X.env)).all (fun x => x.1.isSome) && decide ([e].length + ([] : List Keyword).length + (if ([] : List Keyword).isEmpty then 0 else 1) < 30)) = true := by rfl)
    (hline : (apos.endLine == pos.line) = true := by rfl) (hs : starEach [e] X.env = (false, eval e X.env) :: starEach [] X.env := by rfl) (hplain : (backTo pos (starEach [] X.env)).any (·.1) = false := by rfl)
    (hsw : swapsWith (.Call (.Attribute (.Name x p) "append" apos) [e] [] pos) none pos2.line X.env = pure false := by rfl) :
    DSt X Z E (.Expr (.Call (.Attribute (.Name x p) "append" apos) [e] [] pos) pos2) (tDrop (tBM X.K "list" rAppend (tVar i) (tCons te tNil))) (gApp i ff) := ⟨ps_expr (pe_bm PySem.F.plainAttrs_list PySem.F.slot_list_append PySem.F.type_list_append mt_append (pe_var hN hv hd hcd) (pa_cons he.pe pa_nil hs) hbase hfew hline hs hplain) hsw, fun F ow σ H ρ w D R q => by
  unfold gApp at q
  cases e : ρ[i]? with
  | none => rw [e] at q; exact q.elim
  | some s =>
    cases s with
    | lst ds0 =>
      obtain ⟨l, xs, h1, h2, h3, h4, r, hi⟩ := R.own_at e
      simp only [e] at q
      refine ⟨_, h1, .inl ⟨rfl, _, SqL.of h2⟩, ?_⟩
      refine he.sn.seqS (k := fun d ρ' w' => match ρ'[i]? with
        | some (.lst ds) => if ds.length < big then .ok (.nx (ρ'.set i (.lst (ds ++ [d])))) w' else .stuck
        | _ => .stuck) R q fun d ρ' w1 v H1 F1 ow1 s R1 r1 q1 => ?_
      cases e1 : ρ'[i]? with
      | none => rw [e1] at q1; exact q1.elim
      | some s1 =>
        rw [e1] at q1
        cases s1 with
        | lst ds =>
          obtain ⟨l1, xs1, g1, g2, g3, g4, rr, _⟩ := R1.own_at e1
          rw [h1] at g1; cases g1
          have q1 : PostS X.K Z E F1 D (if ds.length < big then .ok (.nx (ρ'.set i (.lst (ds ++ [d])))) w1 else .stuck) := q1
          split at q1
          case isFalse => exact q1.elim
          rename_i hb
          refine ⟨_, xs1, v, rfl, rfl, g2, by rw [rr.length, sizeLine_big]; exact hb, ?_⟩
          exact q1 σ _ F1 ow1 (Same.refl _) (R1.writeL e1 h1 (rr.append (.cons r1 .nil)))
        | _ => exact q1.elim
    | _ => simp only [e] at q; exact q.elim⟩
theorem d_extN (i : Nat) {x : Str} {p apos pos2 : Pos} {fl : Sl} (he : ∀ Z', DN X Z' E e te fl) (hN : X.N[i]? = some x := by rfl) (hv : Vis X.env.scope x := by first | exact Or.inl rfl | exact Or.inr (Or.inl rfl) | exact Or.inr (Or.inr rfl)) (hd : (x == ("__debug__" : Str)) = false := by decide)
    (hcd : (x == ("__classdict__" : Str)) = false := by decide) (hbase : attributeBase (.Name x p) "extend" X.env (eval (.Name x p) X.env) = eval (.Name x p) X.env := by rfl)
    (hfew : ((backTo pos (starEach [e] X.env)).all (fun x => !x.1) && (backToKw pos (keywordEach [] X.env)).all (fun x => x.1.isSome) && decide ([e].length + ([] : List Keyword).length + (if ([] : List Keyword).isEmpty then 0 else 1) < 30)) = true := by rfl)
    (hline : (apos.endLine == pos.line) = true := by rfl) (hs : starEach [e] X.env = (false, eval e X.env) :: starEach [] X.env := by rfl) (hplain : (backTo pos (starEach [] X.env)).any (·.1) = false := by rfl)
    (hsw : swapsWith (.Call (.Attribute (.Name x p) "extend" apos) [e] [] pos) none pos2.line X.env = pure false := by rfl) :
    DSt X Z E (.Expr (.Call (.Attribute (.Name x p) "extend" apos) [e] [] pos) pos2) (tDrop (tBM X.K "list" rExtend (tVar i) (tCons te tNil))) (gExtN i fl) := ⟨ps_expr (pe_bm PySem.F.plainAttrs_list PySem.F.slot_list_extend PySem.F.type_list_extend mt_extend (pe_var hN hv hd hcd) (pa_cons (he Z).pe pa_nil hs) hbase hfew hline hs hplain) hsw, fun F ow σ H ρ w D R q => by
  unfold gExtN at q
  cases e : ρ[i]? with
  | none => rw [e] at q; exact q.elim
  | some s =>
    cases s with
    | lst ds =>
      obtain ⟨l, xs, h1, h2, h3, h4, r, hi⟩ := R.own_at e
      simp only [e] at q
      refine ⟨_, h1, .inl ⟨rfl, _, SqL.of h2⟩, ?_⟩
      refine (he Z).sn.seqS R q fun es w1 p vs H1 F1 ow1 s R1 k1 k2 k3 k4 r1 q1 => ?_
      obtain ⟨l1, xs1, g1, g2, g3, g4, rr, _⟩ := R1.own_at e
      rw [h1] at g1; cases g1
      have q1 : PostS X.K Z E F1 D (if ds.length + es.length ≤ big then .ok (.nx (ρ.set i (.lst (ds ++ es)))) w1 else .stuck) := q1
      split at q1
      case isFalse => exact q1.elim
      rename_i hb
      refine ⟨_, p, xs1, vs, rfl, rfl, g2, k1, by rw [rr.length, r1.length, sizeLine_big]; exact hb, ?_⟩
      exact q1 σ _ F1 ow1 (Same.refl _) (R1.writeL e h1 (rr.append r1))
    | _ => simp only [e] at q; exact q.elim⟩
theorem d_putL (i : Nat) {x : Str} {p pos' : Pos} {ei ev : Expr} {ti tv : TE} {fi fv : Sx} (hi : DE X Z E ei ti fi) (he : DE X Z E ev tv fv) (hN : X.N[i]? = some x := by rfl) (hv : Vis X.env.scope x := by first | exact Or.inl rfl | exact Or.inr (Or.inl rfl) | exact Or.inr (Or.inr rfl)) (hd : (x == ("__debug__" : Str)) = false := by decide)
    (hcd : (x == ("__classdict__" : Str)) = false := by decide)
    (ha : ∀ v, assign (.Subscript (.Name x p) ei pos') X.env v = (do
      let ov ← holding [v] (eval (.Name x p) X.env)
      let iv ← holding [v, ov] (eval ei X.env)
      standAt pos'
      holding [v, ov, iv] (setItem ov iv v)
      release [v, ov, iv] []) := by intro _; rfl)
    (hs : swapsWithSole [.Subscript (.Name x p) ei pos'] ev pos.line X.env = pure false := by rfl) (hw : swappedStores [.Subscript (.Name x p) ei pos'] ev X.env = pure none := by rfl)
    (h1 : (assignEach [.Subscript (.Name x p) ei pos'] X.env).map (·.2) = [assign (.Subscript (.Name x p) ei pos') X.env] := by rfl) :
    DSt X Z E (.Assign [.Subscript (.Name x p) ei pos'] ev pos) (tAsg tv (gSub (tVar i) ti rSetL)) (gPutL i fi fv) := ⟨ps_asg he.pe (pg_sub (pe_var hN hv hd hcd) hi.pe set_list ha) hs hw h1, fun F ow σ H ρ w D R q => by
  refine he.sn.seqS R q fun d w1 v H1 F1 ow1 s1 R1 r1 q1 => ?_
  cases e : ρ[i]? with
  | none => rw [e] at q1; exact q1.elim
  | some s =>
    cases s with
    | lst ds =>
      obtain ⟨l, xs, h1, h2, h3, h4, r, hl⟩ := R1.own_at e
      simp only [e] at q1
      refine ⟨_, h1, ?_⟩
      refine hi.sn.seqS R1 q1 fun k w2 y H2 F2 ow2 s2 R2 r2 q2 => ?_
      cases k with
      | int k =>
        cases r2
        obtain ⟨l1, xs1, g1, g2, g3, g4, rr, _⟩ := R2.own_at e
        rw [h1] at g1; cases g1
        dsimp only at q2
        cases ek : ixN ds.length k with
        | none => rw [ek] at q2; exact q2.elim
        | some j =>
          rw [ek] at q2
          refine ⟨_, xs1, k, j, rfl, rfl, g2, by rw [rr.length]; exact ek, ?_⟩
          exact q2 σ _ F2 ow2 (Same.refl _) (R2.writeL e h1 (rr.set (r1.mono s2) j))
      | _ => exact q2.elim
    | _ => simp only [e] at q1; exact q1.elim⟩
end
end DL

namespace DL
open PySem PySem.Spec PyProof.Rows L2

/-! ### values some of which are new lists -/
inductive PendR (K : W.Frag) (Z : Z0) (F H : Hp) (ow : Addr → Option Nat) : List V → List EV → List Addr → Prop
  | nil : PendR K Z F H ow [] [] []
  | dat {v : V} {d : Dv} {vs : List V} {es : List EV} {ps : List Addr} : Rp K F v d → PendR K Z F H ow vs es ps → PendR K Z F H ow (v :: vs) (.dat d :: es) ps
  | lst {p : Addr} {xs : List V} {ds : List Dv} {vs : List V} {es : List EV} {ps : List Addr} : H p = some (.lst xs) → ow p = none → F p = none → Z.H p = none → RpAll K F xs ds → p ∉ ps → PendR K Z F H ow vs es ps → PendR K Z F H ow (.ref p :: vs) (.lst ds :: es) (p :: ps)
  | dct {p : Addr} {xs : List (Key × V)} {ds : List (Dv × Dv)} {vs : List V} {es : List EV} {ps : List Addr} : H p = some (.dK xs) → ow p = none → F p = none → Z.H p = none → RpKv K F xs ds → p ∉ ps → PendR K Z F H ow vs es ps → PendR K Z F H ow (.ref p :: vs) (.dct ds :: es) (p :: ps)
def QM (K : W.Frag) (Z : Z0) (F : Hp) (σ : L2.St) (Q : List V → Hp → Prop) (ρ : List EV) (es : List EV) (w : DS) : Prop := ∀ vs H' F' ow' ps, Same F F' → Rep K Z F' ow' σ H' ρ w → PendR K Z F' H' ow' vs es ps → Q vs H'
def SndM (K : W.Frag) (Z : Z0) (E : XK) (t : TA) (f : Sa) : Prop := ∀ F ow σ H ρ w Q, Rep K Z F ow σ H ρ w → Post K Z E σ ρ (QM K Z F σ Q ρ) (f ρ w) → t σ H Q
structure DM (X : Cx) (Z : Z0) (E : XK) (es : List Expr) (t : TA) (f : Sa) : Prop where
  pa : PA X es t
  sn : SndM X.K Z E t f
def aNew (fl : Sl) (fr : Sa) : Sa := fun ρ w => (fl ρ w).bind fun ds w1 => (fr ρ w1).bind fun ps w2 => .ok (.lst ds :: ps) w2
section
variable {K : W.Frag} {X : Cx} {Z : Z0} {E : XK} {F : Hp} {ow : Addr → Option Nat} {σ : L2.St} {H : Hp} {ρ : List EV} {w : DS} {pos : Pos} {e a b : Expr} {es : List Expr} {te ta tb : TE} {fe fa fb : Sx} {fl : Sl} {t : TA} {f : Sa}
theorem SndM.seq {C : List V → Hp → Prop} {α : Type} {P : α → DS → Prop} {k : List EV → DS → RR α} (h : SndM K Z E t f) (R : Rep K Z F ow σ H ρ w) (hp : Post K Z E σ ρ P ((f ρ w).bind k))
    (c : ∀ d w' v H' F' ow' ps, Same F F' → Rep K Z F' ow' σ H' ρ w' → PendR K Z F' H' ow' v d ps → Post K Z E σ ρ P (k d w') → C v H') : t σ H C := by
  refine h F ow σ H ρ w C R ?_
  cases e : f ρ w with
  | ok d w' => rw [e] at hp; exact fun v H' F' ow' ps s R' r => c d w' v H' F' ow' ps s R' r hp
  | rz y w' => rw [e] at hp; exact hp
  | stuck => rw [e] at hp; exact hp
theorem SndM.seqS {C : List V → Hp → Prop} {D : Ends} {k : List EV → DS → RR SF} (h : SndM K Z E t f) (R : Rep K Z F ow σ H ρ w) (hp : PostS K Z E F D ((f ρ w).bind k))
    (c : ∀ es w' vs H' F' ow' ps, Same F F' → Rep K Z F' ow' σ H' ρ w' → PendR K Z F' H' ow' vs es ps → PostS K Z E F' D (k es w') → C vs H') : t σ H C := by
  refine h F ow σ H ρ w C R ?_
  cases e : f ρ w with
  | ok d w' => rw [e] at hp; exact fun v H' F' ow' ps s R' r => c d w' v H' F' ow' ps s R' r (hp.up s)
  | rz y w' => rw [e] at hp; exact fun cls dx H F ow R x => hp cls dx σ H F ow ρ R x
  | stuck => rw [e] at hp; exact hp
theorem m_nil : DM X Z E [] tNil aNil := ⟨pa_nil, fun F ow σ H ρ w Q R q => q [] H F ow [] (Same.refl _) R .nil⟩
theorem m_dat (ha : DE X Z E e te fe) (hr : DM X Z E es t f) (hs : starEach (e :: es) X.env = (false, eval e X.env) :: starEach es X.env := by rfl) : DM X Z E (e :: es) (tCons te t) (aCons fe f) :=
  ⟨pa_cons ha.pe hr.pa hs, fun F ow σ H ρ w Q R q => ha.sn.seq R q fun d w1 x H1 F1 ow1 s1 R1 r1 q1 => hr.sn.seq R1 q1 fun ps w2 vs H2 F2 ow2 _ s2 R2 r2 q2 =>
    q2 (x :: vs) H2 F2 ow2 _ (s1.trans s2) R2 (.dat (r1.mono s2) r2)⟩
/-- what a new object's guard needs -/
theorem Rep.pend {p : Addr} (R : Rep K Z F ow σ H ρ w) (h2 : ow p = none) (h3 : F p = none) : Z.F p = none ∧ ¬ Z.foot p := by
  refine ⟨?_, fun z => ?_⟩
  · cases q : Z.F p with
    | none => rfl
    | some u => rw [R.keepF _ _ q] at h3; cases h3
  · have := R.foo p z
    rw [this] at h2; cases h2
theorem pendKey {K : W.Frag} {p : Addr} {o : HO} {F2 H2 : Hp} {ow2 : Addr → Option Nat} : ∀ {vs : List V} {es : List EV} {ps : List Addr}, PendR K ⟨upd Z.H p o, Z.F, Z.dr⟩ F2 H2 ow2 vs es ps → PendR K Z F2 H2 ow2 vs es ps ∧ p ∉ ps := fun h => by
  induction h with
  | nil => exact ⟨.nil, fun h => nomatch h⟩
  | dat r _ ih => exact ⟨.dat r ih.1, ih.2⟩
  | @lst p2 ys ds2 vs es ps k1 k2 k3 k4 r nm _ ih =>
    have k4 : upd Z.H p o p2 = none := k4
    have ne : p2 ≠ p := fun z => by rw [z, upd_same] at k4; cases k4
    rw [upd_ne ne] at k4
    refine ⟨.lst k1 k2 k3 k4 r nm ih.1, fun h => ?_⟩
    rcases List.mem_cons.mp h with z | z
    · exact ne z.symm
    · exact ih.2 z
  | @dct p2 ys ds2 vs es ps k1 k2 k3 k4 r nm _ ih =>
    have k4 : upd Z.H p o p2 = none := k4
    have ne : p2 ≠ p := fun z => by rw [z, upd_same] at k4; cases k4
    rw [upd_ne ne] at k4
    refine ⟨.dct k1 k2 k3 k4 r nm ih.1, fun h => ?_⟩
    rcases List.mem_cons.mp h with z | z
    · exact ne z.symm
    · exact ih.2 z
theorem m_new (ha : DN X Z E e te fl) (hr : ∀ Z', DM X Z' E es t f) (hs : starEach (e :: es) X.env = (false, eval e X.env) :: starEach es X.env := by rfl) : DM X Z E (e :: es) (tCons te t) (aNew fl f) :=
  ⟨pa_cons ha.pe (hr Z).pa hs, fun F ow σ H ρ w Q R q => ha.sn.seq R q fun ds w1 p xs H1 F1 ow1 s1 R1 h1 h2 h3 h4 r1 q1 => by
    obtain ⟨hf, nf⟩ := R1.pend h2 h3
    have un : ∀ {F' : Hp} {ow' : Addr → Option Nat} {σ' : L2.St} {H' : Hp} {ρ' : List EV} {w' : DS}, Rep X.K ⟨upd Z.H p (.lst xs), Z.F, Z.dr⟩ F' ow' σ' H' ρ' w' → Rep X.K Z F' ow' σ' H' ρ' w' ∧ H' p = some (.lst xs) ∧ ow' p = none ∧ F' p = none := fun R' => R'.unguard h4 nf hf
    have R2 := R1.guard h1 h2 h3
    refine (hr ⟨upd Z.H p (.lst xs), Z.F, Z.dr⟩).sn F1 ow1 σ H1 ρ w1 _ R2 ?_
    cases er : f ρ w1 with
    | stuck => rw [er] at q1; exact q1
    | rz y w2 => rw [er] at q1; exact fun cls dx H F ow R x => q1 cls dx H F ow (un R).1 x
    | ok es2 w2 =>
      rw [er] at q1
      intro vs H2 F2 ow2 ps s2 R3 r3
      obtain ⟨R4, g1, g2, g3⟩ := un R3
      exact q1 _ H2 F2 ow2 _ (s1.trans s2) R4 (.lst g1 g2 g3 h4 (r1.mono s2) (pendKey r3).2 (pendKey r3).1)⟩
/-- {}, to be owned -/
def aNewD (fr : Sa) : Sa := fun ρ w => (fr ρ w).bind fun ps w2 => .ok (.dct [] :: ps) w2
theorem m_newD {dpos : Pos} (hr : ∀ Z', DM X Z' E es t f) (hs : starEach (.Dict [] [] dpos :: es) X.env = (false, eval (.Dict [] [] dpos) X.env) :: starEach es X.env := by rfl) : DM X Z E (.Dict [] [] dpos :: es) (tCons tDNewK t) (aNewD f) :=
  ⟨pa_cons pe_dnewK (hr Z).pa hs, fun F ow σ H ρ w Q R q p np => by
    obtain ⟨h2, h3, h4⟩ := R.fresh np
    have R1 := R.grow (Gr.apart R.sub (.dK []) np)
    obtain ⟨hf, nf⟩ := R1.pend h2 h3
    have un : ∀ {F' : Hp} {ow' : Addr → Option Nat} {σ' : L2.St} {H' : Hp} {ρ' : List EV} {w' : DS}, Rep X.K ⟨upd Z.H p (.dK []), Z.F, Z.dr⟩ F' ow' σ' H' ρ' w' → Rep X.K Z F' ow' σ' H' ρ' w' ∧ H' p = some (.dK []) ∧ ow' p = none ∧ F' p = none := fun R' => R'.unguard h4 nf hf
    have R2 := R1.guard upd_same h2 h3
    refine (hr ⟨upd Z.H p (.dK []), Z.F, Z.dr⟩).sn F ow σ _ ρ w _ R2 ?_
    unfold aNewD at q
    cases er : f ρ w with
    | stuck => rw [er] at q; exact q
    | rz y w2 => rw [er] at q; exact fun cls dx H F ow R x => q cls dx H F ow (un R).1 x
    | ok es2 w2 =>
      rw [er] at q
      intro vs H2 F2 ow2 ps s2 R3 r3
      obtain ⟨R4, g1, g2, g3⟩ := un R3
      exact q _ H2 F2 ow2 _ s2 R4 (.dct g1 g2 g3 h4 .nil (pendKey r3).2 (pendKey r3).1)⟩
/-- stored one by one -/
def setsE : List Nat → List EV → List EV → List EV
  | i :: is, e :: es, ρ => setsE is es (ρ.set i e)
  | _, _, ρ => ρ
def setsV : List Nat → List V → L2.St → L2.St
  | i :: is, v :: vs, σ => setsV is vs (σ.set i (some v))
  | _, _, σ => σ
theorem PendR.own {n : Nat} {p : Addr} : ∀ {vs : List V} {es : List EV} {ps : List Addr}, PendR K Z F H ow vs es ps → p ∉ ps → PendR K Z F H (fun a => if a = p then some n else ow a) vs es ps := fun h => by
  induction h with
  | nil => exact fun _ => .nil
  | dat r _ ih => exact fun n => .dat r (ih n)
  | @lst p2 ys ds2 vs es ps k1 k2 k3 k4 r nm _ ih =>
    intro hn
    refine .lst k1 ?_ k3 k4 r nm (ih fun z => hn (List.mem_cons_of_mem _ z))
    show (if p2 = p then some n else ow p2) = none
    rw [if_neg (fun z => hn (by rw [z]; exact List.mem_cons_self))]; exact k2
  | @dct p2 ys ds2 vs es ps k1 k2 k3 k4 r nm _ ih =>
    intro hn
    refine .dct k1 ?_ k3 k4 r nm (ih fun z => hn (List.mem_cons_of_mem _ z))
    show (if p2 = p then some n else ow p2) = none
    rw [if_neg (fun z => hn (by rw [z]; exact List.mem_cons_self))]; exact k2
/-- a slot gets a new dict of its own -/
theorem Rep.setNewD {i : Nat} {p : Addr} {vs : List (Key × V)} {ds : List (Dv × Dv)} (R : Rep K Z F ow σ H ρ w) (h1 : H p = some (.dK vs)) (h2 : ow p = none) (h3 : F p = none) (h4 : Z.H p = none) (r : RpKv K F vs ds) :
    Rep K Z F (fun a => if a = p then some (i + 1) else ow a) (σ.set i (some (.ref p))) H (ρ.set i (.dct ds)) w :=
  (R.own (i + 1) h1 h2 h3 h4).set (i := i) ⟨p, vs, rfl, h1, if_pos rfl, h4, r⟩
theorem Rep.sets : ∀ {is : List Nat} {vs : List V} {es : List EV} {ps : List Addr} {ow : Addr → Option Nat} {σ : L2.St} {ρ : List EV}, Rep K Z F ow σ H ρ w → PendR K Z F H ow vs es ps → ∃ ow', Rep K Z F ow' (setsV is vs σ) H (setsE is es ρ) w
  | [], vs, es, ps, ow, σ, ρ, R, h => ⟨ow, by cases vs <;> exact R⟩
  | i :: is, _, _, _, ow, σ, ρ, R, .nil => ⟨ow, R⟩
  | i :: is, _, _, _, ow, σ, ρ, R, @PendR.dat _ _ _ _ _ v d vs es ps r h => Rep.sets (is := is) (R.set (i := i) (v := v) (e := .dat d) ⟨v, rfl, r⟩) h
  | i :: is, _, _, _, ow, σ, ρ, R, @PendR.lst _ _ _ _ _ p xs ds vs es ps k1 k2 k3 k4 r nm h => by
    exact Rep.sets (is := is) (R.setNew (i := i) k1 k2 k3 k4 r) (h.own nm) (ps := ps)
  | i :: is, _, _, _, ow, σ, ρ, R, @PendR.dct _ _ _ _ _ p xs ds vs es ps k1 k2 k3 k4 r nm h => by
    exact Rep.sets (is := is) (R.setNewD (i := i) k1 k2 k3 k4 r) (h.own nm) (ps := ps)
def gPar (is : List Nat) (f : Sa) : Ss := fun ρ w => (f ρ w).bind fun es w1 => if es.length = is.length then .ok (.nx (setsE is es ρ)) w1 else .stuck
theorem PendR.length {vs : List V} {es : List EV} {ps : List Addr} (h : PendR K Z F H ow vs es ps) : vs.length = es.length := by
  induction h with
  | nil => rfl
  | dat _ _ ih => rw [List.length_cons, List.length_cons, ih]
  | lst _ _ _ _ _ _ _ ih => rw [List.length_cons, List.length_cons, ih]
  | dct _ _ _ _ _ _ _ ih => rw [List.length_cons, List.length_cons, ih]
theorem d_par2 (i j : Nat) {x y : Str} {px py pt : Pos} {kt k2 pt2} (hc : X.calm = true) (hN : X.N.Nodup) (ha : DM X Z E [a, b] t f) (hij : i ≠ j := by decide) (hi : X.N[i]? = some x := by rfl) (hj : X.N[j]? = some y := by rfl)
    (hx : X.env.scope.names.lookup x = some .local := by rfl) (hy : X.env.scope.names.lookup y = some .local := by rfl)
    (hw : swappedStores [.Tuple [.Name x px, .Name y py] kt pt] (.Tuple [a, b] k2 pt2) X.env = pure (some [x, y]) := by rfl)
    (hs : swapsWithSole [.Tuple [.Name x px, .Name y py] kt pt] (.Tuple [a, b] k2 pt2) pos.line X.env = pure false := by rfl) :
    DSt X Z E (.Assign [.Tuple [.Name x px, .Name y py] kt pt] (.Tuple [a, b] k2 pt2) pos) (tPar i j t) (gPar [i, j] f) := ⟨ps_par hc hN hi hj hij hx hy ha.pa hw hs, fun F ow σ H ρ w D R q => by
  refine ha.sn.seqS R q fun es w1 vs H1 F1 ow1 ps s R1 r1 q1 => ?_
  have q1 : PostS X.K Z E F1 D (if es.length = [i, j].length then .ok (.nx (setsE [i, j] es ρ)) w1 else .stuck) := q1
  split at q1
  case isFalse => exact q1.elim
  rename_i hl
  rw [← r1.length] at hl
  obtain ⟨ow2, R2⟩ := R1.sets (is := [i, j]) r1
  match vs, hl with
  | [v, w], _ => exact ⟨v, w, rfl, q1 _ H1 F1 ow2 (Same.refl _) R2⟩⟩
theorem d_par3 (i j l : Nat) {x y z : Str} {c : Expr} {px py pz pt : Pos} {kt k2 pt2} (hc : X.calm = true) (hN : X.N.Nodup) (ha : DM X Z E [a, b, c] t f) (hij : i ≠ j := by decide) (hil : i ≠ l := by decide) (hjl : j ≠ l := by decide) (hi : X.N[i]? = some x := by rfl) (hj : X.N[j]? = some y := by rfl) (hl : X.N[l]? = some z := by rfl)
    (hx : X.env.scope.names.lookup x = some .local := by rfl) (hy : X.env.scope.names.lookup y = some .local := by rfl) (hz : X.env.scope.names.lookup z = some .local := by rfl)
    (hw : swappedStores [.Tuple [.Name x px, .Name y py, .Name z pz] kt pt] (.Tuple [a, b, c] k2 pt2) X.env = pure (some [x, y, z]) := by rfl)
    (hs : swapsWithSole [.Tuple [.Name x px, .Name y py, .Name z pz] kt pt] (.Tuple [a, b, c] k2 pt2) pos.line X.env = pure false := by rfl) :
    DSt X Z E (.Assign [.Tuple [.Name x px, .Name y py, .Name z pz] kt pt] (.Tuple [a, b, c] k2 pt2) pos) (tPar3 i j l t) (gPar [i, j, l] f) := ⟨ps_par3 hc hN hi hj hl hij hil hjl hx hy hz ha.pa hw hs, fun F ow σ H ρ w D R q => by
  refine ha.sn.seqS R q fun es w1 vs H1 F1 ow1 ps s R1 r1 q1 => ?_
  have q1 : PostS X.K Z E F1 D (if es.length = [i, j, l].length then .ok (.nx (setsE [i, j, l] es ρ)) w1 else .stuck) := q1
  split at q1
  case isFalse => exact q1.elim
  rename_i hl
  rw [← r1.length] at hl
  obtain ⟨ow2, R2⟩ := R1.sets (is := [i, j, l]) r1
  match vs, hl with
  | [v, w, u], _ => exact ⟨v, w, u, rfl, q1 _ H1 F1 ow2 (Same.refl _) R2⟩⟩
end
end DL

namespace DL
open PySem PySem.Spec PyProof.Rows L2

section
variable {K : W.Frag} {X : Cx} {Z : Z0} {E : XK} {F : Hp} {ow : Addr → Option Nat} {σ : L2.St} {H : Hp} {ρ : List EV} {w : DS} {pos : Pos} {e a b : Expr} {es : List Expr} {te ta tb : TE} {fe fa fb : Sx} {fl : Sl} {t : TA} {f : Sa}
/-- list + list -/
def fCatE (fa fb : Sx) : Sl := fun ρ w => (fa ρ w).bind fun d w1 => (fb ρ w1).bind fun e w2 => match d, e with
  | .lst ds, .lst es => if ds.length + es.length ≤ big then .ok (ds ++ es) w2 else .stuck
  | _, _ => .stuck
theorem n_catE (ha : DE X Z E a ta fa) (hb : DE X Z E b tb fb) : DN X Z E (.BinOp a .Add b pos) (tOp rCat ta tb) (fCatE fa fb) := ⟨pe_op op_cat ha.pe hb.pe, fun F ow σ H ρ w Q R q =>
  ha.sn.seq R q fun d w1 x H1 F1 ow1 s1 R1 r1 q1 => hb.sn.seq R1 q1 fun e w2 y H2 F2 ow2 s2 R2 r2 q2 => by
    cases d with
    | lst ds =>
      cases e with
      | lst es =>
        have q2 : Post X.K Z E σ ρ (QN X.K Z F σ Q ρ) (if ds.length + es.length ≤ big then .ok (ds ++ es) w2 else .stuck) := q2
        split at q2
        case isFalse => exact q2.elim
        rename_i hk
        cases r1 with
        | @lst p vs _ ha ra =>
          cases r2 with
          | @lst p2 us _ hb rb =>
            refine ⟨p, p2, vs, us, rfl, rfl, R2.sub _ _ (s2 _ _ ha), R2.sub _ _ hb, by rw [ra.length, rb.length, sizeLine_big]; exact hk, fun l nl => ?_⟩
            obtain ⟨g1, g2, g3⟩ := R2.fresh nl
            exact q2 l _ _ F2 ow2 (s1.trans s2) (R2.grow (Gr.apart R2.sub _ nl)) upd_same g1 g2 g3 ((ra.mono s2).append rb)
      | _ => exact q2.elim
    | _ => exact q2.elim⟩
/-- a.split(b) -/
def fSplit (fa fb : Sx) : Sl := fun ρ w => (fa ρ w).bind fun d w1 => match d with
  | .str a => (fb ρ w1).bind fun e w2 => match e with
    | .str b => if (b.length == 0) = false ∧ a.length + 2 ≤ big then .ok ((Txt.split a b).map .str) w2 else .stuck
    | _ => .stuck
  | _ => .stuck
theorem strs_rp {F : Hp} : ∀ xs : List Str, RpAll K F (xs.map V.str) (xs.map Dv.str)
  | [] => .nil
  | x :: xs => .cons (.str x) (strs_rp xs)
theorem n_split {apos : Pos} (ha : DE X Z E a ta fa) (hb : DE X Z E b tb fb) (hs : starEach [b] X.env = [(false, eval b X.env)] := by rfl) (hbase : attributeBase a "split" X.env (eval a X.env) = eval a X.env := by rfl) (hline : (apos.endLine == pos.line) = true := by rfl) :
    DN X Z E (.Call (.Attribute a "split" apos) [b] [] pos) (tM1 (fun x xs H Q => ∃ a b, x = .str a ∧ xs = [.str b] ∧ (b.length == 0) = false ∧ a.length + 2 ≤ sizeLine ∧ rNewStrs (Txt.split a b) H Q) ta tb) (fSplit fa fb) := ⟨pe_split ha.pe hb.pe hs hbase hline, fun F ow σ H ρ w Q R q =>
  ha.sn.seq R q fun d w1 x H1 F1 ow1 s1 R1 r1 q1 => by
    cases d with
    | str a =>
      cases r1
      refine ⟨⟨a, rfl⟩, hb.sn.seq R1 q1 fun e w2 y H2 F2 ow2 s2 R2 r2 q2 => ?_⟩
      cases e with
      | str b =>
        cases r2
        have q2 : Post X.K Z E σ ρ (QN X.K Z F σ Q ρ) (if (b.length == 0) = false ∧ a.length + 2 ≤ big then .ok ((Txt.split a b).map .str) w2 else .stuck) := q2
        split at q2
        case isFalse => exact q2.elim
        rename_i hk
        refine ⟨a, b, rfl, rfl, hk.1, by rw [sizeLine_big]; exact hk.2, fun p np => ?_⟩
        obtain ⟨g1, g2, g3⟩ := R2.fresh np
        exact q2 p _ _ F2 ow2 (s1.trans s2) (R2.grow (Gr.apart R2.sub _ np)) upd_same g1 g2 g3 (strs_rp _)
      | _ => exact q2.elim
    | _ => exact q1.elim⟩

/-! ### dicts -/
def hasKey (k : Dv) (p : Dv × Dv) : Bool := decide ((keyOf p.1).isSome = true ∧ keyOf p.1 = keyOf k)
def dPutD (kvs : List (Dv × Dv)) (k v : Dv) : List (Dv × Dv) := if kvs.any (hasKey k) = true then kvs.map (fun p => if hasKey k p = true then (p.1, v) else p) else kvs ++ [(k, v)]
def dMerge (kvs more : List (Dv × Dv)) : List (Dv × Dv) := more.foldl (fun acc kv => dPutD acc kv.1 kv.2) kvs
theorem hasKey_kD {k j : Key} {d : Dv} : hasKey (kD k) (kD j, d) = decide (j = k) := by
  unfold hasKey
  rw [keyOf_kD, keyOf_kD]
  simp
theorem RpKv.append {F : Hp} : ∀ {v v' : List (Key × V)} {d d' : List (Dv × Dv)}, RpKv K F v d → RpKv K F v' d' → RpKv K F (v ++ v') (d ++ d')
  | _, _, _, _, .nil, s => s
  | _, _, _, _, .cons h r, s => .cons h (RpKv.append r s)
theorem RpKv.any {F : Hp} {k : Key} : ∀ {kvs : List (Key × V)} {ds : List (Dv × Dv)}, RpKv K F kvs ds → ds.any (hasKey (kD k)) = kvs.any fun kv => decide (kv.1 = k)
  | _, _, .nil => rfl
  | _, _, .cons h r => by rw [List.any_cons, List.any_cons, RpKv.any r, hasKey_kD]
theorem RpKv.mapPut {F : Hp} {k : Key} {v : V} {d : Dv} (q : Rp K F v d) : ∀ {kvs : List (Key × V)} {ds : List (Dv × Dv)}, RpKv K F kvs ds → RpKv K F (kvs.map fun kv => if kv.1 = k then (kv.1, v) else kv) (ds.map fun p => if hasKey (kD k) p = true then (p.1, d) else p)
  | _, _, .nil => .nil
  | _, _, .cons (k := j) (d := d2) h r => by
    rw [List.map_cons, List.map_cons, hasKey_kD]
    by_cases e : j = k
    · rw [if_pos e, if_pos (decide_eq_true e)]; exact .cons q (RpKv.mapPut q r)
    · rw [if_neg e, if_neg (by rw [decide_eq_false e]; exact Bool.false_ne_true)]; exact .cons h (RpKv.mapPut q r)
theorem RpKv.put {F : Hp} {k : Key} {v : V} {d : Dv} {kvs : List (Key × V)} {ds : List (Dv × Dv)} (h : RpKv K F kvs ds) (q : Rp K F v d) : RpKv K F (putK kvs k v) (dPutD ds (kD k) d) := by
  unfold putK dPutD
  rw [h.any]
  split
  · exact h.mapPut q
  · exact h.append (.cons q .nil)
theorem RpKv.merge {F : Hp} : ∀ {more : List (Key × V)} {dm : List (Dv × Dv)} {kvs : List (Key × V)} {ds : List (Dv × Dv)}, RpKv K F kvs ds → RpKv K F more dm → RpKv K F (mergeK kvs more) (dMerge ds dm)
  | _, _, _, _, h, .nil => h
  | _, _, kvs, ds, h, @RpKv.cons _ _ k v vs d ds2 r t => RpKv.merge (kvs := putK kvs k v) (ds := dPutD ds (kD k) d) (RpKv.put h r) t
theorem RpKv.length {F : Hp} : ∀ {v : List (Key × V)} {d : List (Dv × Dv)}, RpKv K F v d → v.length = d.length
  | _, _, .nil => rfl
  | _, _, .cons h r => by rw [List.length_cons, List.length_cons, RpKv.length r]
/-- pairs of a display -/
abbrev Sps := List EV → DS → RR (List (Dv × Dv))
def pNil : Sps := fun _ w => .ok [] w
def pCons (fk fv : Sx) (fr : Sps) : Sps := fun ρ w => (fk ρ w).bind fun k w1 => (fv ρ w1).bind fun v w2 => (fr ρ w2).bind fun ps w3 => if (toKey k).isSome = true then .ok ((k, v) :: ps) w3 else .stuck
def SndP (K : W.Frag) (Z : Z0) (E : XK) (trs : List (TE × TE)) (f : Sps) : Prop := ∀ F ow σ H ρ w (Q : List (V × V) → Hp → Prop), Rep K Z F ow σ H ρ w →
  Post K Z E σ ρ (fun ds w' => ∀ (kvs : List (Key × V)) H' F' ow', Same F F' → Rep K Z F' ow' σ H' ρ w' → RpKv K F' kvs ds → Q (kvs.map fun kv => (kV kv.1, kv.2)) H') (f ρ w) → tPairs trs σ H Q
structure DP (X : Cx) (Z : Z0) (E : XK) (pos : Pos) (ks : List (Option Expr)) (vs : List Expr) (trs : List (TE × TE)) (f : Sps) : Prop where
  pp : PPs X pos ks vs trs
  sn : SndP X.K Z E trs f
theorem p_nil : DP X Z E pos [] [] [] pNil := ⟨pps_nil, fun F ow σ H ρ w Q R q => q [] H F ow (Same.refl _) R .nil⟩
theorem RpKv.len {F : Hp} {v : List (Key × V)} {d : List (Dv × Dv)} (h : RpKv K F v d) : v.length = d.length := h.length
theorem toKey_rp {F : Hp} {v : V} {d : Dv} (r : Rp K F v d) (h : (toKey d).isSome = true) : ∃ k, d = kD k ∧ v = kV k := by
  cases e : toKey d with
  | none => rw [e] at h; cases h
  | some k => have := toKey_inv e; subst this; exact ⟨k, rfl, kD_V r⟩
theorem p_cons {k v : Expr} {ks : List (Option Expr)} {vs : List Expr} {tk tv : TE} {fk fv : Sx} {trs : List (TE × TE)} {fr : Sps} (hk : DE X Z E k tk fk) (hv : DE X Z E v tv fv) (hr : DP X Z E pos ks vs trs fr) : DP X Z E pos (some k :: ks) (v :: vs) ((tk, tv) :: trs) (pCons fk fv fr) :=
  ⟨pps_cons hk.pe hv.pe hr.pp, fun F ow σ H ρ w Q R q => hk.sn.seq R q fun d w1 x H1 F1 ow1 s1 R1 r1 q1 => hv.sn.seq R1 q1 fun e w2 y H2 F2 ow2 s2 R2 r2 q2 => by
    refine hr.sn F2 ow2 σ H2 ρ w2 _ R2 ?_
    cases er : fr ρ w2 with
    | stuck => rw [er] at q2; exact q2
    | rz z w3 => rw [er] at q2; exact q2
    | ok ps w3 =>
      rw [er] at q2
      intro kvs H3 F3 ow3 s3 R3 r3
      simp only [RR.bind_ok] at q2
      split at q2
      case isFalse => exact q2.elim
      rename_i hk
      obtain ⟨k, rfl, rfl⟩ := toKey_rp r1 hk
      exact q2 ((k, y) :: kvs) H3 F3 ow3 ((s1.trans s2).trans s3) R3 (.cons (r2.mono s3) r3)⟩
def fDisp (f : Sps) : Sx := fun ρ w => (f ρ w).bind fun ps w1 => if ps.length ≤ 15 then .ok (.dct (dMerge [] ps)) w1 else .stuck
theorem e_disp {keys : List (Option Expr)} {values : List Expr} {trs : List (TE × TE)} {f : Sps} (h : ∀ Z', DP X Z' E pos keys values trs f) (hall : keys.all (·.isSome) = true := by rfl) (hl : keys.length = values.length := by rfl) (h0 : keys ≠ [] := by exact fun h => nomatch h)
    (h15 : keys.length ≤ 15 := by decide) : DE X Z E (.Dict keys values pos) (tDisp trs) (fDisp f) := ⟨pe_disp (h Z).pp hall hl h0 h15, fun F ow σ H ρ w Q R q p np => by
  obtain ⟨h1, h2, h3⟩ := R.fresh np
  have R1 := R.grow (Gr.apart R.sub (.dK []) np)
  obtain ⟨hf, nf⟩ := R1.pend h1 h2
  have un : ∀ {F' : Hp} {ow' : Addr → Option Nat} {σ' : L2.St} {H' : Hp} {ρ' : List EV} {w' : DS}, Rep X.K ⟨upd Z.H p (.dK []), Z.F, Z.dr⟩ F' ow' σ' H' ρ' w' → Rep X.K Z F' ow' σ' H' ρ' w' ∧ H' p = some (.dK []) ∧ ow' p = none ∧ F' p = none := fun R' => R'.unguard h3 nf hf
  have R2 := R1.guard upd_same h1 h2
  refine (h ⟨upd Z.H p (.dK []), Z.F, Z.dr⟩).sn F ow σ _ ρ w _ R2 ?_
  unfold fDisp at q
  cases er : f ρ w with
  | stuck => rw [er] at q; exact q
  | rz y w2 => rw [er] at q; exact fun cls dx H F ow R x => q cls dx H F ow (un R).1 x
  | ok ps w2 =>
    rw [er] at q
    intro kvs H2 F2 ow2 s2 R3 r3
    obtain ⟨R4, g1, g2, g3⟩ := un R3
    simp only [RR.bind_ok] at q
    split at q
    case isFalse => exact q.elim
    rename_i hz
    refine ⟨g1, kvs, rfl, by rw [r3.length]; exact hz, ?_⟩
    have R5 := R4.mark (o := .dK (mergeK [] kvs)) g2 g3 h3 nf
    have ef : Same F2 (upd F2 p (.dK (mergeK [] kvs))) := same_upd g3
    exact q (.ref p) _ _ ow2 (s2.trans ef) (freezeRep R5 upd_same g2 g3 h3) (.dct (.inl upd_same) (RpKv.merge .nil (r3.mono ef)))⟩
end
end DL

namespace DL
open PySem PySem.Spec PyProof.Rows L2

/-! ### the draws of a law -/
def stK (g c : Addr) (w : DS) : List (Key × V) := [(.inr "great", .ref g), (.inr "cells", .ref c), (.inr "rest", .int w.rest), (.inr "turn", .int w.turn)]
theorem stK_great {g c : Addr} {w : DS} : valV (stK g c w) (.inr "great") = some (.ref g) := rfl
theorem stK_cells {g c : Addr} {w : DS} : valV (stK g c w) (.inr "cells") = some (.ref c) := rfl
theorem stK_rest {g c : Addr} {w : DS} : valV (stK g c w) (.inr "rest") = some (.int w.rest) := rfl
theorem stK_turn {g c : Addr} {w : DS} : valV (stK g c w) (.inr "turn") = some (.int w.turn) := rfl
theorem stK_putR {g c : Addr} {w : DS} {i : Int} : putK (stK g c w) (.inr "rest") (.int i) = stK g c { w with rest := i } := rfl
theorem stK_putT {g c : Addr} {w : DS} {i : Int} : putK (stK g c w) (.inr "turn") (.int i) = stK g c { w with turn := i } := rfl
theorem stK_merge {g c : Addr} {w : DS} : mergeK [] (stK g c w) = stK g c w := rfl
theorem StH.dict {H : Hp} {a g c : Addr} {w : DS} (h : StH H a g c w) : H a = some (.dK (stK g c w)) := h.1

/-- one blend -/
def blendOne (turn prime : Int) (cells : List Int) : Int := cells.foldl (fun b c => (b * 69621 + c + turn) % prime) (48271 * turn + prime / 53)
def blendAll (turn : Int) (cells : List Int) : List Int → Int → Int
  | [], f => f
  | p :: ps, f => blendAll turn cells ps (f * 2147483647 + blendOne turn p cells ^ 5 % p)
def primes : List Int := [2147483579, 2147483629, 2147483563]
def blend (turn : Int) (cells : List Int) : Int := blendAll turn cells primes 0
def most : Int := 1000000000000
/-- a draw from room many -/
def refill (w : DS) : DS := if w.rest = 0 then match w.great with
    | g :: gs => { w with great := gs, rest := g }
    | [] => { w with rest := blend (w.turn + 1) w.cells, turn := w.turn + 1 }
  else w
def drawW (w : DS) (room : Int) : DS := { refill w with rest := (refill w).rest / room }
theorem drawW_ob (w : DS) (room : Int) : (drawW w room).ob = w.ob := by
  show (refill w).ob = w.ob
  unfold refill
  split
  · split <;> rfl
  · rfl
def drawV (w : DS) (room : Int) : Int := (refill w).rest % room
/-- how wide a draw may be -/
def wide : Int := 1000000000000000000000000000000000000000000000000
def okDraw (room : Int) (w : DS) : Prop := 0 < room ∧ room < wide ∧ 0 ≤ w.turn ∧ w.turn < most
noncomputable instance (room : Int) (w : DS) : Decidable (okDraw room w) := Classical.propDecidable _
noncomputable def semDraw : Fsem := fun ps w => match ps with
  | [.drw, .dat (.int room)] => if okDraw room w then .ok (.int (drawV w room)) (drawW w room) else .stuck
  | _ => .stuck
/-- how far the draws have gone -/
def Adv (n : Int) (w w' : DS) : Prop := w.turn ≤ w'.turn ∧ w'.turn ≤ w.turn + n
theorem Adv.refl {w : DS} : Adv 0 w w := ⟨by omega, by omega⟩
theorem Adv.trans {a b : Int} {w w1 w2 : DS} (h1 : Adv a w w1) (h2 : Adv b w1 w2) : Adv (a + b) w w2 := ⟨by have := h1.1; have := h2.1; omega, by have := h1.2; have := h2.2; omega⟩
theorem Adv.le {a b : Int} {w w' : DS} (h : Adv a w w') (l : a ≤ b) : Adv b w w' := ⟨h.1, by have := h.2; omega⟩
theorem adv_draw {w : DS} {room : Int} : Adv 1 w (drawW w room) := by
  unfold Adv drawW refill
  split
  · split <;> simp <;> omega
  · simp; omega
theorem draw_range {w : DS} {room : Int} (h : 0 < room) : 0 ≤ drawV w room ∧ drawV w room < room := ⟨Int.emod_nonneg _ (by omega), Int.emod_lt_of_pos _ h⟩
theorem semDraw_wide {w : DS} {room : Int} (h : 0 < room) (h1 : room < wide) (h2 : 0 ≤ w.turn) (h3 : w.turn < most) : semDraw [.drw, .dat (.int room)] w = .ok (.int (drawV w room)) (drawW w room) := if_pos ⟨h, h1, h2, h3⟩
theorem semDraw_ok {w : DS} {room : Int} (h : 0 < room) (h1 : room < most) (h2 : 0 ≤ w.turn) (h3 : w.turn < most) : semDraw [.drw, .dat (.int room)] w = .ok (.int (drawV w room)) (drawW w room) := semDraw_wide h (Int.lt_trans h1 (by decide)) h2 h3
/-- how the state begins -/
def beginW (ns : List Int) : DS := ⟨(ns.map fun i : Int => ((i.natAbs : Int))).filterMap (fun a => if (10 : Int) ^ 18 ≤ a then some (a - 10 ^ 18) else none), ns.map fun i : Int => (i.natAbs : Int), 0, 0, []⟩
end DL

namespace DL
open PySem PySem.Spec PyProof.Rows L2

/-! ### equality of clean data: nothing but None, ints, texts, and tuples and lists of them -/
mutual
def cln : Dv → Bool
  | .non => true
  | .int _ => true
  | .str s => PyData.strOk s
  | .tup ds => clnAll ds
  | .lst ds => clnAll ds
  | _ => false
def clnAll : List Dv → Bool
  | [] => true
  | d :: ds => cln d && clnAll ds
end
mutual
def deep : Dv → Nat
  | .tup ds => deepAll ds + 1
  | .lst ds => deepAll ds + 1
  | _ => 0
def deepAll : List Dv → Nat
  | [] => 0
  | d :: ds => max (deep d) (deepAll ds)
end
mutual
theorem cln_lay : ∀ d : Dv, cln d = true → (toPy d).canLay0 = true ∧ (toPy d).depth = deep d
  | .non, _ => ⟨rfl, rfl⟩
  | .int _, _ => ⟨rfl, rfl⟩
  | .str s, h => ⟨h, rfl⟩
  | .tup ds, h => by
    have h : clnAll ds = true := h
    obtain ⟨a, b⟩ := clnAll_lay ds h
    exact ⟨a, by show PyData.depthAll (toPys ds) + 1 = deepAll ds + 1; rw [b]⟩
  | .lst ds, h => by
    have h : clnAll ds = true := h
    obtain ⟨a, b⟩ := clnAll_lay ds h
    exact ⟨a, by show PyData.depthAll (toPys ds) + 1 = deepAll ds + 1; rw [b]⟩
  | .bl _, h => nomatch h
  | .dct _, h => nomatch h
  | .glo _, h => nomatch h
  | .exc _ _, h => nomatch h
  | .scr _, h => nomatch h
theorem clnAll_lay : ∀ ds : List Dv, clnAll ds = true → PyData.canLayAll0 (toPys ds) = true ∧ PyData.depthAll (toPys ds) = deepAll ds
  | [], _ => ⟨rfl, rfl⟩
  | d :: ds, h => by
    have h : (cln d && clnAll ds) = true := h
    rw [Bool.and_eq_true] at h
    obtain ⟨a, b⟩ := cln_lay d h.1
    obtain ⟨a', b'⟩ := clnAll_lay ds h.2
    refine ⟨?_, ?_⟩
    · show ((toPy d).canLay0 && PyData.canLayAll0 (toPys ds)) = true
      rw [a, a']; rfl
    · show max (toPy d).depth (PyData.depthAll (toPys ds)) = max (deep d) (deepAll ds)
      rw [b, b']
end
mutual
theorem cln_eqv : ∀ d e : Dv, cln d = true → cln e = true → (PyData.eqv (toPy d) (toPy e) = true ↔ d = e)
  | .non, e, _, he => by cases e <;> first | (simp [toPy, PyData.eqv]; done) | (simp [cln] at he)
  | .int i, e, _, he => by cases e <;> first | (simp [toPy, PyData.eqv]; done) | (simp [cln] at he)
  | .str s, e, _, he => by cases e <;> first | (simp [toPy, PyData.eqv]; done) | (simp [cln] at he)
  | .tup ds, e, h, he => by
    cases e with
    | tup es =>
      have h : clnAll ds = true := h
      have he : clnAll es = true := he
      show PyData.eqvAll (toPys ds) (toPys es) = true ↔ _
      rw [clnAll_eqv ds es h he, Dv.tup.injEq]
    | bl _ => exact nomatch he
    | dct _ => exact nomatch he
    | glo _ => exact nomatch he
    | exc _ _ => exact nomatch he
    | scr _ => exact nomatch he
    | _ => simp [toPy, PyData.eqv]
  | .lst ds, e, h, he => by
    cases e with
    | lst es =>
      have h : clnAll ds = true := h
      have he : clnAll es = true := he
      show PyData.eqvAll (toPys ds) (toPys es) = true ↔ _
      rw [clnAll_eqv ds es h he, Dv.lst.injEq]
    | bl _ => exact nomatch he
    | dct _ => exact nomatch he
    | glo _ => exact nomatch he
    | exc _ _ => exact nomatch he
    | scr _ => exact nomatch he
    | _ => simp [toPy, PyData.eqv]
  | .bl _, _, h, _ => nomatch h
  | .dct _, _, h, _ => nomatch h
  | .glo _, _, h, _ => nomatch h
  | .exc _ _, _, h, _ => nomatch h
  | .scr _, _, h, _ => nomatch h
theorem clnAll_eqv : ∀ ds es : List Dv, clnAll ds = true → clnAll es = true → (PyData.eqvAll (toPys ds) (toPys es) = true ↔ ds = es)
  | [], [], _, _ => by simp [toPys, PyData.eqvAll]
  | [], e :: es, _, _ => by simp [toPys, PyData.eqvAll]
  | d :: ds, [], _, _ => by simp [toPys, PyData.eqvAll]
  | d :: ds, e :: es, h, he => by
    have h : (cln d && clnAll ds) = true := h
    have he : (cln e && clnAll es) = true := he
    rw [Bool.and_eq_true] at h he
    have h1 := cln_eqv d e h.1 he.1
    have h2 := clnAll_eqv ds es h.2 he.2
    show (PyData.eqv (toPy d) (toPy e) && PyData.eqvAll (toPys ds) (toPys es)) = true ↔ _
    rw [Bool.and_eq_true, h1, h2, List.cons.injEq]
end
/-- what may be compared -/
def okc (d : Dv) : Prop := cln d = true ∧ deep d ≤ 60
theorem shaped_of {d : Dv} (h : okc d) : SeqAt.shaped (toPy d) = true := by
  obtain ⟨a, b⟩ := cln_lay d h.1
  unfold SeqAt.shaped
  rw [a, b, Bool.true_and]
  have := h.2
  exact decide_eq_true (by omega)
open Classical in
theorem dEq_of {d e : Dv} (h : okc d) (h' : okc e) : dEq d e = some (.bl (decide (d = e))) := by
  unfold dEq
  rw [if_pos ⟨shaped_of h, shaped_of h'⟩]
  congr 2
  rw [Bool.eq_iff_iff, cln_eqv d e h.1 h'.1, decide_eq_true_iff]
open Classical in
theorem dNe_of {d e : Dv} (h : okc d) (h' : okc e) : dNe d e = some (.bl (!decide (d = e))) := by
  unfold dNe
  rw [if_pos ⟨shaped_of h, shaped_of h'⟩]
  congr 3
  rw [Bool.eq_iff_iff, cln_eqv d e h.1 h'.1, decide_eq_true_iff]
theorem okc_int (i : Int) : okc (.int i) := ⟨rfl, Nat.zero_le _⟩
theorem okc_non : okc .non := ⟨rfl, Nat.zero_le _⟩
theorem okc_str {s : Str} (h : PyData.strOk s = true) : okc (.str s) := ⟨h, Nat.zero_le _⟩
/-- a bound on the depth -/
def okn (n : Nat) (d : Dv) : Prop := cln d = true ∧ deep d ≤ n
theorem okn.c {n : Nat} {d : Dv} (h : okn n d) (hn : n ≤ 60 := by decide) : okc d := ⟨h.1, Nat.le_trans h.2 hn⟩
theorem okn.le {n m : Nat} {d : Dv} (h : okn n d) (hn : n ≤ m := by omega) : okn m d := ⟨h.1, Nat.le_trans h.2 hn⟩
theorem okn_all {n : Nat} : ∀ {ds : List Dv}, (∀ d ∈ ds, okn n d) → clnAll ds = true ∧ deepAll ds ≤ n
  | [], _ => ⟨rfl, Nat.zero_le _⟩
  | d :: ds, h => by
    obtain ⟨a, b⟩ := h d List.mem_cons_self
    obtain ⟨a', b'⟩ := okn_all fun x hx => h x (List.mem_cons_of_mem _ hx)
    refine ⟨?_, ?_⟩
    · show (cln d && clnAll ds) = true
      rw [a, a']; rfl
    · show max (deep d) (deepAll ds) ≤ n
      omega
theorem okn_tup {n : Nat} {ds : List Dv} (h : ∀ d ∈ ds, okn n d) : okn (n + 1) (.tup ds) := ⟨(okn_all h).1, Nat.succ_le_succ (okn_all h).2⟩
theorem okn_lst {n : Nat} {ds : List Dv} (h : ∀ d ∈ ds, okn n d) : okn (n + 1) (.lst ds) := ⟨(okn_all h).1, Nat.succ_le_succ (okn_all h).2⟩
theorem okn_int {n : Nat} (i : Int) : okn n (.int i) := ⟨rfl, Nat.zero_le _⟩
theorem okn_str {n : Nat} {s : Str} (h : PyData.strOk s = true) : okn n (.str s) := ⟨h, Nat.zero_le _⟩
theorem okn_ints {n : Nat} (l : List Int) : okn (n + 1) (.tup (l.map .int)) := okn_tup fun d h => by
  obtain ⟨i, _, rfl⟩ := List.mem_map.mp h
  exact okn_int i
theorem okn_intsL {n : Nat} (l : List Int) : okn (n + 1) (.lst (l.map .int)) := okn_lst fun d h => by
  obtain ⟨i, _, rfl⟩ := List.mem_map.mp h
  exact okn_int i
theorem shaped_ints (ns : List Int) : SeqAt.shaped (PyData.list (ns.map PyData.int)) = true := by
  have h := shaped_of (okn_intsL (n := 0) ns).c
  have e : toPy (.lst (ns.map .int)) = PyData.list (ns.map PyData.int) := by
    show PyData.list (toPys _) = _
    rw [toPys_map, List.map_map]
    rfl
  rwa [e] at h
theorem int_inj {a b : Int} : (Dv.int a = Dv.int b) ↔ a = b := ⟨fun h => by cases h; rfl, fun h => by rw [h]⟩
theorem ints_inj {a b : List Int} : a.map Dv.int = b.map Dv.int ↔ a = b := ⟨fun h => List.map_inj_right (fun x y e => by cases e; rfl) |>.mp h, fun h => by rw [h]⟩
end DL

namespace DL
open PySem PySem.Spec PyProof.Rows L2

/-- a block's own names, told by a test -/
def blkB (N : List Str) (sc scope : Scope) (own : List (Str × Nat)) : Bool :=
  (scope.kind == .function) && (scope.names.all fun y => scope.names.lookup y.1 == some y.2) && (own.all fun p => N[p.2]? == some p.1) &&
  (scope.names.all fun y => !(y.2 == .free) || (sc.names.lookup y.1 == some .cell) || (sc.names.lookup y.1 == some .free)) &&
  (scope.names.all fun y => !(y.2 == .local || y.2 == .cell) || (own.map (·.1)).contains y.1 || !(N.contains y.1))
theorem nk_eq {a b : NameKind} (h : (a == b) = true) : a = b := by cases a <;> cases b <;> first | rfl | exact nomatch h
theorem ok_eq {a b : Option NameKind} (h : (a == b) = true) : a = b := by
  cases a with
  | none => cases b with
    | none => rfl
    | some _ => exact nomatch h
  | some x => cases b with
    | none => exact nomatch h
    | some y => rw [nk_eq (a := x) (b := y) h]
theorem sk_eq {a b : ScopeKind} (h : (a == b) = true) : a = b := by cases a <;> cases b <;> first | rfl | exact nomatch h
theorem nk_self (a : NameKind) : (a == a) = true := by cases a <;> rfl
theorem blk_ok {N : List Str} {sc scope : Scope} {own : List (Str × Nat)} (h : blkB N sc scope own = true) : BlkOk N sc scope own := by
  unfold blkB at h
  simp only [Bool.and_eq_true, List.all_eq_true, Bool.or_eq_true, Bool.not_eq_true'] at h
  obtain ⟨⟨⟨⟨h1, h2⟩, h3⟩, h4⟩, h5⟩ := h
  refine ⟨sk_eq h1, fun y hy => ok_eq (h2 y hy), fun p hp => by simpa using h3 p hp, fun y hy e => ?_, fun y hy e => ?_⟩
  · rcases h4 y hy with (z | z) | z
    · rw [e] at z; exact nomatch z
    · exact .inl (ok_eq z)
    · exact .inr (ok_eq z)
  · rcases h5 y hy with (z | z) | z
    · rcases e with e | e <;> rw [e] at z <;> exact nomatch z
    · exact .inl (by simpa using z)
    · exact .inr (by simpa using z)
section
variable {X : Cx} {Z : Z0} {E : XK} {pos : Pos}
theorem d_setLc (i : Nat) {y : Str} {py spos : Pos} {elt tg iter : Expr} {ifs : List Expr} {scope : Scope} {own : List (Str × Nat)} {wi : TI} {g : TG} {tt : TT} {te : TE} {fi : Sl} {k : Sg} {ft : Sb} {fe : Sx} {l : List Nat} (hc : X.calm = true) (hN : X.N.Nodup) (hi : DI X Z E tg iter wi fi) (ok : BlkOk X.N X.env.scope scope own)
    (hg : ∀ (Z' : Z0) (s : Shared) (H : Hp) (C : Addr) (cl : List (Str × Addr)) (fp : List Addr), DG (X.blk s H scope (compEnvC scope cl C X.env) fp) Z' tg g k l) (ht : ∀ (Z' : Z0) (s : Shared) (H : Hp) (C : Addr) (cl : List (Str × Addr)) (fp : List Addr), DTs (X.blk s H scope (compEnvC scope cl C X.env) fp) Z' E0 ifs tt ft)
    (he : ∀ (Z' : Z0) (s : Shared) (H : Hp) (C : Addr) (cl : List (Str × Addr)) (fp : List Addr), DE (X.blk s H scope (compEnvC scope cl C X.env) fp) Z' E0 elt te fe) (hl : ∀ i ∈ l, i ∈ own.map (·.2)) (hs : ∀ x, foldedSetIterable iter X.env x = pure x := by intro _; rfl)
    (hy : X.N[i]? = some y := by rfl) (hyl : X.env.scope.names.lookup y = some .local := by rfl) (hk : X.env.scope.kind = .function := by rfl) (hln : (py.line == pos.line) = true := by rfl)
    (ha : (scope.names.any fun (n, k) => n == y && (k == .local || k == .cell)) = false := by decide +kernel) :
    DSt X Z E (.Assign [.Name y py] (.ListComp elt [⟨tg, iter, ifs, 0⟩] scope pos) spos) (tAsg (tLc wi g tt te (own.map (·.2))) (gName i)) (gSetN i (fLcW fi k ft fe (own.map (·.2)))) :=
  ⟨ps_setLc hc hN hy hyl (sw_true hk hyl hln ha) hi.pi ok (fun s H C cl fp => (hg Z s H C cl fp).pg) (fun s H C cl fp => (ht Z s H C cl fp).pt) (fun s H C cl fp => (he Z s H C cl fp).pe) hs, fun F ow σ H ρ w D R q =>
    (n_lc (pos := pos) hc hN hi ok hg ht he hl hs).sn.seqS R q fun ds w1 p vs H1 F1 ow1 s R1 h1 h2 h3 h4 r q1 => q1 _ H1 F1 _ (Same.refl _) (R1.setNew h1 h2 h3 h4 r)⟩
end
end DL
namespace DL
open PySem PySem.Spec PyProof.Rows L2
/-! ### how a state begins -/
theorem pw1018 : dIC CPow (fun i j => .int (i ^ j.toNat)) (.int 10) (.int 18) = some (.int (10 ^ 18)) := if_pos ⟨by decide, by decide, by decide⟩
theorem dAbs_int (i : Int) : dAbs [.int i] = some (.int (i.natAbs : Int)) := by
  show some (Dv.int (if i < 0 then -i else i)) = _
  congr 2
  split <;> omega
/-- a comprehension that changes nothing -/
theorem lcD_of {α : Type} {k : Sg} {ft : Sb} {fe : Sx} {ρ : List EV} {w : DS} (c : α → Dv) (p : α → Bool) (h : α → Dv) : ∀ (l : List α), (∀ x ∈ l, ∃ ρ1, k (c x) ρ = some ρ1 ∧ ft ρ1 w = .ok (p x) w ∧ (p x = true → fe ρ1 w = .ok (h x) w)) →
    lcD k ft fe ρ (l.map c) w = .ok ((l.filter p).map h) w
  | [], _ => rfl
  | x :: l, hyp => by
    obtain ⟨ρ1, h1, h2, h3⟩ := hyp x List.mem_cons_self
    have ih := lcD_of c p h l fun y hy => hyp y (List.mem_cons_of_mem _ hy)
    rw [List.map_cons]
    by_cases hp : p x = true
    · rw [hp] at h2
      simp only [lcD, h1, h2, h3 hp, ih, RR.bind_ok, List.filter_cons, hp, if_true, List.map_cons]
    · have hp : p x = false := by simpa using hp
      rw [hp] at h2
      simp only [lcD, h1, h2, ih, List.filter_cons, hp, if_false, Bool.false_eq_true]
theorem lcW_of {α : Type} {fi : Sl} {k : Sg} {ft : Sb} {fe : Sx} {vs : List Nat} {ρ : List EV} {w w1 : DS} (c : α → Dv) (p : α → Bool) (h : α → Dv) (l : List α) (hi : fi ρ w = .ok (l.map c) w1) (hb : l.length ≤ big) (hw : okW ρ vs = true)
    (hyp : ∀ x ∈ l, ∃ ρ1, k (c x) (wipeE ρ vs) = some ρ1 ∧ ft ρ1 w1 = .ok (p x) w1 ∧ (p x = true → fe ρ1 w1 = .ok (h x) w1)) : fLcW fi k ft fe vs ρ w = .ok ((l.filter p).map h) w1 := by
  unfold fLcW
  rw [hi]
  show (if _ then _ else _) = _
  rw [if_pos ⟨by rw [List.length_map]; exact hb, hw⟩]
  exact lcD_of c p h l hyp
theorem begin_great {ns : List Int} {x : EV} {w : DS} (hb : ns.length ≤ big) (hx : plainEV x = true) :
    fLcW (fItems (fVar 0)) (kName 2) (fBool (fOp (dI fun i j => .bl (decide (j ≤ i))) (fCB dAbs (aCons (fVar 2) aNil)) (fOp (dIC CPow fun i j => .int (i ^ j.toNat)) (fC (.int 10)) (fC (.int 18)))))
      (fOp (dI fun i j => .int (i - j)) (fCB dAbs (aCons (fVar 2) aNil)) (fOp (dIC CPow fun i j => .int (i ^ j.toNat)) (fC (.int 10)) (fC (.int 18)))) [2] [.dat (.scr ns), x, .un] w = .ok ((beginW ns).great.map .int) w := by
  rw [lcW_of Dv.int (fun n => decide ((10 : Int) ^ 18 ≤ (n.natAbs : Int))) (fun n => .int ((n.natAbs : Int) - 10 ^ 18)) ns rfl hb rfl fun n _ => ⟨_, rfl, by simp [fBool, fOp, fCB, fDats, aCons, aNil, fVar, fC, wipeE, datsOf, dAbs_int, pw1018, dI], fun _ => by simp [fOp, fCB, fDats, aCons, aNil, fVar, fC, wipeE, datsOf, dAbs_int, pw1018, dI]⟩]
  congr 1
  clear hb
  unfold beginW
  simp only
  induction ns with
  | nil => rfl
  | cons n ns ih =>
    by_cases hn : (10 : Int) ^ 18 ≤ (n.natAbs : Int)
    · simp only [List.filter_cons, List.map_cons, List.filterMap_cons, hn, decide_true, if_true]; rw [ih]
    · simp only [List.filter_cons, List.map_cons, List.filterMap_cons, hn, decide_false, if_false, Bool.false_eq_true]; exact ih
theorem begin_cells {ns : List Int} {x : EV} {w : DS} (hb : ns.length ≤ big) :
    fLcW (fItems (fVar 0)) (kName 2) fYes (fCB dAbs (aCons (fVar 2) aNil)) [2] [.dat (.scr ns), x, .un] w = .ok ((beginW ns).cells.map .int) w := by
  rw [lcW_of Dv.int (fun _ => true) (fun n => .int (n.natAbs : Int)) ns rfl hb rfl fun n _ => ⟨_, rfl, rfl, fun _ => by simp [fCB, fDats, aCons, aNil, fVar, wipeE, datsOf, dAbs_int]⟩]
  unfold beginW
  simp only [List.map_map]
  rw [List.filter_eq_self.mpr fun _ _ => rfl]
  rfl
end DL

namespace DL
open PySem PySem.Spec PyProof.Rows L2

section
variable {X : Cx} {Z : Z0} {E : XK} {pos : Pos}
/-- a comprehension's list that is never written -/
theorem d_setLcF (i : Nat) {y : Str} {py spos : Pos} {elt tg iter : Expr} {ifs : List Expr} {scope : Scope} {own : List (Str × Nat)} {wi : TI} {g : TG} {tt : TT} {te : TE} {fi : Sl} {k : Sg} {ft : Sb} {fe : Sx} {l : List Nat} (hc : X.calm = true) (hN : X.N.Nodup) (hi : DI X Z E tg iter wi fi) (ok : BlkOk X.N X.env.scope scope own)
    (hg : ∀ (Z' : Z0) (s : Shared) (H : Hp) (C : Addr) (cl : List (Str × Addr)) (fp : List Addr), DG (X.blk s H scope (compEnvC scope cl C X.env) fp) Z' tg g k l) (ht : ∀ (Z' : Z0) (s : Shared) (H : Hp) (C : Addr) (cl : List (Str × Addr)) (fp : List Addr), DTs (X.blk s H scope (compEnvC scope cl C X.env) fp) Z' E0 ifs tt ft)
    (he : ∀ (Z' : Z0) (s : Shared) (H : Hp) (C : Addr) (cl : List (Str × Addr)) (fp : List Addr), DE (X.blk s H scope (compEnvC scope cl C X.env) fp) Z' E0 elt te fe) (hl : ∀ i ∈ l, i ∈ own.map (·.2)) (hs : ∀ x, foldedSetIterable iter X.env x = pure x := by intro _; rfl)
    (hy : X.N[i]? = some y := by rfl) (hyl : X.env.scope.names.lookup y = some .local := by rfl) (hk : X.env.scope.kind = .function := by rfl) (hln : (py.line == pos.line) = true := by rfl)
    (ha : (scope.names.any fun (n, k) => n == y && (k == .local || k == .cell)) = false := by decide +kernel) :
    DSt X Z E (.Assign [.Name y py] (.ListComp elt [⟨tg, iter, ifs, 0⟩] scope pos) spos) (tAsg (tLc wi g tt te (own.map (·.2))) (gName i)) (gSet i (fFrz (fLcW fi k ft fe (own.map (·.2))))) :=
  ⟨ps_setLc hc hN hy hyl (sw_true hk hyl hln ha) hi.pi ok (fun s H C cl fp => (hg Z s H C cl fp).pg) (fun s H C cl fp => (ht Z s H C cl fp).pt) (fun s H C cl fp => (he Z s H C cl fp).pe) hs, fun F ow σ H ρ w D R q =>
    (e_frz (n_lc (pos := pos) hc hN hi ok hg ht he hl hs)).sn.seqS R q fun d w1 v H1 F1 ow1 s R1 r q1 => q1 _ H1 F1 ow1 (Same.refl _) (R1.set ⟨v, rfl, r⟩)⟩
end
/-- the heap but for what stands at l -/
noncomputable def offH (H : Hp) (l : List Addr) : Hp := fun b => open Classical in if b ∈ l then none else H b
theorem offH_sub {H : Hp} {l : List Addr} : Same (offH H l) H := fun b o e => by
  unfold offH at e
  split at e
  · cases e
  · exact e
theorem offH_in {H : Hp} {l : List Addr} {b : Addr} (h : b ∈ l) : offH H l b = none := if_pos h
theorem offH_out {H : Hp} {l : List Addr} {b : Addr} (h : b ∉ l) : offH H l b = H b := if_neg h
/-- an empty table of code objects -/
theorem tabF_nil {F H : Hp} {P : Addr} {q : Str} (h : H P = some (.tbl #[])) : TabF F H P q := ⟨#[], h, True.intro, fun pos cv hc => by
  have z : codeAmong pos [] = some cv := hc
  simp [codeAmong] at z⟩
theorem sqL_off {K : W.Frag} {H : Hp} {l : List Addr} {a : Addr} {xs : List V} (h : SqL K H a xs) (hl : ∀ b ∈ l, ∃ ps, H b = some (.tbl ps)) : SqL K (offH H l) a xs := by
  have k : ∀ o, H a = some o → (∀ ps, o ≠ .tbl ps) → offH H l a = some o := fun o e n => by
    rw [offH_out]
    · exact e
    · intro hm
      obtain ⟨ps, z⟩ := hl a hm
      rw [e] at z
      exact n ps (Option.some.inj z)
  rcases h with (h | ⟨o, h⟩) | h
  · exact .inl (.inl (k _ h fun ps z => by cases z))
  · exact .inl (.inr ⟨o, k _ h fun ps z => by cases z⟩)
  · exact .inr h
/-- the body of a law behind the line that makes the state of its draws; T: tables of code objects -/
theorem law_rd {K : W.Frag} {T : List (Addr × Str)} {N : List Str} {t : TS} {g : Ss} {a st gr c : Addr} {ns : List Int} {H H' : Hp} {Q : VK} {E : XK} (hn : 2 ≤ N.length) (hb : ∀ Z, SndS K Z E t g) (hg : ∃ w', semOf N.length g [.dat (.scr ns), .drw] (beginW ns) = .ok (.bl true) w')
    (hS : SqL K H a (ns.map V.int)) (hT : ∀ p ∈ T, H p.1 = some (.tbl #[])) (sm : Same H H') (n1 : H st = none) (n2 : H gr = none) (n3 : H c = none) (sh : StH H' st gr c (beginW ns)) (q : ∀ H', Q (.bl true) H') :
    t { nx := fun _ H' => Q .non H', rt := Q } ((L2.start N [.ref a]).set 1 (some (.ref st))) H' := by
  obtain ⟨w', hw⟩ := hg
  have e : (L2.start N [.ref a]).set 1 (some (.ref st)) = L2.start N [.ref a, .ref st] := by
    unfold L2.start
    match N, hn with
    | x :: y :: N, _ => rfl
  rw [e]
  have hl : ∀ b ∈ T.map (·.1), ∃ ps, H b = some (.tbl ps) := fun b hb => by
    obtain ⟨p, hp, rfl⟩ := List.mem_map.mp hb
    exact ⟨_, hT p hp⟩
  have none_off : ∀ {b : Addr}, H b = none → offH H (T.map (·.1)) b = none := fun {b} h => by
    cases z : offH H (T.map (·.1)) b with
    | none => rfl
    | some o => rw [offH_sub b o z] at h; cases h
  refine body_of (n := 2) hn ⟨offH H (T.map (·.1)), { st := some (st, gr, c), tb := T, clo := fun _ _ => True }, [.dat (.scr ns), .drw], beginW ns, rfl, offH_sub.trans sm, .dat (.scr (sqL_off hS hl)) (.drw rfl .nil), ⟨fun a' g' c' e => by cases e; exact sh, fun p hp => tabF_nil (sm _ _ (hT p hp)), fun l hl => nomatch hl⟩, fun b z => ?_, ?_⟩ hb
  · rcases z with ⟨x, g', c', e, h⟩ | ⟨p, hp, rfl⟩ | hl
    · cases e
      rcases h with rfl | rfl | rfl
      · exact none_off n1
      · exact none_off n2
      · exact none_off n3
    · exact offH_in (List.mem_map.mpr ⟨p, hp, rfl⟩)
    · cases hl
  · rw [hw]
    intro v H1 F1 _ _ r
    cases r
    exact q H1
def spLaw (K : W.Frag) (T : List (Addr × Str)) : Sp := fun vs H Q _ => ∃ (a : Addr) (ns : List Int), vs = [.ref a] ∧ SqL K H a (ns.map V.int) ∧ ns.length ≤ 63 ∧ (∀ p ∈ T, H p.1 = some (.tbl #[])) ∧ ∀ H', Q (.bl true) H'
end DL

namespace DL
open PySem PySem.Spec PyProof.Rows L2 RT

/-! ### tuple(reversed(a tuple)) -/
theorem slot_hint : Slot "reversed" "__length_hint__" "reversed.__length_hint__" :=
  .of (owner := "reversed") (n := "__length_hint__") (by rw [typeLookup_type, builtinLookup_eq_fast]; kernel_rfl) (by decide +kernel) (by decide +kernel) (by decide +kernel) (by first | exact .inl (by decide +kernel) | exact .inr (by decide +kernel)) (by rw [isSubtype_type]; kernel_rfl)
theorem entry_hint : entryFor table "reversed.__length_hint__" = some Builtin.«reversed.__length_hint__» := entryFor_of_tree (by kernel_rfl)
theorem args_hint (a : Value) : argsOk "reversed.__length_hint__" ⟨[a], []⟩ := by
  unfold argsOk; rw [signature?_of (id := "reversed.__length_hint__") (n := ['_', '_', 't', 'n', 'i', 'h', '_', 'h', 't', 'g', 'n', 'e', 'l', '_', '_']) (o := ['d', 'e', 's', 'r', 'e', 'v', 'e', 'r']) (by kernel_rfl) owner_rt]; kernel_rfl
theorem nolen_rt : typeLookup (.type "reversed") "__len__" = pure none := by rw [typeLookup_type, builtinLookup_eq_fast]; kernel_rfl
section
variable {prog : Program} {w : World} {A : Around} {E : Value → Shared → Prop} {s : Shared}
theorem hint_call {it t : Addr} {items : Array Value} {Q : Value → Shared → Prop} (hit : IsRt s.heap it t ((items.size : Int) - 1)) (ht : IsTup s.heap t items) (hz : items.size ≤ sizeLine)
    (h : ∀ tk u, Q (.int items.size u) { s with toks := tk }) : wpAny (model prog w) A (call (.builtin "reversed.__length_hint__") [.ref it]) Q E s := by
  obtain ⟨o, ho, hc, hd⟩ := id hit
  rw [sizeLine_eq] at hz
  refine wpAny_call_entry slot_hint hit.typeIs entry_hint ?_ (args_hint _)
  unfold Builtin.«reversed.__length_hint__»
  refine wpAny_bind (wpAny_of_eq (a := Value.ref it) rfl ?_)
  refine wpAny_bind (wpAny_field ho hd (x := .ref t) rfl ?_)
  show wpAny _ _ (call (.builtin "len") [.ref t] >>= _) _ _ s
  refine wpAny_bind (len_tuple ht (by omega) ?_)
  refine wpAny_bind (wpAny_of_eq (a := some ((items.size : Nat) : Int)) rfl ?_)
  try dsimp only
  refine wpAny_bind (wpAny_field (s := { s with toks := s.toks + 1 + 1 }) ho hd (x := rawInt ((items.size : Int) - 1)) rfl ?_)
  show wpAny _ _ (if ((items.size : Nat) : Int) < ((items.size : Int) - 1) + 1 then _ else _) _ _ _
  rw [if_neg (by omega)]
  have e : ((items.size : Int) - 1) + 1 = items.size := by omega
  rw [e]
  refine wpAny_bind (wpAny_mkInt ?_)
  exact wpAny_pure ⟨_, rfl, h _ _⟩
theorem hint_any {it t : Addr} {items : Array Value} {Q : Bool → Shared → Prop} (hit : IsRt s.heap it t ((items.size : Int) - 1)) (ht : IsTup s.heap t items) (hz : items.size ≤ sizeLine)
    (h : ∀ b tk, Q b { s with toks := tk }) : wpAny (model prog w) A (Builtin.List.listLengthHint (.ref it)) Q E s := by
  have hT := hit.typeIs
  unfold Builtin.List.listLengthHint
  refine wpAny_bind (wpAny_specialOf hT nolen_rt ?_)
  show wpAny _ A (specialOf (Value.ref it) (Str.ofString "__length_hint__") >>= _) _ _ _
  refine wpAny_bind (wpAny_specialOf hT slot_hint.lookup ?_)
  generalize hid : ("reversed.__length_hint__" : String) = id0
  wp_delta
  rw [show splitId id0 = some ("reversed", "__length_hint__") from by subst hid; decide +kernel]
  subst hid
  refine wpAny_bind (wpAny_isInstance (b := true) hT (by rw [isSubtype_type]; kernel_rfl) ?_)
  refine wpAny_ite_split (fun hab => absurd hab (by decide)) (fun _ => ?_)
  refine wpAny_ite_split (fun hab => absurd hab (by decide +kernel)) (fun _ => ?_)
  refine wpAny_bind (wpAny_rule ?_)
  rw [slot_hint.bind]
  refine wpAny_bind (wpAny_pure ?_)
  refine wpAny_bind (wpAny_attempt (hint_call hit ht hz fun tk u => ?_))
  have htl : Builtin.List.listTooLong ((items.size : Nat) : Int).toNat = false := by
    rw [Int.toNat_natCast]; exact notLongL hz
  have hft : Builtin.List.listFitsIndex ((items.size : Nat) : Int) = true := by
    rw [sizeLine_eq] at hz
    exact fitsIndex_of (by omega) (by omega)
  have ea : asInt? (Value.int ((items.size : Nat) : Int) u) = pure (some ((items.size : Nat) : Int)) := rfl
  have hm0 : (0 : Int) ≤ ((items.size : Nat) : Int) := by omega
  generalize ((items.size : Nat) : Int) = m at *
  show wpAny _ A (asInt? (.int m u) >>= _) _ _ _
  rw [ea]
  refine wpAny_bind (wpAny_pure ?_)
  refine wpAny_ite_split (fun hab => absurd hab (by rw [hft]; decide)) (fun _ => ?_)
  refine wpAny_ite_split (fun hab => absurd hab (by omega)) (fun _ => ?_)
  refine wpAny_ite_split (fun hab => absurd hab (by rw [htl]; decide)) (fun _ => ?_)
  exact wpAny_pure (h _ _)
/-- the walk of a reversed tuple -/
theorem walks_rt (hh : A.handled = none) (it t : Addr) (hne : t ≠ it) (items : Array Value) (hz : items.size ≤ sizeLine) :
    Walks prog w A it [it, t] [it] items.size (fun i v => items[items.size - 1 - i]? = some v) (fun i h => i ≤ items.size ∧ IsRt h it t ((items.size : Int) - 1 - (i : Int)) ∧ IsTup h t items) where
  sub := fun b hb => by simp at hb; simp [hb]
  frame := fun i h h' x hk => ⟨x.1, x.2.1.at fun o e => hk it (by simp) o e, by
    obtain ⟨o, ho, r⟩ := x.2.2
    exact ⟨o, hk t (by simp) o ho, r⟩⟩
  item := fun i s Q E hi x hQ => by
    have e : (items.size : Int) - 1 - (i : Int) = ((items.size - 1 - i : Nat) : Int) := by omega
    have hx : items[items.size - 1 - i]? = some (items[items.size - 1 - i]'(by omega)) := Array.getElem?_eq_getElem (by omega)
    refine next_rt_item (i := items.size - 1 - i) (e ▸ x.2.1) x.2.2 hx hz fun h' r' sb => ?_
    have e2 : ((items.size - 1 - i : Nat) : Int) - 1 = (items.size : Int) - 1 - ((i + 1 : Nat) : Int) := by omega
    refine hQ _ h' (s.toks + 1) hx ⟨hi, e2 ▸ r', ?_⟩ fun b o hb eo => sb.extBut b o (fun h => hb (by simp [h])) eo
    obtain ⟨o, ho, r⟩ := x.2.2
    exact ⟨o, (sb.2 t hne).trans ho, r⟩
  done := fun s Q E x hQ => by
    have e : (items.size : Int) - 1 - (items.size : Int) = -1 := by omega
    refine next_rt_end hh (e ▸ x.2.1) fun h' eb => hQ h' s.toks fun b o hb eo => eb b o (fun h => hb (by simp [h])) eo
  self := fun i s Q E x hQ => iter_rt x.2.1 hQ
theorem collect_rt {it t : Addr} {items : Array Value} {Q : List Value → Shared → Prop} (hh : A.handled = none) (hit : IsRt s.heap it t ((items.size : Int) - 1)) (ht : IsTup s.heap t items) (hne : t ≠ it) (hz : items.size ≤ sizeLine)
    (hQ : ∀ (h' : Heap) (tk : Nat) (acc : Array Value), (∀ b o, b ≠ it → s.heap.get? b = some o → h'.get? b = some o) → ItemsOf (fun i v => items[items.size - 1 - i]? = some v) acc items.size → Q acc.toList { s with heap := h', toks := tk }) :
    wpAny (model prog w) A (collect (.ref it)) Q E s := by
  have W := (walks_rt (prog := prog) (w := w) (A := A.in1) hh it t hne items hz).toS
  obtain ⟨oi, hoi, _⟩ := id hit
  obtain ⟨ot, hot, _⟩ := id ht
  have n1 : s.heap.objs.size ≠ it := Nat.ne_of_gt (Heap.lt_size hoi)
  have n2 : s.heap.objs.size ≠ t := Nat.ne_of_gt (Heap.lt_size hot)
  have n3 : s.heap.objs.size ∉ [it, t] := by simp [n1, n2]
  unfold collect
  refine wpAny_bind (wpAny_runValue (codeAny_builtin F.entry_proto_collect ?_))
  rw [Around.under_plainId F.plain_proto_collect _]
  show wpAny _ A.in1 (newList [] >>= fun z => again (.builtin "list.__iadd__" ⟨[z, .ref it], []⟩)) _ _ s
  refine wpAny_bind (wpAny_newObj_type ?_)
  refine wpAny_pure ⟨plainId_quiet F.plain_list_iadd _, codeAny_builtin F.entry_list_iadd ?_⟩
  rw [Around.under_plainId F.plain_list_iadd _]
  generalize hs1 : s.heap.push { cls := .type "list", data := .seq ([] : List Value).toArray } = h1
  have keep : ∀ b o, s.heap.get? b = some o → h1.get? b = some o := fun b o e => by rw [← hs1]; exact Heap.get?_push_of_some _ e
  have hS : h1.get? s.heap.objs.size = some { cls := .type "list", data := .seq ([] : List Value).toArray } := by rw [← hs1]; exact Heap.get?_push_size _ rfl
  have hit1 : IsRt h1 it t ((items.size : Int) - 1) := hit.at fun o e => keep _ _ e
  have ht1 : IsTup h1 t items := by
    obtain ⟨o, ho, r⟩ := ht
    exact ⟨o, keep _ _ ho, r⟩
  have hT : ({ s with heap := h1 } : Shared).TypeIs (.ref it) "reversed" := IsRt.typeIs (s := { s with heap := h1 }) hit1
  have same : Builtin.List.listSameRef (.ref s.heap.objs.size) (.ref it) = false := by simp [Builtin.List.listSameRef, n1]
  show wpAny _ A.in1 (Builtin.List.listExtendWith (.ref s.heap.objs.size) (.ref it) (.ref s.heap.objs.size)) _ _ _
  unfold Builtin.List.listExtendWith
  refine wpAny_bind (wpAny_typeOf hT ?_)
  rw [if_neg (by rw [same]; decide)]
  refine wpAny_bind (iter_rt (s := { s with heap := h1 }) hit1 ?_)
  refine wpAny_bind (wpAny_holding ?_)
  refine hint_any (s := { s with heap := h1 }) hit1 ht1 hz fun b tk => ?_
  have e0 : ((items.size : Nat) : Int) - 1 - ((0 : Nat) : Int) = (items.size : Int) - 1 := by omega
  refine wpAny_ite_split (fun _ => ?_) (fun _ => ?_)
  · refine wpAny_bind (wpAny_rule ?_)
    refine wpAny_bind ?_
    show wpAny _ A.in1 (updateSeq s.heap.objs.size (·.push .none) >>= fun _ => updateSeq s.heap.objs.size (·.pop)) _ _ _
    refine wpAny_bind (wpAny_updateSeq hS rfl ?_)
    have hS2 := Heap.get?_update_self (Obj.mapSeq (·.push Value.none)) hS rfl
    refine wpAny_updateSeq hS2 rfl ?_
    have hS3 := Heap.get?_update_self (Obj.mapSeq (·.pop)) hS2 rfl
    generalize hh3 : (h1.update s.heap.objs.size (Obj.mapSeq (·.push Value.none))).update s.heap.objs.size (Obj.mapSeq (·.pop)) = h3 at hS3
    have K2 : ∀ b o, b ≠ s.heap.objs.size → h1.get? b = some o → h3.get? b = some o := fun b o hb e => by
      rw [← hh3]
      exact (Heap.get?_update_other _ _ (Ne.symm hb)).trans ((Heap.get?_update_other _ _ (Ne.symm hb)).trans e)
    refine wpAny_pure ⟨plainId_quiet F.plain_extend_loop _, codeAny_extend_loopS W hz _ n3 _ items.size 0 { s with heap := h3, toks := tk } _ _ rfl (Nat.zero_le _) ⟨Nat.zero_le _, by
        rw [e0]; exact hit1.at fun o e => K2 _ _ n1.symm e, by
        obtain ⟨o, ho, r⟩ := ht1
        exact ⟨o, K2 _ _ n2.symm ho, r⟩⟩ hS3 (ItemsOf.nil _) fun s' acc' c' hm hS' hacc => ?_⟩
    show wpAny _ A (load s.heap.objs.size >>= _) _ _ s'
    refine wpAny_bind (wpAny_load hS' ?_)
    refine wpAny_pure ?_
    rw [Moved.eq_with hm]
    refine hQ s'.heap s'.toks acc' (fun b o hb e => hm.heap b o (fun hmem => ?_) (K2 b o (Nat.ne_of_lt (Heap.lt_size e)) (keep _ _ e))) hacc
    rcases List.mem_cons.mp hmem with e' | hmem
    · exact absurd (Heap.lt_size e) (by rw [e']; exact Nat.lt_irrefl _)
    · exact hb (List.mem_singleton.mp hmem)
  · have K2 : ∀ b o, b ≠ s.heap.objs.size → h1.get? b = some o → h1.get? b = some o := fun b o _ e => e
    refine wpAny_pure ⟨plainId_quiet F.plain_extend_loop _, codeAny_extend_loopS W hz _ n3 _ items.size 0 { s with heap := h1, toks := tk } _ _ rfl (Nat.zero_le _) ⟨Nat.zero_le _, by
        rw [e0]; exact hit1.at fun o e => K2 _ _ n1.symm e, by
        obtain ⟨o, ho, r⟩ := ht1
        exact ⟨o, K2 _ _ n2.symm ho, r⟩⟩ hS (ItemsOf.nil _) fun s' acc' c' hm hS' hacc => ?_⟩
    show wpAny _ A (load s.heap.objs.size >>= _) _ _ s'
    refine wpAny_bind (wpAny_load hS' ?_)
    refine wpAny_pure ?_
    rw [Moved.eq_with hm]
    refine hQ s'.heap s'.toks acc' (fun b o hb e => hm.heap b o (fun hmem => ?_) (K2 b o (Nat.ne_of_lt (Heap.lt_size e)) (keep _ _ e))) hacc
    rcases List.mem_cons.mp hmem with e' | hmem
    · exact absurd (Heap.lt_size e) (by rw [e']; exact Nat.lt_irrefl _)
    · exact hb (List.mem_singleton.mp hmem)
theorem code_tuple_rt {it t : Addr} {items : Array Value} {Q₁ : Value → Shared → Prop} (hh : A.handled = none) (hit : IsRt s.heap it t ((items.size : Int) - 1)) (ht : IsTup s.heap t items) (hne : t ≠ it) (hz : items.size ≤ sizeLine)
    (h : ∀ (h' : Heap) (tk : Nat) (acc : Array Value), (∀ b o, b ≠ it → s.heap.get? b = some o → h'.get? b = some o) → ItemsOf (fun i v => items[items.size - 1 - i]? = some v) acc items.size →
      Q₁ (.ref h'.objs.size) { s with heap := h'.push { cls := .type "tuple", data := .seq acc }, toks := tk }) :
    codeAny (model prog w) A (.call (.builtin "tuple.__new__") ⟨[.type "tuple", .ref it], []⟩) (wants Q₁ E) s := by
  refine codeAny_of_tree ?_
  show wpAny _ A.in1 (checkBuiltinCall "tuple.__new__" ⟨[.type "tuple", .ref it], []⟩ >>= fun _ => again (.builtin "tuple.__new__" ⟨[.type "tuple", .ref it], []⟩)) _ _ s
  refine wpAny_bind (wpAny_of_eq (F.newCall_tuple_1 _) (wpAny_pure ⟨plainId_quiet F.plain_tuple_new _, codeAny_builtin F.entry_tuple_new ?_⟩))
  rw [Around.under_plainId F.plain_tuple_new _]
  have f1 := sub_tuple_self
  have f2 := init_tuple_lookup
  have f3 := madeHere_tuple
  have hTI : s.TypeIs (.ref it) "reversed" := hit.typeIs
  have f4 : A.in1.handled = none := hh
  wp_walk using wpAny_typeOf hTI, collect_rt (A := A.in1) f4 hit ht hne hz
  intro h' tk acc hk hacc
  show wpAny _ _ (Builtin.Tuple.tupleExact acc.toList.toArray >>= fun v => ret v) _ _ _
  unfold Builtin.Tuple.tupleExact
  have e : acc.toList.toArray = acc := by simp
  rw [e]
  refine wpAny_bind (wpAny_newObj_type ?_ (by show acc.size ≤ sizeLine; rw [hacc.1]; exact hz))
  exact wpAny_pure (h h' tk acc hk hacc)
theorem call_tuple_rt {it t : Addr} {items : Array Value} {Q : Value → Shared → Prop} (hh : A.handled = none) (hit : IsRt s.heap it t ((items.size : Int) - 1)) (ht : IsTup s.heap t items) (hne : t ≠ it) (hz : items.size ≤ sizeLine)
    (hQ : ∀ (h' : Heap) (tk : Nat) (acc : Array Value), (∀ b o, b ≠ it → s.heap.get? b = some o → h'.get? b = some o) → ItemsOf (fun i v => items[items.size - 1 - i]? = some v) acc items.size →
      Q (.ref h'.objs.size) { s with heap := h'.push { cls := .type "tuple", data := .seq acc }, toks := tk }) :
    wpAny (model prog w) A (call (.type "tuple") [.ref it]) Q E s := by
  refine callType_codes (Q₁ := fun obj s₁ => s₁.TypeIs obj "tuple" ∧ Q obj s₁) F.called_tuple (F.typeCall_tuple_1 _) F.entry_object_init
    (code_tuple_rt (A := A.in1) hh hit ht hne hz fun h' tk acc hk hacc => ⟨⟨_, Heap.get?_push_size _ rfl, rfl⟩, hQ h' tk acc hk hacc⟩) fun obj s₁ h₁ => ?_
  exact ⟨h₁.1, F.args_object_init_2 obj _, object_init_meets F.called_tuple.init.lookup F.called_tuple.made (by decide) prog w A.in1 _ s₁ ⟨h₁.1, rfl, h₁.2⟩⟩
end
/-- tuple(reversed(x)), x a tuple -/
def tTupRevT (K : W.Frag) (te : TE) : TE := fun σ H Q => te σ H fun v H1 => ∃ (a : Addr) (xs : List V), v = .ref a ∧ SqT K H1 a xs ∧ ∀ q, H1 q = none → Q (.ref q) (upd H1 q (.tup xs.reverse))
theorem pe_tupRevT {X : Cx} {e : Expr} {te : TE} {p p2 pos pos2 : Pos} (hc : X.calm = true) (hg : Gl X "tuple") (hm : X.mg "tuple" = none) (hg2 : Gl X "reversed") (hm2 : X.mg "reversed" = none) (he : PE X e te)
    (hs : starEach [e] X.env = (false, eval e X.env) :: starEach [] X.env := by rfl)
    (hs2 : starEach [.Call (.Name "reversed" p2) [e] [] pos2] X.env = (false, eval (.Call (.Name "reversed" p2) [e] [] pos2) X.env) :: starEach [] X.env := by rfl) :
    PE X (.Call (.Name "tuple" p) [.Call (.Name "reversed" p2) [e] [] pos2] [] pos) (tTupRevT X.K te) := by
  refine ⟨fun pins s σ H Q I h => ?_⟩
  refine Call_ (ld_blt I hg hm boot_tuple (PyProof.Rows.callWith_type1 (args_cons (Call_ (ld_blt I hg2 hm2 PyProof.Rows.boot_reversed (PyProof.Rows.callWith_type1 (args_cons (thn (he.run pins s σ H _ I h) fun u s1 ⟨v, H1, I1, r1, q1⟩ => args_nil ?_) hs) hs rfl))) hs2) hs2 rfl))
  obtain ⟨a, xs, ev, hq, q⟩ := q1
  subst ev
  obtain rfl : u = Value.ref a := r1
  obtain ⟨its, rv, p', hz⟩ := I1.tuple hq
  have hl := rv.length
  have hn : its.toArray.size ≤ sizeLine := by rw [List.size_toArray, ← rv.length]; exact hz
  have h63 := line63
  refine call_reversed_tup p' (fun A E Q k => len_tuple p' (by simp only [List.size_toArray] <;> omega) k) (args_nil ?_)
  generalize hh2 : s1.heap.push (rtObj a (((its.toArray.size : Nat) : Int) - 1)) = h2
  have k0 : ∀ b o, s1.heap.get? b = some o → h2.get? b = some o := fun b o e => by rw [← hh2]; exact Heap.get?_push_of_some _ e
  have hr : h2.get? s1.heap.objs.size = some (rtObj a (((its.toArray.size : Nat) : Int) - 1)) := by rw [← hh2]; exact Heap.get?_push_size _ rfl
  have I2 : Inv X pins σ H1 { s1 with heap := h2, toks := s1.toks + 1 + 1 } := I1.kept k0
  obtain ⟨f0, f1, f2, f3, f4, f5⟩ := I1.fpOk (H' := H1) (b := s1.heap.objs.size) (Nat.le_refl _) (I1.hok.fresh (Nat.le_refl _))
  obtain ⟨ot, hot, rt⟩ := id p'
  have hne : a ≠ s1.heap.objs.size := Nat.ne_of_lt (Heap.lt_size hot)
  refine call_tuple_rt (s := { s1 with heap := h2, toks := s1.toks + 1 + 1 }) (I1.ok.hd hc) ⟨_, hr, rfl, rfl⟩ ⟨ot, k0 _ _ hot, rt⟩ hne hn fun h' tk acc hk hi => ?_
  have I3 : Inv X pins σ H1 { s1 with heap := h', toks := tk } := I2.turned (t' := tk) (fun b o hb e => hk b o hb e) f0 f1 f3 f4 f5
  refine ⟨.ref h'.objs.size, upd H1 h'.objs.size (.tup xs.reverse), I3.laid (t' := tk) (fun c o e => Heap.get?_push_of_some _ e) (Nat.le_refl _) (show ObjOk X.prog X.w _ _ _ (.tup xs.reverse) from ⟨by rw [List.length_reverse]; exact hz, acc.toList, vals_rev rv hi, ?_⟩), rfl, q _ (I3.hok.fresh (Nat.le_refl _))⟩
  rw [Array.toArray_toList]
  exact IsTup.new _ _
section
variable {X : Cx} {Z : Z0} {E : XK} {pos : Pos} {a : Expr} {ta : TE} {fa : Sx}
def dTupRev : Dv → Option Dv
  | .tup ds => some (.tup ds.reverse)
  | .lst ds => some (.tup ds.reverse)
  | _ => none
theorem e_tupRev {p p2 pos2 : Pos} (hc : X.calm = true) (hm : X.mg "tuple" = none) (hm2 : X.mg "reversed" = none) (ha : DE X Z E a ta fa) (hg : Gl X "tuple" := by rfl) (hg2 : Gl X "reversed" := by rfl) (hs : starEach [a] X.env = (false, eval a X.env) :: starEach [] X.env := by rfl)
    (hs2 : starEach [.Call (.Name "reversed" p2) [a] [] pos2] X.env = (false, eval (.Call (.Name "reversed" p2) [a] [] pos2) X.env) :: starEach [] X.env := by rfl) {K0 : W.Frag} (hK0 : X.K = K0 := by rfl) :
    DE X Z E (.Call (.Name "tuple" p) [.Call (.Name "reversed" p2) [a] [] pos2] [] pos) (fun σ H Q => tTupRev K0 ta σ H Q ∨ tTupRevT K0 ta σ H Q) (fUn dTupRev fa) := by subst hK0; exact ⟨pe_or2 (pe_tupRev hc hg hm hg2 hm2 ha.pe hs hs2) (pe_tupRevT hc hg hm hg2 hm2 ha.pe hs hs2), fun F ow σ H ρ w Q R q => by
  unfold fUn at q
  cases e : fa ρ w with
  | stuck => rw [e] at q; exact q.elim
  | rz x w1 =>
    left
    refine ha.sn F ow σ H ρ w _ R ?_
    rw [e] at q ⊢; exact q
  | ok d w1 =>
    cases d with
    | lst ds =>
      left
      refine ha.sn F ow σ H ρ w _ R ?_
      rw [e] at q ⊢
      intro v H1 F1 ow1 s1 R1 r1
      cases r1 with
      | @lst b vs _ hs ra =>
        refine ⟨b, vs, rfl, R1.sub.seq (SqL.of hs), fun q' nq => ?_⟩
        have g := Gr.new R1.sub (.tup vs.reverse) nq
        exact q _ _ _ ow1 (s1.trans g.ff) (R1.grow g) (.tup (.of upd_same) (ra.reverse.mono g.ff))
    | tup ds =>
      right
      refine ha.sn F ow σ H ρ w _ R ?_
      rw [e] at q ⊢
      intro v H1 F1 ow1 s1 R1 r1
      cases r1 with
      | @tup b vs _ hs ra =>
        refine ⟨b, vs, rfl, sameT R1.sub hs, fun q' nq => ?_⟩
        have g := Gr.new R1.sub (.tup vs.reverse) nq
        exact q _ _ _ ow1 (s1.trans g.ff) (R1.grow g) (.tup (.of upd_same) (ra.reverse.mono g.ff))
    | _ => rw [e] at q; exact q.elim⟩
end
end DL

namespace DL
open PySem PySem.Spec PyProof.Rows L2
/-! ### constants of the module -/
structure Glo (K : W.Frag) (mg : Str → Option Value) (x : Str) (v : V) (d : Dv) : Prop where
  at' : ∃ u, mg x = some u ∧ RelV v u
  rp : ∀ F, Rp K F v d
section
variable {X : Cx} {Z : Z0} {E : XK} {pos : Pos}
theorem e_gl {x : Str} {v : V} {d : Dv} (c : Glo X.K X.mg x v d) (hg : Gl X x := by rfl) (hd : (x == ("__debug__" : Str)) = false := by decide) : DE X Z E (.Name x pos) (tC v) (fC d) := by
  obtain ⟨u, hm, r⟩ := c.at'
  exact e_glob hg hm r c.rp hd
end
theorem glo_int {K : W.Frag} {mg : Str → Option Value} {x : Str} {i : Int} {t : Tok} (h : mg x = some (.int i t)) : Glo K mg x (.int i) (.int i) := ⟨⟨_, h, ⟨t, rfl⟩⟩, fun _ => .int i⟩
theorem glo_str {K : W.Frag} {mg : Str → Option Value} {x : Str} {i : Str} {t : Tok} (h : mg x = some (.str i t)) : Glo K mg x (.str i) (.str i) := ⟨⟨_, h, ⟨t, rfl⟩⟩, fun _ => .str i⟩

mutual
inductive KRp (K : W.Frag) : Value → Dv → Prop
  | int (i : Int) (t : Tok) : KRp K (.int i t) (.int i)
  | str (s : Str) (t : Tok) : KRp K (.str s t) (.str s)
  | tup {a : Addr} {o : Obj} {its : Array Value} {n : Nat} {ds : List Dv} : K.lookup a = some o → o.cls = .type "tuple" → o.data = .seq its n → its.size ≤ sizeLine → KRps K its.toList ds → KRp K (.ref a) (.tup ds)
inductive KRps (K : W.Frag) : List Value → List Dv → Prop
  | nil : KRps K [] []
  | cons {u : Value} {us : List Value} {d : Dv} {ds : List Dv} : KRp K u d → KRps K us ds → KRps K (u :: us) (d :: ds)
end
def vOf : Value → V
  | .none => .non
  | .bool b => .bl b
  | .int i _ => .int i
  | .str s _ => .str s
  | .ref a => .ref a
  | _ => .non
mutual
theorem KRp.ok {K : W.Frag} : ∀ {u : Value} {d : Dv}, KRp K u d → RelV (vOf u) u ∧ ∀ F, Rp K F (vOf u) d
  | _, _, .int i t => ⟨⟨t, rfl⟩, fun _ => .int i⟩
  | _, _, .str s t => ⟨⟨t, rfl⟩, fun _ => .str s⟩
  | _, _, .tup (its := its) (ds := ds) h1 h2 h3 h4 h5 => ⟨rfl, fun F => .tup (xs := its.toList.map vOf) (.inr ⟨_, its, _, h1, h2, h3, h4, (KRps.ok h5).1⟩) ((KRps.ok h5).2 F)⟩
theorem KRps.ok {K : W.Frag} : ∀ {us : List Value} {ds : List Dv}, KRps K us ds → Vals (us.map vOf) us ∧ ∀ F, RpAll K F (us.map vOf) ds
  | _, _, .nil => ⟨.nil, fun _ => .nil⟩
  | _, _, .cons h t => ⟨.cons (KRp.ok h).1 (KRps.ok t).1, fun F => .cons ((KRp.ok h).2 F) ((KRps.ok t).2 F)⟩
end
theorem glo_tup {K : W.Frag} {mg : Str → Option Value} {x : Str} {u : Value} {d : Dv} (h : mg x = some u) (r : KRp K u d) : Glo K mg x (vOf u) d := ⟨⟨_, h, r.ok.1⟩, r.ok.2⟩
def dNeg : Dv → Option Dv
  | .int i => some (.int (-i))
  | _ => none
theorem u_negD {K : W.Frag} : UnS K (rU fun i => .int (-i)) dNeg := fun F H x d z Q ez sub rx h => by
  cases d with
  | int i => cases ez; cases rx; exact ⟨i, rfl, h _ F H (Gr.refl sub) (.int _)⟩
  | _ => cases ez
end DL
namespace DL
open PySem PySem.Spec PyProof.Rows L2
/-- THE RULE, with its numbers told -/
theorem fnE {P : Program} {w : World} {K : W.Frag} {mg : Str → Option Value} {base : Heap} {x qual : Str} {st : Stmt} {f : Addr} {fd : FuncData} {N ps : List Str} {k : Nat} (g : Ss) (nN n : Nat) (S : FnScope N ps (defScope st)) (hN : N.length = nN) (hn : ps.length = n) (F : Fun K x qual st f fd)
    (hb : ∀ (cdv : Value) (A : Around) (outer : List Env) (s : Shared) (H : Hp) (E : XK), Room k (A.deeper (envOfC qual (defScope st) s.heap.objs.size f cdv)) →
      ∃ t, ∀ Z, DB (cxOf (L2.CX P w) P w K mg base N qual (defScope st) f cdv A outer s H E) Z E (defBody st) t g) (hl : n ≤ nN) :
    FnOk P w K mg base (L2.CX P w) (k + 1) f fd ps (spD K n (semOf nN g)) := by
  subst hN hn
  exact fnD F S hb hl
end DL

namespace DL
open PySem PySem.Spec PyProof.Rows L2
/-! ### rules whose fragment is told apart (for the blocks of comprehensions) -/
section
variable {X : Cx} {K0 : W.Frag}
theorem k_eq (hu : X.A.units + 64 < cLine) (hK0 : X.K = K0 := by rfl) : OpR X (compareOp .Eq) (rEqD K0) := by subst hK0; exact op_eqD hu
theorem k_ne (hu : X.A.units + 64 < cLine) (hK0 : X.K = K0 := by rfl) : OpR X (compareOp .NotEq) (rNeD K0) := by subst hK0; exact op_neD hu
theorem k_in (hK0 : X.K = K0 := by rfl) : OpR X (compareOp .In) (rIn K0 false) := by subst hK0; exact op_in_seq
theorem k_notIn (hK0 : X.K = K0 := by rfl) : OpR X (compareOp .NotIn) (rIn K0 true) := by subst hK0; exact op_notIn_seq
theorem k_len (hK0 : X.K = K0 := by rfl) : CallR X (.builtin "len") (fun xs H Q => ∃ x n, xs = [x] ∧ LenV K0 x H n ∧ Q (.int n) H) := by subst hK0; exact call_len
theorem k_all (hc : X.calm = true) (hK0 : X.K = K0 := by rfl) : CallR X (.builtin "all") (rAll K0) := by subst hK0; exact cr_all hc
theorem k_any (hc : X.calm = true) (hK0 : X.K = K0 := by rfl) : CallR X (.builtin "any") (rAny K0) := by subst hK0; exact cr_any hc
theorem k_sum (hc : X.calm = true) (hK0 : X.K = K0 := by rfl) : CallR X (.builtin "sum") (rSum K0) := by subst hK0; exact cr_sum hc
theorem k_sorted (hu : X.A.units + 64 < cLine) (hK0 : X.K = K0 := by rfl) : CallR X (.builtin "sorted") (rSortedD K0) := by subst hK0; exact cr_sortedD hu
theorem k_list (hK0 : X.K = K0 := by rfl) : CallR X (.type "list") (fun xs H Q => ∃ p ys, xs = [.ref p] ∧ (SqL K0 H p ys ∨ SqT K0 H p ys) ∧ ∀ l, H l = none → Q (.ref l) (upd H l (.lst ys))) := by subst hK0; exact call_list_of
variable {pos p : Pos}
theorem pa_ty {T : Str} {T' : String} {es : List Expr} {t : TA} (hm : X.mg T = none) (hv : bootBuiltins T = some (.type T')) (hr : PA X es t) (hg : Gl X T := by rfl) (hn : T ≠ "__name__" := by decide) (hd : (T == ("__debug__" : Str)) = false := by decide)
    (hs : starEach (.Name T p :: es) X.env = (false, eval (.Name T p) X.env) :: starEach es X.env := by rfl) : PA X (.Name T p :: es) (tCons (tC (.ty T')) t) := pa_cons (pe_bltn hg hm hv rfl hn hd) hr hs
variable {Z : Z0} {E : XK} {c a b : Expr} {tA tB tC : TT} {fc fa fb : Sb}
/-- a if t else b, as a test -/
def tIfT (t ta tb : TT) : TT := fun σ H Q => t σ H fun c H1 => if c = true then ta σ H1 Q else tb σ H1 Q
theorem pt_ifExp (hc : PT X c tA) (ha : PT X a tB) (hb : PT X b tC) : PT X (.IfExp c a b pos) (tIfT tA tB tC) := by
  refine ⟨fun pins s σ H Q I h => ?_⟩
  rw [PySem.isTrue]
  refine wpAny_bind (thn (hc.run pins s σ H _ I h) fun d s1 ⟨H1, I1, q1⟩ => ?_)
  cases d with
  | true => exact ha.run pins s1 σ H1 Q I1 q1
  | false => exact hb.run pins s1 σ H1 Q I1 q1
def fIfT (fc fa fb : Sb) : Sb := fun ρ w => (fc ρ w).bind fun b w1 => if b = true then fa ρ w1 else fb ρ w1
theorem t_if (hc : DT X Z E c tA fc) (ha : DT X Z E a tB fa) (hb : DT X Z E b tC fb) : DT X Z E (.IfExp c a b pos) (tIfT tA tB tC) (fIfT fc fa fb) := ⟨pt_ifExp hc.pt ha.pt hb.pt, fun F ow σ H ρ w Q R q =>
  hc.sn.seq R q fun k w1 H1 F1 ow1 s1 R1 q1 => by
    cases k with
    | true => rw [if_pos rfl] at q1 ⊢; exact ha.sn F1 ow1 σ H1 ρ w1 Q R1 (q1.imp fun d w h H' F' ow' s => h H' F' ow' (s1.trans s))
    | false => rw [if_neg Bool.false_ne_true] at q1 ⊢; exact hb.sn F1 ow1 σ H1 ρ w1 Q R1 (q1.imp fun d w h H' F' ow' s => h H' F' ow' (s1.trans s))⟩
end
end DL

namespace DL
open PySem PySem.Spec PyProof.Rows L2

/-! ### how the readings compute -/
@[simp] theorem x_var (i : Nat) (ρ : List EV) (w : DS) : fVar i ρ w = match ρ[i]? with | some (.dat d) => .ok d w | _ => .stuck := rfl
@[simp] theorem x_c (d : Dv) (ρ : List EV) (w : DS) : fC d ρ w = .ok d w := rfl
@[simp] theorem x_op (op : Dv → Dv → Option Dv) (fa fb : Sx) (ρ : List EV) (w : DS) : fOp op fa fb ρ w = (fa ρ w).bind fun d w1 => (fb ρ w1).bind fun e w2 => .of (op d e) w2 := rfl
@[simp] theorem x_un (op : Dv → Option Dv) (fa : Sx) (ρ : List EV) (w : DS) : fUn op fa ρ w = (fa ρ w).bind fun d w1 => .of (op d) w1 := rfl
@[simp] theorem x_bool (f : Sx) (ρ : List EV) (w : DS) : fBool f ρ w = (f ρ w).bind fun d w1 => match d with | .bl b => .ok b w1 | _ => .stuck := rfl
@[simp] theorem x_and (fa fb : Sb) (ρ : List EV) (w : DS) : fAnd fa fb ρ w = (fa ρ w).bind fun b w1 => if b = true then fb ρ w1 else .ok false w1 := rfl
@[simp] theorem x_or (fa fb : Sb) (ρ : List EV) (w : DS) : fOr fa fb ρ w = (fa ρ w).bind fun b w1 => if b = true then .ok true w1 else fb ρ w1 := rfl
@[simp] theorem x_not (fa : Sb) (ρ : List EV) (w : DS) : fNot fa ρ w = (fa ρ w).bind fun b w1 => .ok (!b) w1 := rfl
@[simp] theorem x_if (fc : Sb) (fa fb : Sx) (ρ : List EV) (w : DS) : fIf fc fa fb ρ w = (fc ρ w).bind fun b w1 => if b = true then fa ρ w1 else fb ρ w1 := rfl
@[simp] theorem x_ifT (fc fa fb : Sb) (ρ : List EV) (w : DS) : fIfT fc fa fb ρ w = (fc ρ w).bind fun b w1 => if b = true then fa ρ w1 else fb ρ w1 := rfl
@[simp] theorem x_nil (ρ : List EV) (w : DS) : aNil ρ w = .ok [] w := rfl
@[simp] theorem x_cons (fa : Sx) (fr : Sa) (ρ : List EV) (w : DS) : aCons fa fr ρ w = (fa ρ w).bind fun d w1 => (fr ρ w1).bind fun ps w2 => .ok (.dat d :: ps) w2 := rfl
@[simp] theorem x_new (fl : Sl) (fr : Sa) (ρ : List EV) (w : DS) : aNew fl fr ρ w = (fl ρ w).bind fun ds w1 => (fr ρ w1).bind fun ps w2 => .ok (.lst ds :: ps) w2 := rfl
@[simp] theorem x_drw (i : Nat) (fr : Sa) (ρ : List EV) (w : DS) : aDrw i fr ρ w = match ρ[i]? with | some .drw => (fr ρ w).bind fun ps w2 => .ok (.drw :: ps) w2 | _ => .stuck := rfl
@[simp] theorem x_dats (fa : Sa) (ρ : List EV) (w : DS) : fDats fa ρ w = (fa ρ w).bind fun ps w1 => .of (datsOf ps) w1 := rfl
@[simp] theorem x_tup (fa : Sa) (ρ : List EV) (w : DS) : fTup fa ρ w = (fDats fa ρ w).bind fun ds w1 => if ds.length ≤ big then .ok (.tup ds) w1 else .stuck := rfl
@[simp] theorem x_lst (fa : Sa) (ρ : List EV) (w : DS) : fLst fa ρ w = (fDats fa ρ w).bind fun ds w1 => if ds.length ≤ big then .ok ds w1 else .stuck := rfl
@[simp] theorem x_cb (op : List Dv → Option Dv) (fa : Sa) (ρ : List EV) (w : DS) : fCB op fa ρ w = (fDats fa ρ w).bind fun ds w1 => .of (op ds) w1 := rfl
@[simp] theorem x_cn (op : List Dv → Option (List Dv)) (fa : Sa) (ρ : List EV) (w : DS) : fCN op fa ρ w = (fDats fa ρ w).bind fun ds w1 => .of (op ds) w1 := rfl
@[simp] theorem x_frz (f : Sl) (ρ : List EV) (w : DS) : fFrz f ρ w = (f ρ w).bind fun ds w => .ok (.lst ds) w := rfl
@[simp] theorem x_call (sem : Fsem) (fa : Sa) (ρ : List EV) (w : DS) : fCall sem fa ρ w = (fa ρ w).bind fun ps w1 => sem ps w1 := rfl
@[simp] theorem x_andV (fa fb : Sx) (ρ : List EV) (w : DS) : fAndV fa fb ρ w = (fa ρ w).bind fun d w1 => match d with | .bl true => fb ρ w1 | .bl false => .ok (.bl false) w1 | _ => .stuck := rfl
@[simp] theorem x_orV (fa fb : Sx) (ρ : List EV) (w : DS) : fOrV fa fb ρ w = (fa ρ w).bind fun d w1 => match d with | .bl false => fb ρ w1 | .bl true => .ok (.bl true) w1 | _ => .stuck := rfl
@[simp] theorem x_notV (fa : Sx) (ρ : List EV) (w : DS) : fNotV fa ρ w = (fa ρ w).bind fun d w1 => match d with | .bl b => .ok (.bl (!b)) w1 | _ => .stuck := rfl
@[simp] theorem x_isi (ns : List String) (fa : Sx) (ρ : List EV) (w : DS) : fIsi ns fa ρ w = (fa ρ w).bind fun d w1 => .of ((tyN d).map fun t => .bl (ns.any fun n => isB t n)) w1 := rfl
@[simp] theorem x_items (fa : Sx) (ρ : List EV) (w : DS) : fItems fa ρ w = (fa ρ w).bind fun d w1 => .of (itemsS d) w1 := rfl
@[simp] theorem x_enum (fa : Sx) (ρ : List EV) (w : DS) : fEnum fa ρ w = (fa ρ w).bind fun d w1 => .of ((itemsOf d).map (enumD 0)) w1 := rfl
@[simp] theorem x_next (ρ : List EV) (w : DS) : gNext ρ w = .ok (.nx ρ) w := rfl
@[simp] theorem x_seq (g h : Ss) (ρ : List EV) (w : DS) : gSeq g h ρ w = (g ρ w).bind fun s w1 => match s with | .nx ρ1 => h ρ1 w1 | s => .ok s w1 := rfl
@[simp] theorem x_set (i : Nat) (f : Sx) (ρ : List EV) (w : DS) : gSet i f ρ w = (f ρ w).bind fun d w1 => .ok (.nx (ρ.set i (.dat d))) w1 := rfl
@[simp] theorem x_setN (i : Nat) (f : Sl) (ρ : List EV) (w : DS) : gSetN i f ρ w = (f ρ w).bind fun ds w1 => .ok (.nx (ρ.set i (.lst ds))) w1 := rfl
@[simp] theorem x_drop (f : Sx) (ρ : List EV) (w : DS) : gDrop f ρ w = (f ρ w).bind fun _ w1 => .ok (.nx ρ) w1 := rfl
@[simp] theorem x_ret (f : Sx) (ρ : List EV) (w : DS) : gRet f ρ w = (f ρ w).bind fun d w1 => .ok (.rt d) w1 := rfl
@[simp] theorem x_ifS (fc : Sb) (g h : Ss) (ρ : List EV) (w : DS) : gIf fc g h ρ w = (fc ρ w).bind fun b w1 => if b = true then g ρ w1 else h ρ w1 := rfl
@[simp] theorem x_asg (f : Sx) (g : Sg) (ρ : List EV) (w : DS) : gAsg f g ρ w = (f ρ w).bind fun d w1 => match g d ρ with | some ρ1 => .ok (.nx ρ1) w1 | none => .stuck := rfl
@[simp] theorem x_par (is : List Nat) (f : Sa) (ρ : List EV) (w : DS) : gPar is f ρ w = (f ρ w).bind fun es w1 => if es.length = is.length then .ok (.nx (setsE is es ρ)) w1 else .stuck := rfl
@[simp] theorem x_for (f : Sl) (k : Sg) (g : Ss) (ρ : List EV) (w : DS) : gFor f k g ρ w = (f ρ w).bind fun items w1 => loopD k g items ρ w1 := rfl
@[simp] theorem x_frzS (i : Nat) (g : Ss) (ρ : List EV) (w : DS) : gFrz i g ρ w = match (ρ[i]?).bind lent with | some d => g (ρ.set i (.dat d)) w | none => .stuck := rfl
@[simp] theorem x_app (i : Nat) (f : Sf) (ρ : List EV) (w : DS) : gApp i f ρ w = match ρ[i]? with
  | some (.lst _) => (f ρ w).bind fun p w1 => match p.2[i]? with
    | some (.lst ds) => if ds.length < big then .ok (.nx (p.2.set i (.lst (ds ++ [p.1])))) w1 else .stuck
    | _ => .stuck
  | _ => .stuck := rfl
@[simp] theorem x_putL (i : Nat) (fi fv : Sx) (ρ : List EV) (w : DS) : gPutL i fi fv ρ w = (fv ρ w).bind fun d w1 => match ρ[i]? with
  | some (.lst _) => (fi ρ w1).bind fun k w2 => match k, ρ[i]? with
    | .int k, some (.lst ds) => match ixN ds.length k with
      | some j => .ok (.nx (ρ.set i (.lst (ds.set j d)))) w2
      | none => .stuck
    | _, _ => .stuck
  | _ => .stuck := rfl
@[simp] theorem x_pure (f : Sx) (ρ : List EV) (w : DS) : fPure f ρ w = (f ρ w).bind fun d w1 => .ok (d, ρ) w1 := rfl
@[simp] theorem x_kName (i : Nat) (d : Dv) (ρ : List EV) : kName i d ρ = some (ρ.set i (.dat d)) := rfl
@[simp] theorem x_kTup (n : Nat) (gs : Sgs) (ds : List Dv) (ρ : List EV) : kTup n gs (.tup ds) ρ = if ds.length = n then gs ds ρ else none := rfl
@[simp] theorem x_kCons (g : Sg) (gs : Sgs) (d : Dv) (ds : List Dv) (ρ : List EV) : kCons g gs (d :: ds) ρ = (g d ρ).bind fun ρ1 => gs ds ρ1 := rfl
@[simp] theorem x_kNil (ρ : List EV) : kNil [] ρ = some ρ := rfl
theorem semOf_eq {n : Nat} {g : Ss} {ps : List EV} {w : DS} : semOf n g ps w = match g (ps ++ List.replicate (n - ps.length) .un) w with
  | .ok (.rt d) w' => .ok d w'
  | .ok (.nx _) w' => .ok .non w'
  | .ok _ _ => .stuck
  | .rz x w' => .rz x w'
  | .stuck => .stuck := rfl
@[simp] theorem x_datsNil : datsOf [] = some [] := rfl
@[simp] theorem x_datsCons (d : Dv) (r : List EV) : datsOf (.dat d :: r) = (datsOf r).map (d :: ·) := rfl
@[simp] theorem x_addI (a b : Int) : dAdd (.int a) (.int b) = some (.int (a + b)) := rfl
theorem dI_eq (g : Int → Int → Dv) (a b : Int) : dI g (.int a) (.int b) = some (g a b) := rfl
theorem le_big {n : Nat} (h : n ≤ 1000000) : n ≤ big := Nat.le_trans h (by decide)
@[simp] theorem one_big : (1 : Nat) ≤ big := by decide
@[simp] theorem two_big : (2 : Nat) ≤ big := by decide
@[simp] theorem zero_big : (0 : Nat) ≤ big := by decide
@[simp] theorem x_items_tup (ds : List Dv) : itemsS (.tup ds) = some ds := rfl
@[simp] theorem x_items_lst (ds : List Dv) : itemsS (.lst ds) = some ds := rfl
@[simp] theorem x_itemsOf_tup (ds : List Dv) : itemsOf (.tup ds) = some ds := rfl
@[simp] theorem x_itemsOf_lst (ds : List Dv) : itemsOf (.lst ds) = some ds := rfl
@[simp] theorem x_len_tup (ds : List Dv) : dLen [.tup ds] = some (.int ds.length) := rfl
@[simp] theorem x_len_lst (ds : List Dv) : dLen [.lst ds] = some (.int ds.length) := rfl
@[simp] theorem x_tupOf_tup (ds : List Dv) : dTupOf (.tup ds) = some (.tup ds) := rfl
@[simp] theorem x_tupOf_lst (ds : List Dv) : dTupOf (.lst ds) = some (.tup ds) := rfl
@[simp] theorem x_tupRev_tup (ds : List Dv) : dTupRev (.tup ds) = some (.tup ds.reverse) := rfl
@[simp] theorem x_tupRev_lst (ds : List Dv) : dTupRev (.lst ds) = some (.tup ds.reverse) := rfl
@[simp] theorem x_neg (i : Int) : dNeg (.int i) = some (.int (-i)) := rfl

/-! ### loops -/
/-- a loop whose body turns one state into the next -/
theorem loopD_fold {α σ : Type} {k : Sg} {g : Ss} {w : DS} (c : α → Dv) (r : σ → List EV) (step : σ → α → σ) : ∀ (l : List α) (s : σ), (∀ s x, x ∈ l → ∃ ρ1, k (c x) (r s) = some ρ1 ∧ g ρ1 w = .ok (.nx (r (step s x))) w) → loopD k g (l.map c) (r s) w = .ok (.nx (r (l.foldl step s))) w
  | [], s, _ => rfl
  | x :: l, s, h => by
    obtain ⟨ρ1, h1, h2⟩ := h s x List.mem_cons_self
    rw [List.map_cons, loopD]
    simp only [h1, h2, RR.bind_ok]
    exact loopD_fold c r step l (step s x) fun s y hy => h s y (List.mem_cons_of_mem _ hy)
/-- the same with what holds of the state -/
theorem loopD_inv {α : Type} {k : Sg} {g : Ss} {w : DS} (c : α → Dv) (I : List α → List EV → Prop) : ∀ (l done : List α) (ρ : List EV), I done ρ → (∀ done x ρ, x ∈ l → I done ρ → ∃ ρ1 ρ2, k (c x) ρ = some ρ1 ∧ g ρ1 w = .ok (.nx ρ2) w ∧ I (done ++ [x]) ρ2) →
    ∃ ρ', loopD k g (l.map c) ρ w = .ok (.nx ρ') w ∧ I (done ++ l) ρ'
  | [], done, ρ, h, _ => ⟨ρ, rfl, by rw [List.append_nil]; exact h⟩
  | x :: l, done, ρ, h, hs => by
    obtain ⟨ρ1, ρ2, h1, h2, h3⟩ := hs done x ρ List.mem_cons_self h
    obtain ⟨ρ', e, hi⟩ := loopD_inv c I l (done ++ [x]) ρ2 h3 fun d y ρ hy => hs d y ρ (List.mem_cons_of_mem _ hy)
    refine ⟨ρ', ?_, by rw [List.append_assoc] at hi; exact hi⟩
    rw [List.map_cons, loopD]
    simp only [h1, h2, RR.bind_ok]
    exact e
end DL

namespace DL
open PySem PySem.Spec PyProof.Rows L2

/-! ### sorted ints -/
theorem leD_int (a b : Int) : leD (.int a) (.int b) = decide (a ≤ b) := by
  show (!PyProof.Rows.lexLt itemOrd (W.keyToks (.int b)) (W.keyToks (.int a))) = _
  show (!PyProof.Rows.lexLt itemOrd [.inl b] [.inl a]) = _
  have e : PyProof.Rows.lexLt itemOrd [.inl b] [.inl a] = decide (b < a) := by
    unfold PyProof.Rows.lexLt
    by_cases h : b < a
    · simp [itemOrd, itemLt, h]
    · simp [itemOrd, itemLt, h, PyProof.Rows.lexLt]
  rw [e]
  by_cases h : b < a
  · rw [decide_eq_true h, decide_eq_false (by omega)]; rfl
  · rw [decide_eq_false h, decide_eq_true (by omega)]; rfl
theorem sort_ok {l : List Int} : W.AllAlike ((l.map Dv.int).map toPy) ∧ W.Sortable ((l.map Dv.int).map toPy) ∧ ∀ d ∈ l.map Dv.int, (toPy d).canLay0 = true ∧ (toPy d).depth ≤ 60 := by
  refine ⟨fun d hd e he => ?_, .inr fun d hd => ?_, fun d hd => And.intro ?_ ?_⟩
  · rw [List.map_map, List.mem_map] at hd he
    obtain ⟨i, _, rfl⟩ := hd
    obtain ⟨j, _, rfl⟩ := he
    rfl
  · rw [List.map_map, List.mem_map] at hd
    obtain ⟨i, _, rfl⟩ := hd
    refine And.intro ?_ ?_
    · intro z; cases z
    · intro _ z; cases z
  · rw [List.mem_map] at hd
    obtain ⟨i, _, rfl⟩ := hd
    rfl
  · rw [List.mem_map] at hd
    obtain ⟨i, _, rfl⟩ := hd
    exact Nat.zero_le 60
theorem sort_ints (l : List Int) : (l.map Dv.int).mergeSort leD = (l.mergeSort fun a b => decide (a ≤ b)).map Dv.int := by
  have e : ∀ l : List Int, ((l.map Dv.int).mergeSort leD) = (l.mergeSort fun a b => leD (.int a) (.int b)).map Dv.int := fun l => (List.map_mergeSort (f := Dv.int) (r := fun a b => leD (.int a) (.int b)) (s := leD) fun a _ b _ => rfl).symm
  rw [e]
  congr 2
  funext a b
  exact leD_int a b
theorem dSorted_tup (l : List Int) : dSorted [.tup (l.map .int)] = some ((l.mergeSort fun a b => decide (a ≤ b)).map .int) := by
  unfold dSorted
  rw [← sort_ints]
  exact if_pos sort_ok
theorem dSorted_lst (l : List Int) : dSorted [.lst (l.map .int)] = some ((l.mergeSort fun a b => decide (a ≤ b)).map .int) := by
  unfold dSorted
  rw [← sort_ints]
  exact if_pos sort_ok

/-! ### rows -/
def natD (l : List Nat) : List Dv := l.map fun x : Nat => Dv.int (x : Int)
def rowD (p : List Nat) : Dv := .tup (natD p)
structure IsRow (p : List Nat) : Prop where
  perm : p.Perm (List.range p.length)
  len : p.length ≤ 40
theorem natD_eq (l : List Nat) : natD l = (l.map fun x : Nat => (x : Int)).map .int := by unfold natD; rw [List.map_map]; rfl
@[simp] theorem natD_length (l : List Nat) : (natD l).length = l.length := List.length_map _
theorem natD_append (l m : List Nat) : natD (l ++ m) = natD l ++ natD m := List.map_append
theorem natD_reverse (l : List Nat) : natD l.reverse = (natD l).reverse := List.map_reverse
theorem natD_get {l : List Nat} {i : Nat} : (natD l)[i]? = l[i]?.map fun x : Nat => Dv.int (x : Int) := List.getElem?_map
theorem natD_inj {l m : List Nat} : natD l = natD m ↔ l = m := ⟨fun h => (List.map_inj_right (f := fun x : Nat => Dv.int (x : Int)) (fun x y e => Int.ofNat.inj (Dv.int.inj e))).mp h, fun h => by rw [h]⟩
theorem rowD_inj {l m : List Nat} : rowD l = rowD m ↔ l = m := ⟨fun h => natD_inj.mp (Dv.tup.inj h), fun h => by rw [h]⟩
theorem okn_natD {n : Nat} {l : List Nat} : ∀ d ∈ natD l, okn n d := fun d h => by
  obtain ⟨i, _, rfl⟩ := List.mem_map.mp h
  exact okn_int _
theorem okc_row (p : List Nat) : okc (rowD p) := (okn_tup (n := 0) okn_natD).c
theorem okc_nats (p : List Nat) : okc (.lst (natD p)) := (okn_lst (n := 0) okn_natD).c
theorem rgD_nat (n : Nat) : rgD 0 (n : Int) = natD (List.range n) := by
  unfold rgD natD
  rw [show ((n : Int) - 0).toNat = n by omega]
  congr 1
  funext i
  rw [Int.zero_add]
theorem IsRow.sorted {p : List Nat} (h : IsRow p) : ((p.map fun x : Nat => (x : Int)).mergeSort fun a b => decide (a ≤ b)) = (List.range p.length).map fun x : Nat => (x : Int) := by
  have s1 := List.pairwise_mergeSort (le := fun a b : Int => decide (a ≤ b)) (fun a b c h1 h2 => by simp only [decide_eq_true_eq] at *; omega) (fun a b => by simp only [Bool.or_eq_true, decide_eq_true_eq]; omega) (p.map fun x : Nat => (x : Int))
  have p1 := (List.mergeSort_perm (p.map fun x : Nat => (x : Int)) fun a b : Int => decide (a ≤ b)).trans (h.perm.map fun x : Nat => (x : Int))
  refine List.Perm.eq_of_pairwise (le := fun a b : Int => decide (a ≤ b) = true) (fun a b _ _ h1 h2 => by simp only [decide_eq_true_eq] at *; omega) s1 ?_ p1
  refine List.Pairwise.map _ (fun a b (hab : a < b) => ?_) List.pairwise_lt_range
  simp only [decide_eq_true_eq]; omega
theorem ixN_nat {n i : Nat} (h : i < n) : ixN n (i : Int) = some i := by
  unfold ixN
  rw [if_pos (by omega), if_pos (by omega)]
  rfl
theorem ixN_last {n : Nat} (h : 0 < n) : ixN n (-1) = some (n - 1) := by
  unfold ixN
  rw [if_neg (by omega), if_pos (by omega)]
  congr 1
  omega
theorem dSubI_tup {ds : List Dv} {i : Nat} {d : Dv} (h : ds[i]? = some d) : dSubI (.tup ds) (.int (i : Int)) = some d := by
  show dIx (.tup ds) (.int (i : Int)) = some d
  show L2.atI ds (i : Int) = some d
  unfold L2.atI
  rw [ixN_nat (List.getElem?_eq_some_iff.mp h).1]
  exact h
theorem dSubI_lst {ds : List Dv} {i : Nat} {d : Dv} (h : ds[i]? = some d) : dSubI (.lst ds) (.int (i : Int)) = some d := by
  show L2.atI ds (i : Int) = some d
  unfold L2.atI
  rw [ixN_nat (List.getElem?_eq_some_iff.mp h).1]
  exact h
theorem dSubI_tupL {ds : List Dv} {d : Dv} (h : ds.getLast? = some d) : dSubI (.tup ds) (.int (-1)) = some d := by
  show L2.atI ds (-1) = some d
  unfold L2.atI
  have hn : ds ≠ [] := fun e => by rw [e] at h; cases h
  rw [ixN_last (List.length_pos_iff.mpr hn)]
  rw [List.getLast?_eq_getElem?] at h
  exact h
theorem dSubI_lstL {ds : List Dv} {d : Dv} (h : ds.getLast? = some d) : dSubI (.lst ds) (.int (-1)) = some d := by
  show L2.atI ds (-1) = some d
  unfold L2.atI
  have hn : ds ≠ [] := fun e => by rw [e] at h; cases h
  rw [ixN_last (List.length_pos_iff.mpr hn)]
  rw [List.getLast?_eq_getElem?] at h
  exact h
@[simp] theorem tyN_row (p : List Nat) : tyN (rowD p) = some "tuple" := rfl
@[simp] theorem tyN_int (i : Int) : tyN (.int i) = some "int" := rfl
@[simp] theorem tyN_str (i : Str) : tyN (.str i) = some "str" := rfl
@[simp] theorem tyN_tup (i : List Dv) : tyN (.tup i) = some "tuple" := rfl
@[simp] theorem tyN_lst (i : List Dv) : tyN (.lst i) = some "list" := rfl
@[simp] theorem tyN_non : tyN .non = some "NoneType" := rfl
@[simp] theorem tyN_bl (b : Bool) : tyN (.bl b) = some "bool" := rfl
@[simp] theorem len_row (p : List Nat) : dLen [rowD p] = some (.int (p.length : Int)) := by
  show some (Dv.int ((natD p).length : Int)) = _
  rw [natD_length]
@[simp] theorem items_row (p : List Nat) : itemsS (rowD p) = some (natD p) := rfl
@[simp] theorem itemsOf_row (p : List Nat) : itemsOf (rowD p) = some (natD p) := rfl
@[simp] theorem x_rg1 (fa : Sx) (ρ : List EV) (w : DS) : fRg1 fa ρ w = (fa ρ w).bind fun d w1 => match d with | .int n => if okRg 0 n then .ok (rgD 0 n) w1 else .stuck | _ => .stuck := rfl
@[simp] theorem x_ir1 (fa : Sx) (ρ : List EV) (w : DS) : fIr1 fa ρ w = (fa ρ w).bind fun d w1 => match d with | .int n => if okI n then .ok (rgD 0 n) w1 else .stuck | _ => .stuck := rfl
@[simp] theorem dI_int (g : Int → Int → Dv) (a b : Int) : dI g (.int a) (.int b) = some (g a b) := rfl
theorem all_true {α : Type} (l : List α) : dAll [.lst (l.map fun _ => Dv.bl true)] = some (.bl true) := by
  show (blsOf (l.map fun _ => Dv.bl true)).map _ = _
  have : (l.map fun _ => Dv.bl true) = (l.map fun _ => true).map Dv.bl := by rw [List.map_map]; rfl
  rw [this, blsOf_map]
  simp
theorem enumD_natD : ∀ (p : List Nat) (k : Nat), enumD k (natD p) = (p.zipIdx k).map fun z : Nat × Nat => Dv.tup [.int ((z.2 : Nat) : Int), .int ((z.1 : Nat) : Int)]
  | [], k => rfl
  | x :: p, k => by
    show enumD k (.int (x : Int) :: natD p) = _
    rw [List.zipIdx_cons, List.map_cons, ← enumD_natD p (k + 1)]
    rfl
theorem IsRow.nodup {p : List Nat} (h : IsRow p) : p.Nodup := h.perm.nodup_iff.mpr List.nodup_range
theorem IsRow.mem {p : List Nat} (h : IsRow p) {x : Nat} : x ∈ p ↔ x < p.length := by rw [h.perm.mem_iff, List.mem_range]
theorem natD_set (l : List Nat) (i x : Nat) : (natD l).set i (.int (x : Int)) = natD (l.set i x) := by
  unfold natD; rw [List.map_set]
/-- the place of each entry -/
def invP (p : List Nat) : List Nat := (List.range p.length).map fun e => p.idxOf e
def invF (p : List Nat) : List (Nat × Nat) → List Nat := fun l => l.foldl (fun f z => f.set z.1 z.2) (List.replicate p.length 0)
theorem invF_length (p : List Nat) (l : List (Nat × Nat)) : (invF p l).length = p.length := by
  unfold invF
  have : ∀ (l : List (Nat × Nat)) (f : List Nat), (l.foldl (fun f z => f.set z.1 z.2) f).length = f.length := fun l => by
    induction l with
    | nil => exact fun _ => rfl
    | cons z l ih => exact fun f => by rw [List.foldl_cons, ih, List.length_set]
  rw [this, List.length_replicate]
theorem fold_set_get : ∀ (p : List Nat) (k : Nat) (f : List Nat) (e : Nat), p.Nodup → e < f.length → ((p.zipIdx k).foldl (fun f z => f.set z.1 z.2) f)[e]? = if e ∈ p then some (k + p.idxOf e) else f[e]?
  | [], k, f, e, _, _ => by simp
  | x :: p, k, f, e, hn, he => by
    rw [List.nodup_cons] at hn
    rw [List.zipIdx_cons, List.foldl_cons, fold_set_get p (k + 1) (f.set x k) e hn.2 (by rw [List.length_set]; exact he)]
    by_cases hx : e = x
    · subst hx
      rw [if_neg hn.1, if_pos List.mem_cons_self, List.getElem?_set_self he, List.idxOf_cons_self]
      rfl
    · have hc : List.idxOf e (x :: p) = List.idxOf e p + 1 := by
        rw [List.idxOf_cons, cond_eq_if, if_neg (by simpa using Ne.symm hx)]
      rw [List.getElem?_set_ne (Ne.symm hx), hc]
      by_cases hm : e ∈ p
      · rw [if_pos hm, if_pos (List.mem_cons_of_mem _ hm)]
        congr 1; omega
      · rw [if_neg hm, if_neg (fun z => (List.mem_cons.mp z).elim hx hm)]
theorem invF_row {p : List Nat} (h : IsRow p) : invF p p.zipIdx = invP p := by
  apply List.ext_getElem?
  intro e
  unfold invP
  rw [List.getElem?_map]
  by_cases he : e < p.length
  · have := fold_set_get p 0 (List.replicate p.length 0) e h.nodup (by rw [List.length_replicate]; exact he)
    show (p.zipIdx.foldl (fun f z => f.set z.1 z.2) (List.replicate p.length 0))[e]? = _
    rw [this, if_pos (h.mem.mpr he), List.getElem?_range he]
    simp
  · rw [List.getElem?_eq_none (by rw [invF_length]; omega), List.getElem?_eq_none (by rw [List.length_range]; omega)]
    rfl
@[simp] theorem lent_lst (ds : List Dv) : lent (.lst ds) = some (.lst ds) := rfl
theorem natD_replicate (n : Nat) : natD (List.replicate n 0) = List.replicate n (.int 0) := by unfold natD; rw [List.map_replicate]; rfl
theorem rep_one {α : Type} (n : Nat) (x : α) : (List.replicate n [x]).flatten = List.replicate n x := by
  induction n with
  | zero => rfl
  | succ n ih => rw [List.replicate_succ, List.flatten_cons, ih]; rfl
@[simp] theorem x_rep (fa : Sl) (fb : Sx) (ρ : List EV) (w : DS) : fRep fa fb ρ w = (fa ρ w).bind fun ds w1 => (fb ρ w1).bind fun e w2 => match e with
  | .int k => if okRp k ds.length then .ok (List.replicate k.toNat ds).flatten w2 else .stuck
  | _ => .stuck := rfl
theorem row_fold (p : List Nat) : Dv.tup (natD p) = rowD p := rfl
theorem snoc_ind {α : Type} {P : List α → Prop} (h0 : P []) (h1 : ∀ l x, P l → P (l ++ [x])) (l : List α) : P l := by
  have key : ∀ m : List α, P m.reverse := fun m => by
    induction m with
    | nil => exact h0
    | cons x m ih => rw [List.reverse_cons]; exact h1 _ _ ih
  have := key l.reverse
  rwa [List.reverse_reverse] at this
/-- a loop, with what stands ahead of each item -/
theorem loopD_at {α : Type} {k : Sg} {g : Ss} {w : DS} (c : α → Dv) (L : List α) (I : List α → List EV → Prop) (hs : ∀ done x rest ρ, L = done ++ x :: rest → I done ρ → ∃ ρ1 ρ2, k (c x) ρ = some ρ1 ∧ g ρ1 w = .ok (.nx ρ2) w ∧ I (done ++ [x]) ρ2) :
    ∀ (rest done : List α) (ρ : List EV), L = done ++ rest → I done ρ → ∃ ρ', loopD k g (rest.map c) ρ w = .ok (.nx ρ') w ∧ I L ρ'
  | [], done, ρ, e, h => ⟨ρ, rfl, by rw [e, List.append_nil]; exact h⟩
  | x :: l, done, ρ, e, h => by
    obtain ⟨ρ1, ρ2, h1, h2, h3⟩ := hs done x l ρ e h
    obtain ⟨ρ', e2, hi⟩ := loopD_at c L I hs l (done ++ [x]) ρ2 (by rw [e, List.append_assoc]; rfl) h3
    refine ⟨ρ', ?_, hi⟩
    rw [List.map_cons, loopD]
    simp only [h1, h2, RR.bind_ok]
    exact e2
theorem zipIdx_split {p : List Nat} {done rest : List (Nat × Nat)} {z : Nat × Nat} (h : p.zipIdx = done ++ z :: rest) : z.2 = done.length ∧ p[z.2]? = some z.1 ∧ (∀ y, done.getLast? = some y → y.2 + 1 = z.2 ∧ p[y.2]? = some y.1) ∧ (done = [] ↔ z.2 = 0) := by
  have g : ∀ i : Nat, p.zipIdx[i]? = p[i]?.map fun x => (x, i) := fun i => by rw [List.getElem?_zipIdx]; simp
  have hz : p.zipIdx[done.length]? = some z := by rw [h, List.getElem?_append_right (Nat.le_refl _), Nat.sub_self]; rfl
  rw [g] at hz
  cases e : p[done.length]? with
  | none => rw [e] at hz; cases hz
  | some x =>
    rw [e] at hz
    have hz : (x, done.length) = z := Option.some.inj hz
    subst hz
    refine ⟨rfl, e, fun y hy => ?_, by simp⟩
    rw [List.getLast?_eq_getElem?] at hy
    have hlt := (List.getElem?_eq_some_iff.mp hy).1
    have hy2 : p.zipIdx[done.length - 1]? = some y := by rw [h, List.getElem?_append_left (by omega)]; exact hy
    rw [g] at hy2
    cases e3 : p[done.length - 1]? with
    | none => rw [e3] at hy2; cases hy2
    | some x2 =>
      rw [e3] at hy2
      have hy2 : (x2, done.length - 1) = y := Option.some.inj hy2
      subst hy2
      exact ⟨by show done.length - 1 + 1 = done.length; omega, e3⟩
end DL

namespace DL
open PySem PySem.Spec PyProof.Rows L2

/-! ### what may be called later: a function object at a, from the state s0 on -/
def CloAt (P : Program) (w : World) (K : W.Frag) (mg : Str → Option Value) (base : Heap) (k : Nat) (st0 : Option (Addr × Addr × Addr)) (s0 : Shared) (H0 F0 : Hp) (a : Addr) (f : DS → RR Dv) : Prop :=
  ∀ (A : Around) (outer : List Env) (s : Shared) (H F : Hp) (fs : List Addr) (dr : Ft) (w' : DS) (Q : VK) (E : XK), Room k A → Env0 P w K mg base A outer s H → Un fs [] H0 H s0.heap s.heap → Same F0 F → Same F H → StX K dr F H w' → dr.st = st0 → (∀ b, inDr dr b → F b = none) →
    PostC K F H dr Q E (f w') → (∃ oc od fd sl, s.heap.get? a = some ⟨oc, od, .func fd, sl⟩) ∧ codeAny (model P w) A (.call (.ref a) ⟨[], []⟩) (CR (L2.CX P w) outer P w H s Q E) s
theorem CloAt.later {P : Program} {w : World} {K : W.Frag} {mg : Str → Option Value} {base : Heap} {k : Nat} {st0 : Option (Addr × Addr × Addr)} {s0 s1 : Shared} {H0 F0 H1 F1 : Hp} {a : Addr} {f : DS → RR Dv} {fs : List Addr}
    (h : CloAt P w K mg base k st0 s0 H0 F0 a f) (un : Un fs [] H0 H1 s0.heap s1.heap) (e : Same F0 F1) : CloAt P w K mg base k st0 s1 H1 F1 a f := fun A outer s H F fs2 dr w' Q E r e0 un2 f1 f2 st es nd q =>
  h A outer s H F (fs ++ fs2) dr w' Q E r e0 ((un.mono (fun b hb => List.mem_append_left _ hb) fun b hb => hb).trans (un2.mono (fun b hb => List.mem_append_right _ hb) fun b hb => hb)) (e.trans f1) f2 st es nd q

/-! ### promises of defs that call what they are given; of defs that need the tables of code objects -/
def spC (K : W.Frag) (n : Nat) (sem : Fsem) (C : Option (Addr × Addr × Addr) → Hp → Addr → (DS → RR Dv) → Prop) : Sp := fun vs H Q E => ∃ (F : Hp) (dr : Ft) (ps : List EV) (w : DS), ps.length = n ∧ Same F H ∧ ArgR K F dr vs ps ∧ StX K dr F H w ∧ (∀ a, inDr dr a → F a = none) ∧ (∀ a f, dr.clo a f → C dr.st F a f) ∧ PostC K F H dr Q E (sem ps w)
structure FnOkC (P : Program) (w : World) (K : W.Frag) (mg : Str → Option Value) (base : Heap) (kc k : Nat) (f : Addr) (fd : FuncData) (ps : List Str) (n : Nat) (sem : Fsem) : Prop where
  len : ps.length = n
  run : ∀ (A : Around) (outer : List Env) (s : Shared) (H : Hp) (args : Args) (us : List Value) (vs : List V) (Q : VK) (E : XK), Room k A → Env0 P w K mg base A outer s H → BindsTo s fd args (ps.zip us) → Vals vs us → spC K n sem (fun st F a g => CloAt P w K mg base kc st s H F a g) vs H Q E →
    codeAny (model P w) A (.call (.ref f) args) (CR (L2.CX P w) outer P w H s Q E) s
structure CalC (P : Program) (w : World) (K : W.Frag) (mg : Str → Option Value) (base : Heap) (kc : Nat) (x : Str) (k n : Nat) (sem : Fsem) : Prop where
  ex : ∃ (f : Addr) (fd : FuncData) (ps : List Str), FnOkC P w K mg base kc k f fd ps n sem ∧ mg x = some (.ref f) ∧ PySem.W.keepIn K (.ref f) = true ∧ L2.Binds K fd ps []
/-- THE RULE for such a def -/
theorem fnC {P : Program} {w : World} {K : W.Frag} {mg : Str → Option Value} {base : Heap} {x qual : Str} {st : Stmt} {f : Addr} {fd : FuncData} {N ps : List Str} {k : Nat} (kc : Nat) (g : Ss) (nN n : Nat) (S : FnScope N ps (defScope st)) (hN : N.length = nN) (hn : ps.length = n) (F : Fun K x qual st f fd)
    (hb : ∀ (cdv : Value) (A : Around) (outer : List Env) (s : Shared) (H : Hp) (E : XK), Room k (A.deeper (envOfC qual (defScope st) s.heap.objs.size f cdv)) →
      ∃ t, ∀ Z, (∀ a h, Z.dr.clo a h → CloAt P w K mg base kc Z.dr.st s H Z.F a h) → DB (cxOf (L2.CX P w) P w K mg base N qual (defScope st) f cdv A outer s H E) Z E (defBody st) t g) (hl : n ≤ nN) :
    FnOkC P w K mg base kc (k + 1) f fd ps n (semOf nN g) := by
  subst hN hn
  refine ⟨rfl, fun A outer s H args us vs Q E hr e0 bd r h => ?_⟩
  obtain ⟨oc, od, kV, doc, pm, an, cdv, ct, osl, rfl, lk, hcd⟩ := F.ex
  obtain ⟨F, dr, qs, w0, hpn, sub, ar, sx, nf, hc, q⟩ := h
  refine LamX.run_ofS lk hcd S hr e0 bd r (by rw [ar.length, hpn]) fun hr' => ?_
  obtain ⟨t, ht⟩ := hb cdv A outer s H E hr'
  have hz := ht ⟨H, F, dr⟩ hc
  exact ⟨t, hz.ps, body_core hl hpn sub ar sx nf q hz.sn⟩
theorem calC {P : Program} {w : World} {K : W.Frag} {mg : Str → Option Value} {base : Heap} {kc : Nat} {x : Str} {st : Stmt} {f : Addr} {fd : FuncData} {ps : List Str} {k n : Nat} {sem : Fsem} (F : Fun K x x st f fd) (hm : mg x = some (.ref f)) (hb : L2.Binds K fd ps [])
    (G : FnOkC P w K mg base kc k f fd ps n sem) : CalC P w K mg base kc x k n sem := ⟨f, fd, ps, G, hm, F.kp, hb⟩
def spT (K : W.Frag) (T : List (Addr × Str)) (n : Nat) (sem : Fsem) : Sp := fun vs H Q E => ∃ (F : Hp) (dr : Ft) (ps : List EV) (w : DS), dr.tb = T ∧ ps.length = n ∧ Same F H ∧ ArgR K F dr vs ps ∧ StX K dr F H w ∧ (∀ a, inDr dr a → F a = none) ∧ PostC K F H dr Q E (sem ps w)
structure CalT (P : Program) (w : World) (K : W.Frag) (mg : Str → Option Value) (base : Heap) (T : List (Addr × Str)) (x : Str) (k n : Nat) (sem : Fsem) : Prop where
  ex : ∃ (f : Addr) (fd : FuncData) (ps : List Str), ps.length = n ∧ FnOk P w K mg base (L2.CX P w) k f fd ps (spT K T n sem) ∧ mg x = some (.ref f) ∧ PySem.W.keepIn K (.ref f) = true ∧ L2.Binds K fd ps []
theorem fnT {P : Program} {w : World} {K : W.Frag} {mg : Str → Option Value} {base : Heap} {T : List (Addr × Str)} {x qual : Str} {st : Stmt} {f : Addr} {fd : FuncData} {N ps : List Str} {k : Nat} (cd : Value) (g : Ss) (nN n : Nat) (S : FnScope N ps (defScope st)) (hN : N.length = nN) (hn : ps.length = n) (F : Fun K x qual st f fd) (hcd : fd.code = cd)
    (hb : ∀ (A : Around) (outer : List Env) (s : Shared) (H : Hp) (E : XK), Room k (A.deeper (envOfC qual (defScope st) s.heap.objs.size f cd)) →
      ∃ t, ∀ Z, Z.dr.tb = T → DB (cxOf (L2.CX P w) P w K mg base N qual (defScope st) f cd A outer s H E) Z E (defBody st) t g) (hl : n ≤ nN) :
    FnOk P w K mg base (L2.CX P w) (k + 1) f fd ps (spT K T n (semOf nN g)) := by
  subst hN hn
  obtain ⟨oc, od, kV, doc, pm, an, cdv, ct, osl, rfl, lk, hk⟩ := F.ex
  obtain rfl : cdv = cd := hcd
  refine fn_of lk hk S (fun vs H Q E h => ?_) fun A outer s H vs Q E hr h => ?_
  · obtain ⟨F, dr, qs, w, _, hpn, sub, ar, _⟩ := h
    rw [ar.length, hpn]
  · obtain ⟨t, ht⟩ := hb A outer s H E hr
    obtain ⟨F, dr, qs, w0, hT, hpn, sub, ar, sx, nf, q⟩ := h
    have hz := ht ⟨H, F, dr⟩ hT
    exact ⟨t, hz.ps, body_core hl hpn sub ar sx nf q hz.sn⟩
theorem calT {P : Program} {w : World} {K : W.Frag} {mg : Str → Option Value} {base : Heap} {T : List (Addr × Str)} {x : Str} {st : Stmt} {f : Addr} {fd : FuncData} {ps : List Str} {k n : Nat} {sem : Fsem} (F : Fun K x x st f fd) (hm : mg x = some (.ref f)) (hb : L2.Binds K fd ps []) (hn : ps.length = n)
    (G : FnOk P w K mg base (L2.CX P w) k f fd ps (spT K T n sem)) : CalT P w K mg base T x k n sem := ⟨f, fd, ps, hn, G, hm, F.kp, hb⟩

section
variable {X : Cx} {Z : Z0} {E : XK} {pos : Pos}
/-- behind a def's answer -/
theorem post_back {K : W.Frag} {σ : L2.St} {F1 H1 : Hp} {ow1 : Addr → Option Nat} {ρ : List EV} {w1 : DS} {F : Hp} {Q : VK} {r : RR Dv} (s1 : Same F F1) (R1 : Rep K Z F1 ow1 σ H1 ρ w1) (q : Post K Z E σ ρ (QE K Z F σ Q ρ) r) : PostC K F1 H1 Z.dr Q E r := by
  cases e2 : r with
  | stuck => rw [e2] at q; exact q
  | ok d w2 => rw [e2] at q; exact fun v H' F' g st r => q v H' F' ow1 (s1.trans g.ff) (R1.call g st) r
  | rz x w2 => rw [e2] at q; exact fun cls dx H' F' g st r => q cls dx H' F' ow1 (R1.call g st) r
theorem Rep.noDr {K : W.Frag} {F : Hp} {ow : Addr → Option Nat} {σ : L2.St} {H : Hp} {ρ : List EV} {w : DS} (R : Rep K Z F ow σ H ρ w) : ∀ a, inDr Z.dr a → F a = none := fun a z => by
  cases q : F a with
  | none => rfl
  | some u =>
    have z2 := R.fzo a u q
    rw [R.foo a z] at z2; cases z2
theorem s_callT {K : W.Frag} {T : List (Addr × Str)} {n : Nat} {sem : Fsem} {t : TA} {f : Sa} (hT : Z.dr.tb = T) (h : SndA K Z E t f) (hl : ∀ ρ w ps w', f ρ w = .ok ps w' → ps.length = n) : Snd K Z E (tCall (spT K T n sem) [] E t) (fCall sem f) := fun F ow σ H ρ w Q R q => by
  have hl' := hl ρ w
  refine h F ow σ H ρ w _ R ?_
  unfold fCall at q
  cases e : f ρ w with
  | stuck => rw [e] at q; exact q
  | rz x w1 => rw [e] at q; exact q
  | ok ps w1 =>
    rw [e] at q
    intro vs H1 F1 ow1 s1 R1 r1
    show spT K T n sem (vs ++ []) H1 Q E
    rw [List.append_nil]
    exact ⟨F1, Z.dr, ps, w1, hT, hl' _ _ e, R1.sub, r1, R1.st, R1.noDr, post_back s1 R1 q⟩
theorem e_callT {T : List (Addr × Str)} {x : Str} {k k' n : Nat} {sem : Fsem} {e : Expr} {es : List Expr} {t : TA} {fa : Sa} {p : Pos} (C : CalT X.prog X.w X.K X.mg X.base T x k n sem) (hT : Z.dr.tb = T) (hr : Room k' X.A) (hk : k ≤ k') (hx : PX X E) (ha : DA X Z E (e :: es) t fa) (hl : ∀ ρ w ps w', fa ρ w = .ok ps w' → ps.length = n)
    (hg : Gl X x := by rfl) (hdb : (x == ("__debug__" : Str)) = false := by decide) (he : starEach (e :: es) X.env = (false, eval e X.env) :: starEach es X.env := by rfl) (hpl : (backTo pos (starEach es X.env)).any (·.1) = false := by rfl) :
    DE X Z E (.Call (.Name x p) (e :: es) [] pos) (tCall (spT X.K T n sem) [] E t) (fCall sem fa) := by
  obtain ⟨f, fd, ps, hn, F, hm, hkp, hb⟩ := C.ex
  exact ⟨pe_call F (hr.mono hk) hg hm hkp hb .nil hx ha.pa hdb he hpl, s_callT hT ha.sn hl⟩

/-! ### f(), f a slot -/
def tAct (X : Cx) (kc i : Nat) (E : XK) : TE := fun σ H Q => ∃ b, σ[i]? = some (some (.ref b)) ∧ ∃ (F0 F : Hp) (f : DS → RR Dv) (dr : Ft) (w : DS), CloAt X.prog X.w X.K X.mg X.base kc dr.st X.s_0 X.H_0 F0 b f ∧ Same F0 F ∧ Same F H ∧ StX X.K dr F H w ∧ (∀ b, inDr dr b → F b = none) ∧ PostC X.K F H dr Q E (f w)
def fAct (i : Nat) : Sx := fun ρ w => match ρ[i]? with
  | some (.fn f) => f w
  | _ => .stuck
theorem pe_actS {kc k i : Nat} {a : Str} {p1 p2 : Pos} (hr : Room k X.A) (hk : kc ≤ k) (hx : PX X E) (hN : X.N[i]? = some a) (hv : Vis X.env.scope a) (hex : X.ex = []) (hd : (a == ("__debug__" : Str)) = false) (hcd : (a == ("__classdict__" : Str)) = false) :
    PE X (.Call (.Name a p1) [] [] p2) (tAct X kc i E) := by
  refine ⟨fun pins s σ H Q I h => ?_⟩
  obtain ⟨b, hs, F0, F, f, dr, w, hC, e1, e2, st, nd, q⟩ := h
  refine wpAny_Call_Name_kw (thn ((pe_var (pos := p1) (i := i) hN hv hd hcd).run pins s σ H (fun v H1 => v = .ref b ∧ H1 = H) I ⟨.ref b, hs, rfl, rfl⟩) fun u s1 ⟨v, H1, I1, r1, q1⟩ => ?_)
  obtain ⟨rfl, rfl⟩ := q1
  obtain rfl : u = Value.ref b := r1
  have un := I1.base
  rw [hex] at un
  obtain ⟨⟨oc, od, fd, sl, ho⟩, rc⟩ := hC X.A X.stack s1 H1 F X.fs dr w Q E (hr.mono hk) I1.env0 un e1 e2 st rfl nd q
  refine PySem.W.callWith_F0 ⟨_, _, _, _, ho⟩ (wpAny_call (codeAny_mono rc fun r s' hq => ?_))
  cases r with
  | error e => exact hx pins σ H1 s1 e s' I1 hq
  | ok fl =>
    cases fl with
    | ret u => exact I1.after hq
    | next => exact False.elim hq
    | brk => exact False.elim hq
    | cont => exact False.elim hq
theorem e_act {kc k : Nat} (i : Nat) {a : Str} {p1 : Pos} (hZ : ∀ a h, Z.dr.clo a h → CloAt X.prog X.w X.K X.mg X.base kc Z.dr.st X.s_0 X.H_0 Z.F a h) (hr : Room k X.A) (hk : kc ≤ k) (hx : PX X E) (hN : X.N[i]? = some a := by rfl) (hv : Vis X.env.scope a := by first | exact Or.inl rfl | exact Or.inr (Or.inl rfl) | exact Or.inr (Or.inr rfl)) (hex : X.ex = [] := by rfl)
    (hd : (a == ("__debug__" : Str)) = false := by decide) (hcd : (a == ("__classdict__" : Str)) = false := by decide) : DE X Z E (.Call (.Name a p1) [] [] pos) (tAct X kc i E) (fAct i) := ⟨pe_actS hr hk hx hN hv hex hd hcd, fun F ow σ H ρ w Q R q => by
  unfold fAct at q
  cases e : ρ[i]? with
  | none => rw [e] at q; exact q.elim
  | some x =>
    rw [e] at q
    cases x with
    | fn f =>
      obtain ⟨b, hs, hc⟩ := R.slots i _ e
      exact ⟨b, hs, Z.F, F, f, Z.dr, w, hZ b f hc, R.keepF, R.sub, R.st, R.noDr, post_back (Same.refl _) R q⟩
    | _ => exact q.elim⟩

/-! ### what may be called, handed on -/
def aFn (i : Nat) (fr : Sa) : Sa := fun ρ w => match ρ[i]? with
  | some (.fn f) => (fr ρ w).bind fun ps w2 => .ok (.fn f :: ps) w2
  | _ => .stuck
theorem a_fn (i : Nat) {x : Str} {es : List Expr} {t : TA} {f : Sa} (hr : DA X Z E es t f) (hN : X.N[i]? = some x := by rfl) (hv : Vis X.env.scope x := by first | exact Or.inl rfl | exact Or.inr (Or.inl rfl) | exact Or.inr (Or.inr rfl)) (hd : (x == ("__debug__" : Str)) = false := by decide)
    (hcd : (x == ("__classdict__" : Str)) = false := by decide) (hs : starEach (.Name x pos :: es) X.env = (false, eval (.Name x pos) X.env) :: starEach es X.env := by rfl) : DA X Z E (.Name x pos :: es) (tCons (tVar i) t) (aFn i f) :=
  ⟨pa_cons (pe_var hN hv hd hcd) hr.pa hs, fun F ow σ H ρ w Q R q => by
    unfold aFn at q
    cases e : ρ[i]? with
    | none => rw [e] at q; exact q.elim
    | some s =>
      rw [e] at q
      cases s with
      | fn g =>
        obtain ⟨a, h, hz⟩ := R.slots i _ e
        exact ⟨_, h, hr.sn.seq R q fun ps w2 vs H2 F2 ow2 s2 R2 r2 q2 => q2 (.ref a :: vs) H2 F2 ow2 s2 R2 (.fn hz r2)⟩
      | _ => exact q.elim⟩
theorem aFn_len {i : Nat} {f : Sa} {n : Nat} (h : ∀ ρ w ps w', f ρ w = .ok ps w' → ps.length = n) : ∀ ρ w ps w', aFn i f ρ w = .ok ps w' → ps.length = n + 1 := fun ρ w ps w' e => by
  unfold aFn at e
  cases e1 : ρ[i]? with
  | none => rw [e1] at e; cases e
  | some s =>
    rw [e1] at e
    cases s with
    | fn g =>
      simp only at e
      cases e2 : f ρ w with
      | stuck => rw [e2] at e; cases e
      | rz x w1 => rw [e2] at e; cases e
      | ok qs w2 =>
        rw [e2] at e
        cases e
        rw [List.length_cons, h _ _ _ _ e2]
    | _ => cases e
/-- what holds of a callable since the entry -/
def CloX (X : Cx) (kc : Nat) : Option (Addr × Addr × Addr) → Hp → Addr → (DS → RR Dv) → Prop := fun st F a f => ∃ F0, Same F0 F ∧ CloAt X.prog X.w X.K X.mg X.base kc st X.s_0 X.H_0 F0 a f
theorem runC {kc k n : Nat} {f : Addr} {fd : FuncData} {ps : List Str} {sem : Fsem} {pins : List (Addr × Obj)} {σ : L2.St} {H : Hp} {s : Shared} {Q : VK} {us : List Value} {vs : List V} (G : FnOkC X.prog X.w X.K X.mg X.base kc k f fd ps n sem) (hr : Room k X.A) (hb : L2.Binds X.K fd ps []) (hx : PX X E)
    (I : Inv X pins σ H s) (r : Vals vs us) (h : spC X.K n sem (fun st F a g => CloAt X.prog X.w X.K X.mg X.base kc st s H F a g) vs H Q E) : wpAny (model X.prog X.w) X.A (call (.ref f) us) (EP X pins σ Q) X.xe s := by
  have hl : us.length = ps.length := by
    obtain ⟨F, dr, qs, w, hn, sub, ar, _⟩ := h
    rw [← r.length, ar.length, hn, G.len]
  have b := hb s us I.kIn (by rw [List.append_nil]; exact hl)
  rw [List.append_nil] at b
  refine wpAny_call (codeAny_mono (G.run X.A X.stack s H ⟨us, []⟩ us vs Q E hr I.env0 b r h) fun r s' hq => ?_)
  cases r with
  | error e => exact hx pins σ H s e s' I hq
  | ok fl =>
    cases fl with
    | ret u => exact I.after hq
    | next => exact False.elim hq
    | brk => exact False.elim hq
    | cont => exact False.elim hq
def tCallC (X : Cx) (kc n : Nat) (sem : Fsem) (E : XK) (t : TA) : TE := fun σ H Q => t σ H fun vs H1 => spC X.K n sem (CloX X kc) vs H1 Q E
/-- g(f, ..), f a slot -/
theorem e_callC {kc : Nat} {x : Str} {k k' n : Nat} {sem : Fsem} {e : Expr} {es : List Expr} {t : TA} {fa : Sa} {p : Pos} (C : CalC X.prog X.w X.K X.mg X.base kc x k n sem) (hZ : ∀ a h, Z.dr.clo a h → CloAt X.prog X.w X.K X.mg X.base kc Z.dr.st X.s_0 X.H_0 Z.F a h) (hr : Room k' X.A) (hk : k ≤ k') (hx : PX X E)
    (ha : DA X Z E (e :: es) t fa) (hl : ∀ ρ w ps w', fa ρ w = .ok ps w' → ps.length = n) (hg : Gl X x := by rfl) (hex : X.ex = [] := by rfl) (hdb : (x == ("__debug__" : Str)) = false := by decide) (he : starEach (e :: es) X.env = (false, eval e X.env) :: starEach es X.env := by rfl) (hpl : (backTo pos (starEach es X.env)).any (·.1) = false := by rfl) :
    DE X Z E (.Call (.Name x p) (e :: es) [] pos) (tCallC X kc n sem E t) (fCall sem fa) := by
  obtain ⟨f, fd, ps, G, hm, hkp, hb⟩ := C.ex
  refine ⟨⟨fun pins s σ H Q I h => ?_⟩, fun F ow σ H ρ w Q R q => ?_⟩
  · refine wpAny_Call_Name_kw (ld_glob I hg hm ?_ hdb)
    refine PySem.W.callWith_K (h₀ := X.base) I.ok.mod.kin hkp (thn (ha.pa.run pos pins s σ H _ I h) fun us s1 ⟨vs, H1, I1, r, q⟩ => ⟨I1.kIn, ?_⟩) he hpl
    obtain ⟨F, dr, qs, w, hn, sub, ar, st, nd, hc, hp⟩ := q
    have un := I1.base
    rw [hex] at un
    exact runC G (hr.mono hk) hb hx I1 r ⟨F, dr, qs, w, hn, sub, ar, st, nd, fun a g z => by
      obtain ⟨F0, e0, c0⟩ := hc a g z
      exact c0.later un e0, hp⟩
  · have hl' := hl ρ w
    refine ha.sn F ow σ H ρ w _ R ?_
    unfold fCall at q
    cases e : fa ρ w with
    | stuck => rw [e] at q; exact q
    | rz x w1 => rw [e] at q; exact q
    | ok ps w1 =>
      rw [e] at q
      intro vs H1 F1 ow1 s1 R1 r1
      exact ⟨F1, Z.dr, ps, w1, hl' _ _ e, R1.sub, r1, R1.st, R1.noDr, fun a g z => ⟨Z.F, R1.keepF, hZ a g z⟩, post_back s1 R1 q⟩
end
end DL

namespace DL
open PySem PySem.Spec PyProof.Rows L2

/-! ### a lambda without parameters -/
/-- a function object made of a lambda -/
def FnO (q : Str) (params : Arguments) (body : Expr) (scope : Scope) (clo : List (Str × Addr)) (c a : Addr) : HO := .ext fun h => ∃ (pm ctv : Value), h.get? a = some (PySem.W.kla_obj "<lambda>" q params body scope clo pm c ctv)
theorem fnO_ok {P : Program} {w : World} {H : Hp} {h : Heap} {q : Str} {params : Arguments} {body : Expr} {scope : Scope} {clo : List (Str × Addr)} {c a : Addr} {pm ctv : Value} (e : h.get? a = some (PySem.W.kla_obj "<lambda>" q params body scope clo pm c ctv)) : ObjOk P w H h a (FnO q params body scope clo c a) :=
  ⟨⟨pm, ctv, e⟩, ⟨_, e⟩, fun _ _ ⟨pm, ctv, e⟩ k => ⟨pm, ctv, k _ e⟩⟩
def tLam (P : Addr) (q : Str) (params : Arguments) (body : Expr) (scope : Scope) (clo : List (Str × Addr)) (pos : Pos) : TE := fun _ H Q => ∃ ps : Array Value, H P = some (.tbl ps) ∧ TriplesOk ps.toList ∧
  (∀ (p : Pos) (cv : Value), codeAmong p ps.toList = some cv → ∃ c, cv = .ref c) ∧
  (∀ c a, codeAmong pos ps.toList = some (.ref c) → H a = none → Q (.ref a) (upd H a (FnO q params body scope clo c a))) ∧
  (codeAmong pos ps.toList = none → ∀ c a, H c = none → H a = none → a ≠ c → a ≠ P → c ≠ P → Q (.ref a) (upd (upd (upd H P (.tbl (ps ++ #[rawInt pos.line, rawInt pos.col, .ref c]))) c (LamX.CodeO c q)) a (FnO q params body scope clo c a)))
section
variable {X : Cx}
theorem pe_lam {c P : Addr} {q : Str} {params : Arguments} {body : Expr} {scope : Scope} {pos : Pos} (TB : LamX.TabB X.base X.mg c P) (hcode : X.env.code = .ref c) (hq : q = X.env.qual ++ "<lambda>") (L : LamX.LamS X.env.scope scope) (hdef : defaultsOf params X.env = ([], [])) :
    PE X (.Lambda params body scope pos) (tLam P q params body scope (cloFrom X.env.cells scope.names []) pos) := by
  refine ⟨fun pins s σ H Q I h => ?_⟩
  subst hq
  obtain ⟨ps, hP, ht, hall, hhit, hmiss⟩ := h
  have onP : s.heap.get? P = some { cls := .none, data := .fields ps } := I.hok P _ hP
  have clo := closure_ok (L.has I.ok)
  refine PySem.W.kla_eval hdef ?_
  cases hc : codeAmong pos ps.toList with
  | some cv =>
    obtain ⟨c', rfl⟩ := hall pos cv hc
    refine PySem.W.kla_makeFunctionHit (mg := X.mg) (c := c) (P := P) (ps := ps) clo I.ok.glob (I.mod.glob.keeps I.bk) hcode (TB.code.keeps I.bk) onP ht hc (TB.bm.keeps I.bk) fun ctv h2 tk k2 hsz => ?_
    have J : Inv X pins σ H { s with heap := h2 } := I.kept k2
    have nF : H h2.objs.size = none := J.hok.fresh (Nat.le_refl _)
    refine ⟨.ref h2.objs.size, _, J.laid (t' := tk) (fun b u e => Heap.get?_push_of_some _ e) (Nat.le_refl _) ?_, rfl, hhit c' _ hc nF⟩
    exact fnO_ok (Heap.get?_push_size _ rfl)
  | none =>
    refine PySem.W.kla_makeFunction (mg := X.mg) (c := c) (P := P) (ps := ps) clo I.ok.glob (I.mod.glob.keeps I.bk) hcode (TB.code.keeps I.bk) onP ht hc TB.gP (TB.bm.keeps I.bk) fun c' ctv h2 tk k2 hge hlt hrec hP2 => ?_
    obtain ⟨c2, oc, vs, t, e2, hoc, hd, hv⟩ := hrec
    cases e2
    have nC : H c' = none := I.hok.fresh hge
    have ncP : c' ≠ P := fun z => by rw [z, hP] at nC; cases nC
    have J := LamX.inv_table (t' := s.toks) (q := X.env.qual ++ "<lambda>") (more := #[rawInt pos.line, rawInt pos.col, .ref c']) (h' := h2) I hP (fun b o hb e => k2 b o hb e) hP2 hge ⟨oc, vs, t, hoc, hd, hv⟩
    have nF := J.hok.fresh (Nat.le_refl h2.objs.size)
    have hcF : h2.objs.size ≠ c' := Nat.ne_of_gt hlt
    have hPF : h2.objs.size ≠ P := Nat.ne_of_gt (Heap.lt_size hP2)
    have nF0 : H h2.objs.size = none := by rwa [upd_ne hcF, upd_ne hPF] at nF
    refine ⟨.ref h2.objs.size, _, J.laid (t' := tk) (fun b u e => Heap.get?_push_of_some _ e) (Nat.le_refl _) ?_, rfl, hmiss hc c' _ nC nF0 hcF hPF ncP⟩
    exact fnO_ok (Heap.get?_push_size _ rfl)
/-- the lambda's body is entered -/
theorem lamInv {pins : List (Addr × Obj)} {σ : L2.St} {H HZ : Hp} {s s1 : Shared} {A : Around} {outer : List Env} {E : XK} {scope : Scope} {f c' : Addr} {h₁ : Heap} {tk : Nat} {fs : List Addr} (I : Inv X pins σ H s) (L : LamX.LamS X.env.scope scope) (e0 : Env0 X.prog X.w X.K X.mg X.base A outer s1 HZ) (hd : A.handled = none)
    (un : Un fs [] H HZ s.heap s1.heap) (hns : h₁.Ns s1.heap.objs.size fun y => ([] : List (Str × Value)).reverse.lookup y) (kp : ∀ b o, s1.heap.get? b = some o → h₁.get? b = some o) :
    Inv (LamX.lamCx X A outer s1 HZ E scope f c') [] σ HZ { s1 with heap := h₁, toks := tk } := by
  have hfree := L.has I.ok
  have noE : ∀ b : Addr, b ∉ ([] : List Addr) := fun b z => nomatch z
  -- a cell of the lambda is a cell of the maker
  have back : ∀ {y c}, (cloFrom X.env.cells scope.names []).lookup y = some c → X.env.cells.lookup y = some c := fun {y c} e => by
    rcases cloFrom_mem (PySem.mem_of_lookup e) with z | ⟨z1, z2⟩
    · cases z
    · obtain ⟨d, hd⟩ := hfree _ z1 rfl
      have hd : X.env.cells.lookup y = some d := hd
      rw [hd, z2, hd]
      rfl
  have there : ∀ {y}, scope.names.lookup y = some .free → ∃ c, (cloFrom X.env.cells scope.names []).lookup y = some c := fun {y} hl => mem_lookup (cloFrom_has (cells := X.env.cells) (acc := []) (PySem.mem_of_lookup hl))
  have cellGoes : ∀ {c : Addr} {v : Option Value}, H c = none → s.heap.IsCell c v → h₁.IsCell c v := fun {c v} n ⟨o, ho, hd⟩ => by
    obtain ⟨sl, e⟩ := un.any ho n (noE c)
    exact ⟨_, kp _ _ e, hd⟩
  have onlyFree : ∀ y, Vis scope y → scope.names.lookup y = some .free := fun y h => by
    rcases h with h | h | h
    · exact absurd rfl (L.own _ (PySem.mem_of_lookup h)).1
    · exact absurd rfl (L.own _ (PySem.mem_of_lookup h)).2
    · exact h
  constructor
  case ok =>
    exact {
      mod := e0.mod, kind := L.kind, glob := rfl, blt := rfl, above := Nat.le_refl _
      inj := fun y z c e1 e2 => I.ok.inj y z c (back e1) (back e2)
      has := fun y hy => by
        have hy : scope.names.lookup y = some .cell ∨ scope.names.lookup y = some .free := hy
        exact there (onlyFree y (hy.elim (fun z => .inr (.inl z)) fun z => .inr (.inr z)))
      cab := fun y c z _ => nomatch (show false = true from z)
      hd := fun _ => hd
      frames := Around.frames_deeper e0.frames
      stk := .inr ⟨rfl, rfl⟩
      exf := fun b z => absurd z (noE b)
      bs := e0.bs, bsz := e0.bsz, noex := fun b _ _ => noE b, exfs := fun b z => absurd z (noE b), funs := e0.funs, frf := e0.frf }
  case os => rfl
  case bare => exact e0.bare
  case base => exact Un.kept kp
  case loc =>
    refine ⟨_, hns, fun i y v e1 e2 e3 => ?_⟩
    have e3 := onlyFree y e3
    obtain ⟨m, hn, hl⟩ := I.loc
    have hvis : Vis X.env.scope y := by
      rcases L.free _ (PySem.mem_of_lookup e3) rfl with k | k
      · exact .inr (.inl k)
      · exact .inr (.inr k)
    obtain ⟨u, r, q⟩ := hl i y v e1 e2 hvis
    obtain ⟨c2, h2⟩ := there e3
    refine ⟨u, r, .inr ⟨.inr e3, c2, h2, ?_⟩⟩
    rcases q with ⟨k', _⟩ | ⟨_, c3, e', z⟩
    · have k' : X.env.scope.names.lookup y = some .local := k'
      rcases L.free _ (PySem.mem_of_lookup e3) rfl with k2 | k2
      · have k2 : X.env.scope.names.lookup y = some .cell := k2
        rw [k2] at k'; cases k'
      · have k2 : X.env.scope.names.lookup y = some .free := k2
        rw [k2] at k'; cases k'
    · rw [back h2] at e'
      cases e'
      exact cellGoes (I.freeC y _ (back h2)) z
  case cell =>
    intro y c e
    obtain ⟨v, z⟩ := I.cell y c (back e)
    exact ⟨v, cellGoes (I.freeC y c (back e)) z⟩
  case free => exact e0.hok.fresh (Nat.le_refl _)
  case freeC =>
    intro y c e
    obtain ⟨v, o, ho, hd⟩ := I.cell y c (back e)
    exact un.free c o ho (I.freeC y c (back e)) (noE c)
  case pin => exact fun q hq => absurd (show q ∈ ([] : List (Addr × Obj)) ++ [] from hq) (by simp)
  case hok => exact e0.hok.kept kp
  case len => exact I.len

/-! ### the lambda, callable -/
def datE : EV → EV
  | .dat d => .dat d
  | .drw => .drw
  | _ => .un
/-- the slots that a lambda may read -/
def datsE (ρ : List EV) : List EV := ρ.map datE
def lamF (fb : Sx) (ρ : List EV) : DS → RR Dv := fun w => fb (datsE ρ) w
open Classical in
theorem lamClo {k : Nat} {st0 : Option (Addr × Addr × Addr)} {pins : List (Addr × Obj)} {σ : L2.St} {H F : Hp} {s : Shared} {params : Arguments} {body : Expr} {scope : Scope} {a c' : Addr} {ρ : List EV} {fb : Sx} (I : Inv X pins σ H s) (L : LamX.LamS X.env.scope scope)
    (hF : F a = some (FnO (X.env.qual ++ "<lambda>") params body scope (cloFrom X.env.cells scope.names []) c' a)) (hC : F c' = some (LamX.CodeO c' (X.env.qual ++ "<lambda>"))) (hl : σ.length = ρ.length) (hs : ∀ (i : Nat) (d : Dv), ρ[i]? = some (EV.dat d) → ∃ v, σ[i]? = some (some v) ∧ Rp X.K F v d) (hst : ∀ (i : Nat), ρ[i]? = some EV.drw → ∃ a g c, σ[i]? = some (some (.ref a)) ∧ st0 = some (a, g, c))
    (hbind : ∀ (q : Str) (cl : List (Str × Addr)) (pm cv ctv : Value), bindArgs (PySem.W.kla_fn "<lambda>" q params body scope cl pm cv ctv) ⟨[], []⟩ = pure [])
    (hb : ∀ (A : Around) (outer : List Env) (s : Shared) (H : Hp) (E : XK), Room k (A.deeper (LamX.lamEnv X scope s.heap.objs.size a c')) → ∃ tb, ∀ Z, DE (LamX.lamCx X A outer s H E scope a c') Z E body tb fb) :
    CloAt X.prog X.w X.K X.mg X.base (k + 1) st0 s H F a (lamF fb ρ) := by
  intro A outer s1 H1 F1 fs dr w' Q E hr e0 un f1 f2 st es nd q
  obtain ⟨⟨pm, ctv, ho⟩, _, _⟩ := e0.hok a _ (f2 _ _ (f1 _ _ hF))
  obtain ⟨⟨oc, vs, t, hoc, hdc, hvc⟩, _, _⟩ := e0.hok c' _ (f2 _ _ (f1 _ _ hC))
  refine ⟨⟨_, _, _, _, ho⟩, ?_⟩
  refine PySem.W.kla_callFunE hr.depth ho rfl L.co L.gen rfl ⟨c', oc, vs, t, rfl, hoc, hdc, hvc⟩ ?_
  rw [hbind]
  have lim : s1.heap.NoLimit := e0.mod.nolimit.keeps fun b o e => (e0.bs b o e).1
  refine wpAny_pure (wpAny_newFunctionEnv (fun y hy => (L.own y hy).2) (fun y hy => absurd hy (by simp)) (fun h₁ hns hsb => ⟨lim.fresh _ hsb, ?_⟩) L.kind)
  show codeAny _ _ (.expr body (LamX.lamEnv X scope s1.heap.objs.size a c')) _ _
  have kp : ∀ b o, s1.heap.get? b = some o → h₁.get? b = some o := fun b o e => hsb.extBut b o (Nat.ne_of_lt (Heap.lt_size e)) (Heap.get?_push_of_some _ e)
  have J : Inv (LamX.lamCx X A outer s1 H1 E scope a c') [] σ H1 { s1 with heap := h₁, toks := s1.toks + ([] : List (Str × Value)).length } := lamInv I L e0 hr.hd un hns kp
  obtain ⟨tb, hD⟩ := hb A outer s1 H1 E (hr.deeper _)
  have D := hD ⟨H1, F1, dr⟩
  have ht : tb σ H1 Q := by
    refine D.sn F1 (fun b => if inDr dr b then some 0 else none) σ H1 (datsE ρ) w' Q ?_ ?_
    · exact {
        sub := f2
        keepF := Same.refl _
        newF := fun _ _ e => .inl e
        keep := fun b o e z => ⟨e, if_neg z⟩
        fzo := fun b u e => if_neg fun z => by rw [nd b z] at e; cases e
        owh := fun b i e => by
          by_cases z : inDr dr b
          · exact st.there z
          · rw [if_neg z] at e; cases e
        len := by unfold datsE; rw [List.length_map]; exact hl
        slots := fun i e he => by
          unfold datsE at he
          rw [List.getElem?_map] at he
          cases hx : ρ[i]? with
          | none => rw [hx] at he; cases he
          | some x =>
            rw [hx] at he
            have he : datE x = e := Option.some.inj he
            subst he
            cases x with
            | dat d =>
              obtain ⟨v, h1, h2⟩ := hs i d hx
              exact ⟨v, h1, h2.mono f1⟩
            | drw => obtain ⟨a, g, c, h1, h2⟩ := hst i hx; exact ⟨a, g, c, h1, es.trans h2⟩
            | _ => trivial
        st := st
        foo := fun b z => if_pos z }
    · have grx : ∀ {F' : Hp} {ow' : Addr → Option Nat} {σ' : L2.St} {H' : Hp} {ρ' : List EV} {w2 : DS}, Rep X.K ⟨H1, F1, dr⟩ F' ow' σ' H' ρ' w2 → GrX F1 H1 F' H' dr ∧ StX X.K dr F' H' w2 := fun R =>
        ⟨⟨R.keepF, R.sub, fun a u e => R.newF a u e, fun a o e z => (R.keep a o e z).1⟩, R.st⟩
      have q : PostC X.K F1 H1 dr Q E (fb (datsE ρ) w') := q
      show Post X.K ⟨H1, F1, dr⟩ E σ (datsE ρ) (QE X.K ⟨H1, F1, dr⟩ F1 σ Q (datsE ρ)) (fb (datsE ρ) w')
      cases eg : fb (datsE ρ) w' with
      | stuck => rw [eg] at q; exact q
      | rz x w1 => rw [eg] at q; exact fun cls dx H2 F2 ow1 R1 xr => q cls dx H2 F2 (grx R1).1 (grx R1).2 xr
      | ok d w1 => rw [eg] at q; exact fun v H2 F2 ow1 _ R1 r => q v H2 F2 (grx R1).1 (grx R1).2 r
  refine PySem.W.kla_codeExpr (wpAny_mono (D.pe.run [] _ _ H1 Q J ht) (fun v s' hq => ?_) fun e s' hq => hq)
  obtain ⟨w2, H2, J2, rv, q2⟩ := hq
  exact ⟨w2, H2, J2.os, J2.bare, J2.base, J2.hok, rv, q2⟩
end
end DL

namespace DL
open PySem PySem.Spec PyProof.Rows L2

/-! ### g(lambda: body, ..) -/
def noFn : List EV → Bool
  | [] => true
  | .fn _ :: _ => false
  | _ :: r => noFn r
theorem ArgR.re {K : W.Frag} {F : Hp} {dr dr' : Ft} (e : dr'.st = dr.st) {vs : List V} {ps : List EV} (h : ArgR K F dr vs ps) : noFn ps = true → ArgR K F dr' vs ps := by
  induction h with
  | nil => exact fun _ => .nil
  | dat r _ ih => exact fun z => .dat r (ih z)
  | drw q _ ih => exact fun z => .drw (e.trans q) (ih z)
  | fn _ _ _ => intro z; cases z
def fCallL (sem : Fsem) (fb : Sx) (fr : Sa) : Sx := fun ρ w => (fr ρ w).bind fun ps w1 => if noFn ps = true then sem (.fn (lamF fb ρ) :: ps) w1 else .stuck
def spL (X : Cx) (n : Nat) (sem : Fsem) (params : Arguments) (body : Expr) (scope : Scope) (fb : Sx) (E : XK) (σ : L2.St) (vs : List V) (H : Hp) (Q : VK) : Prop :=
  ∃ (a c : Addr) (F : Hp) (dr : Ft) (us : List V) (ps : List EV) (w : DS) (ρ : List EV), vs = .ref a :: us ∧ F a = some (FnO (X.env.qual ++ "<lambda>") params body scope (cloFrom X.env.cells scope.names []) c a) ∧ F c = some (LamX.CodeO c (X.env.qual ++ "<lambda>")) ∧ σ.length = ρ.length ∧
    (∀ (i : Nat) (d : Dv), ρ[i]? = some (EV.dat d) → ∃ v, σ[i]? = some (some v) ∧ Rp X.K F v d) ∧ (∀ (i : Nat), ρ[i]? = some EV.drw → ∃ a g c, σ[i]? = some (some (.ref a)) ∧ dr.st = some (a, g, c)) ∧ ps.length + 1 = n ∧ Same F H ∧ ArgR X.K F dr us ps ∧ noFn ps = true ∧ StX X.K dr F H w ∧ (∀ a, inDr dr a → F a = none) ∧ PostC X.K F H dr Q E (sem (.fn (lamF fb ρ) :: ps) w)
def tCallL (X : Cx) (P : Addr) (n : Nat) (sem : Fsem) (params : Arguments) (body : Expr) (scope : Scope) (lpos : Pos) (fb : Sx) (E : XK) (t : TA) : TE := fun σ H Q =>
  tCons (tLam P (X.env.qual ++ "<lambda>") params body scope (cloFrom X.env.cells scope.names []) lpos) t σ H fun vs H1 => spL X n sem params body scope fb E σ vs H1 Q
section
variable {X : Cx} {Z : Z0} {E : XK} {pos : Pos}
theorem codeO_tbl {c : Addr} {q : Str} {ps : Array Value} : HO.tbl ps ≠ LamX.CodeO c q := fun z => by
  unfold LamX.CodeO at z
  cases z
theorem e_callL {kc k k' n : Nat} {T : List (Addr × Str)} {c P : Addr} {x : Str} {sem : Fsem} {params : Arguments} {body : Expr} {scope : Scope} {lpos p : Pos} {es : List Expr} {t : TA} {fr : Sa} {fb : Sx} (C : CalC X.prog X.w X.K X.mg X.base (kc + 1) x k n sem) (hT : Z.dr.tb = T) (hP : (P, X.env.qual ++ "<lambda>") ∈ T)
    (hu : ∀ p ∈ T, p.1 = P → p.2 = X.env.qual ++ "<lambda>") (TB : LamX.TabB X.base X.mg c P) (hr : Room k' X.A) (hk : k ≤ k') (hx : PX X E) (ha : DA X Z E es t fr) (hl : ∀ ρ w ps w', fr ρ w = .ok ps w' → ps.length + 1 = n)
    (hb : ∀ (A : Around) (outer : List Env) (s : Shared) (H : Hp) (E : XK) (a c' : Addr), Room kc (A.deeper (LamX.lamEnv X scope s.heap.objs.size a c')) → ∃ tb, ∀ Z, DE (LamX.lamCx X A outer s H E scope a c') Z E body tb fb)
    (hcode : X.env.code = .ref c := by rfl) (L : LamX.LamS X.env.scope scope := by exact LamX.lamS_by (by kernel_rfl)) (hdef : defaultsOf params X.env = ([], []) := by rfl)
    (hbind : ∀ (q : Str) (cl : List (Str × Addr)) (pm cv ctv : Value), bindArgs (PySem.W.kla_fn "<lambda>" q params body scope cl pm cv ctv) ⟨[], []⟩ = pure [] := by intros; rfl) (hg : Gl X x := by rfl) (hdb : (x == ("__debug__" : Str)) = false := by decide)
    (he : starEach (.Lambda params body scope lpos :: es) X.env = (false, eval (.Lambda params body scope lpos) X.env) :: starEach es X.env := by rfl) (hpl : (backTo pos (starEach es X.env)).any (·.1) = false := by rfl) :
    DE X Z E (.Call (.Name x p) (.Lambda params body scope lpos :: es) [] pos) (tCallL X P n sem params body scope lpos fb E t) (fCallL sem fb fr) := by
  obtain ⟨f, fd, ps, G, hm, hkp, hbd⟩ := C.ex
  refine ⟨⟨fun pins s σ H Q I h => ?_⟩, fun F ow σ H ρ w Q R q => ?_⟩
  · refine wpAny_Call_Name_kw (ld_glob I hg hm ?_ hdb)
    refine PySem.W.callWith_K (h₀ := X.base) I.ok.mod.kin hkp (thn ((pa_cons (pe_lam TB hcode rfl L hdef) ha.pa he).run pos pins s σ H _ I h) fun us s1 ⟨vs, H1, I1, r, q⟩ => ⟨I1.kIn, ?_⟩) he hpl
    obtain ⟨a, c', F, dr, us', qs, w, ρ, rfl, hF, hC, hlen, hs, hst, hn, sub, ar, nf, st, nd, hp⟩ := q
    refine runC G (hr.mono hk) hbd hx I1 r ⟨F, { dr with clo := fun b g => b = a ∧ g = lamF fb ρ }, .fn (lamF fb ρ) :: qs, w, by rw [List.length_cons]; exact hn, sub, .fn ⟨rfl, rfl⟩ (ArgR.re (dr := dr) (dr' := { dr with clo := fun b g => b = a ∧ g = lamF fb ρ }) rfl ar nf), ⟨st.sh, st.tab, st.obj⟩, nd, ?_, ?_⟩
    · rintro b g ⟨rfl, rfl⟩
      exact lamClo I1 L hF hC hlen hs hst hbind fun A outer s H E => hb A outer s H E _ _
    · cases e2 : sem (.fn (lamF fb ρ) :: qs) w with
      | stuck => rw [e2] at hp; exact hp
      | ok d w2 => rw [e2] at hp; exact fun v H' F' g st' r => hp v H' F' ⟨g.ff, g.fh, g.nw, g.hh⟩ ⟨st'.sh, st'.tab, st'.obj⟩ r
      | rz x w2 => rw [e2] at hp; exact fun cls dx H' F' g st' r => hp cls dx H' F' ⟨g.ff, g.fh, g.nw, g.hh⟩ ⟨st'.sh, st'.tab, st'.obj⟩ r
  · have hl' := hl ρ w
    -- the arguments behind the lambda, then the call
    have rest : ∀ (F1 H1 : Hp) (a c' : Addr), Same F F1 → Rep X.K Z F1 ow σ H1 ρ w → F1 a = some (FnO (X.env.qual ++ "<lambda>") params body scope (cloFrom X.env.cells scope.names []) c' a) → F1 c' = some (LamX.CodeO c' (X.env.qual ++ "<lambda>")) →
        t σ H1 fun xs H2 => spL X n sem params body scope fb E σ (.ref a :: xs) H2 Q := fun F1 H1 a c' s1 R1 h1 h2 => by
      refine ha.sn F1 ow σ H1 ρ w _ R1 ?_
      unfold fCallL at q
      cases e : fr ρ w with
      | stuck => rw [e] at q; exact q
      | rz x w1 => rw [e] at q; exact q
      | ok qs w1 =>
        rw [e] at q
        have q : Post X.K Z E σ ρ (QE X.K Z F σ Q ρ) (if noFn qs = true then sem (.fn (lamF fb ρ) :: qs) w1 else .stuck) := q
        split at q
        case isFalse => exact q.elim
        rename_i nf
        intro vs H2 F2 ow2 s2 R2 r2
        exact ⟨a, c', F2, Z.dr, vs, qs, w1, ρ, rfl, s2 _ _ h1, s2 _ _ h2, R2.len, fun i d hd => R2.slots i _ hd, fun i hd => R2.slots i _ hd, hl' _ _ e, R2.sub, r2, nf, R2.st, R2.noDr, post_back (s1.trans s2) R2 q⟩
    obtain ⟨tp, t1, t2, t3⟩ := R.st.tab (P, X.env.qual ++ "<lambda>") (by rw [hT]; exact hP)
    refine ⟨tp, t1, t2, fun p' cv hc => (let ⟨c, e, _⟩ := t3 p' cv hc; ⟨c, e⟩), fun c' a hc na => ?_, fun hc c' a nc na nac naP ncP => ?_⟩
    · obtain ⟨c0, e0, hF0⟩ := t3 lpos _ hc
      cases e0
      have nFa : F a = none := R.sub.free na
      have nac : c' ≠ a := fun z => by rw [z, nFa] at hF0; cases hF0
      exact rest (upd F a _) (upd H a _) a c' (same_upd nFa) (R.grow (Gr.new R.sub _ na)) upd_same (by rw [upd_ne nac]; exact hF0)
    · have nFa : F a = none := R.sub.free na
      have nFc : F c' = none := R.sub.free nc
      have inP : inDr Z.dr P := .inr (.inl ⟨_, by rw [hT]; exact hP, rfl⟩)
      have nFP : F P = none := R.noDr P inP
      have sF : Same F (upd (upd F c' (LamX.CodeO c' (X.env.qual ++ "<lambda>"))) a (FnO (X.env.qual ++ "<lambda>") params body scope (cloFrom X.env.cells scope.names []) c' a)) := (same_upd nFc).trans (same_upd (by rw [upd_ne nac]; exact nFa))
      have hh : ∀ (b : Addr) (o : HO), H b = some o → b ≠ P → (upd (upd (upd H P (.tbl (tp ++ #[rawInt lpos.line, rawInt lpos.col, .ref c']))) c' (LamX.CodeO c' (X.env.qual ++ "<lambda>"))) a (FnO (X.env.qual ++ "<lambda>") params body scope (cloFrom X.env.cells scope.names []) c' a)) b = some o := fun b o e nb => by
        have n1 : b ≠ a := fun z => by rw [z, na] at e; cases e
        have n2 : b ≠ c' := fun z => by rw [z, nc] at e; cases e
        rw [upd_ne n1, upd_ne n2, upd_ne nb]; exact e
      refine rest _ _ a c' sF (R.call ⟨sF, fun b o e => ?_, fun b o e => ?_, fun b o e nb => hh b o e fun z => nb (by rw [z]; exact inP)⟩ ⟨fun x g y e => ?_, fun p hp => ?_, fun p hp => ?_⟩) upd_same (by rw [upd_ne (Ne.symm nac), upd_same])
      · by_cases z : b = a
        · rw [z, upd_same] at e ⊢; exact e
        · rw [upd_ne z] at e ⊢
          by_cases z2 : b = c'
          · rw [z2, upd_same] at e ⊢; exact e
          · rw [upd_ne z2] at e ⊢
            rw [upd_ne (fun z3 => by rw [z3, nFP] at e; cases e)]
            exact R.sub b o e
      · by_cases z : b = a
        · rw [z]; exact .inr na
        · rw [upd_ne z] at e
          by_cases z2 : b = c'
          · rw [z2]; exact .inr nc
          · rw [upd_ne z2] at e; exact .inl e
      · have k : ∀ (b : Addr) (o : HO), (∀ ps, o ≠ .tbl ps) → H b = some o → _ := fun b o n e => hh b o e fun z => by rw [z, t1] at e; exact n _ (Option.some.inj e).symm
        exact (R.st.sh x g y e).mono (fun o => fun h => by
          obtain ⟨h1, h2, h3, _⟩ := R.st.sh x g y e
          rw [h1] at h; cases h
          exact k _ _ (fun _ z => nomatch z) h1) (fun o h => by
          obtain ⟨h1, h2, h3, _⟩ := R.st.sh x g y e
          rw [h2] at h; cases h
          exact k _ _ (fun _ z => nomatch z) h2) fun o h => by
          obtain ⟨h1, h2, h3, _⟩ := R.st.sh x g y e
          rw [h3] at h; cases h
          exact k _ _ (fun _ z => nomatch z) h3
      · obtain ⟨tp', u1, u2, u3⟩ := R.st.tab p hp
        by_cases z : p.1 = P
        · have hq := hu p (by rw [← hT]; exact hp) z
          rw [z, t1] at u1
          cases u1
          rw [z, hq]
          refine ⟨_, by rw [upd_ne (Ne.symm naP), upd_ne (Ne.symm ncP), upd_same], by rw [Array.toList_append]; exact PySem.TriplesOk_snoc _ _ _ _ t2, fun p' cv hcv => ?_⟩
          rw [Array.toList_append] at hcv
          rcases LamX.among_app _ t2 hcv with z3 | z3
          · obtain ⟨c0, e1, e2⟩ := t3 p' cv z3
            exact ⟨c0, e1, sF _ _ e2⟩
          · exact ⟨c', z3, by rw [upd_ne (Ne.symm nac), upd_same]⟩
        · exact ⟨tp', hh _ _ u1 z, u2, fun p' cv hcv => by
            obtain ⟨c0, e1, e2⟩ := u3 p' cv hcv
            exact ⟨c0, e1, sF _ _ e2⟩⟩
      · obtain ⟨us, h1, h2, h3, h4⟩ := R.st.obj p hp
        exact ⟨us, hh _ _ h1 (fun z => by rw [z, t1] at h1; cases h1), h2.mono sF, h3, h4⟩
end
end DL

namespace DL
open PySem PySem.Spec PyProof.Rows L2

/-! ### raise X("text"), X an own class without __init__ -/
/-- what the written part says of such a class, its name n, its object C -/
structure ExcCl (K : W.Frag) (mg : Str → Option Value) (n : Str) (C : Addr) : Prop where
  nm : HasName K n C
  at' : mg n = some (.ref C)
  kp : PySem.W.keepIn K (.ref C) = true
  ex : ∃ newId B initId bmB, ExcBaseFacts B newId initId bmB ∧ PySem.W.excIn K C bmB newId = true
  sb : PySem.W.subIn K (.ref C) (.type "BaseException") = some true
  ty : PySem.W.typeIn K (.ref C) = some (.type "type")
def gRaise (n : Str) : Ss := fun _ w => .rz ⟨n, none⟩ w
section
variable {X : Cx} {Z : Z0} {E : XK} {pos : Pos}
theorem d_raise {n m : Str} {C : Addr} {j : Nat} {p p2 pos' : Pos} (c : ExcCl X.K X.mg n C) (tk : Takes X (fun cls d _ H => E cls d H)) (hc : X.calm = true := by rfl) (hg : Gl X n := by rfl) (hdb : (n == ("__debug__" : Str)) = false := by decide) :
    DSt X Z E (.Raise (some (.Call (.Name n p) [.Constant (.str m) j p2] [] pos)) none pos') (fun _ _ H => E (.ref C) none H) (gRaise n) := by
  obtain ⟨newId, B, initId, bmB, F, q⟩ := c.ex
  refine ⟨ps_raise hc tk (pmk_own F q c.at' c.kp (raises_own c.sb c.ty) hg hdb), fun F ow σ H ρ w D R q => ?_⟩
  exact q (.ref C) none σ H F ow ρ R ⟨C, c.nm, rfl, rfl⟩

/-! ### a caught exception, tracked -/
/-- an object that is new since the entry is tracked -/
theorem Inv.track {pins : List (Addr × Obj)} {σ : L2.St} {H : Hp} {s : Shared} {a : Addr} {o : HO} (I : Inv X pins σ H s) (hex : X.ex = []) (n0 : X.s_0.heap.get? a = none) (hn : H a = none) (hL : a ≠ X.env.locals) (hc : ∀ v, ¬ s.heap.IsCell a v) (hp : ∀ p ∈ X.pn ++ pins, p.1 ≠ a) (new : ObjOk X.prog X.w (upd H a o) s.heap a o) :
    Inv X pins σ (upd H a o) s where
  ok := I.ok
  os := I.os
  bare := I.bare
  base := by
    have was : ∀ b u, X.s_0.heap.get? b = some u → b ≠ a := fun b u e z => by rw [z, n0] at e; cases e
    exact {
      keep := I.base.keep, slot := I.base.slot, there := I.base.there
      free := fun b u e n hx => by rw [upd_ne (was b u e)]; exact I.base.free b u e n hx
      tups := fun b xs e => by rw [upd_ne (ne_of_none (I.base.tups b xs e) hn)]; exact I.base.tups b xs e
      frzs := fun b u xs e => by rw [upd_ne (ne_of_none (I.base.frzs b u xs e) hn)]; exact I.base.frzs b u xs e
      tbls := fun b ps e => by
        obtain ⟨more, z⟩ := I.base.tbls b ps e
        exact ⟨more, by rw [upd_ne (ne_of_none z hn)]; exact z⟩ }
  loc := I.loc
  cell := I.cell
  free := by rw [upd_ne (Ne.symm hL)]; exact I.free
  freeC := fun x c e => by
    have nc : c ≠ a := fun z => by
      obtain ⟨v, h⟩ := I.cell x c e
      rw [z] at h
      exact hc v h
    rw [upd_ne nc]; exact I.freeC x c e
  pin := fun p hpin => by
    obtain ⟨e, n, r⟩ := I.pin p hpin
    exact ⟨e, by rw [upd_ne (hp p hpin)]; exact n, r⟩
  hok := L2.HOk.laidN I.hok (fun _ _ e => e) hn new
  len := I.len
/-- what a try whose one clause keeps the error wishes -/
def wKeep (K : W.Frag) (c : Value) (iE iF : Nat) (D : Ends) : WX := fun cls d σ H => PySem.W.exmOne K cls c = some true ∧ ∀ a, H a = none → D.nx (((σ.set iE (some (.ref a))).set iF (some (.ref a))).set iE none) (upd H a (ExcV cls d a))
theorem excV_ok {P : Program} {w : World} {H : Hp} {h : Heap} {a : Addr} {cls : Value} {d : Option Addr} {oe : Obj} {vs : Array Value} (e : h.get? a = some oe) (z : Zc cls d oe) (hd : oe.data = .fields vs) : ObjOk P w H h a (ExcV cls d a) :=
  ⟨⟨oe, vs, e, z, hd⟩, ⟨oe, e⟩, fun _ _ ⟨o, v, q, r⟩ k => ⟨o, v, k o q, r⟩⟩
theorem ps_keep {x n y : Str} {c : Value} {iE iF : Nat} {body : List Stmt} {np py pn' sp pos' : Pos} {tb : WX → TS} (hs : X.stack = X.env :: X.outer) (hf : X.env.frame = some X.env.locals) (hex : X.ex = []) (hN : X.N.Nodup) (hi : X.N[iE]? = some n) (hln : X.env.kindOf n = some .local) (hj : X.N[iF]? = some y) (hyl : Loc X.env.scope y)
    (hnd : (n == ("__debug__" : Str)) = false) (hncd : (n == ("__classdict__" : Str)) = false) (hin : iE < X.N.length) (hc : Names X x c)
    (hb : ∀ (W : WX) (pn : List (Addr × Obj)) (xe : Value → Shared → Prop), Takes (X.tr pn xe) W → PassesOwn (model X.prog X.w) X.A X.env xe → PSs (X.tr pn xe) body (tb W))
    (hsw : ∀ (a : Addr) (oe : Obj) (pn : List (Addr × Obj)), PSs (X.suite a ((a, oe) :: pn)) [.Assign [.Name y py] (.Name n pn') sp] (tAsg (tVar iE) (gName iF))) :
    PS X (.Try body [.ExceptHandler (some (.Name x np)) (some n) [.Assign [.Name y py] (.Name n pn') sp] pos'] [] [] pos) (fun D σ H => tb (wKeep X.K c iE iF D) D σ H) := by
  refine ⟨fun pins s σ H D I h => ?_⟩
  have ok := I.ok
  have hfr : X.A.frames = some (X.env :: X.outer) := by rw [ok.frames, hs]
  refine wpAny_Try_except (wpAny_mono ((hb (wKeep X.K c iE iF D) (X.pn ++ pins)
    (fun e s₁ => wpAny (model X.prog X.w) X.A (noteFrame e X.env) (fun _ s₂ => wpAny (model X.prog X.w) X.A (setFlight e none) (fun _ s₃ => wpAny (model X.prog X.w) X.A (handleBy e X.env [.ExceptHandler (some (.Name x np)) (some n) [.Assign [.Name y py] (.Name n pn') sp] pos']) (SP X pins D) X.xe s₃) X.xe s₂) X.xe s₁)
    (fun u t xx => ?_) PassesOwn.looking).run [] s σ H D (I.toTry _) h) (fun f t hsp => ?_) fun e t he => he)
  · obtain ⟨a, B, sI, pins1, σ1, H1, cls, d, rfl, J0, nb, up, sky, na, os, ag, hm, hyes⟩ := xx
    have J : Inv X pins σ1 H1 sI := J0.ofTry ok
    rw [hs] at sky
    show wpAny (model X.prog X.w) X.A (noteFrame (.ref a) X.env) _ _ _
    refine Sky.land Zc.steady hfr hf sky fun hA flA upA => ?_
    have JA : Inv X pins σ1 H1 { t with heap := hA } := J.landed nb flA.1 (up.trans upA) os ag
    obtain ⟨oA, vA, eA, zA, dA⟩ := flA.there
    have nfr : a ∉ frs (X.env :: X.outer) := fun hm => by
      obtain ⟨_, o', e', hnf⟩ := flA.2.2.1.mem hm
      rw [eA] at e'; cases e'
      exact hnf _ dA
    have nL : a ≠ X.env.locals := fun z => nfr (List.mem_filterMap.mpr ⟨X.env, List.mem_cons_self, by rw [hf, z]⟩)
    have nF : a ∉ X.fs := fun hm => by
      obtain ⟨e, he, q⟩ := List.mem_filterMap.mp hm
      exact nfr (List.mem_filterMap.mpr ⟨e, List.mem_cons_of_mem _ he, q⟩)
    -- the exception is newer than all that stood ahead of it
    have newI : sI.heap.get? a = none := by
      cases e : sI.heap.get? a with
      | none => rfl
      | some o =>
        have z := nb a o e (by rw [hs]; exact nfr)
        rw [flA.2.1] at z; cases z
    have new0 : X.s_0.heap.get? a = none := by
      cases e : X.s_0.heap.get? a with
      | none => rfl
      | some o =>
        obtain ⟨o', z⟩ := J.base.there a o e (by rw [hex]; exact fun z => nomatch z)
        rw [newI] at z; cases z
    have pinsNe : ∀ p ∈ X.pn ++ pins, p.1 ≠ a := fun p hp z => by
      have e := (J.pin p hp).1
      rw [z, newI] at e; cases e
    have SA := JA.suite eA dA na nL nF
    refine wpAny_handleBy_cons (codeAny_handlers_test ?_) (by intro q; cases q)
    have LT : PySem.W.Looks (model X.prog X.w) hA (typeOf (.ref a)) cls := fun A Q E s k q => wpAny_typeOf_ref (k _ _ eA) (by rw [zA.1]; exact q)
    have LM := PySem.W.exm_one (M := model X.prog X.w) SA.kIn LT hm
    have test : ∀ {Q : Value → Shared → Prop} {E : Value → Shared → Prop}, Q c { t with heap := hA } → wpAny (model X.prog X.w) (X.A.mark (some (.ref a))) (eval (.Name x np) X.env) Q E { t with heap := hA } := fun {Q E} q => by
      obtain ⟨hg, hdbg, hm | ⟨hm, hv, hnn⟩⟩ := hc
      · exact ld_glob (X := X.suite a ((a, oA) :: (X.pn ++ pins))) SA hg hm q hdbg
      · exact ld_blt (X := X.suite a ((a, oA) :: (X.pn ++ pins))) SA hg hm hv q hnn hdbg
    refine test (LM.here (codeAny_handlers_suite_as (HandSPX.lands_againZ flA fun hB flB upB => ?_)))
    have JB : Inv X pins σ1 H1 { t with heap := hB } := J.landed nb flB.1 ((up.trans upA).trans upB) os ag
    obtain ⟨oB, vB, eB, zB, dB⟩ := flB.there
    have SB := JB.suite eB dB na nL nF
    refine store_ok (X := X.suite a ((a, oB) :: (X.pn ++ pins))) (v := .ref a) SB hN hi (.inl hln) rfl (fun s5 S5 => ?_) (.inr hln)
    refine wpAny_mono ((hsw a oB (X.pn ++ pins)).run [] s5 _ H1 { nx := fun σ' H' => σ' = (σ1.set iE (some (.ref a))).set iF (some (.ref a)) ∧ H' = H1, rt := fun _ _ => False } S5 ?_) (fun f s6 hsp => ?_) fun _ _ z => False.elim z
    · refine ⟨.ref a, List.getElem?_set_self (by rw [J.len]; exact hin), ?_⟩
      exact ⟨rfl, rfl⟩
    · cases f with
      | next =>
        obtain ⟨σ6, H6, S6, e6, eH⟩ := hsp
        subst e6 eH
        have J6 : Inv X ((a, oB) :: pins) ((σ1.set iE (some (.ref a))).set iF (some (.ref a))) H6 s6 :=
          ⟨ok, S6.os, S6.bare, S6.base, S6.loc, S6.cell, S6.free, S6.freeC, fun p hp => S6.pin p (by
            show p ∈ ((a, oB) :: (X.pn ++ pins)) ++ []
            rw [List.append_nil]
            simp only [List.mem_append, List.mem_cons] at hp ⊢
            rcases hp with z | z | z
            · exact .inr (.inl z)
            · exact .inl z
            · exact .inr (.inr z)), S6.hok, S6.len⟩
        refine gone_ok J6 hN hi hln fun s7 J7 => ?_
        obtain ⟨e7, n7, _, _, ncell⟩ := J7.pin (a, oB) (by simp)
        have J8 : Inv X pins (((σ1.set iE (some (.ref a))).set iF (some (.ref a))).set iE none) H6 s7 := ⟨ok, J7.os, J7.bare, J7.base, J7.loc, J7.cell, J7.free, J7.freeC, fun p hp => J7.pin p (by
            simp only [List.mem_append, List.mem_cons] at hp ⊢
            rcases hp with z | z
            · exact .inl z
            · exact .inr (.inr z)), J7.hok, J7.len⟩
        exact ⟨_, _, Inv.track J8 hex new0 n7 nL (fun v ⟨o, ho, hd⟩ => by
          rw [e7] at ho
          cases ho
          exact ncell v hd) pinsNe (excV_ok e7 zB dB), hyes a n7⟩
      | brk =>
        obtain ⟨_, _, _, z⟩ := hsp
        exact z.elim
      | cont =>
        obtain ⟨_, _, _, z⟩ := hsp
        exact z.elim
      | ret u =>
        obtain ⟨_, _, _, _, _, z⟩ := hsp
        exact z.elim
  · cases f with
    | next =>
      obtain ⟨σ', H', J', q⟩ := hsp
      exact wpAny_execs_nil ⟨σ', H', J'.ofTry ok, q⟩
    | brk =>
      obtain ⟨σ', H', J', q⟩ := hsp
      exact ⟨σ', H', J'.ofTry ok, q⟩
    | cont =>
      obtain ⟨σ', H', J', q⟩ := hsp
      exact ⟨σ', H', J'.ofTry ok, q⟩
    | ret u =>
      obtain ⟨v, σ', H', J', r, q⟩ := hsp
      exact ⟨v, σ', H', J'.ofTry ok, r, q⟩
def tActW (X : Cx) (kc i : Nat) (E : L2.St → XK) : TE := fun σ H Q => ∃ b, σ[i]? = some (some (.ref b)) ∧ ∃ (F0 F : Hp) (f : DS → RR Dv) (dr : Ft) (w : DS), CloAt X.prog X.w X.K X.mg X.base kc dr.st X.s_0 X.H_0 F0 b f ∧ Same F0 F ∧ Same F H ∧ StX X.K dr F H w ∧ (∀ b, inDr dr b → F b = none) ∧ PostC X.K F H dr Q (E σ) (f w)
theorem pe_actW {kc k i : Nat} {a : Str} {p1 p2 : Pos} {E : L2.St → XK} (hr : Room k X.A) (hk : kc ≤ k) (hx : ∀ σ, PassesAt (L2.CX X.prog X.w) X σ (E σ)) (hN : X.N[i]? = some a) (hv : Vis X.env.scope a) (hex : X.ex = []) (hd : (a == ("__debug__" : Str)) = false) (hcd : (a == ("__classdict__" : Str)) = false) :
    PE X (.Call (.Name a p1) [] [] p2) (tActW X kc i E) := by
  refine ⟨fun pins s σ H Q I h => ?_⟩
  obtain ⟨b, hs, F0, F, f, dr, w, hC, e1, e2, st, nd, q⟩ := h
  refine wpAny_Call_Name_kw (thn ((pe_var (pos := p1) (i := i) hN hv hd hcd).run pins s σ H (fun v H1 => v = .ref b ∧ H1 = H) I ⟨.ref b, hs, rfl, rfl⟩) fun u s1 ⟨v, H1, I1, r1, q1⟩ => ?_)
  obtain ⟨rfl, rfl⟩ := q1
  obtain rfl : u = Value.ref b := r1
  have un := I1.base
  rw [hex] at un
  obtain ⟨⟨oc, od, fd, sl, ho⟩, rc⟩ := hC X.A X.stack s1 H1 F X.fs dr w Q (E σ) (hr.mono hk) I1.env0 un e1 e2 st rfl nd q
  refine PySem.W.callWith_F0 ⟨_, _, _, _, ho⟩ (wpAny_call (codeAny_mono rc fun r s' hq => ?_))
  cases r with
  | error e => exact hx σ pins H1 s1 e s' I1 hq
  | ok fl =>
    cases fl with
    | ret u => exact I1.after hq
    | next => exact False.elim hq
    | brk => exact False.elim hq
    | cont => exact False.elim hq
/-- the error as data -/
def excD (x : Xc) : Dv := .exc x.cls (match x.fld with | some p => [p] | none => [])
def gKeep (iA iE iF : Nat) (ok : Str → Bool) : Ss := fun ρ w => match ρ[iA]? with
  | some (.fn f) => match f w with
    | .ok _ w1 => .ok (.nx ρ) w1
    | .rz x w1 => if ok x.cls = true then .ok (.nx ((ρ.set iF (.dat (excD x))).set iE .un)) w1 else .stuck
    | .stuck => .stuck
  | _ => .stuck
theorem set3 {α : Type} {l : List α} {i j : Nat} {x y z : α} (h : i ≠ j) : ((l.set i x).set j y).set i z = (l.set j y).set i z := by
  rw [List.set_comm _ _ h, List.set_set]
/-- try: f() / except x as n: y = n -/
theorem d_keep {kc k : Nat} (iA iE iF : Nat) {ok : Str → Bool} {a x n y : Str} {c : Value} {p1 p2 p3 np py pn' sp pos' : Pos} (hZ : ∀ a h, Z.dr.clo a h → CloAt X.prog X.w X.K X.mg X.base kc Z.dr.st X.s_0 X.H_0 Z.F a h) (hok : ∀ n, ok n = true → ∀ C, HasName X.K n C → PySem.W.exmOne X.K (.ref C) c = some true)
    (hr : Room k X.A) (hk : kc ≤ k) (hc : Names X x c) (hN : X.N.Nodup) (hne : iE ≠ iF) (hs : X.stack = X.env :: X.outer := by rfl) (hf : X.env.frame = some X.env.locals := by rfl) (hex : X.ex = [] := by rfl) (hA : X.N[iA]? = some a := by rfl) (hi : X.N[iE]? = some n := by rfl) (hj : X.N[iF]? = some y := by rfl) (hv : Vis X.env.scope a := by first | exact Or.inl rfl | exact Or.inr (Or.inl rfl) | exact Or.inr (Or.inr rfl))
    (hln : X.env.kindOf n = some .local := by rfl) (hyl : Loc X.env.scope y := by first | exact Or.inl rfl | exact Or.inr rfl) (hyk : X.env.kindOf y = some .local := by rfl) (hin : iE < X.N.length := by decide)
    (hd : (a == ("__debug__" : Str)) = false := by decide) (hcd : (a == ("__classdict__" : Str)) = false := by decide) (hnd : (n == ("__debug__" : Str)) = false := by decide) (hncd : (n == ("__classdict__" : Str)) = false := by decide) (hsw : swapsWith (.Call (.Name a p1) [] [] p2) none p3.line X.env = pure false := by rfl) :
    DSt X Z E (.Try [.Expr (.Call (.Name a p1) [] [] p2) p3] [.ExceptHandler (some (.Name x np)) (some n) [.Assign [.Name y py] (.Name n pn') sp] pos'] [] [] pos) (fun D σ H => tActW X kc iA (WE (wKeep X.K c iE iF D)) σ H fun _ H1 => D.nx σ H1) (gKeep iA iE iF ok) := by
  refine ⟨ps_keep (tb := fun W D σ H => tActW X kc iA (WE W) σ H fun _ H1 => D.nx σ H1) hs hf hex hN hi hln hj hyl hnd hncd hin hc (fun W pn xe tk _ => ?_) (fun a oe pn => ?_), fun F ow σ H ρ w D R q => ?_⟩
  · exact pss_one (ps_expr (pe_actW (X := X.tr pn xe) hr hk (fun σ => passAt tk σ) hA hv hex hd hcd) hsw)
  · exact pss_one (ps_set (i := iF) (hf := .inr hyk) hN hj hyl (pe_var (i := iE) hi (.inl hln) hnd hncd))
  · unfold gKeep at q
    cases e : ρ[iA]? with
    | none => rw [e] at q; exact q.elim
    | some v =>
      rw [e] at q
      cases v with
      | fn f =>
        obtain ⟨b, hb, hclo⟩ := R.slots iA _ e
        refine ⟨b, hb, Z.F, F, f, Z.dr, w, hZ b f hclo, R.keepF, R.sub, R.st, R.noDr, ?_⟩
        cases ef : f w with
        | stuck => simp only [ef] at q; exact q
        | ok d w1 =>
          simp only [ef] at q
          exact fun v H' F' g st r => q σ H' F' ow g.ff (R.call g st)
        | rz x w1 =>
          simp only [ef] at q
          split at q
          case isFalse => exact q.elim
          rename_i hx
          intro cls dx H' F' g st ⟨C, hn, hcls, hfld⟩
          subst hcls
          refine ⟨hok _ hx C hn, fun a na => ?_⟩
          have R1 := R.call g st
          have nFa : F' a = none := R1.sub.free na
          have R2 := R1.grow (Gr.new R1.sub (ExcV (.ref C) dx a) na)
          have s2 : Same F' (upd F' a (ExcV (.ref C) dx a)) := same_upd nFa
          have rp : Rp X.K (upd F' a (ExcV (.ref C) dx a)) (.ref a) (excD x) := by
            unfold excD
            cases hfx : x.fld with
            | none =>
              rw [hfx] at hfld
              simp only at hfld
              subst hfld
              exact .exc0 hn upd_same
            | some p =>
              obtain ⟨y, d⟩ := p
              rw [hfx] at hfld
              obtain ⟨dd, v, rfl, h1, h2⟩ := hfld
              exact .exc1 hn upd_same (s2 _ _ h1) (h2.mono s2)
          have R3 := R2.set (i := iF) (v := .ref a) (e := .dat (excD x)) ⟨_, rfl, rp⟩
          have R4 : Rep X.K Z _ ow ((σ.set iF (some (.ref a))).set iE none) _ _ w1 := R3.unset (i := iE)
          rw [set3 hne]
          exact q _ _ _ ow (g.ff.trans s2) R4
      | _ => exact q.elim
end
end DL

namespace DL
open PySem PySem.Spec PyProof.Rows L2

/-! ### isinstance(error, X) -/
def isX (sub : Str → Option Bool) : Dv → Option Dv
  | .non => some (.bl false)
  | .exc n [] => (sub n).map .bl
  | _ => none
def fIsX (sub : Str → Option Bool) (fa : Sx) : Sx := fun ρ w => (fa ρ w).bind fun d w1 => .of (isX sub d) w1
/-- what isinstance says of the classes that sub tells -/
def IsTab (K : W.Frag) (D : Value) (sub : Str → Option Bool) : Prop := ∀ n b, sub n = some b → ∀ C, HasName K n C → ExcC K C ∧ PySem.W.kitOne K (.ref C) D = some b
theorem isTab_nil {K : W.Frag} {D : Value} : IsTab K D (fun _ => none) := fun _ _ h => nomatch h
theorem isTab_cons {K : W.Frag} {D : Value} {sub : Str → Option Bool} {m : Str} {C : Addr} {b : Bool} (hn : HasName K m C) (hx : ExcC K C) (hk : PySem.W.kitOne K (.ref C) D = some b) (h : IsTab K D sub) : IsTab K D (fun n => if n = m then some b else sub n) := fun n b' e C' hC => by
  have e : (if n = m then some b else sub n) = some b' := e
  by_cases z : n = m
  · subst z
    rw [if_pos rfl] at e
    cases e
    obtain rfl := hn.inj hC
    exact ⟨hx, hk⟩
  · rw [if_neg z] at e
    exact h n b' e C' hC
def rIsX (K : W.Frag) (cv : Value) : List V → Hp → VK → Prop := fun xs H Q => ∃ (x c : V) (b : Bool), xs = [x, c] ∧ ClsV c cv ∧ ((∃ a C, x = .ref a ∧ H a = some (ExcV (.ref C) none a) ∧ ExcC K C ∧ PySem.W.kitOne K (.ref C) cv = some b) ∨ (x = .non ∧ PySem.W.kitOne K (.type "NoneType") cv = some b)) ∧ Q (.bl b) H
section
variable {X : Cx} {Z : Z0} {E : XK} {pos : Pos}
theorem call_isx {cv : Value} {K0 : W.Frag} (hK0 : X.K = K0 := by rfl) : CallR X (.builtin "isinstance") (rIsX K0 cv) := by
  subst hK0
  intro pins s σ H xs us Q I r h
  obtain ⟨x, c, b, rfl, k, hx, q⟩ := h
  rcases hx with ⟨a, C, rfl, ha, hC, e⟩ | ⟨rfl, e⟩
  · cases r with
    | cons rx rr =>
      cases rr with
      | cons rt rn =>
        cases rn
        have e2 := k.eq rt
        subst e2
        cases rx
        obtain ⟨⟨oe, vs, hget, hz, hv⟩, _, _⟩ := I.hok a _ ha
        have J : PySem.W.InstAt s.heap a oe C none := by
          obtain ⟨oc, od, oda, osl⟩ := oe
          obtain ⟨h1, h2⟩ := hz
          dsimp only at h1 h2 hv
          subst h1 h2 hv
          exact ⟨hget, rfl, rfl, trivial⟩
        exact PySem.W.kia_one (PySem.W.handS_kitx_exc hC.hg hC.hk hC.hs hC.hd hC.ha hC.hn hC.ht hC.hm) I.kIn J e (fun z => nomatch z) fun tk => ⟨.bl b, H, I.tok tk, rfl, q⟩
  · exact call_isi pins s σ H _ us Q I r ⟨.non, c, .type "NoneType", cv, b, rfl, k, .base .non, e, q⟩
theorem s_isx {K : W.Frag} {cv : Value} {cl : V} {sub : Str → Option Bool} {ta : TE} {fa : Sx} (hk : ClsV cl cv) (ht : IsTab K cv sub) (hnon : PySem.W.kitOne K (.type "NoneType") cv = some false) (ha : Snd K Z E ta fa) : Snd K Z E (tCB (rIsX K cv) (tCons ta (tCons (tC cl) tNil))) (fIsX sub fa) := fun F ow σ H ρ w Q R q =>
  ha.seq R q fun d w1 x H1 F1 ow1 s1 R1 r1 q1 => by
    cases e : isX sub d with
    | none => rw [e] at q1; exact q1.elim
    | some z =>
      rw [e] at q1
      have q1 : QE K Z F σ Q ρ z w1 := q1
      cases r1 with
      | non =>
        cases e
        exact ⟨.non, cl, false, rfl, hk, .inr ⟨rfl, hnon⟩, q1 _ H1 F1 ow1 s1 R1 (.bl _)⟩
      | @exc0 n C a hn hF =>
        have e : (sub n).map Dv.bl = some z := e
        cases es : sub n with
        | none => rw [es] at e; cases e
        | some b =>
          rw [es] at e
          cases e
          obtain ⟨h1, h2⟩ := ht n b es C hn
          exact ⟨.ref a, cl, b, rfl, hk, .inl ⟨a, C, rfl, R1.sub _ _ hF, h1, h2⟩, q1 _ H1 F1 ow1 s1 R1 (.bl _)⟩
      | _ => cases e
theorem e_isx {p p2 : Pos} {T : Str} {D : Addr} {sub : Str → Option Bool} {a : Expr} {ta : TE} {fa : Sx} (hm : X.mg "isinstance" = none) (ha : DE X Z E a ta fa) (hT : X.mg T = some (.ref D)) {K0 : W.Frag} (ht : IsTab K0 (.ref D) sub) (hnon : PySem.W.kitOne K0 (.type "NoneType") (.ref D) = some false) (hg : Gl X "isinstance" := by rfl) (hgT : Gl X T := by rfl) (hd : (T == ("__debug__" : Str)) = false := by decide)
    (hs1 : starEach (a :: [.Name T p2]) X.env = (false, eval a X.env) :: starEach [.Name T p2] X.env := by rfl) (hs2 : starEach (.Name T p2 :: []) X.env = (false, eval (.Name T p2) X.env) :: starEach [] X.env := by rfl) (hpl : (backTo pos (starEach [.Name T p2] X.env)).any (·.1) = false := by rfl) (hK0 : X.K = K0 := by rfl) :
    DE X Z E (.Call (.Name "isinstance" p) [a, .Name T p2] [] pos) (tCB (rIsX K0 (.ref D)) (tCons ta (tCons (tC (.ref D)) tNil))) (fIsX sub fa) := by
  subst hK0
  exact ⟨pe_callB call_isx hg hm boot_isinstance (pa_cons ha.pe (pa_cons (pe_glob hgT hT rfl hd) pa_nil hs2) hs1) (by decide) (by decide) hs1 hpl, s_isx (.own D) ht hnon ha.sn⟩
/-- isinstance(error, T), T a built-in class of exceptions -/
theorem e_isxB {p p2 : Pos} {T : Str} {T' : String} {sub : Str → Option Bool} {a : Expr} {ta : TE} {fa : Sx} (hm : X.mg "isinstance" = none) (ha : DE X Z E a ta fa) (hmT : X.mg T = none) (hv : bootBuiltins T = some (.type T')) {K0 : W.Frag} (ht : IsTab K0 (.type T') sub) (hnon : PySem.W.kitOne K0 (.type "NoneType") (.type T') = some false) (hg : Gl X "isinstance" := by rfl) (hgT : Gl X T := by rfl) (hn : T ≠ "__name__" := by decide) (hd : (T == ("__debug__" : Str)) = false := by decide)
    (hs1 : starEach (a :: [.Name T p2]) X.env = (false, eval a X.env) :: starEach [.Name T p2] X.env := by rfl) (hs2 : starEach (.Name T p2 :: []) X.env = (false, eval (.Name T p2) X.env) :: starEach [] X.env := by rfl) (hpl : (backTo pos (starEach [.Name T p2] X.env)).any (·.1) = false := by rfl) (hK0 : X.K = K0 := by rfl) :
    DE X Z E (.Call (.Name "isinstance" p) [a, .Name T p2] [] pos) (tCB (rIsX K0 (.type T')) (tCons ta (tCons (tC (.ty T')) tNil))) (fIsX sub fa) := by
  subst hK0
  exact ⟨pe_callB call_isx hg hm boot_isinstance (pa_cons ha.pe (pa_cons (pe_bltn hgT hmT hv rfl hn hd) pa_nil hs2) hs1) (by decide) (by decide) hs1 hpl, s_isx (.ty T') ht hnon ha.sn⟩
end
end DL

namespace DL
open PySem PySem.Spec PySem.Calls PySem.W PyProof.Rows PySem.HandSPX

/-! ### an own exception whose __init__ hands its one argument on and keeps it -/
def iniA (w : Str) (p1 p2 : Pos) : Arguments := { posonlyargs := [], args := [{ arg := "self", annotation := none, pos := p1 }, { arg := w, annotation := none, pos := p2 }], vararg := none, kwonlyargs := [], kw_defaults := [], kwarg := none, defaults := [] }
structure IniP where
  (a b c d e f g h i j : Pos)
def iniB (w : Str) (q : IniP) : List Stmt := [.Expr (.Call (.Attribute (.Call (.Name "super" q.a) [] [] q.b) "__init__" q.c) [.Name w q.d] [] q.e) q.f, .Assign [.Attribute (.Name "self" q.g) w q.h] (.Name w q.i) q.j]
def iniS (w : Str) : Scope := { kind := .function, names := [(Str.ofString "self", .local), (w, .local), (Str.ofString "__class__", .free), (Str.ofString "super", .globalImplicit)], isGenerator := false, isCoroutine := false, more := [] }
/-- how the call of super().__init__ is read at its places -/
def MeOk (w : Str) (qs : IniP) : Prop := ∀ (qual : Str) (L fa : Addr) (cd : Value) (cc : Addr), ∃ pl, eval (.Call (.Attribute (.Call (.Name "super" qs.a) [] [] qs.b) "__init__" qs.c) [.Name w qs.d] [] qs.e) (ksEnv qual (iniS w) L fa cd cc) = (do
  let ov ← attributeBase (.Call (.Name "super" qs.a) [] [] qs.b) "__init__" (ksEnv qual (iniS w) L fa cd cc) (eval (.Call (.Name "super" qs.a) [] [] qs.b) (ksEnv qual (iniS w) L fa cd cc))
  standAt qs.c.atName
  let (f, first) ← holding [ov] (getMethod ov "__init__" pl)
  callWith qs.e f first (backTo qs.e (starEach [.Name w qs.d] (ksEnv qual (iniS w) L fa cd cc))) [])
structure OwnTxt (P : Program) (K : Frag) (mg : Str → Option Value) (n w : Str) (C fI : Addr) : Prop where
  nm : HasName K n C
  at' : mg n = some (.ref C)
  kp : keepIn K (.ref C) = true
  cls : ∃ nm q N bs bm sn sub ab col dd k0 k1 k2 k3 k5, K.lookup C = some (excClassObj nm q C N bs bm true sn sub ab col dd k0 k1 k2 k3 k5 "ValueError.__new__") ∧ refsVE bm = true ∧ alongIn K "__init__" bm = some (some (.builtin "ValueError.__init__"))
  sa : findIn K (.ref C) "__setattr__" = some (some (.builtin "object.__setattr__"))
  no : findIn K (.ref C) w = some none
  iC : findIn K (.ref C) "__init__" = some (some (.ref fI))
  tC : typeIn K (.ref fI) = some (.type "function")
  sb : subIn K (.ref C) (.type "BaseException") = some true
  ve : subIn K (.ref C) (.type "ValueError") = some true
  ty : typeIn K (.ref C) = some (.type "type")
  me : mroIn K C (.ref C) = some true
  opq : nsIn K cStatics "thirdparty.any" = some none
  sup : nsIn K mainGlobals "super" = some none
  fn : ∃ (oc ccl cl : Value) (od cdd cld : Option Addr) (doc pm : Value) (an : Option Addr) (ct : Value) (osl ccs csl : Array (Option Value)) (p1 p2 : Pos) (qs : IniP) (qual : Str) (cda cc : Addr) (vs : Array Value) (file : Str) (tf : Tok),
    K.lookup fI = some ⟨oc, od, .func (ksFn "__init__" qual (iniA w p1 p2) (iniB w qs) (iniS w) .none .none doc pm an (.ref cda) ct cc), osl⟩ ∧ codeIn K (.ref cda) qual = true ∧
    K.lookup cc = some ⟨cl, cld, .cell (some (.ref C)), csl⟩ ∧ K.lookup cda = some ⟨ccl, cdd, .fields vs, ccs⟩ ∧ vs[2]? = some (.str file tf) ∧ ((P.main.file : Str) == file) = true ∧ MeOk w qs
  top : (P.main.scope.names.lookup ("super" : Str)).isSome = false
/-- a method-wrapper of ValueError.__init__, called -/
theorem call_mw {prog : Program} {wd : World} {A : Around} {E : Value → Shared → Prop} {h : Heap} {g : Array GenState} {d : Drawn} {t : Nat} {os : OsState} {nm q : Str} {C N : Addr} {bs bm : List Value} {hdct : Bool} {sn : List Str} {sub : List Value} {ab : Bool} {col : Option Bool} {dd : Option Addr} {k0 k1 k2 k3 k5 : Option Value}
    {u e t0 : Addr} {rest : List Value} {Q : Value → Shared → Prop} (hC : h.get? C = some (excClassObj nm q C N bs bm hdct sn sub ab col dd k0 k1 k2 k3 k5 "ValueError.__new__")) (he : h.get? e = some (excO C t0)) (hu : h.get? u = some (kxs_mw "ValueError.__init__" e)) (hrest : rest.length ≤ sizeLine)
    (hq : ∀ h' t1, (∀ b o, b ≠ e → h.get? b = some o → h'.get? b = some o) → h'.get? e = some (excO C t1) → Q .none ⟨h', g, d, t, os⟩) : wpAny (model prog wd) A (call (.ref u) rest) Q E ⟨h, g, d, t, os⟩ := by
  have mw : (Value.type "method-wrapper" == Value.type "method" || Value.type "method-wrapper" == Value.type "builtin_function_or_method" || Value.type "method-wrapper" == Value.type "method-wrapper") = true := by decide
  refine wpAny_call (codeAny_of_tree (show wpAny _ A.in1 (callAny (.ref u) ⟨rest, []⟩) _ _ _ from ?_))
  simp only [callAny]
  refine wpAny_bind (wpAny_load hu ?_)
  simp only [kxs_mw, mw, if_true]
  refine W.KFB.if_so (by decide) (wpAny_bind (check_bound_init F.excBase_ValueError.toExcCallFacts hC he rfl (wpAny_bind (wpAny_pure (wpAny_pure ?_)))))
  refine ⟨Code.quiet_builtin _ (by decide +kernel), codeAny_builtin F.excBase_ValueError.initEntry ?_⟩
  rw [Around.under_plainId F.excBase_ValueError.init.plain _]
  wp_walk
  refine hq _ h.objs.size (fun b o nb e2 => (Heap.get?_update_other _ _ (Ne.symm nb)).trans (Heap.get?_push_of_some _ e2)) ?_
  rw [Heap.get?_update_self _ (Heap.get?_push_of_some _ he) rfl]; rfl
/-- what __init__ leaves of the fresh exception at x -/
structure IniEnd (h h' : Heap) (x C dx t1 : Addr) (w : Str) (v : Value) : Prop where
  keep : ∀ b o, b ≠ x → h.get? b = some o → h'.get? b = some o
  obj : h'.get? x = some { cls := .ref C, dict := some dx, data := .fields #[.ref t1, .none, .none, .none, .bool false, .none] }
  dbig : h.objs.size ≤ dx
  dne : dx ≠ x
  ns : h'.Ns1 dx (fun y => if y = w then some v else none)
/-- a name that may be such an argument -/
structure WOk (w : Str) : Prop where
  l1 : (iniS w).names.lookup (Str.ofString "self") = some .local
  l2 : (iniS w).names.lookup w = some .local
  l3 : (iniS w).names.lookup (Str.ofString "__class__") = some .free
  l4 : (iniS w).names.lookup (Str.ofString "super") = some .globalImplicit
  bd : ∀ (qual : Str) (p1 p2 : Pos) (qs : IniP) (doc pm : Value) (an : Option Addr) (cd ct : Value) (cc : Addr) (x v : Value), bindArgs (ksFn "__init__" qual (iniA w p1 p2) (iniB w qs) (iniS w) .none .none doc pm an cd ct cc) ⟨[x, v], []⟩ = pure [(Str.ofString "self", x), (w, v)]
  g1 : ∀ x v : Value, [(Str.ofString "self", x), (w, v)].reverse.lookup (Str.ofString "self") = some x
  g2 : ∀ x v : Value, [(Str.ofString "self", x), (w, v)].reverse.lookup w = some v
  nc : ∀ y ∈ (iniS w).names, y.2 ≠ .cell
  nd : (w == (Str.ofString "__debug__")) = false
theorem own_init {P : Program} {wd : World} {K : Frag} {mg : Str → Option Value} {n w : Str} {C fI : Addr} (T : OwnTxt P K mg n w C fI) (W : WOk w) {A : Around} {R : Result → Shared → Prop} {s : Shared} {x t0 : Addr} {v : Value} (X : K.In s.heap) (hg : s.heap.Ns mainGlobals mg) (hb : ∃ mb, s.heap.Ns builtinsNs mb ∧ ∀ x : Str, x ≠ "__name__" → mb x = bootBuiltins x) (lim : s.heap.NoLimit)
    (hx : s.heap.get? x = some (excO C t0)) (hnx : K.lookup x = none) (hroom : A.depth < recursionLimit) (hq : ∀ h' tk dx t1, IniEnd s.heap h' x C dx t1 w v → R (.ok (.ret .none)) { s with heap := h', toks := tk }) :
    codeAny (model P wd) A (.call (.ref fI) ⟨[.ref x, v], []⟩) R s := by
  obtain ⟨oc, ccl, cl, od, cdd, cld, doc, pm, an, ct, osl, ccs, csl, p1, p2, qs, qual, cda, cc, vs, file, tf, ho, hcd, hcc, hcda, hvs, hfile, hme⟩ := T.fn
  obtain ⟨nm, q, N, bs, bm, sn, sub, ab, col, dd, k0, k1, k2, k3, k5, hC, hbm, hal⟩ := T.cls
  obtain ⟨mb, hmb, hbb⟩ := hb
  have hcl : clsIn K C = some { name := nm, bases := bs, mro := .ref C :: bm, ns := N, qualname := q, hasDict := true, slotNames := sn, subclasses := sub, abstract := ab, collection := col, hasDel := false } := by unfold clsIn; rw [hC] <;> rfl
  refine ks_codeAny_call_defAt (fd := ksFn "__init__" qual (iniA w p1 p2) (iniB w qs) (iniS w) .none .none doc pm an (.ref cda) ct cc) (body := iniB w qs) (binds := [(Str.ofString "self", .ref x), (w, v)]) hroom (X _ _ ho) rfl lim (codeRec_of X hcd) rfl (BindsTo.of_eq (W.bd ..)) W.nc (fun y hy => ?_) (fun h1 hns hk1 => ?_)
  · simp only [List.mem_cons, List.not_mem_nil, or_false] at hy
    rcases hy with rfl | rfl
    · exact W.l1
    · exact W.l2
  have X1 : K.In h1 := X.keeps hk1
  have hx1 := hk1 _ _ hx
  have I1 : InstAt h1 x (excO C t0) C none := ⟨hx1, rfl, rfl, trivial⟩
  have hLx : s.heap.objs.size ≠ x := Nat.ne_of_gt (Heap.lt_size hx)
  show PySem.wpAt _ _ _ (execs (iniB w qs) (ksEnv qual (iniS w) s.heap.objs.size fI (.ref cda) cc)) _ _ _
  refine ks_wpAt_execs_cons (ks_wpAt_Expr_any ?_)
  obtain ⟨pl, hpl⟩ := hme qual s.heap.objs.size fI (.ref cda) cc
  refine ks_wpAt_MethodCall (pl := pl) (h := ?_) (he := hpl)
  refine ks_wpAt_super_base (env := ksEnv qual (iniS w) s.heap.objs.size fI (.ref cda) cc) W.l4 W.l3 rfl rfl (X1 _ _ ho) rfl rfl rfl (X1 _ _ hcda) rfl hvs hfile T.top ?_
  refine ks_loadName_global rfl W.l4 (loadGlobal_builtin (env := ksEnv qual (iniS w) s.heap.objs.size fI (.ref cda) cc) (hg.keeps hk1) (mg_none_of X hg T.sup) (hmb.keeps hk1) ((hbb _ (by decide +kernel)).trans (by decide +kernel)) ⟨rfl, ?_⟩)
  refine wpAny_loadName_free rfl W.l3 rfl ⟨_, X1 _ _ hcc, rfl⟩ ?_
  refine wpAny_loadName_local rfl W.l1 hns (W.g1 _ _) ?_
  refine ks_wpAny_isType_cls (X1 _ _ hC) rfl ⟨rfl, ?_⟩
  refine ks_wpAny_call_super (X1 _ _ hC) rfl hx1 rfl (fun c e => by cases e) (looks_mroIn X1 T.me) (fun h2 e2 k2 => ?_)
  have X2 : K.In h2 := X1.keeps k2
  have I2 : InstAt h2 x (excO C t0) C none := ⟨k2 _ _ hx1, rfl, rfl, trivial⟩
  have mro2 : Looks (model P wd) h2 (mroOf (.ref C)) (.ref C :: bm) := fun A Q E s k q => wpAny_bind ((looks_clsIn X2 hcl) A _ E s k (wpAny_pure q))
  refine kxs_getMethod kxs_ValueError e2 (looks_opaque X2 T.opq) (l₀ := .ref C :: bm) mro2 (l := bm) ?_ X2 hal (I2.type.andThen (looks_subIn X2 T.ve)) (ks_ne X2 I2 hcl) rfl ?_
  · simp [List.dropWhile_cons]
  have hs1 : starEach [.Name w qs.d] (ksEnv qual (iniS w) s.heap.objs.size fI (.ref cda) cc) = [(false, eval (.Name w qs.d) (ksEnv qual (iniS w) s.heap.objs.size fI (.ref cda) cc))] := rfl
  show wpAny _ _ (callWith qs.e (.ref h2.objs.size) [] (backTo qs.e (starEach [.Name w qs.d] (ksEnv qual (iniS w) s.heap.objs.size fI (.ref cda) cc))) []) _ _ _
  rw [hs1]
  have hns2 : (h2.push (kxs_mw "ValueError.__init__" x)).Ns s.heap.objs.size fun y => [(Str.ofString "self", Value.ref x), (w, v)].reverse.lookup y := (hns.keeps k2).push _
  have k3 : ∀ b o, h1.get? b = some o → (h2.push (kxs_mw "ValueError.__init__" x)).get? b = some o := fun b o e => Heap.get?_push_of_some _ (k2 b o e)
  refine kxs_callWith (i := "ValueError.__init__") (x := x) (by rfl) (evalArgs_plain (Calls.spliced_cons (wpAny_Name (wpAny_loadName_local rfl W.l2 hns2 (W.g2 _ _) (Calls.spliced_nil ⟨Heap.get?_push_size _ rfl, ?_⟩)) W.nd)))
  refine call_mw (k3 _ _ (X1 _ _ hC)) (k3 _ _ hx1) (Heap.get?_push_size _ rfl) (by show 1 ≤ sizeLine; rw [sizeLine_eq]; omega) fun h4 t1 k4 e4 => ?_
  have X4 : K.In h4 := fun b o e => k4 b o (fun z => by rw [z, hnx] at e; cases e) (k3 b o (X1 b o e))
  obtain ⟨oL, es, ep, eL, rL⟩ := hns2
  have hns4 : h4.Ns s.heap.objs.size fun y => [(Str.ofString "self", Value.ref x), (w, v)].reverse.lookup y := ⟨oL, es, ep, k4 _ _ hLx eL, rL⟩
  refine ks_wpAt_execs_cons (ks_wpAt_Assign_Attr ?_)
  refine PySem.wpAt_of_wpAny (wpAny_Name (wpAny_loadName_local rfl W.l2 hns4 (W.g2 _ _) ?_) W.nd)
  refine wpAny_Name (wpAny_loadName_local rfl W.l1 hns4 (W.g1 _ _) ?_) (by decide)
  refine set_plain X4 (ox := excO C t1) (od := none) ⟨e4, rfl, rfl, trivial⟩ T.sa ?_
  refine exc_osa X4 e4 hcl (show refsVE (.ref C :: bm) = true from hbm) rfl T.no (fun h5 tk5 dx k5 dn dne e5 ns5 => ?_)
  have old : ∀ b o, b ≠ x → s.heap.get? b = some o → h4.get? b = some o := fun b o hb e => k4 b o hb (k3 b o (hk1 b o e))
  refine PySem.wpAt_of_wpAny (wpAny_execs_nil (hq h5 tk5 dx t1 ⟨fun b o hb e => k5 b o hb (old b o hb e), e5, Nat.le_of_lt (Nat.lt_of_lt_of_le hns4.lt dn), dne, ns5⟩))
/-- a made exception -/
structure OwnMade (h h' : Heap) (e C d : Addr) (w : Str) (v : Value) : Prop where
  keep : ∀ b o, h.get? b = some o → h'.get? b = some o
  new : h.objs.size ≤ e
  obj : ∃ oe vs, h'.get? e = some oe ∧ oe.cls = .ref C ∧ oe.dict = some d ∧ oe.data = .fields vs ∧ vs[1]? = some .none
  dbig : h.objs.size ≤ d
  dne : d ≠ e
  ns : h'.Ns1 d (fun y => if y = w then some v else none)
theorem ini_bind {M : Model} {K : Frag} {h : Heap} {fI : Addr} (X : K.In h) (self : Value) (ht : ∃ oc od fd osl, K.lookup fI = some ⟨oc, od, .func fd, osl⟩ ∧ oc = .type "function") : Looks M h (bindSpecial (.ref fI) self) (.ref fI, [self]) := by
  obtain ⟨oc, od, fd, osl, h1, rfl⟩ := ht
  exact exc_bind (X _ _ h1) rfl self
theorem own_made {P : Program} {wd : World} {K : Frag} {mg : Str → Option Value} {n w : Str} {C fI : Addr} (T : OwnTxt P K mg n w C fI) (W : WOk w) {A : Around} {R : Result → Shared → Prop} {s : Shared} {v : Value} (X : K.In s.heap) (hg : s.heap.Ns mainGlobals mg) (hb : ∃ mb, s.heap.Ns builtinsNs mb ∧ ∀ x : Str, x ≠ "__name__" → mb x = bootBuiltins x) (lim : s.heap.NoLimit) (hroom : A.depth + 1 < recursionLimit)
    (hq : ∀ h' tk e d, OwnMade s.heap h' e C d w v → R (.ok (.ret (.ref e))) { s with heap := h', toks := tk }) : codeAny (model P wd) A (.call (.ref C) ⟨[v], []⟩) R s := by
  obtain ⟨nm, q, N, bs, bm, sn, sub, ab, col, dd, k0, k1, k2, k3, k5, hC, hbm, hal⟩ := T.cls
  obtain ⟨hp, g, dr, tk, os⟩ := s
  obtain ⟨mb, hmb, hbb⟩ := hb
  have k : ∀ b o, hp.get? b = some o → ((hp.push (kdv_tup [v])).push (excO C hp.objs.size)).get? b = some o := fun b o e => Heap.get?_push_of_some _ (Heap.get?_push_of_some _ e)
  have he : ((hp.push (kdv_tup [v])).push (excO C hp.objs.size)).get? (hp.objs.size + 1) = some (excO C hp.objs.size) := by heap_get
  have nx : K.lookup (hp.objs.size + 1) = none := by
    cases e : K.lookup (hp.objs.size + 1) with
    | none => rfl
    | some o =>
      have z : hp.get? (hp.objs.size + 1) = some o := X _ _ e
      have z2 : hp.objs.size + 1 < hp.objs.size := Heap.lt_size z
      omega
  obtain ⟨oc, ccl, cl, od, cdd, cld, doc, pm, an, ct, osl, ccs, csl, p1, p2, qs, qual, cda, cc, vs, file, tf, ho, _⟩ := T.fn
  have hoc : oc = .type "function" := by
    have z : Option.map (fun x => x.cls) (List.lookup fI K) = some (.type "function") := T.tC
    have ho2 : List.lookup fI K = _ := ho
    rw [ho2] at z
    exact Option.some.inj z
  refine call_own F.excBase_ValueError (fun Y => refsVE_contains Y bm hbm) (X _ _ hC) (looks_findIn X T.iC) (fun self => ini_bind X self ⟨_, _, _, _, ho, hoc⟩) (by show 1 ≤ sizeLine; rw [sizeLine_eq]; omega) ?_
  refine own_init (s := ⟨(hp.push (kdv_tup [v])).push (excO C hp.objs.size), g, dr, tk, os⟩) T W (X.keeps k) (hg.keeps k) ⟨mb, hmb.keeps k, hbb⟩ (lim.keeps k) he nx (by show A.depth + 1 < recursionLimit; exact hroom) fun h' tk' dx t1 M => ?_
  have old : ∀ b o, hp.get? b = some o → h'.get? b = some o := fun b o e => M.keep b o (Nat.ne_of_lt (Nat.lt_succ_of_lt (Heap.lt_size e))) (k b o e)
  have big : hp.objs.size + 1 + 1 ≤ dx := by
    have := M.dbig
    simpa only [Heap.size_push] using this
  exact ⟨rfl, hq h' tk' (hp.objs.size + 1) dx ⟨old, Nat.le_succ _, ⟨_, _, M.obj, rfl, rfl, rfl, rfl⟩, by show hp.objs.size ≤ dx; omega, M.dne, M.ns⟩⟩
end DL
namespace DL
open PySem PySem.Spec PyProof.Rows L2
theorem relO_one {w : Str} {v : V} {v' : Value} (r : RelV v v') (f : Str) : RelO (List.lookup f [(w, v)]) (if f = w then some v' else none) := by
  by_cases hw : f = w
  · subst hw
    rw [if_pos rfl]
    have q : List.lookup f [(f, v)] = some v := by simp [List.lookup]
    rw [q]
    exact r
  · rw [if_neg hw]
    have qw : (f == w) = false := by simpa using hw
    have q2 : List.lookup f [(w, v)] = none := by simp [List.lookup, qw]
    rw [q2]
    trivial
def tMkOwn (C : Addr) (w : Str) (ta : TA) : L2.St → Hp → XK → Prop := fun σ H Q => ta σ H fun vs H1 => ∃ v, vs = [v] ∧ ∀ d, H1 d = none → Q (.ref C) (some d) (upd H1 d (.xd [(w, v)]))
section
variable {X : Cx} {Z : Z0} {E : XK} {pos : Pos} {n w : Str} {C fI : Addr}
theorem pmk_ownI {a : Expr} {ta : TA} {p : Pos} {k : Nat} (T : OwnTxt X.prog X.K X.mg n w C fI) (W : WOk w) (hr : Room k X.A) (ha : PA X [a] ta) (hg : Gl X n) (hdb : (n == ("__debug__" : Str)) = false)
    (he : starEach (a :: []) X.env = (false, eval a X.env) :: starEach [] X.env) (hpl : (backTo pos (starEach [] X.env)).any (·.1) = false) : PMk X (.Call (.Name n p) [a] [] pos) (tMkOwn C w ta) := by
  intro pins s σ H Q I h
  refine wpAny_Call_Name_kw (ld_glob I hg T.at' ?_ hdb)
  refine PySem.W.callWith_K (h₀ := X.base) I.ok.mod.kin T.kp (thn (ha.run pos pins s σ H _ I h) fun us s1 hh => ?_) he hpl
  obtain ⟨vs, H1, I1, r1, v, ev, q1⟩ := hh
  subst ev
  refine ⟨I1.kIn, ?_⟩
  cases r1 with
  | cons rv rn =>
    rename_i v' us'
    cases rn
    show wpAny _ _ (call (.ref C) [v']) _ _ _
    have lim := I1.nolimit
    have hgl := I1.mod.glob.keeps I1.bk
    have hbl : ∃ mb, s1.heap.Ns builtinsNs mb ∧ ∀ x : Str, x ≠ "__name__" → mb x = bootBuiltins x := let ⟨mb, h1, h2⟩ := I1.mod.blt; ⟨mb, h1.keeps I1.bk, h2⟩
    obtain ⟨hp, g, dr, tk, os⟩ := s1
    refine wpAny_call (own_made T W I1.kIn hgl hbl lim (by have := hr.dp; omega) fun h' tk' e d M => ?_)
    show MkP X pins σ Q (.ref e) ⟨h', g, dr, tk', os⟩
    obtain ⟨oe, fv, hoe, hc, hd, hdat, h1⟩ := M.obj
    have hns := M.ns
    obtain ⟨G, g1, g2⟩ := restrict h' fun b => decide (b ≠ e)
    have gk : ∀ b, b ≠ e → G.get? b = h'.get? b := fun b hb => g1 b (decide_eq_true hb)
    have ge : G.get? e = none := g2 e (by simp)
    have old : ∀ b o, hp.get? b = some o → G.get? b = some o := fun b o q => (gk b (Nat.ne_of_lt (Nat.lt_of_lt_of_le (Heap.lt_size q) M.new))).trans (M.keep b o q)
    have ob : ObjOk X.prog X.w (upd H1 d (.xd [(w, v)])) G d (.xd [(w, v)]) := ⟨_, hns.at (fun o q => (gk d M.dne).trans q), fun f => relO_one rv f⟩
    have J : Inv X pins σ (upd H1 d (.xd [(w, v)])) ⟨G, g, dr, tk', os⟩ := I1.laid (t' := tk') old M.dbig ob
    refine ⟨e, oe, fv, ⟨G, g, dr, tk', os⟩, _, .ref C, some d, rfl, J, fun b o q => ?_, ge, hoe, ⟨hc, hd⟩, hdat, h1, ?_, rfl, I1.bare, raises_own T.sb T.ty, q1 d (I1.hok.fresh M.dbig)⟩
    · by_cases hb : b = e
      · have q' : G.get? b = some o := q
        rw [hb, ge] at q'; cases q'
      · exact (gk b hb).symm.trans q
    · rw [upd_ne (Ne.symm M.dne)]
      exact I1.hok.fresh M.new
def gRaiseI (n w : Str) (fa : Sx) : Ss := fun ρ w0 => (fa ρ w0).bind fun d w1 => .rz ⟨n, some (w, d)⟩ w1
theorem d_raiseI {a : Expr} {ta : TE} {fa : Sx} {p pos2 : Pos} {k : Nat} (T : OwnTxt X.prog X.K X.mg n w C fI) (W : WOk w) (hr : Room k X.A) (ha : DE X Z E a ta fa) (tk : Takes X (fun cls d _ H => E cls d H)) (hc : X.calm = true := by rfl) (hg : Gl X n := by rfl) (hdb : (n == ("__debug__" : Str)) = false := by decide)
    (he : starEach (a :: []) X.env = (false, eval a X.env) :: starEach [] X.env := by rfl) (hpl : (backTo pos (starEach [] X.env)).any (·.1) = false := by rfl) :
    DSt X Z E (.Raise (some (.Call (.Name n p) [a] [] pos)) none pos2) (fun _ σ H => tMkOwn C w (tCons ta tNil) σ H fun cls d H' => E cls d H') (gRaiseI n w fa) := by
  refine ⟨ps_raise hc tk (pmk_ownI T W hr (pa_cons ha.pe pa_nil he) hg hdb he hpl), fun F ow σ H ρ w0 D R q => ?_⟩
  show tCons ta tNil σ H _
  unfold gRaiseI at q
  refine ha.sn F ow σ H ρ w0 _ R ?_
  cases e : fa ρ w0 with
  | stuck => rw [e] at q; exact q
  | rz x w1 => rw [e] at q; exact fun cls dx H1 F1 ow1 R1 xr => q cls dx σ H1 F1 ow1 ρ R1 xr
  | ok d w1 =>
    rw [e] at q
    intro v H1 F1 ow1 s1 R1 r1
    refine ⟨v, rfl, fun dx nd => ?_⟩
    have nF : F1 dx = none := R1.sub.free nd
    exact q (.ref C) (some dx) σ _ _ ow1 ρ (R1.grow (Gr.new R1.sub (.xd [(w, v)]) nd)) ⟨C, T.nm, rfl, dx, v, rfl, upd_same, r1.mono (same_upd nF)⟩
end
end DL

namespace DL
open PySem PySem.Spec PySem.Calls PySem.W PyProof.Rows
/-! ### isinstance of an error that has a dict -/
section
variable {prog : Program} {w : World} {A : Around} {E : Value → Shared → Prop} {s : Shared} {K : Frag} {x D : Addr} {ox : Obj} {od : Option Obj}
theorem findObj_dataD {C : Addr} {name : Str} {a g : Value} (hc : (clsIn K C).isSome = true) (ha : findIn K (.ref C) name = some (some a)) (hg : specialIn K a "__get__" = some (some g)) (ht : takesIn K a = some true) : findObj K C od name = some (.bind g a) := by
  obtain ⟨cd, hc⟩ := Option.isSome_iff_exists.mp hc
  unfold findObj
  simp [hc, ha, hg, ht]
theorem cls_of_exc {Q : Option Value → Shared → Prop} (T : L2.ExcC K D) (X : K.In s.heap) (I : InstAt s.heap x ox D od) (h : Q (some (.ref D)) { s with toks := s.toks + 1 }) : wpAny (model prog w) A (getAttr? (.ref x) "__class__") Q E s := by
  obtain ⟨hga, hgt, hsub, hdct, ha, hn, htk, hm⟩ := T
  have hf : findObj K D od "__class__" = some (.bind (.builtin "getset_descriptor.__get__") (.builtin "object.__class__")) := findObj_dataD (by obtain ⟨cd, hc, _⟩ := any_some hdct; rw [hc]; rfl) ha hn htk
  obtain ⟨hp, g, d, t, os⟩ := s
  have sub : Looks (model prog w) hp (isInstance (.ref x) (.type "BaseException")) true := (I.type).andThen (looks_subIn X hsub)
  have q0 : (false && onTheHeap (Value.builtin "BaseException.__getattribute__")) = false := rfl
  have q2 : (Value.builtin "BaseException.__getattribute__" == Value.builtin "object.__getattribute__") = false := by decide +kernel
  have q1 : (onTheHeap (Value.ref D) && Value.builtin "BaseException.__getattribute__" == Value.builtin "object.__getattribute__") = false := by rw [q2]; rfl
  unfold getAttr? getAttrBy? getAttrBy
  refine wpAny_bind (wpAny_mkText (wpAny_bind (wpAny_attempt (wpAny_holding (wpAny_bind (I.type.at (wpAny_bind ((looks_findIn X hga).at (show wpAny _ _ (if (onTheHeap (Value.ref D) && Value.builtin "BaseException.__getattribute__" == Value.builtin "object.__getattribute__") = true then _ else _) _ _ _ from ?_)))))))))
  rw [q1, if_neg Bool.false_ne_true]; unfold getAttrByItsOwn hookBefore
  refine wpAny_bind ?_; rw [if_pos (show onTheHeap (Value.ref D) = true from rfl)]
  refine (looks_findIn X hgt).at (wpAny_bind (wpAny_attempt (wpAny_holding ?_)))
  unfold callGetattribute; rw [q0, if_neg Bool.false_ne_true]
  unfold boundAndCalled; rw [PySem.F.excAttr_ValueError.ga.bind (.ref x)]
  refine wpAny_bind (wpAny_pure (show wpAny _ _ (call (.builtin "BaseException.__getattribute__") [.ref x, .str "__class__" t]) _ _ _ from wpAny_call (codeAny_call_builtin PySem.F.excAttr_ValueError.ga.plain PySem.F.entry_bexc_ga ?_)))
  refine @check_slot (model prog w) _ _ ⟨hp, g, d, t + 1, os⟩ "BaseException.__getattribute__" "BaseException" "__getattribute__" (.ref x) [.str "__class__" t] [] _ (by decide +kernel) (by decide +kernel) sub (PySem.F.args_bexc_ga _ _) ?_
  unfold Builtin.«object.__getattribute__»
  refine wpAny_bind (wpAny_of_eq (a := ((Value.ref x : Value), [Value.str "__class__" t])) (by first | rfl | (simp only [slotArgs]; rfl)) (wpAny_bind (wpAny_pure (wpAny_bind (I.type.at (wpAny_bind ((looks_find X I hf).at ?_)))))))
  show wpAny _ _ (holding [Value.builtin "object.__class__"] (call (.builtin "getset_descriptor.__get__") [.builtin "object.__class__", .ref x, .ref D]) >>= ret) _ _ _
  refine wpAny_bind (wpAny_holding (wpAny_call (class_get (s := ⟨hp, g, d, t + 1, os⟩) (ox := ox) (od := od) X I hm (wpAny_pure (show wpAny _ _ (handedOut (.ref D)) _ _ _ from ?_)))))
  rw [handedOut_of (v := .ref D) rfl]
  first
    | exact wpAny_pure (wpAny_pure h)
    | exact wpAny_pure h
    | exact wpAny_pure (wpAny_bind (wpAny_pure (wpAny_pure h)))
theorem kitx_exc (T : L2.ExcC K D) : KitX K (.ref x) (.ref D) (fun h => InstAt h x ox D od) where
  ty := fun _ _ _ I => I.type
  it := fun M h X _ => by
    obtain ⟨cdD, hcD, _⟩ := any_some T.hd
    intro A' Q' E' s' k q
    unfold clsIn at hcD
    split at hcD
    · rename_i ho
      unfold isType loadHead; exact wpAny_bind (wpAny_loadPart (k _ _ (X _ _ ho)) (wpAny_pure q))
    · cases hcD
  ne := (PySem.W.handS_kitx_exc (x := x) (ox := ox) T.hg T.hk T.hs T.hd T.ha T.hn T.ht T.hm).ne
  ca := fun X I k => cls_of_exc T X I k
end
end DL
namespace DL
open PySem PySem.Spec PyProof.Rows L2
/-! ### isinstance(error, X), with and without fields -/
def isXF (sub : Str → Option Bool) : Dv → Option Dv
  | .non => some (.bl false)
  | .exc n [] => (sub n).map .bl
  | .exc n [_] => (sub n).map .bl
  | _ => none
def fIsXF (sub : Str → Option Bool) (fa : Sx) : Sx := fun ρ w => (fa ρ w).bind fun d w1 => .of (isXF sub d) w1
def rIsXF (K : W.Frag) (cv : Value) : List V → Hp → VK → Prop := fun xs H Q => ∃ (x c : V) (b : Bool), xs = [x, c] ∧ ClsV c cv ∧ ((∃ a C d, x = .ref a ∧ H a = some (ExcV (.ref C) d a) ∧ (∀ p, d = some p → ∃ fs, H p = some (.xd fs)) ∧ ExcC K C ∧ PySem.W.kitOne K (.ref C) cv = some b) ∨ (x = .non ∧ PySem.W.kitOne K (.type "NoneType") cv = some b)) ∧ Q (.bl b) H
section
variable {X : Cx} {Z : Z0} {E : XK} {pos : Pos}
theorem call_isxf {cv : Value} {K0 : W.Frag} (hK0 : X.K = K0 := by rfl) : CallR X (.builtin "isinstance") (rIsXF K0 cv) := by
  subst hK0
  intro pins s σ H xs us Q I r h
  obtain ⟨x, c, b, rfl, k, hx, q⟩ := h
  rcases hx with ⟨a, C, dx, rfl, ha, hdx, hC, e⟩ | ⟨rfl, e⟩
  · cases r with
    | cons rx rr =>
      cases rr with
      | cons rt rn =>
        cases rn
        have e2 := k.eq rt
        subst e2
        cases rx
        obtain ⟨⟨oe, vs, hget, hz, hv⟩, _, _⟩ := I.hok a _ ha
        have J : ∃ od, PySem.W.InstAt s.heap a oe C od := by
          cases dx with
          | none => exact ⟨none, hget, hz.1, by unfold PySem.W.notCls; rw [hv] <;> rfl, by rw [hz.2]; exact trivial⟩
          | some p =>
            obtain ⟨fs, hp⟩ := hdx p rfl
            obtain ⟨mA, hns, _⟩ := I.hok p _ hp
            obtain ⟨o, es, ep, ho, _⟩ := hns
            exact ⟨some o, hget, hz.1, by unfold PySem.W.notCls; rw [hv] <;> rfl, by rw [hz.2]; exact ho⟩
        obtain ⟨od, J⟩ := J
        exact PySem.W.kia_one (kitx_exc hC) I.kIn J e (fun z => nomatch z) fun tk => ⟨.bl b, H, I.tok tk, rfl, q⟩
  · exact call_isi pins s σ H _ us Q I r ⟨.non, c, .type "NoneType", cv, b, rfl, k, .base .non, e, q⟩
theorem s_isxf {K : W.Frag} {cv : Value} {cl : V} {sub : Str → Option Bool} {ta : TE} {fa : Sx} (hk : ClsV cl cv) (ht : IsTab K cv sub) (hnon : PySem.W.kitOne K (.type "NoneType") cv = some false) (ha : Snd K Z E ta fa) : Snd K Z E (tCB (rIsXF K cv) (tCons ta (tCons (tC cl) tNil))) (fIsXF sub fa) := fun F ow σ H ρ w Q R q =>
  ha.seq R q fun d w1 x H1 F1 ow1 s1 R1 r1 q1 => by
    cases e : isXF sub d with
    | none => rw [e] at q1; exact q1.elim
    | some z =>
      rw [e] at q1
      have q1 : QE K Z F σ Q ρ z w1 := q1
      cases r1 with
      | non =>
        cases e
        exact ⟨.non, cl, false, rfl, hk, .inr ⟨rfl, hnon⟩, q1 _ H1 F1 ow1 s1 R1 (.bl _)⟩
      | @exc0 n C a hn hF =>
        have e : (sub n).map Dv.bl = some z := e
        cases es : sub n with
        | none => rw [es] at e; cases e
        | some b =>
          rw [es] at e
          cases e
          obtain ⟨h1, h2⟩ := ht n b es C hn
          exact ⟨.ref a, cl, b, rfl, hk, .inl ⟨a, C, none, rfl, R1.sub _ _ hF, (fun p z => nomatch z), h1, h2⟩, q1 _ H1 F1 ow1 s1 R1 (.bl _)⟩
      | @exc1 n y C a dx v d hn hF hD hr =>
        have e : (sub n).map Dv.bl = some z := e
        cases es : sub n with
        | none => rw [es] at e; cases e
        | some b =>
          rw [es] at e
          cases e
          obtain ⟨h1, h2⟩ := ht n b es C hn
          exact ⟨.ref a, cl, b, rfl, hk, .inl ⟨a, C, some dx, rfl, R1.sub _ _ hF, (fun p z => by cases z; exact ⟨_, R1.sub _ _ hD⟩), h1, h2⟩, q1 _ H1 F1 ow1 s1 R1 (.bl _)⟩
      | _ => cases e
theorem e_isxf {p p2 : Pos} {T : Str} {D : Addr} {sub : Str → Option Bool} {a : Expr} {ta : TE} {fa : Sx} (hm : X.mg "isinstance" = none) (ha : DE X Z E a ta fa) (hT : X.mg T = some (.ref D)) {K0 : W.Frag} (ht : IsTab K0 (.ref D) sub) (hnon : PySem.W.kitOne K0 (.type "NoneType") (.ref D) = some false) (hg : Gl X "isinstance" := by rfl) (hgT : Gl X T := by rfl) (hd : (T == ("__debug__" : Str)) = false := by decide)
    (hs1 : starEach (a :: [.Name T p2]) X.env = (false, eval a X.env) :: starEach [.Name T p2] X.env := by rfl) (hs2 : starEach (.Name T p2 :: []) X.env = (false, eval (.Name T p2) X.env) :: starEach [] X.env := by rfl) (hpl : (backTo pos (starEach [.Name T p2] X.env)).any (·.1) = false := by rfl) (hK0 : X.K = K0 := by rfl) :
    DE X Z E (.Call (.Name "isinstance" p) [a, .Name T p2] [] pos) (tCB (rIsXF K0 (.ref D)) (tCons ta (tCons (tC (.ref D)) tNil))) (fIsXF sub fa) := by
  subst hK0
  exact ⟨pe_callB call_isxf hg hm boot_isinstance (pa_cons ha.pe (pa_cons (pe_glob hgT hT rfl hd) pa_nil hs2) hs1) (by decide) (by decide) hs1 hpl, s_isxf (.own D) ht hnon ha.sn⟩
theorem e_isxfB {p p2 : Pos} {T : Str} {T' : String} {sub : Str → Option Bool} {a : Expr} {ta : TE} {fa : Sx} (hm : X.mg "isinstance" = none) (ha : DE X Z E a ta fa) (hmT : X.mg T = none) (hv : bootBuiltins T = some (.type T')) {K0 : W.Frag} (ht : IsTab K0 (.type T') sub) (hnon : PySem.W.kitOne K0 (.type "NoneType") (.type T') = some false) (hg : Gl X "isinstance" := by rfl) (hgT : Gl X T := by rfl) (hn : T ≠ "__name__" := by decide) (hd : (T == ("__debug__" : Str)) = false := by decide)
    (hs1 : starEach (a :: [.Name T p2]) X.env = (false, eval a X.env) :: starEach [.Name T p2] X.env := by rfl) (hs2 : starEach (.Name T p2 :: []) X.env = (false, eval (.Name T p2) X.env) :: starEach [] X.env := by rfl) (hpl : (backTo pos (starEach [.Name T p2] X.env)).any (·.1) = false := by rfl) (hK0 : X.K = K0 := by rfl) :
    DE X Z E (.Call (.Name "isinstance" p) [a, .Name T p2] [] pos) (tCB (rIsXF K0 (.type T')) (tCons ta (tCons (tC (.ty T')) tNil))) (fIsXF sub fa) := by
  subst hK0
  exact ⟨pe_callB call_isxf hg hm boot_isinstance (pa_cons ha.pe (pa_cons (pe_bltn hgT hmT hv rfl hn hd) pa_nil hs2) hs1) (by decide) (by decide) hs1 hpl, s_isxf (.ty T') ht hnon ha.sn⟩

/-! ### error.word -/
def fldD (ok : Str → Bool) (y : Str) : Dv → Option Dv
  | .exc n [(z, d)] => if ok n = true ∧ z = y then some d else none
  | _ => none
def FldTab (K : W.Frag) (y : Str) (ok : Str → Bool) : Prop := ∀ n, ok n = true → ∀ C, HasName K n C → XfC K C ∧ PySem.W.findIn K (.ref C) y = some none
theorem fldTab_one {K : W.Frag} {m y : Str} {C : Addr} (hn : HasName K m C) (hx : XfC K C) (hf : PySem.W.findIn K (.ref C) y = some none) : FldTab K y (fun n => decide (n = m)) := fun n h C' hC => by
  obtain rfl := of_decide_eq_true h
  obtain rfl := hn.inj hC
  exact ⟨hx, hf⟩
def fFld (ok : Str → Bool) (y : Str) (fa : Sx) : Sx := fun ρ w => (fa ρ w).bind fun d w1 => .of (fldD ok y d) w1
def tFld (K : W.Frag) (y : Str) (te : TE) : TE := fun σ H Q => te σ H fun x H1 => ∃ (a C dx : Addr) (v : V), x = .ref a ∧ H1 a = some (ExcV (.ref C) (some dx) a) ∧ XfC K C ∧ PySem.W.findIn K (.ref C) y = some none ∧ H1 dx = some (.xd [(y, v)]) ∧ Q v H1
theorem pe_fld {e : Expr} {te : TE} {y : Str} {K0 : W.Frag} (he : PE X e te) (hb : attributeBase e y X.env (eval e X.env) = eval e X.env) (hK0 : X.K = K0) : PE X (.Attribute e y pos) (tFld K0 y te) := by
  subst hK0
  refine ⟨fun pins s σ H Q I h => attr_of hb (thn (he.run pins s σ H _ I h) fun u s1 hh => ?_)⟩
  obtain ⟨x, H1, I1, rx, a, C, dx, v, ex, ea, T, hno, ed, q⟩ := hh
  subst ex
  obtain rfl : u = Value.ref a := rx
  obtain ⟨⟨oe, vs, hget, hz, hv⟩, _, _⟩ := I1.hok a _ ea
  obtain ⟨mA, hns, hr⟩ := (show ObjOk X.prog X.w H1 s1.heap dx (.xd [(y, v)]) from I1.hok dx _ ed)
  obtain ⟨od, ho, hl⟩ := lookIn_ns hns
  have hl1 : [(y, v)].lookup y = some v := by simp [List.lookup]
  obtain ⟨u, hu, ru⟩ := RelO.some_of (v := v) (o := mA y) (by rw [← hl1]; exact hr y)
  have J : PySem.W.InstAt s1.heap a oe C (some od) := ⟨hget, hz.1, by unfold PySem.W.notCls; rw [hv] <;> rfl, by rw [hz.2]; exact ho⟩
  exact HandSPX.exc_get I1.kIn J T.ga T.gg T.exC (PySem.W.findObj_own T.hdC hno rfl (by rw [hl, hu])) (handed_of ru) ⟨v, H1, I1.tok _, ru, q⟩
theorem e_fld {e : Expr} {te : TE} {fa : Sx} {y : Str} {ok : Str → Bool} {K0 : W.Frag} (ht : FldTab K0 y ok) (he : DE X Z E e te fa) (hb : attributeBase e y X.env (eval e X.env) = eval e X.env := by rfl) (hK0 : X.K = K0 := by rfl) : DE X Z E (.Attribute e y pos) (tFld K0 y te) (fFld ok y fa) :=
  ⟨pe_fld he.pe hb hK0, by
    subst hK0
    exact fun F ow σ H ρ w Q R q => he.sn.seq R q fun d w1 x H1 F1 ow1 s1 R1 r1 q1 => by
      cases r1 with
      | @exc1 n z C a dx v d hn hF hD hr =>
        by_cases hc : ok n = true ∧ z = y
        · have e : fldD ok y (.exc n [(z, d)]) = some d := if_pos hc
          rw [e] at q1
          obtain ⟨h1, rfl⟩ := hc
          obtain ⟨h2, h3⟩ := ht n h1 C hn
          exact ⟨a, C, dx, v, rfl, R1.sub _ _ hF, h2, h3, R1.sub _ _ hD, q1 _ H1 F1 ow1 s1 R1 hr⟩
        · have e : fldD ok y (.exc n [(z, d)]) = none := if_neg hc
          rw [e] at q1
          exact q1.elim
      | _ => exact q1.elim⟩
end
end DL

namespace DL
open PySem PySem.Spec PyProof.Rows L2

/-! ### lambdas laid in lists, called later -/
abbrev Lm := Arguments × Expr × Scope
def lamsO (X : Cx) (ls : List Lm) : Nat → Addr → Addr → HO := fun j c a => match ls[j]? with
  | some l => FnO (X.env.qual ++ "<lambda>") l.1 l.2.1 l.2.2 (cloFrom X.env.cells l.2.2.names []) c a
  | none => .tup []
structure LamOk (X : Cx) (kc : Nat) (l : Lm) (fb : Sx) : Prop where
  L : LamX.LamS X.env.scope l.2.2
  bind : ∀ (q : Str) (cl : List (Str × Addr)) (pm cv ctv : Value), bindArgs (PySem.W.kla_fn "<lambda>" q l.1 l.2.1 l.2.2 cl pm cv ctv) ⟨[], []⟩ = pure []
  hb : ∀ (A : Around) (outer : List Env) (s : Shared) (H : Hp) (E : XK) (a c' : Addr), Room kc (A.deeper (LamX.lamEnv X l.2.2 s.heap.objs.size a c')) → ∃ tb, ∀ Z, DE (LamX.lamCx X A outer s H E l.2.2 a c') Z E l.2.1 tb fb
inductive LamAll (X : Cx) (kc : Nat) : List Lm → List Sx → Prop
  | nil : LamAll X kc [] []
  | cons {l : Lm} {fb : Sx} {ls : List Lm} {fbs : List Sx} : LamOk X kc l fb → LamAll X kc ls fbs → LamAll X kc (l :: ls) (fb :: fbs)
theorem LamAll.at {X : Cx} {kc : Nat} : ∀ {ls : List Lm} {fbs : List Sx}, LamAll X kc ls fbs → ∀ {j : Nat} {l : Lm} {fb : Sx}, ls[j]? = some l → fbs[j]? = some fb → LamOk X kc l fb
  | _, _, .cons h _, 0, _, _, e1, e2 => by cases e1; cases e2; exact h
  | _, _, .cons _ h, j + 1, _, _, e1, e2 => h.at (j := j) e1 e2
theorem LamAll.has {X : Cx} {kc : Nat} : ∀ {ls : List Lm} {fbs : List Sx}, LamAll X kc ls fbs → ∀ {j : Nat} {fb : Sx}, fbs[j]? = some fb → ∃ l, ls[j]? = some l
  | _, _, .cons h _, 0, _, e2 => ⟨_, rfl⟩
  | _, _, .cons _ h, j + 1, _, e2 => h.has (j := j) e2
/-- what a def with lambdas in lists stands on -/
structure LamZ (X : Cx) (Z : Z0) (T : List (Addr × Str)) (ls : List Lm) (c P : Addr) : Prop where
  tb : Z.dr.tb = T
  lam : Z.dr.lam = lamsO X ls
  lq : Z.dr.lq = X.env.qual ++ "<lambda>"
  mem : (P, X.env.qual ++ "<lambda>") ∈ T
  one : ∀ p ∈ T, p.1 = P → p.2 = X.env.qual ++ "<lambda>"
  tab : LamX.TabB X.base X.mg c P
  code : X.env.code = .ref c

inductive MixR (K : W.Frag) (F : Hp) (dr : Ft) : List V → List EV → Prop
  | nil : MixR K F dr [] []
  | dat {v : V} {d : Dv} {vs : List V} {es : List EV} : Rp K F v d → MixR K F dr vs es → MixR K F dr (v :: vs) (.dat d :: es)
  | lam {a c : Addr} {j : Nat} {vs : List V} {es : List EV} : F a = some (dr.lam j c a) → F c = some (LamX.CodeO c dr.lq) → MixR K F dr vs es → MixR K F dr (.ref a :: vs) (.lam j :: es)
theorem MixR.mono {K : W.Frag} {F F' : Hp} {dr : Ft} (e : Same F F') {vs : List V} {es : List EV} (h : MixR K F dr vs es) : MixR K F' dr vs es := by
  induction h with
  | nil => exact .nil
  | dat r _ ih => exact .dat (r.mono e) ih
  | lam h1 h2 _ ih => exact .lam (e _ _ h1) (e _ _ h2) ih
theorem MixR.length {K : W.Frag} {F : Hp} {dr : Ft} {vs : List V} {es : List EV} (h : MixR K F dr vs es) : vs.length = es.length := by
  induction h with
  | nil => rfl
  | dat _ _ ih => rw [List.length_cons, List.length_cons, ih]
  | lam _ _ _ ih => rw [List.length_cons, List.length_cons, ih]
def SndX (K : W.Frag) (Z : Z0) (E : XK) (t : TA) (f : Sa) : Prop := ∀ F ow σ H ρ w (Q : List V → Hp → Prop), Rep K Z F ow σ H ρ w → Post K Z E σ ρ (fun es w' => ∀ vs H' F' ow', Same F F' → Rep K Z F' ow' σ H' ρ w' → MixR K F' Z.dr vs es → Q vs H') (f ρ w) → t σ H Q
structure DX (X : Cx) (Z : Z0) (E : XK) (es : List Expr) (t : TA) (f : Sa) : Prop where
  pa : PA X es t
  sn : SndX X.K Z E t f
def aLam (j : Nat) (fr : Sa) : Sa := fun ρ w => (fr ρ w).bind fun es w1 => .ok (.lam j :: es) w1
section
variable {K : W.Frag} {X : Cx} {Z : Z0} {E : XK} {pos : Pos}
theorem SndX.seq {F : Hp} {ow : Addr → Option Nat} {σ : L2.St} {H : Hp} {ρ : List EV} {w : DS} {t : TA} {f : Sa} {C : List V → Hp → Prop} {α : Type} {P : α → DS → Prop} {k : List EV → DS → RR α} (h : SndX K Z E t f) (R : Rep K Z F ow σ H ρ w) (hp : Post K Z E σ ρ P ((f ρ w).bind k))
    (c : ∀ d w' v H' F' ow', Same F F' → Rep K Z F' ow' σ H' ρ w' → MixR K F' Z.dr v d → Post K Z E σ ρ P (k d w') → C v H') : t σ H C := by
  refine h F ow σ H ρ w C R ?_
  cases e : f ρ w with
  | ok d w' => rw [e] at hp; exact fun v H' F' ow' s R' r => c d w' v H' F' ow' s R' r hp
  | rz y w' => rw [e] at hp; exact hp
  | stuck => rw [e] at hp; exact hp
/-- a function object is made of a lambda -/
theorem lam_new {T : List (Addr × Str)} {ls : List Lm} {c P : Addr} (z : LamZ X Z T ls c P) {F : Hp} {ow : Addr → Option Nat} {σ : L2.St} {H : Hp} {ρ : List EV} {w : DS} {Q : VK} (R : Rep X.K Z F ow σ H ρ w) (l : Lm) (lpos : Pos)
    (h : ∀ F1 H1 a c', Same F F1 → Rep X.K Z F1 ow σ H1 ρ w → F1 a = some (FnO (X.env.qual ++ "<lambda>") l.1 l.2.1 l.2.2 (cloFrom X.env.cells l.2.2.names []) c' a) → F1 c' = some (LamX.CodeO c' (X.env.qual ++ "<lambda>")) → Q (.ref a) H1) :
    tLam P (X.env.qual ++ "<lambda>") l.1 l.2.1 l.2.2 (cloFrom X.env.cells l.2.2.names []) lpos σ H Q := by
  obtain ⟨tp, t1, t2, t3⟩ := R.st.tab (P, X.env.qual ++ "<lambda>") (by rw [z.tb]; exact z.mem)
  refine ⟨tp, t1, t2, fun p' cv hc => (let ⟨c, e, _⟩ := t3 p' cv hc; ⟨c, e⟩), fun c' a hc na => ?_, fun hc c' a nc na nac naP ncP => ?_⟩
  · obtain ⟨c0, e0, hF0⟩ := t3 lpos _ hc
    cases e0
    have nFa : F a = none := R.sub.free na
    have nac : c' ≠ a := fun z => by rw [z, nFa] at hF0; cases hF0
    exact h (upd F a _) (upd H a _) a c' (same_upd nFa) (R.grow (Gr.new R.sub _ na)) upd_same (by rw [upd_ne nac]; exact hF0)
  · have nFa : F a = none := R.sub.free na
    have nFc : F c' = none := R.sub.free nc
    have inP : inDr Z.dr P := .inr (.inl ⟨_, by rw [z.tb]; exact z.mem, rfl⟩)
    have nFP : F P = none := R.noDr P inP
    have sF : Same F (upd (upd F c' (LamX.CodeO c' (X.env.qual ++ "<lambda>"))) a (FnO (X.env.qual ++ "<lambda>") l.1 l.2.1 l.2.2 (cloFrom X.env.cells l.2.2.names []) c' a)) := (same_upd nFc).trans (same_upd (by rw [upd_ne nac]; exact nFa))
    have hh : ∀ (b : Addr) (o : HO), H b = some o → b ≠ P → (upd (upd (upd H P (.tbl (tp ++ #[rawInt lpos.line, rawInt lpos.col, .ref c']))) c' (LamX.CodeO c' (X.env.qual ++ "<lambda>"))) a (FnO (X.env.qual ++ "<lambda>") l.1 l.2.1 l.2.2 (cloFrom X.env.cells l.2.2.names []) c' a)) b = some o := fun b o e nb => by
      have n1 : b ≠ a := fun z => by rw [z, na] at e; cases e
      have n2 : b ≠ c' := fun z => by rw [z, nc] at e; cases e
      rw [upd_ne n1, upd_ne n2, upd_ne nb]; exact e
    refine h _ _ a c' sF (R.call ⟨sF, fun b o e => ?_, fun b o e => ?_, fun b o e nb => hh b o e fun z => nb (by rw [z]; exact inP)⟩ ⟨fun x g y e => ?_, fun p hp => ?_, fun p hp => ?_⟩) upd_same (by rw [upd_ne (Ne.symm nac), upd_same])
    · by_cases z : b = a
      · rw [z, upd_same] at e ⊢; exact e
      · rw [upd_ne z] at e ⊢
        by_cases z2 : b = c'
        · rw [z2, upd_same] at e ⊢; exact e
        · rw [upd_ne z2] at e ⊢
          rw [upd_ne (fun z3 => by rw [z3, nFP] at e; cases e)]
          exact R.sub b o e
    · by_cases z : b = a
      · rw [z]; exact .inr na
      · rw [upd_ne z] at e
        by_cases z2 : b = c'
        · rw [z2]; exact .inr nc
        · rw [upd_ne z2] at e; exact .inl e
    · have k : ∀ (b : Addr) (o : HO), (∀ ps, o ≠ .tbl ps) → H b = some o → _ := fun b o n e => hh b o e fun z => by rw [z, t1] at e; exact n _ (Option.some.inj e).symm
      exact (R.st.sh x g y e).mono (fun o => fun h => by
        obtain ⟨h1, h2, h3, _⟩ := R.st.sh x g y e
        rw [h1] at h; cases h
        exact k _ _ (fun _ z => nomatch z) h1) (fun o h => by
        obtain ⟨h1, h2, h3, _⟩ := R.st.sh x g y e
        rw [h2] at h; cases h
        exact k _ _ (fun _ z => nomatch z) h2) fun o h => by
        obtain ⟨h1, h2, h3, _⟩ := R.st.sh x g y e
        rw [h3] at h; cases h
        exact k _ _ (fun _ z => nomatch z) h3
    · obtain ⟨tp', u1, u2, u3⟩ := R.st.tab p hp
      by_cases y : p.1 = P
      · have hq := z.one p (by rw [← z.tb]; exact hp) y
        rw [y, t1] at u1
        cases u1
        rw [y, hq]
        refine ⟨_, by rw [upd_ne (Ne.symm naP), upd_ne (Ne.symm ncP), upd_same], by rw [Array.toList_append]; exact PySem.TriplesOk_snoc _ _ _ _ t2, fun p' cv hcv => ?_⟩
        rw [Array.toList_append] at hcv
        rcases LamX.among_app _ t2 hcv with z3 | z3
        · obtain ⟨c0, e1, e2⟩ := t3 p' cv z3
          exact ⟨c0, e1, sF _ _ e2⟩
        · exact ⟨c', z3, by rw [upd_ne (Ne.symm nac), upd_same]⟩
      · exact ⟨tp', hh _ _ u1 y, u2, fun p' cv hcv => by
          obtain ⟨c0, e1, e2⟩ := u3 p' cv hcv
          exact ⟨c0, e1, sF _ _ e2⟩⟩
    · obtain ⟨us, h1, h2, h3, h4⟩ := R.st.obj p hp
      exact ⟨us, hh _ _ h1 (fun z => by rw [z, t1] at h1; cases h1), h2.mono sF, h3, h4⟩
theorem x_nil0 : DX X Z E [] tNil aNil := ⟨pa_nil, fun F ow σ H ρ w Q R q => q [] H F ow (Same.refl _) R .nil⟩
theorem x_dat {e : Expr} {es : List Expr} {te : TE} {fe : Sx} {t : TA} {f : Sa} (ha : DE X Z E e te fe) (hr : DX X Z E es t f) (hs : starEach (e :: es) X.env = (false, eval e X.env) :: starEach es X.env := by rfl) : DX X Z E (e :: es) (tCons te t) (aCons fe f) :=
  ⟨pa_cons ha.pe hr.pa hs, fun F ow σ H ρ w Q R q => ha.sn.seq R q fun d w1 x H1 F1 ow1 s1 R1 r1 q1 => hr.sn.seq R1 q1 fun ps w2 vs H2 F2 ow2 s2 R2 r2 q2 =>
    q2 (x :: vs) H2 F2 ow2 (s1.trans s2) R2 (.dat (r1.mono s2) r2)⟩
theorem x_lam (j : Nat) {T : List (Addr × Str)} {ls : List Lm} {c P : Addr} {params : Arguments} {body : Expr} {scope : Scope} {lpos : Pos} {es : List Expr} {t : TA} {f : Sa} (z : LamZ X Z T ls c P) (hr : DX X Z E es t f) (hj : ls[j]? = some (params, body, scope) := by rfl)
    (L : LamX.LamS X.env.scope scope := by exact LamX.lamS_by (by kernel_rfl)) (hdef : defaultsOf params X.env = ([], []) := by rfl) (hs : starEach (.Lambda params body scope lpos :: es) X.env = (false, eval (.Lambda params body scope lpos) X.env) :: starEach es X.env := by rfl) :
    DX X Z E (.Lambda params body scope lpos :: es) (tCons (tLam P (X.env.qual ++ "<lambda>") params body scope (cloFrom X.env.cells scope.names []) lpos) t) (aLam j f) :=
  ⟨pa_cons (pe_lam z.tab z.code rfl L hdef) hr.pa hs, fun F ow σ H ρ w Q R q => lam_new z R (params, body, scope) lpos fun F1 H1 a c' s1 R1 h1 h2 => hr.sn.seq R1 q fun ps w2 vs H2 F2 ow2 s2 R2 r2 q2 => by
    refine q2 (.ref a :: vs) H2 F2 ow2 (s1.trans s2) R2 (.lam (j := j) (c := c') ?_ ?_ r2)
    · rw [z.lam]
      unfold lamsO
      rw [hj]
      exact s2 _ _ h1
    · rw [z.lq]; exact s2 _ _ h2⟩
/-! a list of such tuples -/
inductive ItR (K : W.Frag) (F : Hp) (dr : Ft) : List V → List (List EV) → Prop
  | nil : ItR K F dr [] []
  | cons {a : Addr} {us : List V} {es : List EV} {vs : List V} {its : List (List EV)} : SqT K F a us → MixR K F dr us es → ItR K F dr vs its → ItR K F dr (.ref a :: vs) (es :: its)
theorem ItR.mono {F F' : Hp} {dr : Ft} (e : Same F F') {vs : List V} {es : List (List EV)} (h : ItR K F dr vs es) : ItR K F' dr vs es := by
  induction h with
  | nil => exact .nil
  | cons h1 h2 _ ih => exact .cons (sameT e h1) (h2.mono e) ih
theorem ItR.length {F : Hp} {dr : Ft} {vs : List V} {es : List (List EV)} (h : ItR K F dr vs es) : vs.length = es.length := by
  induction h with
  | nil => rfl
  | cons _ _ _ ih => rw [List.length_cons, List.length_cons, ih]
theorem ItR.get {F : Hp} {dr : Ft} : ∀ {vs : List V} {its : List (List EV)}, ItR K F dr vs its → ∀ {i : Nat} {es : List EV}, its[i]? = some es → ∃ a us, vs[i]? = some (.ref a) ∧ SqT K F a us ∧ MixR K F dr us es
  | _, _, .cons h1 h2 _, 0, es, e => by cases e; exact ⟨_, _, rfl, h1, h2⟩
  | _, _, .cons _ _ h, i + 1, es, e => h.get (i := i) e
abbrev Sm := List EV → DS → RR (List (List EV))
structure DXs (X : Cx) (Z : Z0) (E : XK) (es : List Expr) (t : TA) (f : Sm) : Prop where
  pa : PA X es t
  sn : ∀ F ow σ H ρ w (Q : List V → Hp → Prop), Rep X.K Z F ow σ H ρ w → Post X.K Z E σ ρ (fun its w' => ∀ vs H' F' ow', Same F F' → Rep X.K Z F' ow' σ H' ρ w' → ItR X.K F' Z.dr vs its → Q vs H') (f ρ w) → t σ H Q
def mNil : Sm := fun _ w => .ok [] w
def mCons (fa : Sa) (fr : Sm) : Sm := fun ρ w => (fa ρ w).bind fun es w1 => if es.length ≤ big then (fr ρ w1).bind fun its w2 => .ok (es :: its) w2 else .stuck
theorem xs_nil : DXs X Z E [] tNil mNil := ⟨pa_nil, fun F ow σ H ρ w Q R q => q [] H F ow (Same.refl _) R .nil⟩
theorem xs_cons {es rest : List Expr} {x1} {p1 : Pos} {t u : TA} {f : Sa} {g : Sm} (ha : DX X Z E es t f) (hr : DXs X Z E rest u g) (hs : starEach (.Tuple es x1 p1 :: rest) X.env = (false, eval (.Tuple es x1 p1) X.env) :: starEach rest X.env := by rfl) : DXs X Z E (.Tuple es x1 p1 :: rest) (tCons (tTup t) u) (mCons f g) :=
  ⟨pa_cons (pe_tup ha.pa) hr.pa hs, fun F ow σ H ρ w Q R q => ha.sn.seq R q fun es w1 us H1 F1 ow1 s1 R1 r1 q1 => by
    by_cases hl : es.length ≤ big
    · rw [if_pos hl] at q1
      refine ⟨by rw [r1.length, sizeLine_big]; exact hl, fun p np => ?_⟩
      have gr := Gr.new R1.sub (.tup us) np
      have R2 := R1.grow gr
      refine hr.sn _ ow1 σ _ ρ w1 _ R2 ?_
      cases e : g ρ w1 with
      | stuck => rw [e] at q1; exact q1
      | rz x w2 => rw [e] at q1; exact q1
      | ok its w2 =>
        rw [e] at q1
        intro vs H2 F2 ow2 s2 R3 r3
        exact q1 (.ref p :: vs) H2 F2 ow2 ((s1.trans gr.ff).trans s2) R3 (.cons (sameT s2 (.of upd_same)) ((r1.mono gr.ff).mono s2) r3)
    · rw [if_neg hl] at q1; exact q1.elim⟩
/-! for x, y in such a list -/
def loopM (i j : Nat) (g : Ss) : List (List EV) → Ss
  | [] => fun ρ w => .ok (.nx ρ) w
  | [e1, e2] :: ds => fun ρ w => (g ((ρ.set i e1).set j e2) w).bind fun s w1 => match s with
      | .nx ρ2 => loopM i j g ds ρ2 w1
      | .ct ρ2 => loopM i j g ds ρ2 w1
      | .bk ρ2 => .ok (.nx ρ2) w1
      | .rt d => .ok (.rt d) w1
  | _ :: _ => fun _ _ => .stuck
def gForM (f : Sm) (i j : Nat) (g : Ss) : Ss := fun ρ w => (f ρ w).bind fun items w1 => if items.length ≤ big then loopM i j g items ρ w1 else .stuck
theorem MixR.slot {Z : Z0} {F H : Hp} {ow : Addr → Option Nat} {v : V} {e : EV} {vs : List V} {es : List EV} {i : Nat} (h : MixR K F Z.dr (v :: vs) (e :: es)) : SlotR K Z F H ow i (some (some v)) e ∧ MixR K F Z.dr vs es := by
  cases h with
  | dat r h => exact ⟨⟨v, rfl, r⟩, h⟩
  | lam h1 h2 h => exact ⟨⟨_, _, rfl, h1, h2⟩, h⟩
theorem d_forM (i j : Nat) {tg : Expr} {es : List Expr} {lp : Pos} {body : List Stmt} {t : TA} {f : Sm} {tb : TS} {gb : Ss} (hp : PassesOwn (model X.prog X.w) X.A X.env X.xe) (hc : X.calm = true) (ht : DXs X Z E es t f) (hg : PG X tg (gTup X.K 2 (gCons (gName i) (gCons (gName j) gNil)))) (hb : DB X Z E body tb gb)
    (hs : ∀ x, foldedSetIterable (.List es lp) X.env x = pure x := by intro _; rfl) : DSt X Z E (.For tg (.List es lp) body [] pos) (tFor (iList X.K (tLst t)) (gTup X.K 2 (gCons (gName i) (gCons (gName j) gNil))) tb) (gForM f i j gb) := ⟨ps_for hp hc (pi_list (pe_lst ht.pa)) hg hb.ps hs, fun F ow σ H ρ w D R q => by
  refine ht.sn F ow σ H ρ w _ R ?_
  unfold gForM at q
  cases e : f ρ w with
  | stuck => rw [e] at q; exact q
  | rz x w1 => rw [e] at q; exact fun cls dx H F ow R x => q cls dx σ H F ow ρ R x
  | ok items w1 =>
    rw [e] at q
    have q : PostS X.K Z E F D (if items.length ≤ big then loopM i j gb items ρ w1 else .stuck) := q
    intro vs H0 F0 ow1 s0 R0 r0
    by_cases hl : items.length ≤ big
    case neg => rw [if_neg hl] at q; exact q.elim
    rw [if_pos hl] at q
    refine ⟨by rw [r0.length, sizeLine_big]; exact hl, fun p np => ?_⟩
    have gr := Gr.new R0.sub (.lst vs) np
    have R1 := R0.grow gr
    have q1 := PostS.up (s0.trans gr.ff) q
    have r1 := r0.mono gr.ff
    generalize hF1 : upd F0 p (.lst vs) = F1 at gr R1 q1 r1
    generalize hH1 : upd H0 p (.lst vs) = H1 at gr R1
    have hP : SqL X.K F1 p vs := SqL.of (by rw [← hF1]; exact upd_same)
    refine ⟨p, rfl, ⟨_, R1.sub.seq hP⟩, ?_⟩
    refine ⟨fun n m σ H => ∃ F ow ρ w, Same F1 F ∧ Rep X.K Z F ow σ H ρ w ∧ m = (items.drop n).length ∧ PostS X.K Z E F1 D (loopM i j gb (items.drop n) ρ w), ⟨_, F1, ow1, ρ, w1, Same.refl _, R1, rfl, q1⟩, ?_⟩
    rintro n m σ2 H2 ⟨F2, ow2, ρ2, w2, s2, R2, rfl, q2⟩
    cases ed : items.drop n with
    | nil =>
      rw [ed] at q2
      have hn : items.length ≤ n := by
        have := congrArg List.length ed
        rw [List.length_drop] at this
        simp only [List.length_nil] at this
        omega
      exact .inl ⟨⟨vs, (s2.trans R2.sub).seq hP, by rw [r1.length]; exact hn⟩, q2 σ2 H2 F2 ow2 s2 R2⟩
    | cons d ds =>
      rw [ed] at q2
      obtain ⟨hd, hds⟩ := drop_at ed
      obtain ⟨a, us, hv, ha, hm⟩ := r1.get hd
      refine .inr ⟨⟨vs, _, (s2.trans R2.sub).seq hP, hv⟩, fun σ H => ∃ F ow ρ w, Same F1 F ∧ Rep X.K Z F ow σ H ρ w ∧ PostS X.K Z E F1 D (loopM i j gb ds ρ w), ?_, ?_⟩
      · rintro σ' H' ⟨F3, ow3, ρ3, w3, s3, R3, q3⟩
        refine ⟨ds.length, by simp, F3, ow3, ρ3, w3, s3, R3, by rw [hds], ?_⟩
        rw [hds]; exact q3
      · rintro x H' ⟨eH, y⟩
        subst eH
        have := y vs ((s2.trans R2.sub).seq hP)
        rw [hv] at this; cases this
        match d, hm, q2 with
        | [e1, e2], hm, q2 =>
          have q2 : PostS X.K Z E F1 D ((gb ((ρ2.set i e1).set j e2) w2).bind fun s w1 => match s with
            | .nx ρ2 => loopM i j gb ds ρ2 w1
            | .ct ρ2 => loopM i j gb ds ρ2 w1
            | .bk ρ2 => .ok (.nx ρ2) w1
            | .rt d => .ok (.rt d) w1) := q2
          have hm2 := hm.mono s2
          match us, ha, hm2 with
          | [], _, hm2 => nomatch hm2
          | [_], _, hm2 => cases hm2 <;> rename_i h <;> nomatch h
          | u1 :: u2 :: u3 :: us, _, hm2 => exact absurd hm2.length (by simp)
          | [u1, u2], ha, hm2 =>
            obtain ⟨sl1, hm3⟩ := MixR.slot (Z := Z) (H := H') (ow := ow2) (i := i) hm2
            have R3 := R2.set (i := i) sl1
            obtain ⟨sl2, _⟩ := MixR.slot (Z := Z) (H := H') (ow := ow2) (i := j) hm3
            have R4 := R3.set (i := j) sl2
            refine ⟨a, [u1, u2], rfl, sameT (s2.trans R2.sub) ha, rfl, u1, [u2], rfl, u2, [], rfl, rfl, ?_⟩
            refine hb.sn F2 ow2 _ H' _ w2 _ R4 ?_
            cases eb : gb ((ρ2.set i e1).set j e2) w2 with
            | stuck => rw [eb] at q2; exact q2
            | rz x w => rw [eb] at q2; exact q2
            | ok sf w4 =>
              rw [eb] at q2
              cases sf with
              | nx ρ5 => exact fun σ5 H5 F5 ow5 s5 R5 => ⟨F5, ow5, ρ5, w4, s2.trans s5, R5, q2⟩
              | ct ρ5 => exact fun σ5 H5 F5 ow5 s5 R5 => ⟨F5, ow5, ρ5, w4, s2.trans s5, R5, q2⟩
              | bk ρ5 => exact PostS.up (r := .ok (.nx ρ5) w4) s2 q2
              | rt d => exact PostS.up (r := .ok (.rt d) w4) s2 q2
        | [], hm, q2 => exact q2.elim
        | [_], hm, q2 => exact q2.elim
        | _ :: _ :: _ :: _, hm, q2 => exact q2.elim⟩

/-! ### g(f, ..), f such a lambda -/
def fCallM (sem : Fsem) (fbs : List Sx) (i : Nat) (fr : Sa) : Sx := fun ρ w => match ρ[i]? with
  | some (.lam j) => match fbs[j]? with
    | some fb => (fr ρ w).bind fun ps w1 => if noFn ps = true then sem (.fn (lamF fb ρ) :: ps) w1 else .stuck
    | none => .stuck
  | _ => .stuck
def tCallM (X : Cx) (i n : Nat) (sem : Fsem) (ls : List Lm) (fbs : List Sx) (E : XK) (t : TA) : TE := fun σ H Q =>
  tCons (tVar i) t σ H fun vs H1 => ∃ (j : Nat) (l : Lm) (fb : Sx), ls[j]? = some l ∧ fbs[j]? = some fb ∧ spL X n sem l.1 l.2.1 l.2.2 fb E σ vs H1 Q
theorem e_callM {kc k k' n : Nat} {T : List (Addr × Str)} {c P : Addr} {ls : List Lm} {fbs : List Sx} {x y : Str} {sem : Fsem} {p p' : Pos} {es : List Expr} {t : TA} {fr : Sa} (i : Nat) (C : CalC X.prog X.w X.K X.mg X.base (kc + 1) x k n sem) (z : LamZ X Z T ls c P) (hr : Room k' X.A) (hk : k ≤ k') (hx : PX X E) (hA : LamAll X kc ls fbs)
    (ha : DA X Z E es t fr) (hl : ∀ ρ w ps w', fr ρ w = .ok ps w' → ps.length + 1 = n) (hN : X.N[i]? = some y := by rfl) (hv : Vis X.env.scope y := by first | exact Or.inl rfl | exact Or.inr (Or.inl rfl) | exact Or.inr (Or.inr rfl)) (hd : (y == ("__debug__" : Str)) = false := by decide)
    (hcd : (y == ("__classdict__" : Str)) = false := by decide) (hg : Gl X x := by rfl) (hdb : (x == ("__debug__" : Str)) = false := by decide)
    (he : starEach (.Name y p' :: es) X.env = (false, eval (.Name y p') X.env) :: starEach es X.env := by rfl) (hpl : (backTo pos (starEach es X.env)).any (·.1) = false := by rfl) :
    DE X Z E (.Call (.Name x p) (.Name y p' :: es) [] pos) (tCallM X i n sem ls fbs E t) (fCallM sem fbs i fr) := by
  obtain ⟨f, fd, ps, G, hm, hkp, hbd⟩ := C.ex
  refine ⟨⟨fun pins s σ H Q I h => ?_⟩, fun F ow σ H ρ w Q R q => ?_⟩
  · refine wpAny_Call_Name_kw (ld_glob I hg hm ?_ hdb)
    refine PySem.W.callWith_K (h₀ := X.base) I.ok.mod.kin hkp (thn ((pa_cons (pe_var hN hv hd hcd) ha.pa he).run pos pins s σ H _ I h) fun us s1 ⟨vs, H1, I1, r, q⟩ => ⟨I1.kIn, ?_⟩) he hpl
    obtain ⟨j, l, fb, hj, hf, a, c', F, dr, us', qs, w, ρ, rfl, hF, hC, hlen, hs, hst, hn, sub, ar, nf, st, nd, hp⟩ := q
    obtain ⟨L, hbind, hb⟩ := hA.at hj hf
    refine runC G (hr.mono hk) hbd hx I1 r ⟨F, { dr with clo := fun b g => b = a ∧ g = lamF fb ρ }, .fn (lamF fb ρ) :: qs, w, by rw [List.length_cons]; exact hn, sub, .fn ⟨rfl, rfl⟩ (ArgR.re (dr := dr) (dr' := { dr with clo := fun b g => b = a ∧ g = lamF fb ρ }) rfl ar nf), ⟨st.sh, st.tab, st.obj⟩, nd, ?_, ?_⟩
    · rintro b g ⟨rfl, rfl⟩
      exact lamClo I1 L hF hC hlen hs hst hbind fun A outer s H E => hb A outer s H E _ _
    · cases e2 : sem (.fn (lamF fb ρ) :: qs) w with
      | stuck => rw [e2] at hp; exact hp
      | ok d w2 => rw [e2] at hp; exact fun v H' F' g st' r => hp v H' F' ⟨g.ff, g.fh, g.nw, g.hh⟩ ⟨st'.sh, st'.tab, st'.obj⟩ r
      | rz x w2 => rw [e2] at hp; exact fun cls dx H' F' g st' r => hp cls dx H' F' ⟨g.ff, g.fh, g.nw, g.hh⟩ ⟨st'.sh, st'.tab, st'.obj⟩ r
  · have hl' := hl ρ w
    unfold fCallM at q
    cases ei : ρ[i]? with
    | none => rw [ei] at q; exact q.elim
    | some ev =>
      rw [ei] at q
      cases ev with
      | lam j =>
        have q : Post X.K Z E σ ρ (QE X.K Z F σ Q ρ) (match fbs[j]? with
          | some fb => (fr ρ w).bind fun ps w1 => if noFn ps = true then sem (.fn (lamF fb ρ) :: ps) w1 else .stuck
          | none => .stuck) := q
        cases ej : fbs[j]? with
        | none => rw [ej] at q; exact q.elim
        | some fb =>
          rw [ej] at q
          obtain ⟨l, hj⟩ := hA.has ej
          obtain ⟨a, c', hs, h1, h2⟩ := R.slots i _ ei
          rw [z.lam] at h1
          unfold lamsO at h1
          rw [hj] at h1
          rw [z.lq] at h2
          refine ⟨_, hs, ?_⟩
          refine ha.sn F ow σ H ρ w _ R ?_
          cases e : fr ρ w with
          | stuck => rw [e] at q; exact q
          | rz x w1 => rw [e] at q; exact q
          | ok qs w1 =>
            rw [e] at q
            have q : Post X.K Z E σ ρ (QE X.K Z F σ Q ρ) (if noFn qs = true then sem (.fn (lamF fb ρ) :: qs) w1 else .stuck) := q
            split at q
            case isFalse => exact q.elim
            rename_i nf
            intro vs H2 F2 ow2 s2 R2 r2
            exact ⟨j, l, fb, hj, ej, a, c', F2, Z.dr, vs, qs, w1, ρ, rfl, s2 _ _ h1, s2 _ _ h2, R2.len, fun i d hd => R2.slots i _ hd, fun i hd => R2.slots i _ hd, hl' _ _ e, R2.sub, r2, nf, R2.st, R2.noDr, post_back s2 R2 q⟩
      | _ => exact q.elim
end
/-! ### the rule of a def with lambdas in lists -/
theorem ArgR.re2 {K : W.Frag} {F : Hp} {dr dr' : Ft} (e : dr'.st = dr.st) (e2 : ∀ a f, dr.clo a f → dr'.clo a f) {vs : List V} {ps : List EV} (h : ArgR K F dr vs ps) : ArgR K F dr' vs ps := by
  induction h with
  | nil => exact .nil
  | dat r _ ih => exact .dat r ih
  | drw q _ ih => exact .drw (e.trans q) ih
  | fn h _ ih => exact .fn (e2 _ _ h) ih
theorem fnTL {P : Program} {w : World} {K : W.Frag} {mg : Str → Option Value} {base : Heap} {T : List (Addr × Str)} {x qual : Str} {st : Stmt} {f : Addr} {fd : FuncData} {N ps : List Str} {k : Nat} (cd : Value) (ls : List Lm) (g : Ss) (nN n : Nat) (S : FnScope N ps (defScope st)) (hN : N.length = nN) (hn : ps.length = n) (F : Fun K x qual st f fd) (hcd : fd.code = cd)
    (hb : ∀ (A : Around) (outer : List Env) (s : Shared) (H : Hp) (E : XK), Room k (A.deeper (envOfC qual (defScope st) s.heap.objs.size f cd)) →
      ∃ t, ∀ Z, Z.dr.tb = T → Z.dr.lam = lamsO (cxOf (L2.CX P w) P w K mg base N qual (defScope st) f cd A outer s H E) ls → Z.dr.lq = (cxOf (L2.CX P w) P w K mg base N qual (defScope st) f cd A outer s H E).env.qual ++ "<lambda>" → DB (cxOf (L2.CX P w) P w K mg base N qual (defScope st) f cd A outer s H E) Z E (defBody st) t g) (hl : n ≤ nN) :
    FnOk P w K mg base (L2.CX P w) (k + 1) f fd ps (spT K T n (semOf nN g)) := by
  subst hN hn
  obtain ⟨oc, od, kV, doc, pm, an, cdv, ct, osl, rfl, lk, hk⟩ := F.ex
  obtain rfl : cdv = cd := hcd
  refine fn_of lk hk S (fun vs H Q E h => ?_) fun A outer s H vs Q E hr h => ?_
  · obtain ⟨F, dr, qs, w, _, hpn, sub, ar, _⟩ := h
    rw [ar.length, hpn]
  · obtain ⟨t, ht⟩ := hb A outer s H E hr
    obtain ⟨F, dr, qs, w0, hT, hpn, sub, ar, sx, nf, q⟩ := h
    generalize hX : cxOf (L2.CX P w) P w K mg base N qual (defScope st) f cdv A outer s H E = X at ht
    have hz := ht ⟨H, F, { dr with lam := lamsO X ls, lq := X.env.qual ++ "<lambda>" }⟩ hT rfl rfl
    have hK : X.K = K := by rw [← hX]; rfl
    have hps := hz.ps
    have hsn := hz.sn
    rw [hK] at hsn
    refine ⟨t, hps, body_core (dr := { dr with lam := lamsO X ls, lq := X.env.qual ++ "<lambda>" }) hl hpn sub (ArgR.re2 (dr := dr) (dr' := { dr with lam := lamsO X ls, lq := X.env.qual ++ "<lambda>" }) rfl (fun _ _ h => h) ar) ⟨sx.sh, sx.tab, sx.obj⟩ nf ?_ hsn⟩
    cases e2 : semOf N.length g qs w0 with
    | stuck => rw [e2] at q; exact q
    | ok d w2 => rw [e2] at q; exact fun v H' F' g st' r => q v H' F' ⟨g.ff, g.fh, g.nw, g.hh⟩ ⟨st'.sh, st'.tab, st'.obj⟩ r
    | rz x w2 => rw [e2] at q; exact fun cls dx H' F' g st' r => q cls dx H' F' ⟨g.ff, g.fh, g.nw, g.hh⟩ ⟨st'.sh, st'.tab, st'.obj⟩ r
end DL

namespace HT
open PySem PyProof.Rows
section
variable {prog : Program} {w : World} {A : Around} {E : Value → Shared → Prop} {s : Shared}
theorem adjust_rev (n : Nat) : Builtin.Slice.sliceAdjust none none (-1) (n : Int) = ((n : Int) - 1, -1) := rfl
theorem places_rev (n : Nat) : Builtin.Slice.slicePlaces ((n : Int) - 1) (-1) (-1) = n := by
  unfold Builtin.Slice.slicePlaces
  have h1 : ¬ ((-1 : Int) > 0) := by omega
  simp only [h1, if_false]
  by_cases h : n = 0
  · subst h; decide
  · rw [if_pos (by omega)]
    show (((n : Int) - 1 - -1 - 1) / 1 + 1).toNat = n
    rw [Int.ediv_one]; omega
theorem sliceApplied_rev {sl : Addr} {vk : Value} {n : Nat} {Q : Int × Int × Nat → Shared → Prop} (hs : s.heap.IsSliceOf sl .none .none vk) (pk : IsPart vk (some (-1)))
    (h : Q ((n : Int) - 1, -1, n) s) : wpAny (model prog w) A (Builtin.Slice.sliceApplied (.ref sl) (pure (n : Int))) Q E s := by
  obtain ⟨os, hos, hcs, hds⟩ := id hs
  unfold Builtin.Slice.sliceApplied Builtin.Slice.sliceFields
  refine wpAny_bind (wpAny_bind (wpAny_field hos hds (x := .none) rfl (wpAny_bind (wpAny_field hos hds (x := .none) rfl (wpAny_bind (wpAny_field hos hds (x := vk) rfl (wpAny_pure ?_)))))))
  refine wpAny_bind (slicePart_ pk ?_)
  show wpAny _ _ (if ((-1 : Int) == 0) = true then _ else _) _ _ s
  rw [if_neg (by decide)]
  refine wpAny_bind (slicePart_none (wpAny_bind (slicePart_none (wpAny_bind (wpAny_pure ?_)))))
  show wpAny _ _ (match Builtin.Slice.sliceAdjust none none (-1) (n : Int) with | (lo, hi) => pure (lo, (-1 : Int), Builtin.Slice.slicePlaces lo hi (-1))) _ _ s
  rw [adjust_rev n]
  show wpAny _ _ (pure ((n : Int) - 1, (-1 : Int), Builtin.Slice.slicePlaces ((n : Int) - 1) (-1) (-1))) _ _ s
  rw [places_rev]
  exact wpAny_pure h
theorem pick_rev (xs : Array Value) : ((List.range xs.size).filterMap fun (m : Nat) => xs[(((xs.size : Nat) : Int) - 1 + (m : Int) * -1).toNat]?).toArray = xs.toList.reverse.toArray := by
  congr 1
  apply List.ext_getElem?
  intro i
  have gen : ∀ n, n ≤ xs.size → ((List.range n).filterMap fun (m : Nat) => xs[(((xs.size : Nat) : Int) - 1 + (m : Int) * -1).toNat]?) = (xs.toList.reverse).take n := by
    intro n
    induction n with
    | zero => intro _; simp
    | succ n ih =>
      intro hn
      rw [List.range_succ, List.filterMap_append, ih (by omega)]
      have e : (((xs.size : Nat) : Int) - 1 + ((n : Nat) : Int) * -1).toNat = xs.size - 1 - n := by omega
      have hl : n < xs.toList.reverse.length := by simp; omega
      rw [List.take_succ_eq_append_getElem hl]
      congr 1
      simp only [List.filterMap_cons, List.filterMap_nil, e]
      rw [Array.getElem?_eq_getElem (by omega)]
      simp only [List.getElem_reverse, Array.length_toList, Array.getElem_toList]
  rw [gen _ (Nat.le_refl _), List.take_of_length_le (by simp)]
theorem getItem_tuple_rev {t sl : Addr} {items : Array Value} {vk : Value} {Q : Value → Shared → Prop} (ht : IsTup s.heap t items) (hs : s.heap.IsSliceOf sl .none .none vk) (pk : IsPart vk (some (-1)))
    (h : Q (.ref s.heap.objs.size) { s with heap := s.heap.push { cls := .type "tuple", data := .seq items.toList.reverse.toArray } })
    (hsz : items.size ≤ sizeLine) : wpAny (model prog w) A (getItem (.ref t) (.ref sl)) Q E s := by
  have htake : sizeOk (.seq items.toList.reverse.toArray) := by
    show items.toList.reverse.toArray.size ≤ sizeLine
    rw [List.size_toArray, List.length_reverse, Array.length_toList]
    exact hsz
  obtain ⟨os, hos, hcs, hds⟩ := id hs
  have hTs : s.TypeIs (.ref sl) "slice" := ⟨os, hos, hcs⟩
  unfold getItem
  try with_reducible refine wpAny_holding ?_
  first | refine wpAny_bind (wpAny_pure ?_) | skip
  refine wpAny_bind (wpAny_sequenceKey ht.typeIs (by decide) ?_)
  refine wpAny_bind (wpAny_callSpecial?_slot (name := Str.ofString "__getitem__") ht.typeIs PyProof.Rows.slot_tuple_getitem
    (wpAny_call_entry PyProof.Rows.slot_tuple_getitem ht.typeIs entry_tuple_getitem ?_ (args_tuple_getitem _ _)))
  show wpAny _ _ (Builtin.Tuple.tupleItemsOf (.ref t) >>= _) _ _ s
  refine wpAny_bind (tupleItemsOf_ ht ?_)
  refine wpAny_bind (wpAny_typeOf hTs ?_)
  rw [if_pos (by decide)]
  refine wpAny_bind (sliceApplied_rev hs pk ?_)
  have hno : ¬ ((((items.size : Nat) : Int) - 1 == 0 && (-1 : Int) == 1 && items.size == items.size) = true) := by
    intro q
    rw [Bool.and_eq_true, Bool.and_eq_true] at q
    exact absurd (eq_of_beq q.1.2) (by decide)
  show wpAny _ _ (if (((items.size : Nat) : Int) - 1 == 0 && (-1 : Int) == 1 && items.size == items.size) = true then _ else _) _ _ s
  rw [if_neg hno, pick_rev]
  first
    | exact wpAny_bind (m := Builtin.Tuple.tupleExact _) (wpAny_newObj_type (wpAny_pure ⟨_, rfl, wpAny_pure h⟩) htake)
    | exact wpAny_bind (m := Builtin.Tuple.tupleExact _) (wpAny_newObj_type (wpAny_bind (wpAny_pure (wpAny_pure ⟨_, rfl, wpAny_pure h⟩))) htake)
    | exact wpAny_bind (wpAny_bind (m := Builtin.Tuple.tupleExact _) (wpAny_newObj_type (wpAny_pure (wpAny_pure ⟨_, rfl, wpAny_pure h⟩)) htake))
    | exact wpAny_bind (wpAny_bind (m := Builtin.Tuple.tupleExact _) (wpAny_newObj_type (wpAny_pure ⟨_, rfl, wpAny_pure h⟩) htake))
end
end HT
namespace DL
open PySem PySem.Spec PyProof.Rows L2
/-! ### t[::-1], t a tuple -/
def tRevT (K : PySem.W.Frag) (te : TE) : TE := fun σ H Q => te σ H fun x H1 => ∃ a xs, x = .ref a ∧ SqT K H1 a xs ∧ ∀ p, H1 p = none → Q (.ref p) (upd H1 p (.tup xs.reverse))
theorem pe_revT {X : Cx} {e : Expr} {te : TE} {k : Nat} {p1 p2 p3 pos : Pos} (he : PE X e te) : PE X (.Subscript e (.Slice none none (some (.UnaryOp .USub (.Constant (.int 1) k p1) p2)) p3) pos) (tRevT X.K te) := by
  refine ⟨fun pins s σ H Q I h => ?_⟩
  refine Subscript_ (thn (he.run pins s σ H _ I h) fun v s1 ⟨x, H1, I1, r1, q1⟩ => ?_)
  obtain ⟨a, xs, ex, hx, q⟩ := q1
  subst ex
  cases r1
  have hst : PO X (some (.UnaryOp .USub (.Constant (.int 1) k p1) p2)) (tPart (tUn (rU fun i => .int (-i)) (tC (.int 1)))) := po_some (pe_un un_neg pe_int)
  refine wpAny_Slice ?_
  rw [evalPart_none]
  refine wpAny_pure ?_
  refine wpAny_pure ?_
  refine thn (hst.run pins s1 σ H1 (fun o H4 => o = some (-1) ∧ H4 = H1) I1 ⟨1, rfl, -1, rfl, rfl, rfl⟩) fun vs s4 ⟨o, H4, I4, ps, eo, e4⟩ => ?_
  subst eo e4
  have I5 : Inv X pins σ H4 { s4 with heap := s4.heap.push { cls := .type "slice", data := .fields #[.none, .none, vs] } } := I4.kept (t' := s4.toks) fun b ob q => Heap.get?_push_of_some _ q
  obtain ⟨its, r, ht, hz⟩ := I5.tuple hx
  have hlen := r.length
  show wpAny (model X.prog X.w) X.A (subscriptTail e (.Slice none none (some (.UnaryOp .USub (.Constant (.int 1) k p1) p2)) p3) (.ref a) (.ref s4.heap.objs.size)) (EP X pins σ Q) X.xe { s4 with heap := s4.heap.push { cls := .type "slice", data := .fields #[.none, .none, vs] } }
  refine tail_any (ops := [.ref a, .ref s4.heap.objs.size]) ht.typeIs PyProof.Rows.slot_tuple_getitem.lookup ?_ (by with_unfolding_all rfl)
  refine HT.getItem_tuple_rev ht (Heap.IsSliceOf.new _ _ _ _) ps ?_ (by rw [List.size_toArray]; omega)
  refine ⟨.ref _, _, I5.laid (t' := s4.toks) (o := .tup xs.reverse) (fun b ob q => Heap.get?_push_of_some _ q) (Nat.le_refl _) ?_, rfl, q _ (I5.hok.fresh (Nat.le_refl _))⟩
  exact ⟨by rw [List.length_reverse]; exact hz, _, r.reverse, IsTup.new _ _⟩

/-! ### t * k, t a tuple, any k -/
theorem tuple_mulS (l : Addr) (items : Array Value) (n : Nat) (dd : Option Addr) (sl : Array (Option Value)) (x : Int) (u : Tok) (c0 : (decide (x < -(2 ^ 63)) || decide (x ≥ 2 ^ 63)) = false) (c1 : (items.isEmpty || x == 1) = true) :
    Meets (Builtin.«tuple.__mul__» ⟨[.ref l, .int x u], []⟩) (fun _ R s => s.heap.get? l = some { cls := .type "tuple", dict := dd, data := .seq items n, slots := sl } ∧ R (.ok (.ret (Value.ref l))) s) :=
  .of_wp fun prog w A R s h => by
    obtain ⟨hp, g, d, tk, os⟩ := s
    obtain ⟨hl, h⟩ := h
    have f1 := AutoSeq1.idx_int
    wp_walk using wpAny_loadPart' hl
    repeat (first
      | (refine wpAny_ite_false (decide_eq_false (by rw [c0]; exact Bool.false_ne_true)) ?_; wp_walk using wpAny_loadPart' hl)
      | (refine wpAny_ite_true (decide_eq_true c1) ?_; wp_walk using wpAny_loadPart' hl))
    exact ⟨_, rfl, h⟩
theorem tuple_mul0 (l : Addr) (items : Array Value) (n : Nat) (dd : Option Addr) (sl : Array (Option Value)) (x : Int) (u : Tok) (c0 : (decide (x < -(2 ^ 63)) || decide (x ≥ 2 ^ 63)) = false) (c1 : (items.isEmpty || x == 1) = false) (c2 : (decide (x ≤ 0) || items.isEmpty) = true) :
    Meets (Builtin.«tuple.__mul__» ⟨[.ref l, .int x u], []⟩) (fun _ R s => s.heap.get? l = some { cls := .type "tuple", dict := dd, data := .seq items n, slots := sl } ∧
      R (.ok (.ret (Value.ref s.heap.objs.size))) { s with heap := s.heap.push { cls := Value.type "tuple", data := Data.seq #[] }, toks := s.toks }) :=
  .of_wp fun prog w A R s h => by
    obtain ⟨hp, g, d, tk, os⟩ := s
    obtain ⟨hl, h⟩ := h
    have f1 := AutoSeq1.idx_int
    wp_walk using wpAny_loadPart' hl
    repeat (first
      | (refine wpAny_ite_false (decide_eq_false (by rw [c0]; exact Bool.false_ne_true)) ?_; wp_walk using wpAny_loadPart' hl)
      | (refine wpAny_ite_false (decide_eq_false (by rw [c1]; exact Bool.false_ne_true)) ?_; wp_walk using wpAny_loadPart' hl)
      | (refine wpAny_ite_true (decide_eq_true c2) ?_; wp_walk using wpAny_loadPart' hl))
    exact ⟨_, rfl, h⟩
def rRepA (K : PySem.W.Frag) : R2 := fun x y H Q => ∃ l k xs, x = .ref l ∧ y = .int k ∧ SqT K H l xs ∧ 0 ≤ k ∧ k ≤ 1000 ∧ xs.length ≤ 1000 ∧
  ((xs = [] ∨ k = 1) → Q (.ref l) H) ∧ (xs ≠ [] → k ≠ 1 → ∀ p, H p = none → Q (.ref p) (upd H p (.tup (List.replicate k.toNat xs).flatten)))
section
variable {X : Cx}
theorem op_repA {K0 : W.Frag} (hK0 : X.K = K0 := by rfl) : OpR X (binaryOp .Mult) (rRepA K0) := by
  subst hK0
  intro pins s σ H x y v u Q I rx ry h
  obtain ⟨l, k, xs, rfl, rfl, hT, h1, h2, hz, q1, q2⟩ := h
  by_cases hg : xs ≠ [] ∧ 2 ≤ k
  · exact op_repT pins s σ H _ _ v u Q I rx ry ⟨l, k, xs, rfl, rfl, hT, hg.1, hg.2, h2, hz, q2 hg.1 (by omega)⟩
  cases rx
  obtain ⟨t, rfl⟩ := ry
  obtain ⟨its, r, ⟨⟨cls, dd, data, sl⟩, ho, hc, n, hd⟩, hs⟩ := I.tuple hT
  simp only at hc hd
  subst hc hd
  have hle : its.length = xs.length := r.length.symm
  have c0 : (decide (k < -(2 ^ 63)) || decide (k ≥ 2 ^ 63)) = false := by
    rw [decide_eq_false (by omega), decide_eq_false (by omega)] <;> rfl
  by_cases hA : xs = [] ∨ k = 1
  · have c1 : (its.toArray.isEmpty || k == 1) = true := by
      rcases hA with z | z
      · have : its = [] := List.eq_nil_of_length_eq_zero (by rw [hle, z]; rfl)
        subst this; rfl
      · subst z; simp
    refine wpAny_binaryOp_repeat_ref (T := "tuple") (U := "int") (by decide) ⟨_, ho, rfl⟩ (fun s' => typeIs_int s' k t) noFill_tuple_mul F.fills_int_mul F.slot_int_rmul repeat_tuple F.slot_int_index.lookup
      (call_meets F.slot_int_rmul (typeIs_int s k t) F.entry_int_rmul (F.args_int_rmul_2 _ _) (int_rmul_tuple k t l its.toArray n dd sl)
        ⟨ho, rfl, ⟨_, ho, rfl⟩, call_meets F.slot_tuple_mul ⟨_, ho, rfl⟩ F.entry_tuple_mul (F.args_tuple_mul_2 _ _) (tuple_mulS l its.toArray n dd sl k t c0 c1) ⟨ho, ?_⟩⟩)
    exact ⟨.ref l, H, I, rfl, q1 hA⟩
  · have hx : xs ≠ [] := fun z => hA (.inl z)
    have hk1 : k ≠ 1 := fun z => hA (.inr z)
    have hk0 : k = 0 := by
      by_cases z : 2 ≤ k
      · exact (hg ⟨hx, z⟩).elim
      · omega
    subst hk0
    have hn : its ≠ [] := fun e => hx (by
      rw [e] at hle
      exact List.eq_nil_of_length_eq_zero hle.symm)
    have hi : its.toArray.isEmpty = false := by
      cases its with
      | nil => exact absurd rfl hn
      | cons a b => rfl
    have c1 : (its.toArray.isEmpty || (0 : Int) == 1) = false := by rw [hi]; rfl
    have c2 : (decide ((0 : Int) ≤ 0) || its.toArray.isEmpty) = true := by simp
    refine wpAny_binaryOp_repeat_ref (T := "tuple") (U := "int") (by decide) ⟨_, ho, rfl⟩ (fun s' => typeIs_int s' 0 t) noFill_tuple_mul F.fills_int_mul F.slot_int_rmul repeat_tuple F.slot_int_index.lookup
      (call_meets F.slot_int_rmul (typeIs_int s 0 t) F.entry_int_rmul (F.args_int_rmul_2 _ _) (int_rmul_tuple 0 t l its.toArray n dd sl)
        ⟨ho, rfl, ⟨_, ho, rfl⟩, call_meets F.slot_tuple_mul ⟨_, ho, rfl⟩ F.entry_tuple_mul (F.args_tuple_mul_2 _ _) (tuple_mul0 l its.toArray n dd sl 0 t c0 c1 c2) ⟨ho, ?_⟩⟩)
    refine ⟨.ref s.heap.objs.size, _, I.laid (t' := s.toks) (o := .tup []) (fun b ob q => Heap.get?_push_of_some _ q) (Nat.le_refl _) ?_, rfl, q2 hx (by decide) _ (I.hok.fresh (Nat.le_refl _))⟩
    exact ⟨Nat.zero_le _, [], .nil, IsTup.new _ _⟩
end
def dRepT : Dv → Dv → Option Dv
  | .tup xs, .int k => if 0 ≤ k ∧ k ≤ 1000 ∧ xs.length ≤ 1000 then some (.tup (List.replicate k.toNat xs).flatten) else none
  | _, _ => none
theorem o_repT {K : W.Frag} : OpS K (rRepA K) dRepT := fun F H x y d e z Q ez sub rx ry h => by
  cases d with
  | tup xs =>
    cases e with
    | int k =>
      have ez : (if 0 ≤ k ∧ k ≤ 1000 ∧ xs.length ≤ 1000 then some (Dv.tup (List.replicate k.toNat xs).flatten) else none) = some z := ez
      split at ez
      case isFalse => cases ez
      rename_i hc
      cases ez
      cases ry
      cases rx with
      | @tup a us _ ha ra =>
        refine ⟨_, k, us, rfl, rfl, sameT sub ha, hc.1, hc.2.1, by rw [ra.length]; exact hc.2.2, fun e0 => ?_, fun _ _ p np => ?_⟩
        · rcases e0 with e0 | e0
          · subst e0
            cases ra
            have : (List.replicate k.toNat ([] : List Dv)).flatten = [] := by simp
            rw [this] at h
            exact h _ F H (Gr.refl sub) (.tup ha .nil)
          · subst e0
            have : (List.replicate (1 : Int).toNat xs).flatten = xs := by simp
            rw [this] at h
            exact h _ F H (Gr.refl sub) (.tup ha ra)
        · have g := Gr.new sub (.tup (List.replicate k.toNat us).flatten) np
          exact h _ _ _ g (.tup (.of upd_same) (flat_rep (ra.mono g.ff) k.toNat))
    | _ => cases ez
  | _ => cases e <;> cases ez
/-! ### xs[::-1] of any kind; as a new list -/
section
variable {X : Cx} {Z : Z0} {E : XK} {pos : Pos} {a b : Expr} {ta tb : TE} {fa fb : Sx}
def dRev : Dv → Option Dv
  | .lst ds => some (.lst ds.reverse)
  | .tup ds => some (.tup ds.reverse)
  | _ => none
theorem e_rev {k : Nat} {p1 p2 p3 : Pos} (ha : DE X Z E a ta fa) {K0 : W.Frag} (hK0 : X.K = K0 := by rfl) : DE X Z E (.Subscript a (.Slice none none (some (.UnaryOp .USub (.Constant (.int 1) k p1) p2)) p3) pos) (fun σ H Q => tRevL K0 ta σ H Q ∨ tRevT K0 ta σ H Q) (fUn dRev fa) := by
  subst hK0
  exact ⟨pe_or2 (pe_revL ha.pe) (pe_revT ha.pe), fun F ow σ H ρ w Q R q => by
    unfold fUn at q
    cases e : fa ρ w with
    | stuck => rw [e] at q; exact q.elim
    | rz x w1 => left; refine ha.sn F ow σ H ρ w _ R ?_; rw [e] at q ⊢; exact q
    | ok d w1 =>
      cases d with
      | lst ds =>
        left
        refine ha.sn F ow σ H ρ w _ R ?_
        rw [e] at q ⊢
        intro v H1 F1 ow1 s1 R1 r1
        cases r1 with
        | @lst a vs _ hs ra =>
          refine ⟨a, vs, rfl, R1.sub.seq (SqL.of hs), fun p np => ?_⟩
          have g := Gr.new R1.sub (.lst vs.reverse) np
          exact q _ _ _ ow1 (s1.trans g.ff) (R1.grow g) (.lst upd_same (ra.reverse.mono g.ff))
      | tup ds =>
        right
        refine ha.sn F ow σ H ρ w _ R ?_
        rw [e] at q ⊢
        intro v H1 F1 ow1 s1 R1 r1
        cases r1 with
        | @tup a vs _ hs ra =>
          refine ⟨a, vs, rfl, sameT R1.sub hs, fun p np => ?_⟩
          have g := Gr.new R1.sub (.tup vs.reverse) np
          exact q _ _ _ ow1 (s1.trans g.ff) (R1.grow g) (.tup (.of upd_same) (ra.reverse.mono g.ff))
      | _ => rw [e] at q; exact q.elim⟩
def fRevN (fa : Sx) : Sl := fun ρ w => (fa ρ w).bind fun d w1 => match d with
  | .lst ds => .ok ds.reverse w1
  | _ => .stuck
theorem n_rev {k : Nat} {p1 p2 p3 : Pos} (ha : DE X Z E a ta fa) {K0 : W.Frag} (hK0 : X.K = K0 := by rfl) : DN X Z E (.Subscript a (.Slice none none (some (.UnaryOp .USub (.Constant (.int 1) k p1) p2)) p3) pos) (tRevL K0 ta) (fRevN fa) := by
  subst hK0
  exact ⟨pe_revL ha.pe, fun F ow σ H ρ w Q R q => ha.sn.seq R q fun d w1 x H1 F1 ow1 s1 R1 r1 q1 => by
    cases d with
    | lst ds =>
      cases r1 with
      | @lst a vs _ hs ra =>
        refine ⟨a, vs, rfl, R1.sub.seq (SqL.of hs), fun p np => ?_⟩
        obtain ⟨h1, h2, h3⟩ := R1.fresh np
        exact q1 p vs.reverse _ F1 ow1 s1 (R1.grow (Gr.apart R1.sub (.lst vs.reverse) np)) upd_same h1 h2 h3 ra.reverse
    | _ => exact q1.elim⟩
/-! a new list by a test -/
def fIfN (fc : Sb) (fa fb : Sl) : Sl := fun ρ w => (fc ρ w).bind fun b w1 => if b = true then fa ρ w1 else fb ρ w1
theorem n_if {c : Expr} {t : TT} {f : Sb} {ga gb : Sl} (hc : DT X Z E c t f) (ha : DN X Z E a ta ga) (hb : DN X Z E b tb gb) : DN X Z E (.IfExp c a b pos) (tIf t ta tb) (fIfN f ga gb) := ⟨pe_ifExp hc.pt ha.pe hb.pe, fun F ow σ H ρ w Q R q =>
  hc.sn.seq R q fun k w1 H1 F1 ow1 s1 R1 q1 => by
    cases k with
    | true => rw [if_pos rfl] at q1 ⊢; exact ha.sn F1 ow1 σ H1 ρ w1 Q R1 (q1.imp fun d w h p vs H' F' ow' s => h p vs H' F' ow' (s1.trans s))
    | false => rw [if_neg Bool.false_ne_true] at q1 ⊢; exact hb.sn F1 ow1 σ H1 ρ w1 Q R1 (q1.imp fun d w h p vs H' F' ow' s => h p vs H' F' ow' (s1.trans s))⟩
/-! chains of two comparisons -/
def fChain (op1 op2 : Dv → Dv → Option Dv) (fa fb fc : Sx) : Sx := fun ρ w => (fa ρ w).bind fun d w1 => (fb ρ w1).bind fun e w2 => match op1 d e with
  | some (.bl true) => (fc ρ w2).bind fun g w3 => .of (op2 e g) w3
  | some (.bl false) => .ok (.bl false) w2
  | _ => .stuck
end
end DL

namespace DL
open PySem PySem.Spec PyProof.Rows L2
/-! ### chains of two comparisons -/
section
variable {X : Cx} {Z : Z0} {E : XK} {pos : Pos} {a b c : Expr} {ta tb tc : TE} {fa fb fc : Sx}
theorem s_chain {K : W.Frag} {r r' : R2} {op1 op2 : Dv → Dv → Option Dv} (o1 : OpS K r op1) (o2 : OpS K r' op2) (ha : Snd K Z E ta fa) (hb : Snd K Z E tb fb) (hc : Snd K Z E tc fc) : Snd K Z E (tChain r r' ta tb tc) (fChain op1 op2 fa fb fc) := fun F ow σ H ρ w Q R q =>
  ha.seq R q fun d w1 x H1 F1 ow1 s1 R1 r1 q1 => hb.seq R1 q1 fun e w2 y H2 F2 ow2 s2 R2 r2 q2 => by
    cases ez : op1 d e with
    | none => rw [ez] at q2; exact q2.elim
    | some z =>
      rw [ez] at q2
      cases z with
      | bl k =>
        refine o1 F2 H2 x y d e _ _ ez R2.sub (r1.mono s2) r2 fun v F3 H3 g rz => ?_
        cases rz
        refine ⟨k, rfl, ?_⟩
        have R3 := R2.grow g
        cases k with
        | false => rw [if_neg Bool.false_ne_true]; exact q2 _ H3 F3 ow2 ((s1.trans s2).trans g.ff) R3 (.bl _)
        | true =>
          rw [if_pos rfl]
          have q2 : Post K Z E σ ρ (QE K Z F σ Q ρ) ((fc ρ w2).bind fun g w3 => .of (op2 e g) w3) := q2
          refine hc.seq R3 q2 fun g' w3 u H4 F4 ow4 s4 R4 r4 q4 => ?_
          cases ez2 : op2 e g' with
          | none => rw [ez2] at q4; exact q4.elim
          | some z2 =>
            rw [ez2] at q4
            exact o2 F4 H4 y u e g' z2 _ ez2 R4.sub ((r2.mono g.ff).mono s4) r4 fun v F5 H5 g5 r5 => q4 v H5 F5 ow4 ((((s1.trans s2).trans g.ff).trans s4).trans g5.ff) (R4.grow g5) r5
      | _ => exact q2.elim
theorem e_chain {K0 : W.Frag} {r r' : R2} {op1 op2 : Dv → Dv → Option Dv} {bo bo' : CmpOp} (ho : OpR X (compareOp bo) r) (o : OpS K0 r op1) (ho' : OpR X (compareOp bo') r') (o' : OpS K0 r' op2) (ha : DE X Z E a ta fa) (hb : DE X Z E b tb fb) (hc : DE X Z E c tc fc)
    (hK0 : X.K = K0 := by rfl) (hm : lastMarks [bo, bo'] [b, c] = false := by with_unfolding_all rfl) : DE X Z E (.Compare a [bo, bo'] [b, c] pos) (tChain r r' ta tb tc) (fChain op1 op2 fa fb fc) := by subst hK0; exact ⟨pe_chain ho ho' ha.pe hb.pe hc.pe hm, s_chain o o' ha.sn hb.sn hc.sn⟩
theorem t_chain {K0 : W.Frag} {r r' : R2} {op1 op2 : Dv → Dv → Option Dv} {bo bo' : CmpOp} (ho : OpR X (compareOp bo) r) (o : OpS K0 r op1) (ho' : OpR X (compareOp bo') r') (o' : OpS K0 r' op2) (ha : DE X Z E a ta fa) (hb : DE X Z E b tb fb) (hc : DE X Z E c tc fc)
    (hK0 : X.K = K0 := by rfl) (hm : lastMarks [bo, bo'] [b, c] = false := by with_unfolding_all rfl) : DT X Z E (.Compare a [bo, bo'] [b, c] pos) (tTest (tChain r r' ta tb tc)) (fBool (fChain op1 op2 fa fb fc)) := by subst hK0; exact ⟨pt_chain ho ho' ha.pe hb.pe hc.pe hm, s_test (s_chain o o' ha.sn hb.sn hc.sn)⟩
end

/-! ### xs.insert(a, xs.pop(b)) -/
def insAt (ds : List Dv) (i : Nat) (d : Dv) : List Dv := ds.take i ++ [d] ++ ds.drop i
def gIns (i : Nat) (fa : Sx) (ff : Sf) : Ss := fun ρ w => match ρ[i]? with
  | some (.lst _) => (fa ρ w).bind fun k w1 => match k with
    | .int k => (ff ρ w1).bind fun p w2 => match p.2[i]? with
      | some (.lst ds) => if 0 ≤ k ∧ k < 2 ^ 63 ∧ ds.length < big then .ok (.nx (p.2.set i (.lst (insAt ds k.toNat p.1)))) w2 else .stuck
      | _ => .stuck
    | _ => .stuck
  | _ => .stuck
section
variable {X : Cx} {Z : Z0} {E : XK} {pos : Pos} {a b : Expr} {ta tb : TE} {fa : Sx} {ff : Sf}
theorem d_ins (i : Nat) {x : Str} {p apos pos2 : Pos} (ha : DE X Z E a ta fa) (hf : DF X Z E b tb ff) (hN : X.N[i]? = some x := by rfl) (hv : Vis X.env.scope x := by first | exact Or.inl rfl | exact Or.inr (Or.inl rfl) | exact Or.inr (Or.inr rfl)) (hd : (x == ("__debug__" : Str)) = false := by decide)
    (hcd : (x == ("__classdict__" : Str)) = false := by decide) (hbase : attributeBase (.Name x p) "insert" X.env (eval (.Name x p) X.env) = eval (.Name x p) X.env := by rfl)
    (hfew : ((backTo pos (starEach [a, b] X.env)).all (fun x => !x.1) && (backToKw pos (keywordEach [] X.env)).all (fun x => x.1.isSome) && decide ([a, b].length + ([] : List Keyword).length + (if ([] : List Keyword).isEmpty then 0 else 1) < 30)) = true := by rfl)
    (hline : (apos.endLine == pos.line) = true := by rfl) (hs : starEach [a, b] X.env = (false, eval a X.env) :: starEach [b] X.env := by rfl) (hs2 : starEach [b] X.env = (false, eval b X.env) :: starEach [] X.env := by rfl) (hplain : (backTo pos (starEach [b] X.env)).any (·.1) = false := by rfl)
    (hsw : swapsWith (.Call (.Attribute (.Name x p) "insert" apos) [a, b] [] pos) none pos2.line X.env = pure false := by rfl) :
    DSt X Z E (.Expr (.Call (.Attribute (.Name x p) "insert" apos) [a, b] [] pos) pos2) (tDrop (tBM X.K "list" (fun x vs H Q => ∃ (l : Addr) (xs : List V) (i : Int) (y : V), x = .ref l ∧ vs = [.int i, y] ∧ H l = some (.lst xs) ∧ xs.length < sizeLine ∧ 0 ≤ i ∧ i < 2 ^ 63 ∧
    Q .non (upd H l (.lst (xs.take i.toNat ++ [y] ++ xs.drop i.toNat)))) (tVar i) (tCons ta (tCons tb tNil)))) (gIns i fa ff) := ⟨ps_expr (pe_bm PySem.F.plainAttrs_list PySem.F.slot_list_insert PySem.F.type_list_insert mt_insert (pe_var hN hv hd hcd) (pa_cons ha.pe (pa_cons hf.pe pa_nil hs2) hs) hbase hfew hline hs hplain) hsw, fun F ow σ H ρ w D R q => by
  unfold gIns at q
  cases e : ρ[i]? with
  | none => rw [e] at q; exact q.elim
  | some s =>
    cases s with
    | lst ds0 =>
      obtain ⟨l, xs, h1, h2, h3, h4, r, hi⟩ := R.own_at e
      simp only [e] at q
      refine ⟨_, h1, .inl ⟨rfl, _, SqL.of h2⟩, ?_⟩
      refine ha.sn.seqS R q fun k w1 y H1 F1 ow1 s1 R1 r1 q1 => ?_
      cases k with
      | int k =>
        cases r1
        have q1 : PostS X.K Z E F1 D ((ff ρ w1).bind fun p w2 => match p.2[i]? with
          | some (.lst ds) => if 0 ≤ k ∧ k < 2 ^ 63 ∧ ds.length < big then .ok (.nx (p.2.set i (.lst (insAt ds k.toNat p.1)))) w2 else .stuck
          | _ => .stuck) := q1
        refine hf.sn.seqS (k := fun d ρ' w' => match ρ'[i]? with
          | some (.lst ds) => if 0 ≤ k ∧ k < 2 ^ 63 ∧ ds.length < big then .ok (.nx (ρ'.set i (.lst (insAt ds k.toNat d)))) w' else .stuck
          | _ => .stuck) R1 q1 fun d ρ' w' v H2 F2 ow2 s2 R2 r2 q2 => ?_
        cases e2 : ρ'[i]? with
        | none => rw [e2] at q2; exact q2.elim
        | some s2' =>
          rw [e2] at q2
          cases s2' with
          | lst ds =>
            obtain ⟨l2, xs2, g1, g2, g3, g4, rr, _⟩ := R2.own_at e2
            rw [h1] at g1; cases g1
            have q2 : PostS X.K Z E F2 D (if 0 ≤ k ∧ k < 2 ^ 63 ∧ ds.length < big then .ok (.nx (ρ'.set i (.lst (insAt ds k.toNat d)))) w' else .stuck) := q2
            split at q2
            case isFalse => exact q2.elim
            rename_i hk
            refine ⟨_, xs2, k, v, rfl, rfl, g2, by rw [rr.length, sizeLine_big]; exact hk.2.2, hk.1, hk.2.1, ?_⟩
            exact q2 σ _ F2 ow2 (Same.refl _) (R2.writeL e2 h1 (((rr.take k.toNat).append (.cons r2 .nil)).append (rr.drop k.toNat)))
          | _ => exact q2.elim
      | _ => exact q1.elim
    | _ => simp only [e] at q; exact q.elim⟩
end
end DL

namespace DL
open PySem PySem.Spec PyProof.Rows L2
/-! ### owned dicts -/
section
variable {X : Cx} {Z : Z0} {E : XK} {pos : Pos} {K : W.Frag} {F : Hp} {ow : Addr → Option Nat} {σ : L2.St} {H : Hp} {ρ : List EV} {w : DS}
theorem Rep.own_atD {i : Nat} {ds : List (Dv × Dv)} (R : Rep K Z F ow σ H ρ w) (h : ρ[i]? = some (.dct ds)) : ∃ l xs, σ[i]? = some (some (.ref l)) ∧ H l = some (.dK xs) ∧ ow l = some (i + 1) ∧ Z.H l = none ∧ RpKv K F xs ds ∧ i < ρ.length := by
  obtain ⟨l, xs, h1, h2, h3, h4, r⟩ := R.slots i _ h
  exact ⟨l, xs, h1, h2, h3, h4, r, (List.getElem?_eq_some_iff.mp h).1⟩
theorem Rep.writeD {i : Nat} {ds es : List (Dv × Dv)} {l : Addr} {ys : List (Key × V)} (R : Rep K Z F ow σ H ρ w) (h : ρ[i]? = some (.dct ds)) (hs : σ[i]? = some (some (.ref l))) (r : RpKv K F ys es) : Rep K Z F ow σ (upd H l (.dK ys)) (ρ.set i (.dct es)) w := by
  obtain ⟨l', xs, h1, h2, h3, h4, _, hi⟩ := R.own_atD h
  rw [hs] at h1; cases h1
  exact R.write h3 hi ⟨l, ys, hs, upd_same, h3, h4, r⟩
def gNewD (i : Nat) : Ss := fun ρ w => .ok (.nx (ρ.set i (.dct []))) w
theorem d_setNewD (i : Nat) {x : Str} {pos' dpos : Pos} (hN : X.N.Nodup) (hi : X.N[i]? = some x := by rfl) (hx : Loc X.env.scope x := by first | exact Or.inl rfl | exact Or.inr rfl) (hs : swapsWith (.Dict [] [] dpos) (some (.Name x pos')) pos.line X.env = pure false := by rfl) (hf : X.fn x = true ∨ X.env.scope.names.lookup x = some .local := by first | exact .inl rfl | exact .inr rfl | assumption) :
    DSt X Z E (.Assign [.Name x pos'] (.Dict [] [] dpos) pos) (tAsg tDNewK (gName i)) (gNewD i) := ⟨ps_set hN hi hx pe_dnewK hs hf, fun F ow σ H ρ w D R q p np => by
  obtain ⟨h2, h3, h4⟩ := R.fresh np
  have R1 := R.grow (Gr.apart R.sub (.dK []) np)
  exact q _ _ F _ (Same.refl _) (R1.setNewD upd_same h2 h3 h4 .nil)⟩
def gPutD (i : Nat) (fk fv : Sx) : Ss := fun ρ w => (fv ρ w).bind fun d w1 => match ρ[i]? with
  | some (.dct _) => (fk ρ w1).bind fun k w2 => match toKey k, ρ[i]? with
    | some _, some (.dct kvs) => if kvs.length < big then .ok (.nx (ρ.set i (.dct (dPutD kvs k d)))) w2 else .stuck
    | _, _ => .stuck
  | _ => .stuck
theorem d_putD (i : Nat) {x : Str} {p pos' : Pos} {ei ev : Expr} {ti tv : TE} {fi fv : Sx} (hu : X.A.units + 1 < cLine) (hi : DE X Z E ei ti fi) (he : DE X Z E ev tv fv) (hN : X.N[i]? = some x := by rfl) (hv : Vis X.env.scope x := by first | exact Or.inl rfl | exact Or.inr (Or.inl rfl) | exact Or.inr (Or.inr rfl)) (hd : (x == ("__debug__" : Str)) = false := by decide)
    (hcd : (x == ("__classdict__" : Str)) = false := by decide)
    (ha : ∀ v, assign (.Subscript (.Name x p) ei pos') X.env v = (do
      let ov ← holding [v] (eval (.Name x p) X.env)
      let iv ← holding [v, ov] (eval ei X.env)
      standAt pos'
      holding [v, ov, iv] (setItem ov iv v)
      release [v, ov, iv] []) := by intro _; rfl)
    (hs : swapsWithSole [.Subscript (.Name x p) ei pos'] ev pos.line X.env = pure false := by rfl) (hw : swappedStores [.Subscript (.Name x p) ei pos'] ev X.env = pure none := by rfl)
    (h1 : (assignEach [.Subscript (.Name x p) ei pos'] X.env).map (·.2) = [assign (.Subscript (.Name x p) ei pos') X.env] := by rfl) :
    DSt X Z E (.Assign [.Subscript (.Name x p) ei pos'] ev pos) (tAsg tv (gSub (tVar i) ti rSetD)) (gPutD i fi fv) := ⟨ps_asg he.pe (pg_sub (pe_var hN hv hd hcd) hi.pe (set_dict hu) ha) hs hw h1, fun F ow σ H ρ w D R q => by
  refine he.sn.seqS R q fun d w1 v H1 F1 ow1 s1 R1 r1 q1 => ?_
  cases e : ρ[i]? with
  | none => rw [e] at q1; exact q1.elim
  | some s =>
    cases s with
    | dct ds =>
      obtain ⟨l, xs, h1, h2, h3, h4, r, hl⟩ := R1.own_atD e
      simp only [e] at q1
      refine ⟨_, h1, ?_⟩
      refine hi.sn.seqS R1 q1 fun k w2 y H2 F2 ow2 s2 R2 r2 q2 => ?_
      obtain ⟨l1, xs1, g1, g2, g3, g4, rr, _⟩ := R2.own_atD e
      rw [h1] at g1; cases g1
      cases ek : toKey k with
      | none => rw [ek] at q2; exact q2.elim
      | some k' =>
        rw [ek] at q2
        have hk := toKey_inv ek
        subst hk
        have hy := kD_V r2
        subst hy
        have q2 : PostS X.K Z E F2 D (if ds.length < big then .ok (.nx (ρ.set i (.dct (dPutD ds (kD k') d)))) w2 else .stuck) := q2
        split at q2
        case isFalse => exact q2.elim
        rename_i hb
        refine ⟨_, _, rfl, DPut.k g2 (by rw [rr.length, sizeLine_big]; exact hb), ?_⟩
        exact q2 σ _ F2 ow2 (Same.refl _) (R2.writeD e h1 (rr.put (r1.mono s2)))
    | _ => simp only [e] at q1; exact q1.elim⟩
/-! d[k], y = a, b -/
def gParPutD (i j : Nat) (fk fa fb : Sx) : Ss := fun ρ w => (fa ρ w).bind fun d w1 => (fb ρ w1).bind fun e w2 => match ρ[i]? with
  | some (.dct _) => (fk ρ w2).bind fun k w3 => match toKey k, ρ[i]? with
    | some _, some (.dct kvs) => if kvs.length < big then .ok (.nx ((ρ.set i (.dct (dPutD kvs k d))).set j (.dat e))) w3 else .stuck
    | _, _ => .stuck
  | _ => .stuck
theorem d_parPutD (i j : Nat) {x y : Str} {p py pos' pt pt2 : Pos} {kt k2} {ei ea eb : Expr} {ti ta tb : TE} {fi fa fb : Sx} (hu : X.A.units + 1 < cLine) (hc : X.calm = true) (hNd : X.N.Nodup) (hi : DE X Z E ei ti fi) (hea : DE X Z E ea ta fa) (heb : DE X Z E eb tb fb) (hN : X.N[i]? = some x := by rfl) (hj : X.N[j]? = some y := by rfl)
    (hv : Vis X.env.scope x := by first | exact Or.inl rfl | exact Or.inr (Or.inl rfl) | exact Or.inr (Or.inr rfl)) (hy : Loc X.env.scope y := by first | exact Or.inl rfl | exact Or.inr rfl) (hd : (x == ("__debug__" : Str)) = false := by decide)
    (hcd : (x == ("__classdict__" : Str)) = false := by decide)
    (ha : ∀ v, assign (.Subscript (.Name x p) ei pos') X.env v = (do
      let ov ← holding [v] (eval (.Name x p) X.env)
      let iv ← holding [v, ov] (eval ei X.env)
      standAt pos'
      holding [v, ov, iv] (setItem ov iv v)
      release [v, ov, iv] []) := by intro _; rfl)
    (hs1 : starEach (ea :: [eb]) X.env = (false, eval ea X.env) :: starEach [eb] X.env := by rfl) (hs2 : starEach [eb] X.env = (false, eval eb X.env) :: starEach [] X.env := by rfl)
    (hn : (assignEach [.Subscript (.Name x p) ei pos', .Name y py] X.env).length = 2 := by rfl) (hst : (assignEach [.Subscript (.Name x p) ei pos', .Name y py] X.env).findIdx? (·.1) = none := by rfl)
    (hg1 : (assignEach [.Subscript (.Name x p) ei pos', .Name y py] X.env).map (·.2) = assign (.Subscript (.Name x p) ei pos') X.env :: (assignEach [.Name y py] X.env).map (·.2) := by rfl) (hg2 : (assignEach [.Name y py] X.env).map (·.2) = assign (.Name y py) X.env :: (assignEach [] X.env).map (·.2) := by rfl)
    (hs : swapsWithSole [.Tuple [.Subscript (.Name x p) ei pos', .Name y py] kt pt] (.Tuple [ea, eb] k2 pt2) pos.line X.env = pure false := by rfl) (hw : swappedStores [.Tuple [.Subscript (.Name x p) ei pos', .Name y py] kt pt] (.Tuple [ea, eb] k2 pt2) X.env = pure none := by rfl)
    (h1 : (assignEach [.Tuple [.Subscript (.Name x p) ei pos', .Name y py] kt pt] X.env).map (·.2) = [assign (.Tuple [.Subscript (.Name x p) ei pos', .Name y py] kt pt) X.env] := by rfl) (hf : X.fn y = true ∨ X.env.scope.names.lookup y = some .local := by first | exact .inl rfl | exact .inr rfl | assumption) :
    DSt X Z E (.Assign [.Tuple [.Subscript (.Name x p) ei pos', .Name y py] kt pt] (.Tuple [ea, eb] k2 pt2) pos) (tAsg (tTup (tCons ta (tCons tb tNil))) (gTup X.K 2 (gCons (gSub (tVar i) ti rSetD) (gCons (gName j) gNil)))) (gParPutD i j fi fa fb) :=
  ⟨ps_asg (pe_tup (pa_cons hea.pe (pa_cons heb.pe pa_nil hs2) hs1)) (pg_tup hc (pgs_cons (pg_sub (pe_var hN hv hd hcd) hi.pe (set_dict hu) ha) (pgs_cons (pg_name hNd hj hy hf) pgs_nil hg2) hg1) hn hst) hs hw h1, fun F ow σ H ρ w D R q => by
  refine hea.sn.seqS R q fun d w1 v H1 F1 ow1 s1 R1 r1 q1 => ?_
  refine heb.sn.seqS R1 q1 fun d2 w2 v2 H2 F2 ow2 s2 R2 r2 q2 => ?_
  refine ⟨by show 2 ≤ sizeLine; rw [sizeLine_big]; decide, fun t nt => ?_⟩
  have g := Gr.new R2.sub (.tup [v, v2]) nt
  have R3 := R2.grow g
  cases e : ρ[i]? with
  | none => rw [e] at q2; exact q2.elim
  | some s =>
    cases s with
    | dct ds =>
      obtain ⟨l, xs, h1, h2, h3, h4, r, hl⟩ := R3.own_atD e
      simp only [e] at q2
      refine ⟨t, [v, v2], rfl, .of upd_same, rfl, v, [v2], rfl, _, h1, ?_⟩
      refine hi.sn.seqS R3 (q2.up g.ff) fun k w3 y' H3 F3 ow3 s3 R4 r3 q3 => ?_
      obtain ⟨l1, xs1, g1, g2, g3, g4, rr, _⟩ := R4.own_atD e
      rw [h1] at g1; cases g1
      cases ek : toKey k with
      | none => rw [ek] at q3; exact q3.elim
      | some k' =>
        rw [ek] at q3
        have hk := toKey_inv ek
        subst hk
        have hy := kD_V r3
        subst hy
        have q3 : PostS X.K Z E F3 D (if ds.length < big then .ok (.nx ((ρ.set i (.dct (dPutD ds (kD k') d))).set j (.dat d2))) w3 else .stuck) := q3
        split at q3
        case isFalse => exact q3.elim
        rename_i hb
        refine ⟨_, _, rfl, DPut.k g2 (by rw [rr.length, sizeLine_big]; exact hb), v2, [], rfl, rfl, ?_⟩
        have sf := s2.trans (g.ff.trans s3)
        refine q3 _ _ F3 ow3 (Same.refl _) ((R4.writeD e h1 (rr.put (r1.mono sf))).set (i := j) ⟨v2, rfl, r2.mono (g.ff.trans s3)⟩)
    | _ => simp only [e] at q2; exact q2.elim⟩
/-- {} as data -/
theorem e_disp0 : DE X Z E (.Dict [] [] pos) tDNewK (fC (.dct [])) := ⟨pe_dnewK, fun F ow σ H ρ w Q R q p np => by
  have g := Gr.new R.sub (.dK []) np
  exact q _ _ _ ow g.ff (R.grow g) (.dct (.inl upd_same) .nil)⟩
end
end DL

namespace DL
open PySem PySem.Spec PyProof.Rows L2
/-! ### {k: v for x in xs if c} -/
def dcD (k : Sg) (ft : Sb) (fk fv : Sx) (ρ : List EV) : List Dv → List (Dv × Dv) → DS → RR (List (Dv × Dv))
  | [], acc, w => .ok acc w
  | d :: ds, acc, w => match k d ρ with
    | none => .stuck
    | some ρ1 => match ft ρ1 w with
      | .ok true w1 => (match fk ρ1 w1 with
        | .ok y w2 => (match fv ρ1 w2 with
          | .ok z w3 => if (toKey y).isSome = true then dcD k ft fk fv ρ ds (dPutD acc y z) w3 else .stuck
          | _ => .stuck)
        | _ => .stuck)
      | .ok false w1 => dcD k ft fk fv ρ ds acc w1
      | _ => .stuck
def fDcW (fi : Sl) (k : Sg) (ft : Sb) (fk fv : Sx) (vs : List Nat) : Sx := fun ρ w => (fi ρ w).bind fun items w1 => if items.length ≤ big ∧ okW ρ vs = true then (dcD k ft fk fv (wipeE ρ vs) items [] w1).bind fun kvs w2 => .ok (.dct kvs) w2 else .stuck
section
variable {X : Cx} {Z : Z0} {E : XK} {pos : Pos}
theorem putK_length {α : Type} [DecidableEq α] (kvs : List (α × V)) (k : α) (v : V) : (putK kvs k v).length ≤ kvs.length + 1 := by
  unfold putK
  split
  · rw [List.length_map]; omega
  · rw [List.length_append]; exact Nat.le_refl _
theorem s_dc {K : W.Frag} {wi : TI} {g : TG} {tt : TT} {tk tv : TE} {fi : Sl} {k : Sg} {ft : Sb} {fk fv : Sx} {vs l : List Nat} (hi : SndI K Z E wi fi) (hg : ∀ Z', SndG K Z' g k l) (fr : ∀ d ρ ρ', k d ρ = some ρ' → ∀ i, i ∉ l → ρ'[i]? = ρ[i]?) (ht : ∀ Z', SndT K Z' E0 tt ft) (hk : ∀ Z', Snd K Z' E0 tk fk) (he : ∀ Z', Snd K Z' E0 tv fv) (hl : ∀ i ∈ l, i ∈ vs) :
    Snd K Z E (tDc wi g tt tk tv vs) (fDcW fi k ft fk fv vs) := fun F ow σ H ρ w Q R q => by
  refine hi.seq R q fun items w1 J H1 F1 ow1 s1 R1 wk q1 => ?_
  by_cases hb : items.length ≤ big ∧ okW ρ vs = true
  case neg => rw [if_neg hb] at q1; exact q1.elim
  rw [if_pos hb] at q1
  obtain ⟨hbig, hok⟩ := hb
  intro D nD
  obtain ⟨d2, d3, d4⟩ := R1.fresh nD
  have nf : ¬ Z.foot D := fun z => by
    obtain ⟨u, h1⟩ := R1.st.there z
    rw [h1] at nD; cases nD
  have zF : Z.F D = none := R1.keepF.free d3
  refine ⟨fun i m H => ∃ F2 ow2 w2 acc accD, Same F1 F2 ∧ Rep K Z F2 ow2 σ H ρ w2 ∧ H D = some (.dK acc) ∧ ow2 D = none ∧ F2 D = none ∧ RpKv K F2 acc accD ∧ m = (items.drop i).length ∧ acc.length ≤ i ∧
      Post K Z E σ ρ (QE K Z F σ Q ρ) ((dcD k ft fk fv (wipeE ρ vs) (items.drop i) accD w2).bind fun kvs w2 => .ok (.dct kvs) w2),
    ⟨_, F1, ow1, w1, [], [], Same.refl _, R1.mark d2 d3 d4 nf, upd_same, d2, d3, .nil, rfl, Nat.zero_le _, q1⟩, ?_⟩
  rintro i m H2 ⟨F2, ow2, w2, acc, accD, s2, R2, e2, o2, f2, r2, rfl, hle, q2⟩
  cases ed : items.drop i with
  | nil =>
    rw [ed] at q2
    have hn : items[i]? = none := List.getElem?_eq_none_iff.mpr (by
      have := congrArg List.length ed
      rw [List.length_drop] at this
      simp only [List.length_nil] at this
      omega)
    have q3 : QE K Z F σ Q ρ (.dct accD) w2 := q2
    refine .inl ⟨wk.stop Z F2 ow2 σ H2 ρ w2 i s2 R2 hn, ?_⟩
    have ef : Same F2 (upd F2 D (.dK acc)) := same_upd f2
    exact q3 (.ref D) H2 (upd F2 D (.dK acc)) ow2 ((s1.trans s2).trans ef) (freezeRep R2 e2 o2 f2 d4) (.dct (.inl upd_same) (r2.mono ef))
  | cons d ds =>
    rw [ed] at q2
    obtain ⟨hd, hds⟩ := drop_at ed
    have Rg := R2.guard e2 o2 f2
    obtain ⟨go, yl⟩ := wk.item _ F2 ow2 σ H2 ρ w2 i d s2 Rg hd
    have hib : i < items.length := (List.getElem?_eq_some_iff.mp hd).1
    refine .inr ⟨(wk.item Z F2 ow2 σ H2 ρ w2 i d s2 R2 hd).1, fun H => ∃ F3 ow3 w3 acc3 accD3, Same F2 F3 ∧ Rep K Z F3 ow3 σ H ρ w3 ∧ H D = some (.dK acc3) ∧ ow3 D = none ∧ F3 D = none ∧ RpKv K F3 acc3 accD3 ∧ acc3.length ≤ i + 1 ∧
      Post K Z E σ ρ (QE K Z F σ Q ρ) ((dcD k ft fk fv (wipeE ρ vs) ds accD3 w3).bind fun kvs w2 => .ok (.dct kvs) w2), ?_, ?_⟩
    · rintro H' ⟨F3, ow3, w3, acc3, accD3, s3, R3, e3, o3, f3, r3, l3, q3⟩
      exact ⟨ds.length, by simp, F3, ow3, w3, acc3, accD3, s2.trans s3, R3, e3, o3, f3, r3, by rw [hds], l3, by rw [hds]; exact q3⟩
    · intro x H3 hy
      obtain ⟨F3, ow3, s3, R3, rx⟩ := yl x H3 hy
      have q3 : Post K Z E σ ρ (QE K Z F σ Q ρ) (RR.bind (match k d (wipeE ρ vs) with
        | none => .stuck
        | some ρ1 => match ft ρ1 w2 with
          | .ok true w1 => (match fk ρ1 w1 with
            | .ok y w2 => (match fv ρ1 w2 with
              | .ok z w3 => if (toKey y).isSome = true then dcD k ft fk fv (wipeE ρ vs) ds (dPutD accD y z) w3 else .stuck
              | _ => .stuck)
            | _ => .stuck)
          | .ok false w1 => dcD k ft fk fv (wipeE ρ vs) ds accD w1
          | _ => .stuck) fun kvs w2 => .ok (.dct kvs) w2) := q2
      cases ek : k d (wipeE ρ vs) with
      | none => rw [ek] at q3; exact q3.elim
      | some ρ1 =>
        rw [ek] at q3
        refine hg _ F3 ow3 (L2.wipe σ vs) H3 (wipeE ρ vs) w2 x d ρ1 _ ek (R3.wipe vs) rx fun σ2 R4 hw => ?_
        have hws : L2.wipe σ2 vs = L2.wipe σ vs := (hw vs hl).trans (wipe_sub vs fun i h => h)
        have hs2 : ∀ i, i ∉ vs → σ2[i]? = σ[i]? := fun j hj => by rw [← wipe_out (σ := σ2) hj, hws, wipe_out hj]
        have hr2 : ∀ i, i ∉ vs → ρ1[i]? = ρ[i]? := fun j hj => by rw [fr d _ ρ1 ek j fun z => hj (hl j z), wipeE_out hj]
        refine ⟨hws, ?_⟩
        refine ht _ F3 ow3 σ2 H3 ρ1 w2 _ R4 ?_
        dsimp only at q3
        cases et : ft ρ1 w2 with
        | stuck => rw [et] at q3; exact q3.elim
        | rz y w => rw [et] at q3; exact q3.elim
        | ok b w3 =>
          rw [et] at q3
          intro H4 F4 ow4 s4 R5
          cases b with
          | false =>
            rw [if_neg Bool.false_ne_true]
            obtain ⟨R6, g1, g2, g3⟩ := Rep.unguard d4 nf zF R5
            exact ⟨F4, ow4, w3, acc, accD, s3.trans s4, R2.back R6 (s3.trans s4) hs2 hr2 hok, g1, g2, g3, r2.mono (s3.trans s4), Nat.le_succ_of_le hle, q3⟩
          | true =>
            rw [if_pos rfl]
            refine hk _ F4 ow4 σ2 H4 ρ1 w3 _ R5 ?_
            dsimp only at q3
            cases ee : fk ρ1 w3 with
            | stuck => rw [ee] at q3; exact q3.elim
            | rz y w => rw [ee] at q3; exact q3.elim
            | ok y w4 =>
              rw [ee] at q3
              intro u H5 F5 ow5 s5 R7 ry
              refine he _ F5 ow5 σ2 H5 ρ1 w4 _ R7 ?_
              dsimp only at q3
              cases ev : fv ρ1 w4 with
              | stuck => rw [ev] at q3; exact q3.elim
              | rz y w => rw [ev] at q3; exact q3.elim
              | ok z w5 =>
                rw [ev] at q3
                dsimp only at q3
                intro v H6 F6 ow6 s6 R8 rz
                obtain ⟨R6, g1, g2, g3⟩ := Rep.unguard d4 nf zF R8
                have s25 := ((s3.trans s4).trans s5).trans s6
                split at q3
                case isFalse => exact q3.elim
                rename_i hky
                obtain ⟨k', rfl, rfl⟩ := toKey_rp ry hky
                refine ⟨acc, k', rfl, g1, by rw [sizeLine_big]; omega, F6, ow6, w5, putK acc k' v, dPutD accD (kD k') z, s25, (R2.back R6 s25 hs2 hr2 hok).mark g2 g3 d4 nf, upd_same, g2, g3, (r2.mono s25).put rz, ?_, q3⟩
                exact Nat.le_trans (putK_length _ _ _) (by omega)
theorem e_dc {kx vx tg iter : Expr} {ifs : List Expr} {scope : Scope} {own : List (Str × Nat)} {wi : TI} {g : TG} {tt : TT} {tk tv : TE} {fi : Sl} {k : Sg} {ft : Sb} {fk fv : Sx} {l : List Nat} (hc : X.calm = true) (hN : X.N.Nodup) (hi : DI X Z E tg iter wi fi) (ok : BlkOk X.N X.env.scope scope own)
    (hg : ∀ (Z' : Z0) (s : Shared) (H : Hp) (C : Addr) (cl : List (Str × Addr)) (fp : List Addr), DG (X.blk s H scope (compEnvC scope cl C X.env) fp) Z' tg g k l) (ht : ∀ (Z' : Z0) (s : Shared) (H : Hp) (C : Addr) (cl : List (Str × Addr)) (fp : List Addr), DTs (X.blk s H scope (compEnvC scope cl C X.env) fp) Z' E0 ifs tt ft)
    (hk : ∀ (Z' : Z0) (s : Shared) (H : Hp) (C : Addr) (cl : List (Str × Addr)) (fp : List Addr), DE (X.blk s H scope (compEnvC scope cl C X.env) fp) Z' E0 kx tk fk)
    (he : ∀ (Z' : Z0) (s : Shared) (H : Hp) (C : Addr) (cl : List (Str × Addr)) (fp : List Addr), DE (X.blk s H scope (compEnvC scope cl C X.env) fp) Z' E0 vx tv fv) (hl : ∀ i ∈ l, i ∈ own.map (·.2)) (hs : ∀ x, foldedSetIterable iter X.env x = pure x := by intro _; rfl) :
    DE X Z E (.DictComp kx vx [⟨tg, iter, ifs, 0⟩] scope pos) (tDc wi g tt tk tv (own.map (·.2))) (fDcW fi k ft fk fv (own.map (·.2))) :=
  ⟨pe_dc hc hN hi.pi ok (fun s H C cl fp => (hg Z s H C cl fp).pg) (fun s H C cl fp => (ht Z s H C cl fp).pt) (fun s H C cl fp => (hk Z s H C cl fp).pe) (fun s H C cl fp => (he Z s H C cl fp).pe) hs,
   s_dc hi.sn (fun Z' => (hg Z' sh0 (fun _ => none) 0 [] []).sn) (hg Z sh0 (fun _ => none) 0 [] []).fr (fun Z' => (ht Z' sh0 (fun _ => none) 0 [] []).sn) (fun Z' => (hk Z' sh0 (fun _ => none) 0 [] []).sn) (fun Z' => (he Z' sh0 (fun _ => none) 0 [] []).sn) hl⟩

/-! ### [e for x in xs if c for y in ys if d] -/
/-- the inner walk, behind acc -/
def lcA (k : Sg) (ft : Sb) (fe : Sx) (ρ : List EV) : List Dv → List Dv → DS → RR (List Dv)
  | [], acc, w => .ok acc w
  | d :: ds, acc, w => match k d ρ with
    | none => .stuck
    | some ρ1 => match ft ρ1 w with
      | .ok true w1 => (match fe ρ1 w1 with
        | .ok y w2 => if acc.length < big then lcA k ft fe ρ ds (acc ++ [y]) w2 else .stuck
        | _ => .stuck)
      | .ok false w1 => lcA k ft fe ρ ds acc w1
      | _ => .stuck
def lc2D (k : Sg) (ft : Sb) (fi1 : Sl) (k1 : Sg) (ft1 : Sb) (fe : Sx) (vs1 : List Nat) (ρ : List EV) : List Dv → List Dv → DS → RR (List Dv)
  | [], acc, w => .ok acc w
  | d :: ds, acc, w => match k d ρ with
    | none => .stuck
    | some ρ1 => match ft ρ1 w with
      | .ok true w1 => (match fi1 ρ1 w1 with
        | .ok items w2 => if okW ρ1 vs1 = true then (match lcA k1 ft1 fe (wipeE ρ1 vs1) items acc w2 with
          | .ok acc' w3 => lc2D k ft fi1 k1 ft1 fe vs1 ρ ds acc' w3
          | _ => .stuck) else .stuck
        | _ => .stuck)
      | .ok false w1 => lc2D k ft fi1 k1 ft1 fe vs1 ρ ds acc w1
      | _ => .stuck
def fLc2W (fi : Sl) (k : Sg) (ft : Sb) (fi1 : Sl) (k1 : Sg) (ft1 : Sb) (fe : Sx) (vs vs1 : List Nat) : Sl := fun ρ w => (fi ρ w).bind fun items w1 => if okW ρ vs = true then lc2D k ft fi1 k1 ft1 fe vs1 (wipeE ρ vs) items [] w1 else .stuck
/-- the inner walk -/
theorem s_lcA {K : W.Frag} {g1 : TG} {tt1 : TT} {te : TE} {k1 : Sg} {ft1 : Sb} {fe : Sx} {vs1 l1 : List Nat} (hg : ∀ Z', SndG K Z' g1 k1 l1) (fr : ∀ d ρ ρ', k1 d ρ = some ρ' → ∀ i, i ∉ l1 → ρ'[i]? = ρ[i]?) (ht : ∀ Z', SndT K Z' E0 tt1 ft1) (he : ∀ Z', Snd K Z' E0 te fe) (hl : ∀ i ∈ l1, i ∈ vs1)
    {F : Hp} {ow : Addr → Option Nat} {σ : L2.St} {H : Hp} {ρ : List EV} {w w' : DS} {D : Addr} {acc : List V} {accD ys items : List Dv} {J : It} {Nx : Hp → Prop} (R : Rep K Z F ow σ H ρ w) (e1 : H D = some (.lst acc)) (o1 : ow D = none) (f1 : F D = none) (d4 : Z.H D = none) (nf : ¬ Z.foot D) (zF : Z.F D = none) (r1 : RpAll K F acc accD) (wk : WalkD K J F items) (hok : okW ρ vs1 = true)
    (hy : lcA k1 ft1 fe (wipeE ρ vs1) items accD w = .ok ys w') (hc : ∀ F' ow' H' acc', Same F F' → Rep K Z F' ow' σ H' ρ w' → H' D = some (.lst acc') → ow' D = none → F' D = none → RpAll K F' acc' ys → Nx H') :
    ∃ W1 : Nat → Nat → Hp → Prop, (∃ m, W1 0 m H) ∧ ∀ j k H, W1 j k H →
      (J.stop j H ∧ Nx H) ∨ (J.go j H ∧ ∃ Nx1 : Hp → Prop, (∀ H', Nx1 H' → ∃ k', k' < k ∧ W1 (j + 1) k' H') ∧ ∀ x H', J.yld j H x H' → g1 x (L2.wipe σ vs1) H' fun σ3 H5 => L2.wipe σ3 vs1 = L2.wipe σ vs1 ∧ tt1 σ3 H5 fun b H6 =>
        if b = true then te σ3 H6 fun y H7 => ∃ acc, H7 D = some (.lst acc) ∧ acc.length < sizeLine ∧ Nx1 (upd H7 D (.lst (acc ++ [y]))) else Nx1 H6) := by
  refine ⟨fun j m H => ∃ F2 ow2 w2 acc2 accD2, Same F F2 ∧ Rep K Z F2 ow2 σ H ρ w2 ∧ H D = some (.lst acc2) ∧ ow2 D = none ∧ F2 D = none ∧ RpAll K F2 acc2 accD2 ∧ m = (items.drop j).length ∧ lcA k1 ft1 fe (wipeE ρ vs1) (items.drop j) accD2 w2 = .ok ys w',
    ⟨_, F, ow, w, acc, accD, Same.refl _, R, e1, o1, f1, r1, rfl, hy⟩, ?_⟩
  rintro j m H2 ⟨F2, ow2, w2, acc2, accD2, s2, R2, e2, o2, f2, r2, rfl, q2⟩
  cases ed : items.drop j with
  | nil =>
    rw [ed] at q2
    have hn : items[j]? = none := List.getElem?_eq_none_iff.mpr (by
      have := congrArg List.length ed
      rw [List.length_drop] at this
      simp only [List.length_nil] at this
      omega)
    cases q2
    exact .inl ⟨wk.stop Z F2 ow2 σ H2 ρ _ j s2 R2 hn, hc F2 ow2 H2 acc2 s2 R2 e2 o2 f2 r2⟩
  | cons d ds =>
    rw [ed] at q2
    obtain ⟨hd, hds⟩ := drop_at ed
    have Rg := R2.guard e2 o2 f2
    obtain ⟨go, yl⟩ := wk.item _ F2 ow2 σ H2 ρ w2 j d s2 Rg hd
    refine .inr ⟨(wk.item Z F2 ow2 σ H2 ρ w2 j d s2 R2 hd).1, fun H => ∃ F3 ow3 w3 acc3 accD3, Same F2 F3 ∧ Rep K Z F3 ow3 σ H ρ w3 ∧ H D = some (.lst acc3) ∧ ow3 D = none ∧ F3 D = none ∧ RpAll K F3 acc3 accD3 ∧ lcA k1 ft1 fe (wipeE ρ vs1) ds accD3 w3 = .ok ys w', ?_, ?_⟩
    · rintro H' ⟨F3, ow3, w3, acc3, accD3, s3, R3, e3, o3, f3, r3, q3⟩
      exact ⟨ds.length, by simp, F3, ow3, w3, acc3, accD3, s2.trans s3, R3, e3, o3, f3, r3, by rw [hds], by rw [hds]; exact q3⟩
    · intro x H3 hy
      obtain ⟨F3, ow3, s3, R3, rx⟩ := yl x H3 hy
      have q3 : (match k1 d (wipeE ρ vs1) with
        | none => .stuck
        | some ρ1 => match ft1 ρ1 w2 with
          | .ok true w1 => (match fe ρ1 w1 with
            | .ok y w2 => if accD2.length < big then lcA k1 ft1 fe (wipeE ρ vs1) ds (accD2 ++ [y]) w2 else .stuck
            | _ => .stuck)
          | .ok false w1 => lcA k1 ft1 fe (wipeE ρ vs1) ds accD2 w1
          | _ => .stuck) = RR.ok ys w' := q2
      cases ek : k1 d (wipeE ρ vs1) with
      | none => rw [ek] at q3; cases q3
      | some ρ1 =>
        rw [ek] at q3
        refine hg _ F3 ow3 (L2.wipe σ vs1) H3 (wipeE ρ vs1) w2 x d ρ1 _ ek (R3.wipe vs1) rx fun σ2 R4 hw => ?_
        have hws : L2.wipe σ2 vs1 = L2.wipe σ vs1 := (hw vs1 hl).trans (wipe_sub vs1 fun i h => h)
        have hs2 : ∀ i, i ∉ vs1 → σ2[i]? = σ[i]? := fun j hj => by rw [← wipe_out (σ := σ2) hj, hws, wipe_out hj]
        have hr2 : ∀ i, i ∉ vs1 → ρ1[i]? = ρ[i]? := fun j hj => by rw [fr d _ ρ1 ek j fun z => hj (hl j z), wipeE_out hj]
        refine ⟨hws, ?_⟩
        refine ht _ F3 ow3 σ2 H3 ρ1 w2 _ R4 ?_
        dsimp only at q3
        cases et : ft1 ρ1 w2 with
        | stuck => rw [et] at q3; cases q3
        | rz y w => rw [et] at q3; cases q3
        | ok b w3 =>
          rw [et] at q3
          intro H4 F4 ow4 s4 R5
          cases b with
          | false =>
            rw [if_neg Bool.false_ne_true]
            obtain ⟨R6, g1, g2, g3⟩ := Rep.unguard d4 nf zF R5
            exact ⟨F4, ow4, w3, acc2, accD2, s3.trans s4, R2.back R6 (s3.trans s4) hs2 hr2 hok, g1, g2, g3, r2.mono (s3.trans s4), q3⟩
          | true =>
            rw [if_pos rfl]
            refine he _ F4 ow4 σ2 H4 ρ1 w3 _ R5 ?_
            dsimp only at q3
            cases ee : fe ρ1 w3 with
            | stuck => rw [ee] at q3; cases q3
            | rz y w => rw [ee] at q3; cases q3
            | ok y w4 =>
              rw [ee] at q3
              intro v H5 F5 ow5 s5 R7 ry
              obtain ⟨R6, g1, g2, g3⟩ := Rep.unguard d4 nf zF R7
              have s25 := (s3.trans s4).trans s5
              dsimp only at q3
              split at q3
              case isFalse => cases q3
              rename_i hb
              refine ⟨acc2, g1, by rw [r2.length, sizeLine_big]; exact hb, F5, ow5, w4, acc2 ++ [v], accD2 ++ [y], s25, (R2.back R6 s25 hs2 hr2 hok).mark g2 g3 d4 nf, upd_same, g2, g3, (r2.mono s25).append (.cons ry .nil), q3⟩
theorem s_lc2 {K : W.Frag} {wi wi1 : TI} {g g1 : TG} {tt tt1 : TT} {te : TE} {fi fi1 : Sl} {k k1 : Sg} {ft ft1 : Sb} {fe : Sx} {vs l vs1 l1 : List Nat} (hi : SndI K Z E wi fi) (hg : ∀ Z', SndG K Z' g k l) (fr : ∀ d ρ ρ', k d ρ = some ρ' → ∀ i, i ∉ l → ρ'[i]? = ρ[i]?) (ht : ∀ Z', SndT K Z' E0 tt ft) (hl : ∀ i ∈ l, i ∈ vs) (hv : ∀ i ∈ vs1, i ∈ vs)
    (hi1 : ∀ Z', SndI K Z' E0 wi1 fi1) (hg1 : ∀ Z', SndG K Z' g1 k1 l1) (fr1 : ∀ d ρ ρ', k1 d ρ = some ρ' → ∀ i, i ∉ l1 → ρ'[i]? = ρ[i]?) (ht1 : ∀ Z', SndT K Z' E0 tt1 ft1) (he : ∀ Z', Snd K Z' E0 te fe) (hl1 : ∀ i ∈ l1, i ∈ vs1) :
    SndN K Z E (tLc2 wi g tt wi1 g1 tt1 te vs vs1) (fLc2W fi k ft fi1 k1 ft1 fe vs vs1) := fun F ow σ H ρ w Q R q => by
  refine hi.seq R q fun items w1 J H1 F1 ow1 s1 R1 wk q1 => ?_
  by_cases hok : okW ρ vs = true
  case neg => rw [if_neg hok] at q1; exact q1.elim
  rw [if_pos hok] at q1
  intro D nD
  obtain ⟨d2, d3, d4⟩ := R1.fresh nD
  have nf : ¬ Z.foot D := fun z => by
    obtain ⟨u, h1⟩ := R1.st.there z
    rw [h1] at nD; cases nD
  have zF : Z.F D = none := R1.keepF.free d3
  refine ⟨fun i m H => ∃ F2 ow2 w2 acc accD, Same F1 F2 ∧ Rep K Z F2 ow2 σ H ρ w2 ∧ H D = some (.lst acc) ∧ ow2 D = none ∧ F2 D = none ∧ RpAll K F2 acc accD ∧ m = (items.drop i).length ∧
      Post K Z E σ ρ (fun ys w => QN K Z F σ Q ρ ys w) (lc2D k ft fi1 k1 ft1 fe vs1 (wipeE ρ vs) (items.drop i) accD w2),
    ⟨_, F1, ow1, w1, [], [], Same.refl _, R1.mark d2 d3 d4 nf, upd_same, d2, d3, .nil, rfl, q1⟩, ?_⟩
  rintro i m H2 ⟨F2, ow2, w2, acc, accD, s2, R2, e2, o2, f2, r2, rfl, q2⟩
  cases ed : items.drop i with
  | nil =>
    rw [ed] at q2
    have hn : items[i]? = none := List.getElem?_eq_none_iff.mpr (by
      have := congrArg List.length ed
      rw [List.length_drop] at this
      simp only [List.length_nil] at this
      omega)
    have q3 : QN K Z F σ Q ρ accD w2 := q2
    exact .inl ⟨wk.stop Z F2 ow2 σ H2 ρ w2 i s2 R2 hn, q3 D acc H2 F2 ow2 (s1.trans s2) R2 e2 o2 f2 d4 r2⟩
  | cons d ds =>
    rw [ed] at q2
    obtain ⟨hd, hds⟩ := drop_at ed
    have Rg := R2.guard e2 o2 f2
    obtain ⟨go, yl⟩ := wk.item _ F2 ow2 σ H2 ρ w2 i d s2 Rg hd
    refine .inr ⟨(wk.item Z F2 ow2 σ H2 ρ w2 i d s2 R2 hd).1, fun H => ∃ F3 ow3 w3 acc3 accD3, Same F2 F3 ∧ Rep K Z F3 ow3 σ H ρ w3 ∧ H D = some (.lst acc3) ∧ ow3 D = none ∧ F3 D = none ∧ RpAll K F3 acc3 accD3 ∧
      Post K Z E σ ρ (fun ys w => QN K Z F σ Q ρ ys w) (lc2D k ft fi1 k1 ft1 fe vs1 (wipeE ρ vs) ds accD3 w3), ?_, ?_⟩
    · rintro H' ⟨F3, ow3, w3, acc3, accD3, s3, R3, e3, o3, f3, r3, q3⟩
      exact ⟨ds.length, by simp, F3, ow3, w3, acc3, accD3, s2.trans s3, R3, e3, o3, f3, r3, by rw [hds], by rw [hds]; exact q3⟩
    · intro x H3 hy
      obtain ⟨F3, ow3, s3, R3, rx⟩ := yl x H3 hy
      have q3 : Post K Z E σ ρ (fun ys w => QN K Z F σ Q ρ ys w) (match k d (wipeE ρ vs) with
        | none => .stuck
        | some ρ1 => match ft ρ1 w2 with
          | .ok true w1 => (match fi1 ρ1 w1 with
            | .ok items w2 => if okW ρ1 vs1 = true then (match lcA k1 ft1 fe (wipeE ρ1 vs1) items accD w2 with
              | .ok acc' w3 => lc2D k ft fi1 k1 ft1 fe vs1 (wipeE ρ vs) ds acc' w3
              | _ => .stuck) else .stuck
            | _ => .stuck)
          | .ok false w1 => lc2D k ft fi1 k1 ft1 fe vs1 (wipeE ρ vs) ds accD w1
          | _ => .stuck) := q2
      cases ek : k d (wipeE ρ vs) with
      | none => rw [ek] at q3; exact q3.elim
      | some ρ1 =>
        rw [ek] at q3
        refine hg _ F3 ow3 (L2.wipe σ vs) H3 (wipeE ρ vs) w2 x d ρ1 _ ek (R3.wipe vs) rx fun σ2 R4 hw => ?_
        have hws : L2.wipe σ2 vs = L2.wipe σ vs := (hw vs hl).trans (wipe_sub vs fun i h => h)
        have hs2 : ∀ i, i ∉ vs → σ2[i]? = σ[i]? := fun j hj => by rw [← wipe_out (σ := σ2) hj, hws, wipe_out hj]
        have hr2 : ∀ i, i ∉ vs → ρ1[i]? = ρ[i]? := fun j hj => by rw [fr d _ ρ1 ek j fun z => hj (hl j z), wipeE_out hj]
        refine ⟨hws, ?_⟩
        refine ht _ F3 ow3 σ2 H3 ρ1 w2 _ R4 ?_
        dsimp only at q3
        cases et : ft ρ1 w2 with
        | stuck => rw [et] at q3; exact q3.elim
        | rz y w => rw [et] at q3; exact q3.elim
        | ok b w3 =>
          rw [et] at q3
          intro H4 F4 ow4 s4 R5
          cases b with
          | false =>
            rw [if_neg Bool.false_ne_true]
            obtain ⟨R6, g1, g2, g3⟩ := Rep.unguard d4 nf zF R5
            exact ⟨F4, ow4, w3, acc, accD, s3.trans s4, R2.back R6 (s3.trans s4) hs2 hr2 hok, g1, g2, g3, r2.mono (s3.trans s4), q3⟩
          | true =>
            rw [if_pos rfl]
            refine hi1 _ F4 ow4 σ2 H4 ρ1 w3 _ R5 ?_
            dsimp only at q3
            cases ei : fi1 ρ1 w3 with
            | stuck => rw [ei] at q3; exact q3.elim
            | rz y w => rw [ei] at q3; exact q3.elim
            | ok items1 w4 =>
              rw [ei] at q3
              dsimp only at q3
              intro J1 H5 F5 ow5 s5 R7 wk1
              split at q3
              case isFalse => exact q3.elim
              rename_i hok1
              cases ea : lcA k1 ft1 fe (wipeE ρ1 vs1) items1 accD w4 with
              | stuck => rw [ea] at q3; exact q3.elim
              | rz y w => rw [ea] at q3; exact q3.elim
              | ok acc' w5 =>
                rw [ea] at q3
                obtain ⟨R6, g1, g2, g3⟩ := Rep.unguard d4 nf zF R7
                have s25 := (s3.trans s4).trans s5
                exact s_lcA hg1 fr1 ht1 he hl1 R6 g1 g2 g3 d4 nf zF (r2.mono s25) wk1 hok1 ea fun F' ow' H' acc3 s6 R8 a1 a2 a3 a4 => ⟨F', ow', w5, acc3, acc', s25.trans s6, R2.back R8 (s25.trans s6) hs2 hr2 hok, a1, a2, a3, a4, q3⟩
theorem n_lc2 {elt tg iter tg1 iter1 : Expr} {ifs ifs1 : List Expr} {scope : Scope} {own : List (Str × Nat)} (vs1 : List Nat) {wi wi1 : TI} {g g1 : TG} {tt tt1 : TT} {te : TE} {fi fi1 : Sl} {k k1 : Sg} {ft ft1 : Sb} {fe : Sx} {l l1 : List Nat} (hc : X.calm = true) (hN : X.N.Nodup) (hi : DI X Z E tg iter wi fi) (ok : BlkOk X.N X.env.scope scope own)
    (hg : ∀ (Z' : Z0) (s : Shared) (H : Hp) (C : Addr) (cl : List (Str × Addr)) (fp : List Addr), DG (X.blk s H scope (compEnvC scope cl C X.env) fp) Z' tg g k l) (ht : ∀ (Z' : Z0) (s : Shared) (H : Hp) (C : Addr) (cl : List (Str × Addr)) (fp : List Addr), DTs (X.blk s H scope (compEnvC scope cl C X.env) fp) Z' E0 ifs tt ft)
    (hi1 : ∀ (Z' : Z0) (s : Shared) (H : Hp) (C : Addr) (cl : List (Str × Addr)) (fp : List Addr), DI (X.blk s H scope (compEnvC scope cl C X.env) fp) Z' E0 tg1 iter1 wi1 fi1)
    (hg1 : ∀ (Z' : Z0) (s : Shared) (H : Hp) (C : Addr) (cl : List (Str × Addr)) (fp : List Addr), DG (X.blk s H scope (compEnvC scope cl C X.env) fp) Z' tg1 g1 k1 l1) (ht1 : ∀ (Z' : Z0) (s : Shared) (H : Hp) (C : Addr) (cl : List (Str × Addr)) (fp : List Addr), DTs (X.blk s H scope (compEnvC scope cl C X.env) fp) Z' E0 ifs1 tt1 ft1)
    (he : ∀ (Z' : Z0) (s : Shared) (H : Hp) (C : Addr) (cl : List (Str × Addr)) (fp : List Addr), DE (X.blk s H scope (compEnvC scope cl C X.env) fp) Z' E0 elt te fe) (hl : ∀ i ∈ l, i ∈ own.map (·.2)) (hv : ∀ i ∈ vs1, i ∈ own.map (·.2)) (hl1 : ∀ i ∈ l1, i ∈ vs1) (hs : ∀ x, foldedSetIterable iter X.env x = pure x := by intro _; rfl) (hs1 : ∀ env x, foldedSetIterable iter1 env x = pure x := by intro _ _; rfl) :
    DN X Z E (.ListComp elt [⟨tg, iter, ifs, 0⟩, ⟨tg1, iter1, ifs1, 0⟩] scope pos) (tLc2 wi g tt wi1 g1 tt1 te (own.map (·.2)) vs1) (fLc2W fi k ft fi1 k1 ft1 fe (own.map (·.2)) vs1) :=
  ⟨pe_lc2 hc hN hi.pi ok hv (fun s H C cl fp => (hg Z s H C cl fp).pg) (fun s H C cl fp => (ht Z s H C cl fp).pt) (fun s H C cl fp => (hi1 Z s H C cl fp).pi) (fun s H C cl fp => (hg1 Z s H C cl fp).pg) (fun s H C cl fp => (ht1 Z s H C cl fp).pt) (fun s H C cl fp => (he Z s H C cl fp).pe) hs hs1,
   s_lc2 hi.sn (fun Z' => (hg Z' sh0 (fun _ => none) 0 [] []).sn) (hg Z sh0 (fun _ => none) 0 [] []).fr (fun Z' => (ht Z' sh0 (fun _ => none) 0 [] []).sn) hl hv (fun Z' => (hi1 Z' sh0 (fun _ => none) 0 [] []).sn) (fun Z' => (hg1 Z' sh0 (fun _ => none) 0 [] []).sn) (hg1 Z sh0 (fun _ => none) 0 [] []).fr (fun Z' => (ht1 Z' sh0 (fun _ => none) 0 [] []).sn) (fun Z' => (he Z' sh0 (fun _ => none) 0 [] []).sn) hl1⟩
end
end DL

namespace DL
open PySem PySem.Spec PyProof.Rows L2
/-! ### calls with keywords -/
def permL {α : Type} (perm : List Nat) (l : List α) : List α := perm.filterMap (l[·]?)
theorem vals_get {vs : List V} {us : List Value} (r : Vals vs us) : ∀ i : Nat, (vs[i]? = none ∧ us[i]? = none) ∨ ∃ v u, vs[i]? = some v ∧ us[i]? = some u ∧ RelV v u := by
  induction r with
  | nil => exact fun i => .inl ⟨rfl, rfl⟩
  | cons h r ih =>
    intro i
    cases i with
    | zero => exact .inr ⟨_, _, rfl, rfl, h⟩
    | succ i => exact ih i
theorem vals_perm {vs : List V} {us : List Value} (r : Vals vs us) : ∀ perm : List Nat, Vals (permL perm vs) (permL perm us)
  | [] => .nil
  | i :: perm => by
    unfold permL
    rw [List.filterMap_cons, List.filterMap_cons]
    rcases vals_get r i with ⟨h1, h2⟩ | ⟨v, u, h1, h2, h3⟩
    · rw [h1, h2]; exact vals_perm r perm
    · rw [h1, h2]; exact .cons h3 (vals_perm r perm)
theorem argR_get {K : W.Frag} {F : Hp} {dr : Ft} {vs : List V} {ps : List EV} (r : ArgR K F dr vs ps) : ∀ i : Nat, (vs[i]? = none ∧ ps[i]? = none) ∨ ∃ v p, vs[i]? = some v ∧ ps[i]? = some p ∧ ∀ {vs ps}, ArgR K F dr vs ps → ArgR K F dr (v :: vs) (p :: ps) := by
  induction r with
  | nil => exact fun i => .inl ⟨rfl, rfl⟩
  | dat h r ih =>
    intro i
    cases i with
    | zero => exact .inr ⟨_, _, rfl, rfl, fun z => .dat h z⟩
    | succ i => exact ih i
  | drw h r ih =>
    intro i
    cases i with
    | zero => exact .inr ⟨_, _, rfl, rfl, fun z => .drw h z⟩
    | succ i => exact ih i
  | fn h r ih =>
    intro i
    cases i with
    | zero => exact .inr ⟨_, _, rfl, rfl, fun z => .fn h z⟩
    | succ i => exact ih i
theorem argR_perm {K : W.Frag} {F : Hp} {dr : Ft} {vs : List V} {ps : List EV} (r : ArgR K F dr vs ps) : ∀ perm : List Nat, ArgR K F dr (permL perm vs) (permL perm ps)
  | [] => .nil
  | i :: perm => by
    unfold permL
    rw [List.filterMap_cons, List.filterMap_cons]
    rcases argR_get r i with ⟨h1, h2⟩ | ⟨v, u, h1, h2, h3⟩
    · rw [h1, h2]; exact argR_perm r perm
    · rw [h1, h2]; exact h3 (argR_perm r perm)
theorem ArgR.append {K : W.Frag} {F : Hp} {dr : Ft} {vs vs' : List V} {ps ps' : List EV} (h : ArgR K F dr vs ps) (h' : ArgR K F dr vs' ps') : ArgR K F dr (vs ++ vs') (ps ++ ps') := by
  induction h with
  | nil => exact h'
  | dat r _ ih => exact .dat r ih
  | drw r _ ih => exact .drw r ih
  | fn r _ ih => exact .fn r ih
/-- m positional values, keywords named ks; perm: where each parameter's value stands -/
structure CalK (P : Program) (w : World) (K : W.Frag) (mg : Str → Option Value) (base : Heap) (x : Str) (k n : Nat) (sem : Fsem) (m : Nat) (ks : List Str) (perm : List Nat) : Prop where
  ex : ∃ (f : Addr) (fd : FuncData) (ps : List Str), ps.length = n ∧ FnOk P w K mg base (L2.CX P w) k f fd ps (spD K n sem) ∧ mg x = some (.ref f) ∧ W.keepIn K (.ref f) = true ∧ KBn K fd ps m ks (fun us ws => permL perm (us ++ ws)) (fun us ws => permL perm (us ++ ws))
theorem calK {P : Program} {w : World} {K : W.Frag} {mg : Str → Option Value} {base : Heap} {x : Str} {st : Stmt} {f : Addr} {fd : FuncData} {ps : List Str} {k n m : Nat} {ks : List Str} {perm : List Nat} {sem : Fsem} (F : Fun K x x st f fd) (hm : mg x = some (.ref f)) (hn : ps.length = n)
    (G : FnOk P w K mg base (L2.CX P w) k f fd ps (spD K ps.length sem))
    (h : ∀ (kV doc pm : Value) (an : Option Addr) (cdv ct : Value) (us ws : List Value), us.length = m → ws.length = ks.length → bindArgs (PySem.W.fnOf x x (defArgs st) (defBody st) (defScope st) .none kV doc pm an cdv ct) ⟨us, ks.zip ws⟩ = pure (ps.zip (permL perm (us ++ ws)))) : CalK P w K mg base x k n sem m ks perm := by
  subst hn
  have kp := F.kp
  obtain ⟨oc, od, kV, doc, pm, an, cdv, ct, osl, rfl, lk, hcd⟩ := F.ex
  exact ⟨f, _, ps, rfl, G, hm, kp, ⟨fun s us ws _ l1 l2 => .of_eq (h kV doc pm an cdv ct us ws l1 l2), fun r1 r2 => vals_perm (r1.append r2) perm⟩⟩
structure DK (X : Cx) (Z : Z0) (E : XK) (kws : List Keyword) (t : TA) (f : Sa) : Prop where
  pk : PK X kws t
  sn : SndA X.K Z E t f
def fCallK (sem : Fsem) (perm : List Nat) (fa fk : Sa) : Sx := fun ρ w => (fa ρ w).bind fun ps w1 => (fk ρ w1).bind fun qs w2 => sem (permL perm (ps ++ qs)) w2
section
variable {X : Cx} {Z : Z0} {E : XK} {pos : Pos}
theorem k_nil0 : DK X Z E [] tNil aNil := ⟨pk_nil, fun F ow σ H ρ w Q R q => q [] H F ow (Same.refl _) R .nil⟩
theorem k_arg {e : Expr} {kws : List Keyword} {nm : Option Str} {kpos : Pos} {te : TE} {fe : Sx} {t : TA} {f : Sa} (ha : DE X Z E e te fe) (hr : DK X Z E kws t f) : DK X Z E (⟨nm, e, kpos⟩ :: kws) (tCons te t) (aCons fe f) :=
  ⟨pk_cons ha.pe hr.pk, fun F ow σ H ρ w Q R q => ha.sn.seq R q fun d w1 x H1 F1 ow1 s1 R1 r1 q1 => hr.sn.seq R1 q1 fun ps w2 vs H2 F2 ow2 s2 R2 r2 q2 =>
    q2 (x :: vs) H2 F2 ow2 (s1.trans s2) R2 (.dat (r1.mono s2) r2)⟩
theorem s_callK {K : W.Frag} {m n nk : Nat} {sem : Fsem} {perm : List Nat} {t tk : TA} {f fk : Sa} (h : SndA K Z E t f) (hk : SndA K Z E tk fk) (hl : ∀ ρ w ps w', f ρ w = .ok ps w' → ps.length = m) (hl2 : ∀ ρ w ps w', fk ρ w = .ok ps w' → ps.length = nk) (hp : perm.all (fun i => decide (i < m + nk)) = true) (hpn : perm.length = n) :
    Snd K Z E (tCallN m nk (spD K n sem) (fun us ws => permL perm (us ++ ws)) E t tk) (fCallK sem perm f fk) := fun F ow σ H ρ w Q R q => by
  have hl' := hl ρ w
  refine h F ow σ H ρ w _ R ?_
  unfold fCallK at q
  cases e : f ρ w with
  | stuck => rw [e] at q; exact q
  | rz x w1 => rw [e] at q; exact q
  | ok ps w1 =>
    rw [e] at q
    intro vs H1 F1 ow1 s1 R1 r1
    have hl2' := hl2 ρ w1
    refine hk F1 ow1 σ H1 ρ w1 _ R1 ?_
    have q : Post K Z E σ ρ (QE K Z F σ Q ρ) ((fk ρ w1).bind fun qs w2 => sem (permL perm (ps ++ qs)) w2) := q
    cases e2 : fk ρ w1 with
    | stuck => rw [e2] at q; exact q
    | rz x w1 => rw [e2] at q; exact q
    | ok qs w2 =>
      rw [e2] at q
      intro zs H2 F2 ow2 s2 R2 r2
      have lv := hl' _ _ e
      have lz := hl2' _ _ e2
      have rr := (r1.mono s2).append r2
      refine ⟨by rw [r1.length]; exact lv, by rw [r2.length]; exact lz, F2, Z.dr, permL perm (ps ++ qs), w2, ?_, R2.sub, argR_perm rr perm, R2.st, R2.noDr, post_back (s1.trans s2) R2 q⟩
      have gen : ∀ perm : List Nat, perm.all (fun i => decide (i < m + nk)) = true → (permL perm (ps ++ qs)).length = perm.length := fun perm => by
        induction perm with
        | nil => exact fun _ => rfl
        | cons i perm ih =>
          intro hp
          rw [List.all_cons, Bool.and_eq_true] at hp
          have hi : i < (ps ++ qs).length := by rw [List.length_append, lv, lz]; exact of_decide_eq_true hp.1
          unfold permL
          rw [List.filterMap_cons, List.getElem?_eq_getElem hi]
          show ((permL perm (ps ++ qs)).length + 1) = _
          rw [ih hp.2]; rfl
      rw [gen perm hp, hpn]
theorem e_callK {x : Str} {k k' n m : Nat} {sem : Fsem} {ks : List Str} {perm : List Nat} {e : Expr} {es : List Expr} {kws : List Keyword} {t tk : TA} {fa fk : Sa} {p : Pos} (C : CalK X.prog X.w X.K X.mg X.base x k n sem m ks perm) (hr : Room k' X.A) (hk : k ≤ k') (hx : PX X E) (ha : DA X Z E (e :: es) t fa) (hkw : DK X Z E kws tk fk) (hl : ∀ ρ w ps w', fa ρ w = .ok ps w' → ps.length = m) (hl2 : ∀ ρ w ps w', fk ρ w = .ok ps w' → ps.length = ks.length)
    (hp : perm.all (fun i => decide (i < m + ks.length)) = true := by decide) (hpn : perm.length = n := by rfl) (hg : Gl X x := by rfl) (hall : (backToKw pos (keywordEach kws X.env)).all (·.1.isSome) = true := by rfl) (hks : (backToKw pos (keywordEach kws X.env)).filterMap (·.1) = ks := by rfl)
    (hdb : (x == ("__debug__" : Str)) = false := by decide) (he : starEach (e :: es) X.env = (false, eval e X.env) :: starEach es X.env := by rfl)
    (hpl : ((backTo pos (starEach (e :: es) X.env)).any (·.1) || (backToKw pos (keywordEach kws X.env)).any (·.1.isNone)) = false := by rfl) :
    DE X Z E (.Call (.Name x p) (e :: es) kws pos) (tCallN m ks.length (spD X.K n sem) (fun us ws => permL perm (us ++ ws)) E t tk) (fCallK sem perm fa fk) := by
  obtain ⟨f, fd, ps, hn, F, hm, hkp, hb⟩ := C.ex
  exact ⟨pe_callN F (hr.mono hk) hg hm hkp hb hx ha.pa hkw.pk hall hks hdb he hpl, s_callK ha.sn hkw.sn hl hl2 hp hpn⟩
/-- keywords alone -/
theorem e_callK0 {x : Str} {k k' n : Nat} {sem : Fsem} {ks : List Str} {perm : List Nat} {kws : List Keyword} {tk : TA} {fk : Sa} {p : Pos} (C : CalK X.prog X.w X.K X.mg X.base x k n sem 0 ks perm) (hr : Room k' X.A) (hk : k ≤ k') (hx : PX X E) (hkw : DK X Z E kws tk fk) (hl2 : ∀ ρ w ps w', fk ρ w = .ok ps w' → ps.length = ks.length)
    (hp : perm.all (fun i => decide (i < 0 + ks.length)) = true := by decide) (hpn : perm.length = n := by rfl) (hg : Gl X x := by rfl) (hall : (backToKw pos (keywordEach kws X.env)).all (·.1.isSome) = true := by rfl) (hks : (backToKw pos (keywordEach kws X.env)).filterMap (·.1) = ks := by rfl)
    (hdb : (x == ("__debug__" : Str)) = false := by decide)
    (hpl : ((backTo pos (starEach [] X.env)).any (·.1) || (backToKw pos (keywordEach kws X.env)).any (·.1.isNone)) = false := by rfl) :
    DE X Z E (.Call (.Name x p) [] kws pos) (tCallN 0 ks.length (spD X.K n sem) (fun us ws => permL perm (us ++ ws)) E tNil tk) (fCallK sem perm aNil fk) := by
  obtain ⟨f, fd, ps, hn, F, hm, hkp, hb⟩ := C.ex
  refine ⟨⟨fun pins s σ H Q I h => ?_⟩, s_callK (a_nil (X := X)).sn hkw.sn aNil_len hl2 hp hpn⟩
  refine wpAny_Call_Name_kw (ld_glob I hg hm ?_ hdb)
  refine PySem.W.callWith_KW0 (h₀ := X.base) I.ok.mod.kin hkp hall ?_ hpl
  refine thn (hkw.pk.run pos pins s σ H _ I h) fun ws s2 ⟨zs, H2, I2, rz, l1, l2, q2⟩ => ⟨I2.kIn, ?_⟩
  rw [hks]
  exact run_fnN F (hr.mono hk) hb hx I2 .nil rz rfl l2 q2
end
end DL

namespace DL
open PySem PySem.Spec PyProof.Rows L2
/-! ### len(x), list(x), x a dict too -/
def dLenA : List Dv → Option Dv
  | [.dct kvs] => some (.int kvs.length)
  | ds => dLen ds
def rLenD : List V → Hp → VK → Prop := fun xs H Q => ∃ (a : Addr) (kvs : List (Key × V)), xs = [V.ref a] ∧ Rd H a (.dK kvs) ∧ Q (.int kvs.length) H
def rLenA (K : W.Frag) : List V → Hp → VK → Prop := fun xs H Q => (fun xs H Q => ∃ x n, xs = [x] ∧ LenV K x H n ∧ Q (.int n) H : List V → Hp → VK → Prop) xs H Q ∨ rLenD xs H Q ∨ rLenT xs H Q
theorem RpKvT.length {K : W.Frag} {F : Hp} : ∀ {v : List (List Key × V)} {d : List (Dv × Dv)}, RpKvT K F v d → v.length = d.length
  | _, _, .nil => rfl
  | _, _, .cons h r => by rw [List.length_cons, List.length_cons, RpKvT.length r]
section
variable {X : Cx} {Z : Z0} {E : XK} {pos : Pos}
theorem call_lenR : CallR X (.builtin "len") rLenD := by
  intro pins s σ H xs us Q I r h
  obtain ⟨a, kvs, rfl, ha, q⟩ := h
  obtain ⟨u, rfl, ru⟩ := vals1 r
  cases ru
  exact d_len I ha fun t s' I' => ⟨.int kvs.length, H, I', ⟨t, rfl⟩, q⟩
theorem k_lenA {K0 : W.Frag} (hK0 : X.K = K0 := by rfl) : CallR X (.builtin "len") (rLenA K0) := by subst hK0; exact CallR.or call_len (CallR.or call_lenR call_len_dT)
theorem o_lenA {K : W.Frag} : CallS K (rLenA K) dLenA := fun F H xs ds z Q ez sub r h => by
  unfold dLenA at ez
  split at ez
  · rename_i kvs
    cases ez
    obtain ⟨x, rfl, rx⟩ := one_arg' r rfl
    cases rx with
    | @dct a ks _ hd rk => exact .inr (.inl ⟨a, ks, rfl, sameRd sub hd, by rw [rk.length]; exact h _ F H (Gr.refl sub) (.int _)⟩)
    | @dctT a ks _ hd rk => exact .inr (.inr ⟨a, ks, rfl, sub _ _ hd, by rw [rk.length]; exact h _ F H (Gr.refl sub) (.int _)⟩)
  · exact .inl (o_len F H xs ds z Q ez sub r h)
theorem rpKv_keys {K : W.Frag} {F : Hp} : ∀ {v : List (Key × V)} {d : List (Dv × Dv)}, RpKv K F v d → RpAll K F (v.map fun kv => kV kv.1) (d.map (·.1))
  | _, _, .nil => .nil
  | _, _, .cons (k := k) h r => .cons (by cases k with
    | inl i => exact .int i
    | inr s => exact .str s) (rpKv_keys r)
/-- list(x), x an owned dict -/
def fKeys (i : Nat) : Sl := fun ρ w => match ρ[i]? with
  | some (.dct kvs) => .ok (kvs.map (·.1)) w
  | _ => .stuck
def rListD : List V → Hp → VK → Prop := fun xs H Q => ∃ (a : Addr) (kvs : List (Key × V)), xs = [.ref a] ∧ Rd H a (.dK kvs) ∧ ∀ p, H p = none → Q (.ref p) (upd H p (.lst (kvs.map fun kv => kV kv.1)))
theorem n_listD (i : Nat) {x : Str} {p p2 : Pos} (hc : X.calm = true) (hm : X.mg "list" = none) (hg : Gl X "list" := by rfl) (hN : X.N[i]? = some x := by rfl) (hv : Vis X.env.scope x := by first | exact Or.inl rfl | exact Or.inr (Or.inl rfl) | exact Or.inr (Or.inr rfl)) (hd : (x == ("__debug__" : Str)) = false := by decide)
    (hcd : (x == ("__classdict__" : Str)) = false := by decide) (hs : starEach [.Name x p2] X.env = (false, eval (.Name x p2) X.env) :: starEach [] X.env := by rfl) (hpl : (backTo pos (starEach [] X.env)).any (·.1) = false := by rfl) :
    DN X Z E (.Call (.Name "list" p) [.Name x p2] [] pos) (tCB rListD (tCons (tVar i) tNil)) (fKeys i) :=
  ⟨pe_callTy (call_listD hc) hg hm (by decide +kernel) (pa_cons (pe_var hN hv hd hcd) pa_nil hs) (by decide) (by decide) hs hpl, fun F ow σ H ρ w Q R q => by
    unfold fKeys at q
    cases e : ρ[i]? with
    | none => rw [e] at q; exact q.elim
    | some s =>
      rw [e] at q
      cases s with
      | dct kvs =>
        obtain ⟨l, xs, h1, h2, h3, h4, r, _⟩ := R.own_atD e
        refine ⟨_, h1, l, xs, rfl, .inl h2, fun p np => ?_⟩
        obtain ⟨k1, k2, k3⟩ := R.fresh np
        exact q p _ _ F ow (Same.refl _) (R.grow (Gr.apart R.sub _ np)) upd_same k1 k2 k3 (rpKv_keys r)
      | _ => exact q.elim⟩
end
end DL
namespace DL
open PySem PySem.Spec PyProof.Rows L2
/-! ### a, b = x, y: names that inner blocks take (the pair is made) -/
theorem PendR.upH {K : W.Frag} {Z : Z0} {F H H' : Hp} {ow : Addr → Option Nat} (e : Same H H') {vs : List V} {es : List EV} {ps : List Addr} (h : PendR K Z F H ow vs es ps) : PendR K Z F H' ow vs es ps := by
  induction h with
  | nil => exact .nil
  | dat r _ ih => exact .dat r ih
  | lst k1 k2 k3 k4 r nm _ ih => exact .lst (e _ _ k1) k2 k3 k4 r nm ih
  | dct k1 k2 k3 k4 r nm _ ih => exact .dct (e _ _ k1) k2 k3 k4 r nm ih
section
variable {X : Cx} {Z : Z0} {E : XK} {pos : Pos} {a b : Expr} {t : TA} {f : Sa}
theorem d_parC2 (i j : Nat) {x y : Str} {px py pt : Pos} {kt k2 pt2} (hc : X.calm = true) (hN : X.N.Nodup) (ha : DM X Z E [a, b] t f) (hi : X.N[i]? = some x := by rfl) (hj : X.N[j]? = some y := by rfl)
    (hx : Loc X.env.scope x := by first | exact Or.inl rfl | exact Or.inr rfl) (hy : Loc X.env.scope y := by first | exact Or.inl rfl | exact Or.inr rfl)
    (hn : (assignEach [.Name x px, .Name y py] X.env).length = 2 := by rfl) (hst : (assignEach [.Name x px, .Name y py] X.env).findIdx? (·.1) = none := by rfl)
    (hg1 : (assignEach [.Name x px, .Name y py] X.env).map (·.2) = assign (.Name x px) X.env :: (assignEach [.Name y py] X.env).map (·.2) := by rfl) (hg2 : (assignEach [.Name y py] X.env).map (·.2) = assign (.Name y py) X.env :: (assignEach [] X.env).map (·.2) := by rfl)
    (hs : swapsWithSole [.Tuple [.Name x px, .Name y py] kt pt] (.Tuple [a, b] k2 pt2) pos.line X.env = pure false := by rfl) (hw : swappedStores [.Tuple [.Name x px, .Name y py] kt pt] (.Tuple [a, b] k2 pt2) X.env = pure none := by rfl)
    (h1 : (assignEach [.Tuple [.Name x px, .Name y py] kt pt] X.env).map (·.2) = [assign (.Tuple [.Name x px, .Name y py] kt pt) X.env] := by rfl) (hf : X.fn x = true ∨ X.env.scope.names.lookup x = some .local := by first | exact .inl rfl | exact .inr rfl | assumption) (hf2 : X.fn y = true ∨ X.env.scope.names.lookup y = some .local := by first | exact .inl rfl | exact .inr rfl | assumption) :
    DSt X Z E (.Assign [.Tuple [.Name x px, .Name y py] kt pt] (.Tuple [a, b] k2 pt2) pos) (tAsg (tTup t) (gTup X.K 2 (gCons (gName i) (gCons (gName j) gNil)))) (gPar [i, j] f) := ⟨ps_asg (pe_tup ha.pa) (pg_tup hc (pgs_cons (pg_name hN hi hx hf) (pgs_cons (pg_name hN hj hy hf2) pgs_nil hg2) hg1) hn hst) hs hw h1, fun F ow σ H ρ w D R q => by
  refine ha.sn.seqS R q fun es w1 vs H1 F1 ow1 ps s R1 r1 q1 => ?_
  have q1 : PostS X.K Z E F1 D (if es.length = [i, j].length then .ok (.nx (setsE [i, j] es ρ)) w1 else .stuck) := q1
  split at q1
  case isFalse => exact q1.elim
  rename_i hl
  rw [← r1.length] at hl
  have hl2 : vs.length = 2 := hl
  refine ⟨by rw [hl2, sizeLine_big]; decide, fun T nT => ?_⟩
  have g := Gr.apart R1.sub (.tup vs) nT
  have R2 := R1.grow g
  obtain ⟨ow2, R3⟩ := R2.sets (is := [i, j]) (r1.upH g.hh)
  refine ⟨T, vs, rfl, .of upd_same, hl2, ?_⟩
  match vs, hl, R3 with
  | [v, u], _, R3 => exact ⟨v, [u], rfl, u, [], rfl, rfl, q1 _ _ F1 ow2 (Same.refl _) R3⟩⟩
end
/-! ### lambdas in the list of a for -/
def lamsOf : Stmt → List Lm
  | .For _ (.List es _) _ _ _ => es.filterMap fun e => match e with
    | .Tuple (.Lambda p b s _ :: _) _ _ => some (p, b, s)
    | .Lambda p b s _ => some (p, b, s)
    | _ => none
  | _ => []
def stBody : Stmt → List Stmt
  | .For _ _ b _ _ => b
  | .While _ b _ _ => b
  | .If _ b _ _ => b
  | _ => []
def stElse : Stmt → List Stmt
  | .If _ _ b _ => b
  | _ => []
def stAt (l : List Stmt) (i : Nat) : Stmt := l.getD i (.Pass ⟨0, 0, 0, 0⟩)
/-! ### the body of a law that stands on tables -/
theorem law_rdT {K : W.Frag} {T : List (Addr × Str)} {N : List Str} {t : TS} {g : Ss} {a st gr c : Addr} {ns : List Int} {H H' : Hp} {Q : VK} {E : XK} (hn : 2 ≤ N.length) (hb : ∀ Z, Z.dr.tb = T → SndS K Z E t g) (hg : ∃ w', semOf N.length g [.dat (.scr ns), .drw] (beginW ns) = .ok (.bl true) w')
    (hS : SqL K H a (ns.map V.int)) (hT : ∀ p ∈ T, H p.1 = some (.tbl #[])) (sm : Same H H') (n1 : H st = none) (n2 : H gr = none) (n3 : H c = none) (sh : StH H' st gr c (beginW ns)) (q : ∀ H', Q (.bl true) H') :
    t { nx := fun _ H' => Q .non H', rt := Q } ((L2.start N [.ref a]).set 1 (some (.ref st))) H' := by
  obtain ⟨w', hw⟩ := hg
  have e : (L2.start N [.ref a]).set 1 (some (.ref st)) = L2.start N [.ref a, .ref st] := by
    unfold L2.start
    match N, hn with
    | x :: y :: N, _ => rfl
  rw [e]
  have hl : ∀ b ∈ T.map (·.1), ∃ ps, H b = some (.tbl ps) := fun b hb => by
    obtain ⟨p, hp, rfl⟩ := List.mem_map.mp hb
    exact ⟨_, hT p hp⟩
  have none_off : ∀ {b : Addr}, H b = none → offH H (T.map (·.1)) b = none := fun {b} h => by
    cases z : offH H (T.map (·.1)) b with
    | none => rfl
    | some o => rw [offH_sub b o z] at h; cases h
  refine body_core (n := 2) (dr := { st := some (st, gr, c), tb := T, clo := fun _ _ => True }) (F := offH H (T.map (·.1))) (ps := [.dat (.scr ns), .drw]) (w := beginW ns) hn rfl (offH_sub.trans sm) (.dat (.scr (sqL_off hS hl)) (.drw rfl .nil)) ⟨fun a' g' c' e => by cases e; exact sh, fun p hp => tabF_nil (sm _ _ (hT p hp)), fun l hl => nomatch hl⟩ (fun b z => ?_) ?_ (hb _ rfl)
  · rcases z with ⟨x, g', c', e, h⟩ | ⟨p, hp, rfl⟩ | hl
    · cases e
      rcases h with rfl | rfl | rfl
      · exact none_off n1
      · exact none_off n2
      · exact none_off n3
    · exact offH_in (List.mem_map.mpr ⟨p, hp, rfl⟩)
    · cases hl
  · rw [hw]
    intro v H1 F1 _ _ r
    cases r
    exact q H1
end DL
namespace DL
open PySem PySem.Spec PyProof.Rows L2
/-! ### what a try of the law's takes -/
def KeepTab (K : W.Frag) (c : Value) (ok : Str → Bool) : Prop := ∀ n, ok n = true → ∀ C, HasName K n C → PySem.W.exmOne K (.ref C) c = some true
theorem keep_nil {K : W.Frag} {c : Value} : KeepTab K c (fun _ => false) := fun _ h => nomatch h
theorem keep_cons {K : W.Frag} {c : Value} {ok : Str → Bool} {m : Str} {C : Addr} (hn : HasName K m C) (hk : PySem.W.exmOne K (.ref C) c = some true) (h : KeepTab K c ok) : KeepTab K c (fun n => decide (n = m) || ok n) := fun n e C' hC => by
  have e : (decide (n = m) || ok n) = true := e
  rw [Bool.or_eq_true] at e
  rcases e with z | z
  · obtain rfl := of_decide_eq_true z
    obtain rfl := hn.inj hC
    exact hk
  · exact h n z C' hC
end DL

namespace DL
open PySem PySem.Spec PyProof.Rows L2
/-! ### sorted(xs), xs a list of one item of any kind -/
def rSorted1 (K : W.Frag) : List V → Hp → VK → Prop := fun vs H Q => ∃ (a : Addr) (x : V), vs = [V.ref a] ∧ SqL K H a [x] ∧ ∀ p, H p = none → Q (.ref p) (upd H p (.lst [x]))
theorem cr_sorted1 {X : Cx} : CallR X (.builtin "sorted") (rSorted1 X.K) := by
  intro pins s σ H vs us Q I r h
  obtain ⟨a, x, rfl, hs, q⟩ := h
  rw [Vals.ref1 r]
  obtain ⟨its, rv, hl, hz⟩ := I.list hs
  have hlen : its.length = 1 := rv.length.symm
  refine Srt.sorted_any hl.isList (by rw [← rv.length]; exact hz) (fun h2 => by omega) fun out hp => ?_
  have he : out = its := by
    match its, hlen, hp with
    | [y], _, hp => exact List.perm_singleton.mp hp
  subst he
  obtain ⟨ep, he'⟩ := PyProof.Rows.sortedAll_at s.heap out out.toArray
  exact ⟨.ref _, upd H (s.heap.objs.size + 1) (.lst [x]), I.laid (t' := s.toks) (fun _ _ => PyProof.Rows.sortedAll_old) (Nat.le_succ _) ⟨hz, out, ep, rv, he'⟩, rfl, q _ (I.hok.fresh (Nat.le_succ _))⟩
def rSortedA (K : W.Frag) : List V → Hp → VK → Prop := fun xs H Q => rSortedD K xs H Q ∨ rSorted1 K xs H Q
theorem k_sortedA {X : Cx} (hu : X.A.units + 64 < cLine) {K0 : W.Frag} (hK0 : X.K = K0 := by rfl) : CallR X (.builtin "sorted") (rSortedA K0) := by subst hK0; exact CallR.or (cr_sortedD hu) cr_sorted1
noncomputable def dSortedA : List Dv → Option (List Dv)
  | [.lst [d]] => some [d]
  | ds => dSorted ds
theorem o_sortedA {K : W.Frag} : CallN K (rSortedA K) dSortedA := fun F H xs ds zs Q e sub r h => by
  unfold dSortedA at e
  split at e
  · rename_i d
    cases e
    obtain ⟨x, rfl, rx⟩ := one_arg' r rfl
    cases rx with
    | @lst a vs _ hs ra =>
      cases ra with
      | @cons v _ _ _ r1 r2 =>
        cases r2
        exact .inr ⟨a, v, rfl, sub.seq (SqL.of hs), fun p np => h p [v] F H (Gr.refl sub) np (.cons r1 .nil)⟩
  · exact .inl (o_sorted F H xs ds zs Q e sub r h)
end DL

namespace LW
open PySem PySem.Spec PyProof.Rows L2 DL
def topS (i : Nat) : Stmt := PySem.Challenge.pw_withinrows_k01_whole_turns_and_rows_put.main.body.getD i (.Pass ⟨0, 0, 0, 0⟩)
def sub_BadParts : Str → Option Bool := fun n => if n = "BadRow" then some false else if n = "TooMany" then some false else if n = "BadParts" then some true else none
def sub_BadRow : Str → Option Bool := fun n => if n = "BadRow" then some true else if n = "TooMany" then some false else if n = "BadParts" then some false else none
def sub_TooMany : Str → Option Bool := fun n => if n = "BadRow" then some false else if n = "TooMany" then some true else if n = "BadParts" then some false else none
def okKeep : Str → Bool := fun n => decide (n = "BadRow") || (decide (n = "TooMany") || (decide (n = "BadParts") || (false)))
def ok_most : Str → Bool := fun n => decide (n = "TooMany")
theorem wok_most : WOk "most" := ⟨rfl, rfl, rfl, rfl, by intros; rfl, fun _ _ => rfl, fun _ _ => rfl, by decide +kernel, rfl⟩
section defs
variable {P : Program} {w : World} {K : PySem.W.Frag} {mg : Str → Option Value} {base : Heap} {T : List (Addr × Str)}
abbrev s_begun : Stmt := topS 24
abbrev s_blended : Stmt := topS 25
abbrev s_draw : Stmt := topS 26
section draws
variable {P : Program} {w : World} {K : PySem.W.Frag} {mg : Str → Option Value} {base : Heap}
theorem sc_blended : FnScope ["state", "turn", "found", "prime", "blend", "cell"] ["state"] (defScope s_blended) := ⟨rfl, rfl, rfl, by decide +kernel, rfl, by decide +kernel, by decide +kernel⟩
/-- the promise of a blend -/
def spBlended : Sp := fun vs H Q _ => ∃ (a g c : Addr) (z : DS), vs = [.ref a] ∧ StH H a g c z ∧ 0 ≤ z.turn ∧ z.turn < most ∧
  ∀ H', (∀ b o, H b = some o → b ≠ a → H' b = some o) → StH H' a g c { z with turn := z.turn + 1 } → Q (.int (blend (z.turn + 1) z.cells)) H'
theorem blendOne_small {turn p : Int} {cells : List Int} (h0 : 0 ≤ turn) (h1 : turn ≤ most) (hp : 0 < p) (hp2 : p < 2147483648) : (blendOne turn p cells).natAbs < 2 ^ 63 := by
  have key : ∀ (cs : List Int) (b : Int), b.natAbs < 2 ^ 63 → (cs.foldl (fun b c => (b * 69621 + c + turn) % p) b).natAbs < 2 ^ 63 := fun cs => by
    induction cs with
    | nil => exact fun b h => h
    | cons c cs ih =>
      intro b _
      refine ih _ ?_
      have := Int.emod_nonneg (b * 69621 + c + turn) (by omega : p ≠ 0)
      have := Int.emod_lt_of_pos (b * 69621 + c + turn) hp
      show ((b * 69621 + c + turn) % p).natAbs < 2 ^ 63
      omega
  unfold blendOne
  refine key _ _ ?_
  unfold most at h1
  have : p / 53 < 2147483648 := by omega
  omega
theorem ok_blended {f : Addr} {fd : FuncData} {k : Nat} (F : Fun K "_law_blended" "_law_blended" s_blended f fd) (mInt : mg "int" = none) : FnOk P w K mg base (L2.CX P w) (k + 1) f fd ["state"] spBlended := by
  refine F.okX sc_blended (fun vs H Q E h => ?_) (fun cdv A outer s H vs Q E hr h => ?_)
  · obtain ⟨a, g, c, z, rfl, _⟩ := h
    rfl
  · obtain ⟨a, g, c, z, rfl, st, z0, z1, q⟩ := h
    have hu := hu_of hr
    refine ⟨_, pss_cons (ps_par (i := 1) (j := 2) rfl sc_blended.nd rfl rfl (by decide) rfl rfl (pa_cons (pe_op op_add (pe_dget hu (pv 0) pe_str (fun _ _ => rfl)) pe_int) (pa_cons pe_int pa_nil)) rfl)
      (pss_cons (ps_dput hu (pv 0) pe_str (pv 1) rfl)
      (pss_cons (ps_for (passes_of rfl) rfl (pi_list (pe_lst (pa_cons pe_int (pa_cons pe_int (pa_cons pe_int pa_nil))))) (pg_name (i := 3) sc_blended.nd rfl (.inl rfl))
        (pss_cons (ps_set (i := 4) sc_blended.nd rfl (.inl rfl) (pe_op op_add (pe_op op_mul pe_int (pv 1)) (pe_op op_fdivW (pv 3) pe_int)))
        (pss_cons (ps_for (passes_of rfl) rfl (pi_list (pe_dget hu (pv 0) pe_str (fun _ _ => rfl))) (pg_name (i := 5) sc_blended.nd rfl (.inl rfl))
          (pss_one (ps_set (i := 4) sc_blended.nd rfl (.inl rfl) (pe_op op_mod (pe_callTy call_int1 (by rfl) mInt (by decide +kernel) (pa_cons (pe_op op_add (pe_op op_add (pe_op op_mul (pv 4) pe_int) (pv 5)) (pv 1)) pa_nil)) (pv 3)))))
        (pss_one (ps_set (i := 2) sc_blended.nd rfl (.inl rfl) (pe_op op_add (pe_op op_mul (pv 2) pe_int) (pe_op op_mod (pe_callTy call_int1 (by rfl) mInt (by decide +kernel) (pa_cons (pe_op op_pow (pv 4) pe_int) pa_nil)) (pv 3))))))))
      (pss_one (ps_ret (pv 2))))), ?_⟩
    have kd : ∀ {H : Hp} {z : DS}, StH H a g c z → ∀ {k : Key} {v : V}, valV (stK g c z) k = some v → DGet H a (kV k) (some v) := fun h _ _ e => e ▸ DGet.k h.dict
    refine ⟨_, rfl, a, _, rfl, kd st stK_turn, _, _, rfl, rfl, _, _, rfl, ?_⟩
    -- state['turn'] = turn
    refine ⟨_, rfl, _, rfl, a, _, rfl, DPut.k (k := .inr "turn") st.dict (by show 4 < sizeLine; decide), ?_⟩
    rw [stK_putT]
    have sz : StH (upd H a (.dK (stK g c { z with turn := z.turn + 1 }))) a g c { z with turn := z.turn + 1 } := by
      obtain ⟨h1, h2, h3, h4⟩ := st
      have ng : g ≠ a := fun e => by rw [e, h1] at h2; cases h2
      have nc : c ≠ a := fun e => by rw [e, h1] at h3; cases h3
      exact ⟨upd_same, by rw [upd_ne ng]; exact h2, by rw [upd_ne nc]; exact h3, h4⟩
    have old : ∀ b o, H b = some o → b ≠ a → upd H a (.dK (stK g c { z with turn := z.turn + 1 })) b = some o := fun b o e n => by rw [upd_ne n]; exact e
    generalize hH1 : upd H a (.dK (stK g c { z with turn := z.turn + 1 })) = H1 at sz old
    -- the primes
    refine ⟨by show 3 ≤ sizeLine; decide, fun l nl => ?_⟩
    have sl : Same H1 (upd H1 l (.lst [.int 2147483579, .int 2147483629, .int 2147483563])) := DL.same_upd nl
    refine ⟨l, rfl, ⟨_, .of upd_same⟩, for_list (K := K) (a := l) (xs := primes.map V.int) (fun i σ H' => ∃ y3 y4 y5, σ = [some (.ref a), some (.int (z.turn + 1)), some (.int (blendAll (z.turn + 1) z.cells (primes.take i) 0)), y3, y4, y5] ∧ Same (upd H1 l (.lst [.int 2147483579, .int 2147483629, .int 2147483563])) H')
      ⟨none, none, none, rfl, Same.refl _⟩ (fun i σ H' _ ⟨_, _, _, _, R⟩ => .of (R _ _ upd_same)) ?_ ?_⟩
    · rintro i x σ H' hi ⟨y3, y4, y5, rfl, sm⟩
      obtain ⟨p, hp, rfl⟩ : ∃ p, primes[i]? = some p ∧ x = .int p := by
        rw [List.getElem?_map] at hi
        cases e : primes[i]? with
        | none => rw [e] at hi; cases hi
        | some p => rw [e] at hi; exact ⟨p, rfl, (Option.some.inj hi).symm⟩
      have hpr : 0 < p ∧ p < 2147483648 := by
        have hm := List.mem_of_getElem? hp
        unfold primes at hm
        simp only [List.mem_cons, List.not_mem_nil, or_false] at hm
        omega
      have sz' : StH H' a g c { z with turn := z.turn + 1 } := sz.mono (fun o e => sm _ _ (sl _ _ e)) (fun o e => sm _ _ (sl _ _ e)) fun o e => sm _ _ (sl _ _ e)
      refine ⟨_, rfl, _, _, rfl, rfl, .inl ⟨by decide, by decide⟩, _, rfl, _, _, rfl, rfl, ⟨by decide, by decide⟩, _, _, rfl, rfl, ?_⟩
      refine ⟨_, rfl, a, _, rfl, kd sz' stK_cells, c, rfl, ⟨_, SqL.of sz'.2.2.1⟩, for_list (K := K) (a := c) (xs := z.cells.map V.int) (fun j σ H'' => H'' = H' ∧ ∃ y5, σ = [some (.ref a), some (.int (z.turn + 1)), some (.int (blendAll (z.turn + 1) z.cells (primes.take i) 0)), some (.int p), some (.int (blendOne (z.turn + 1) p (z.cells.take j))), y5])
        ⟨rfl, y5, rfl⟩ (fun j σ H'' _ ⟨e, _⟩ => by rw [e]; exact SqL.of sz'.2.2.1) ?_ ?_⟩
      · rintro j x σ H'' hj ⟨rfl, y5, rfl⟩
        obtain ⟨b, hb, rfl⟩ : ∃ b, z.cells[j]? = some b ∧ x = .int b := by
          rw [List.getElem?_map] at hj
          cases e : z.cells[j]? with
          | none => rw [e] at hj; cases hj
          | some p => rw [e] at hj; exact ⟨p, rfl, (Option.some.inj hj).symm⟩
        refine ⟨_, rfl, _, _, rfl, rfl, .inr ⟨by decide, by decide⟩, _, rfl, _, _, rfl, rfl, _, rfl, _, _, rfl, rfl, .inl ⟨_, rfl, _, rfl, _, _, rfl, rfl, hpr.1, rfl, some (.int b), ?_⟩⟩
        have e : blendOne (z.turn + 1) p (z.cells.take (j + 1)) = (blendOne (z.turn + 1) p (z.cells.take j) * 69621 + b + (z.turn + 1)) % p := by
          unfold blendOne
          rw [List.take_succ, hb, List.foldl_append]
          rfl
        rw [e]
        rfl
      · rintro σ H'' ⟨rfl, y5, rfl⟩
        rw [List.length_map, List.take_length]
        have hsm := blendOne_small (cells := z.cells) (by omega : (0 : Int) ≤ z.turn + 1) (by omega) hpr.1 hpr.2
        refine ⟨_, rfl, _, _, rfl, rfl, .inr ⟨by decide, by decide⟩, _, rfl, _, _, rfl, rfl, ⟨by decide, by decide, by omega⟩, .inl ⟨_, rfl, _, rfl, _, _, rfl, rfl, hpr.1, _, _, rfl, rfl, ?_⟩⟩
        have e : blendAll (z.turn + 1) z.cells (primes.take (i + 1)) 0 = blendAll (z.turn + 1) z.cells (primes.take i) 0 * 2147483647 + blendOne (z.turn + 1) p z.cells ^ 5 % p := by
          have gen : ∀ (ps : List Int) (f : Int), blendAll (z.turn + 1) z.cells (ps ++ [p]) f = blendAll (z.turn + 1) z.cells ps f * 2147483647 + blendOne (z.turn + 1) p z.cells ^ 5 % p := fun ps => by
            induction ps with
            | nil => intro f; rfl
            | cons q ps ih => exact fun f => ih _
          rw [List.take_succ, hp]
          exact gen _ _
        exact ⟨some (.int p), some (.int (blendOne (z.turn + 1) p z.cells)), y5, by rw [e]; rfl, sm⟩
    · rintro σ H' ⟨y3, y4, y5, rfl, sm⟩
      exact ⟨_, rfl, q H' (fun b o e n => sm _ _ (sl _ _ (old b o e n))) (sz.mono (fun o e => sm _ _ (sl _ _ e)) (fun o e => sm _ _ (sl _ _ e)) fun o e => sm _ _ (sl _ _ e))⟩

theorem sc_draw : FnScope ["state", "room", "found"] ["state", "room"] (defScope s_draw) := ⟨rfl, rfl, rfl, by decide +kernel, rfl, by decide +kernel, by decide +kernel⟩
theorem ok_draw {f fB : Addr} {fd fdB : FuncData} {k : Nat} (F : Fun K "_law_draw" "_law_draw" s_draw f fd) (FB : FnOk P w K mg base (L2.CX P w) (k + 1) fB fdB ["state"] spBlended) (bB : L2.Binds K fdB ["state"] []) (mB : mg "_law_blended" = some (.ref fB)) (kB : W.keepIn K (.ref fB) = true) (mInt : mg "int" = none) : FnOk P w K mg base (L2.CX P w) (k + 2) f fd ["state", "room"] (spD K 2 semDraw) := by
  refine F.okX sc_draw (fun vs H Q E h => ?_) (fun cdv A outer s H vs Q E hr h => ?_)
  · obtain ⟨F, dr, qs, w, hpn, sub, ar, _⟩ := h
    rw [ar.length, hpn]
    rfl
  · obtain ⟨F, dr, qs, z, hpn, sub, ar, st0, nf, q⟩ := h
    have hu := hu_of hr
    have hu64 := hr.units
    refine ⟨_, pss_cons (ps_if (pt_cmpR op_eq (pe_dget hu (pv 0) pe_str (fun _ _ => rfl)) pe_int (nomark _))
        (pss_one (ps_dput hu (pv 0) pe_str (pe_ifExp (pt_cmpR (op_neD hu64) (pe_dget hu (pv 0) pe_str (fun _ _ => rfl)) (pe_lst pa_nil) rfl)
          (pe_bm PySem.F.plainAttrs_list PySem.F.slot_list_pop PySem.F.type_list_pop mt_popAt (pe_dget hu (pv 0) pe_str (fun _ _ => rfl)) (pa_cons pe_int pa_nil))
          (pe_call FB hr rfl mB kB bB .nil (passes_call (takes_of rfl rfl rfl rfl) fun _ _ _ _ h => h) (pa_cons (pv 0) pa_nil))) rfl))
        pss_nil)
      (pss_cons (ps_set (i := 2) sc_draw.nd rfl (.inl rfl) (pe_op op_mod (pe_callTy call_int1 (by rfl) mInt (by decide +kernel) (pa_cons (pe_dget hu (pv 0) pe_str (fun _ _ => rfl)) pa_nil)) (pv 1)))
      (pss_cons (ps_dput hu (pv 0) pe_str (pe_op op_fdivW (pe_dget hu (pv 0) pe_str (fun _ _ => rfl)) (pv 1)) rfl)
      (pss_one (ps_ret (pv 2))))), ?_⟩
    match qs, ar, q with
    | [.drw, .dat (.int room)], .drw (a := a) (g := g) (c := c) hdr (.dat (.int _) .nil), q =>
    have q : PostC K F H dr Q E (if okDraw room z then .ok (.int (drawV z room)) (drawW z room) else .stuck) := q
    split at q
    case isFalse => exact q.elim
    rename_i hz
    obtain ⟨hz1, hz2, hz3, hz4⟩ := hz
    have st : StH H a g c z := st0.sh _ _ _ hdr
    have nfoot : ∀ b, ¬ inDr dr b → b ≠ a ∧ b ≠ g ∧ b ≠ c := fun b h => ⟨fun e => h (.inl ⟨a, g, c, hdr, .inl e⟩), fun e => h (.inl ⟨a, g, c, hdr, .inr (.inl e)⟩), fun e => h (.inl ⟨a, g, c, hdr, .inr (.inr e)⟩)⟩
    have kd : ∀ {H : Hp} {z : DS}, StH H a g c z → ∀ {k : Key} {v : V}, valV (stK g c z) k = some v → DGet H a (kV k) (some v) := fun h _ _ e => e ▸ DGet.k h.dict
    have put : ∀ {H : Hp} {z : DS} (i : Int), StH H a g c z → StH (upd H a (.dK (stK g c { z with rest := i }))) a g c { z with rest := i } := fun i h => by
      obtain ⟨h1, h2, h3, h4⟩ := h
      have ng : g ≠ a := fun e => by rw [e, h1] at h2; cases h2
      have nc : c ≠ a := fun e => by rw [e, h1] at h3; cases h3
      exact ⟨upd_same, by rw [upd_ne ng]; exact h2, by rw [upd_ne nc]; exact h3, h4⟩
    have dput : ∀ {H : Hp} {z : DS} (i : Int), StH H a g c z → DPut H a (.str "rest") (.int i) (upd H a (.dK (stK g c { z with rest := i }))) := fun i h => DPut.k (k := .inr "rest") h.dict (by show 4 < sizeLine; decide)
    -- what follows the first statement
    have rest : ∀ H1, StH H1 a g c (refill z) → (∀ b o, H b = some o → (b ≠ a ∧ b ≠ g ∧ b ≠ c) → H1 b = some o) →
        tSeq (tAsg (tOp (rI (fun x j => 0 < j) fun i j => V.int (i % j)) (tCB (fun xs H Q => (∃ i, xs = [V.int i] ∧ Q (V.int i) H) ∨ ∃ k, xs = [V.bl k] ∧ Q (V.int (if k = true then 1 else 0)) H) (tCons (tDGet (tVar 0) (tC (V.str "rest"))) tNil)) (tVar 1)) (gName 2))
          (tSeq (sDPut (tVar 0) (tC (V.str "rest")) (tOp (rI CDivW fun i j => V.int (i / j)) (tDGet (tVar 0) (tC (V.str "rest"))) (tVar 1))) (tRet (tVar 2))) { nx := fun _ H' => Q V.non H', rt := Q } [some (.ref a), some (.int room), none] H1 := fun H1 s1 k1 => by
      refine ⟨_, rfl, a, _, rfl, kd s1 stK_rest, .inl ⟨_, rfl, _, rfl, _, _, rfl, rfl, hz1, ?_⟩⟩
      refine ⟨_, rfl, a, _, rfl, kd s1 stK_rest, _, rfl, _, _, rfl, rfl, wide_div (b := 200) hz1 (by unfold wide at hz2; omega) (by decide) (by decide), _, rfl, a, _, rfl, dput _ s1, _, rfl, ?_⟩
      refine q _ _ F ⟨Same.refl _, fun b o e => ?_, fun b o e => .inl e, fun b o e n => ?_⟩ ⟨fun a' g' c' e => ?_, fun p hp => ?_, fun l hl => ?_⟩ (.int _)
      · have nd : ¬ inDr dr b := fun h => by rw [nf b h] at e; cases e
        rw [upd_ne (nfoot b nd).1]; exact k1 b o (sub b o e) (nfoot b nd)
      · rw [upd_ne (nfoot b n).1]; exact k1 b o e (nfoot b n)
      · rw [hdr] at e; cases e; exact put _ s1
      · obtain ⟨ps, t1, t2, t3⟩ := st0.tab p hp
        have ne : p.1 ≠ a ∧ p.1 ≠ g ∧ p.1 ≠ c := by
          obtain ⟨h1, h2, h3, _⟩ := st
          refine ⟨fun e => ?_, fun e => ?_, fun e => ?_⟩
          · rw [e, h1] at t1; cases t1
          · rw [e, h2] at t1; cases t1
          · rw [e, h3] at t1; cases t1
        exact ⟨ps, by rw [upd_ne ne.1]; exact k1 _ _ t1 ne, t2, t3⟩
      · obtain ⟨us, t1, t2, t3, t4⟩ := st0.obj l hl
        have ne1 : l ≠ a := fun e => by
          rw [e, st.1] at t1
          cases t1
        have ne : l ≠ a ∧ l ≠ g ∧ l ≠ c := ⟨ne1, t4 _ _ _ hdr⟩
        rw [drawW_ob]
        exact ⟨us, by rw [upd_ne ne.1]; exact k1 _ _ t1 ne, t2, t3, t4⟩
    refine ⟨_, rfl, a, _, rfl, kd st stK_rest, rfl, _, rfl, ?_⟩
    refine ite2 (fun h0 => ?_) (fun h0 => ?_)
    · have h0 : z.rest = 0 := by
        have := of_decide_eq_true h0
        exact V.int.inj this
      refine ⟨_, rfl, a, _, rfl, kd st stK_great, Nat.zero_le _, fun l nl => ?_⟩
      have sl : Same H (upd H l (.lst [])) := DL.same_upd nl
      have st2 : StH (upd H l (.lst [])) a g c z := st.mono (fun o e => sl _ _ e) (fun o e => sl _ _ e) fun o e => sl _ _ e
      have dps : ∀ ns : List Int, DpAll K (upd H l (.lst [])) (ns.map V.int) (ns.map PyData.int) := fun ns => by
        induction ns with
        | nil => exact .nil
        | cons n ns ih => exact .cons (.int n) ih
      refine ⟨.list (z.great.map PyData.int), .list [], .lst (SqL.of st2.2.1) (dps _), .lst (SqL.of upd_same) .nil, shaped_ints _, rfl, _, rfl, ?_⟩
      cases eg : z.great with
      | nil =>
        refine ite2 (fun hb => by cases hb) fun _ => ?_
        refine ⟨_, rfl, a, g, c, z, rfl, st2, hz3, hz4, fun H' kp s' => ?_⟩
        have er : refill z = { z with rest := blend (z.turn + 1) z.cells, turn := z.turn + 1 } := by
          unfold refill
          rw [if_pos h0, eg]
        refine ⟨_, rfl, a, _, rfl, dput _ s', ?_⟩
        refine rest _ (by rw [er]; exact put _ s') fun b o e n => ?_
        rw [upd_ne n.1]
        exact kp _ _ (sl _ _ e) n.1
      | cons y ys =>
        refine ite2 (fun _ => ?_) fun hb => (hb rfl).elim
        have hg : (upd H l (.lst [])) g = some (.lst (V.int y :: ys.map V.int)) := by
          have := st2.2.1
          rw [eg] at this; exact this
        have s3 : StH (upd (upd H l (.lst [])) g (.lst (ys.map V.int))) a g c { z with great := ys } := by
          obtain ⟨h1, h2, h3, h4⟩ := st2
          have na : a ≠ g := fun e => by rw [← e, h1] at h2; cases h2
          exact ⟨by rw [upd_ne na]; exact h1, upd_same, by rw [upd_ne h4.symm]; exact h3, h4⟩
        have er : refill z = { z with great := ys, rest := y } := by
          unfold refill
          rw [if_pos h0, eg]
        refine ⟨_, rfl, a, _, rfl, kd st2 stK_great, .inl ⟨rfl, _, SqL.of hg⟩, g, _, 0, 0, _, rfl, rfl, hg, by decide, by decide, by simp [seqIndex?], rfl, ?_⟩
        refine ⟨_, rfl, a, _, rfl, dput y s3, ?_⟩
        refine rest _ (by rw [er]; exact put _ s3) fun b o e n => ?_
        rw [upd_ne n.1, upd_ne n.2.1]
        exact sl _ _ e
    · have h0 : z.rest ≠ 0 := fun e => h0 (decide_eq_true (by rw [e]))
      exact rest H (by unfold refill; rw [if_neg h0]; exact st) fun b o e _ => e

theorem noFoot {a : Addr} : ¬ inDr ({ st := none, tb := [], clo := fun _ _ => True } : Ft) a := by
  rintro (⟨_, _, _, e, _⟩ | ⟨p, h, _⟩ | e)
  · cases e
  · cases h
  · cases e
theorem stNone {K : W.Frag} {F H : Hp} {w : DS} : StX K ({ st := none, tb := [], clo := fun _ _ => True } : Ft) F H w where
  sh := fun a g c e => by cases e
  tab := fun p h => by cases h
  obj := fun l h => by cases h
theorem sc_begun : FnScope ["script", "great", "cell"] ["script"] (defScope s_begun) := ⟨rfl, rfl, rfl, by decide +kernel, rfl, by decide +kernel, by decide +kernel⟩
def spBegun (K : W.Frag) : Sp := fun vs H Q _ => ∃ (a : Addr) (ns : List Int), vs = [.ref a] ∧ SqL K H a (ns.map V.int) ∧ ns.length ≤ big ∧
  ∀ st g c H', Same H H' → H st = none → H g = none → H c = none → StH H' st g c (beginW ns) → Q (.ref st) H'
theorem ok_begun {f : Addr} {fd : FuncData} {k : Nat} (F : Fun K "_law_begun" "_law_begun" s_begun f fd) (mAbs : mg "abs" = none) : FnOk P w K mg base (L2.CX P w) (k + 1) f fd ["script"] (spBegun K) := by
  refine F.okX sc_begun (fun vs H Q E h => ?_) (fun cdv A outer s H vs Q E hr h => ?_)
  · obtain ⟨a, ns, rfl, _⟩ := h
    rfl
  · obtain ⟨a, ns, rfl, hS, hbig, q⟩ := h
    have hu := hu_of hr
    have S0 : ∀ Z, DSt (cxOf (L2.CX P w) P w K mg base ["script", "great", "cell"] "_law_begun" (defScope s_begun) f cdv A outer s H E) Z E ((defBody s_begun).getD 0 (.Pass ⟨0, 0, 0, 0⟩)) _ _ := fun Z =>
      d_setLc 1 (own := [("cell", 2)]) rfl sc_begun.nd (i_seq (e_var 0)) (blk_ok (by kernel_rfl)) (fun _ _ _ _ _ _ => g_name 2 sc_begun.nd)
        (fun _ _ _ _ _ _ => ts_one (t_cmp op_ge o_ge (e_cb call_abs o_abs mAbs (a_cons (e_var 2) a_nil)) (e_op op_pow o_pow e_int e_int) (nomark _)))
        (fun _ _ _ _ _ _ => e_op op_sub o_sub (e_cb call_abs o_abs mAbs (a_cons (e_var 2) a_nil)) (e_op op_pow o_pow e_int e_int)) (by decide)
    have C0 : ∀ Z, DN (cxOf (L2.CX P w) P w K mg base ["script", "great", "cell"] "_law_begun" (defScope s_begun) f cdv A outer s H E) Z E (match (defBody s_begun).getD 1 (.Pass ⟨0, 0, 0, 0⟩) with | .Return (some (.Dict _ vs _)) _ => vs.getD 1 (.Constant .none 0 ⟨0, 0, 0, 0⟩) | _ => .Constant .none 0 ⟨0, 0, 0, 0⟩) _ _ := fun Z =>
      n_lc (own := [("cell", 2)]) rfl sc_begun.nd (i_seq (e_var 0)) (blk_ok (by kernel_rfl)) (fun _ _ _ _ _ _ => g_name 2 sc_begun.nd) (fun _ _ _ _ _ _ => ts_nil)
        (fun _ _ _ _ _ _ => e_cb call_abs o_abs mAbs (a_cons (e_var 2) a_nil)) (by decide)
    let Z : Z0 := ⟨H, H, { st := none, tb := [], clo := fun _ _ => True }⟩
    have R0 : Rep K Z H (fun _ => none) [some (V.ref a), none, none] H [.dat (.scr ns), .un, .un] default := {
      sub := Same.refl _, keepF := Same.refl _, newF := fun b u e => .inl e, keep := fun b o e _ => ⟨e, rfl⟩, fzo := fun _ _ _ => rfl, owh := (fun _ _ e => nomatch e), len := rfl
      slots := fun i e h => by
        match i, h with
        | 0, h => cases h; exact ⟨_, rfl, .scr hS⟩
        | 1, h => cases h; trivial
        | 2, h => cases h; trivial
        | n + 3, h => cases h
      st := stNone
      foo := fun _ z => (noFoot z).elim }
    refine ⟨_, pss_cons (S0 Z).ps (pss_one (ps_ret (pe_disp (pps_cons pe_str (pv 1) (pps_cons pe_str (C0 Z).pe (pps_cons pe_str pe_int (pps_cons pe_str pe_int pps_nil)))) rfl rfl (fun h => nomatch h) (by decide)))), ?_⟩
    refine (S0 Z).sn H (fun _ => none) _ H _ default _ R0 ?_
    show PostS K Z E H _ ((fLcW (fItems (fVar 0)) (kName 2) _ _ [2] [.dat (.scr ns), .un, .un] default).bind _)
    rw [begin_great hbig rfl]
    intro σ1 H1 F1 ow1 s1 R1
    obtain ⟨g, vs, e1, e2, e3, e4, r1⟩ := R1.slots 1 _ rfl
    have ev := r1.ints
    subst ev
    intro p np
    have R2 := R1.grow (Gr.apart R1.sub (.dK []) np)
    obtain ⟨n1, n2, n3⟩ := R1.fresh np
    have un : ∀ {F' : Hp} {ow' : Addr → Option Nat} {σ' : L2.St} {H' : Hp} {ρ' : List EV} {w' : DS}, Rep K ⟨upd H p (.dK []), H, { st := none, tb := [], clo := fun _ _ => True }⟩ F' ow' σ' H' ρ' w' → Rep K Z F' ow' σ' H' ρ' w' ∧ H' p = some (.dK []) ∧ ow' p = none ∧ F' p = none := fun R' => Rep.unguard n3 noFoot n3 R'
    have R3 := R2.guard upd_same n1 n2
    refine ⟨_, e1, ?_⟩
    simp only [tPairs, tC]
    refine (C0 ⟨upd H p (.dK []), H, { st := none, tb := [], clo := fun _ _ => True }⟩).sn F1 ow1 σ1 _ _ _ _ R3 ?_
    show Post K _ E σ1 _ _ (fLcW (fItems (fVar 0)) (kName 2) fYes _ [2] [.dat (.scr ns), .lst ((beginW ns).great.map .int), .un] default)
    rw [begin_cells hbig]
    intro c us H2 F2 ow2 s2 R4 c1 c2 c3 c4 r2
    have eu := r2.ints
    subst eu
    obtain ⟨R5, p1, p2, p3⟩ := un R4
    obtain ⟨g', vs', k1, k2, k3, k4, r3⟩ := R5.slots 1 _ rfl
    rw [e1] at k1
    cases k1
    have ev := r3.ints
    subst ev
    have c4 : upd H p (.dK []) c = none := c4
    have cp : c ≠ p := fun e => by rw [e, upd_same] at c4; cases c4
    rw [upd_ne cp] at c4
    have gp : g ≠ p := fun e => by rw [e, p2] at k3; cases k3
    have gc : g ≠ c := fun e => by rw [e, c2] at k3; cases k3
    refine ⟨p1, stK g c (beginW ns), rfl, by show 4 ≤ 15; decide, ?_⟩
    rw [stK_merge]
    refine q p g c _ (fun b o e => ?_) n3 k4 c4 ⟨upd_same, by rw [upd_ne gp]; exact k2, by rw [upd_ne cp]; exact c1, gc⟩
    have bp : b ≠ p := fun z => by
      have n3 : H p = none := n3
      rw [z, n3] at e; cases e
    rw [upd_ne bp]
    exact (R5.keep b o e noFoot).1
end draws

noncomputable abbrev f__law_draw : Fsem := semDraw

abbrev s__law_shuffled : Stmt := topS 28
theorem sc__law_shuffled : FnScope ["state", "some", "left", "found"] ["state", "some"] (defScope s__law_shuffled) := ⟨rfl, rfl, rfl, by decide +kernel, rfl, by decide +kernel, by decide +kernel⟩
noncomputable def t__law_shuffled_1 : Sb := (lendT 2 (fBool (fOp dNe (fVar 2) (fFrz (fLst aNil)))))
theorem u_t__law_shuffled_1 (ρ : List EV) (w : DS) : t__law_shuffled_1 ρ w = (lendT 2 (fBool (fOp dNe (fVar 2) (fFrz (fLst aNil))))) ρ w := rfl
noncomputable def b__law_shuffled_1 : Ss := (gApp 3 (fPopAt 2 (lendE 2 (fCall f__law_draw (aDrw 0 (aCons (fCB dLen (aCons (fVar 2) aNil)) aNil))))))
theorem u_b__law_shuffled_1 (ρ : List EV) (w : DS) : b__law_shuffled_1 ρ w = (gApp 3 (fPopAt 2 (lendE 2 (fCall f__law_draw (aDrw 0 (aCons (fCB dLen (aCons (fVar 2) aNil)) aNil)))))) ρ w := rfl
noncomputable def g__law_shuffled : Ss := (gSeq (gPar [2, 3] (aNew (fCN dList (aCons (fVar 1) aNil)) (aNew (fLst aNil) aNil))) (gSeq (gWhile (fun _ _ => 1000000) t__law_shuffled_1 b__law_shuffled_1) (gFrz 3 (gRet (fVar 3)))))
noncomputable def f__law_shuffled : Fsem := semOf 4 g__law_shuffled
theorem ok__law_shuffled {f : Addr} {fd : FuncData} (F : Fun K "_law_shuffled" "_law_shuffled" s__law_shuffled f fd) (C__law_draw : Cal P w K mg base "_law_draw" 2 2 f__law_draw) (z_len : mg "len" = none) (z_list : mg "list" = none) : FnOk P w K mg base (L2.CX P w) 3 f fd ["state", "some"] (spD K 2 f__law_shuffled) :=
  fnE g__law_shuffled 4 2 sc__law_shuffled rfl rfl F (fun cdv A outer s H E hr => ⟨_, fun Z => by
    have hu64 := hr.units
    unfold g__law_shuffled b__law_shuffled_1 t__law_shuffled_1
    exact (b_cons (d_par2 2 3 rfl sc__law_shuffled.nd (m_new (n_ct k_list o_list z_list (a_cons (e_var 1) a_nil)) fun _ => (m_new (n_lst a_nil) fun _ => m_nil))) (b_cons (d_while (fun _ _ => 1000000) (passes_of rfl) (t_lend 2 (t_cmp (k_ne hu64) o_ne (e_var 2) (e_frz (n_lst a_nil)) (nomark _))) (b_one (d_app 3 (f_popAt 2 (e_lend 2 (e_call C__law_draw hr (by decide) (passes_call (takes_of rfl rfl rfl rfl) fun _ _ _ _ h => h) (a_drw 0 (a_cons (e_cb k_len o_len z_len (a_cons (e_var 2) a_nil)) a_nil)) (aDrw_len (aCons_len aNil_len)))))))) (b_one (d_frz 3 (d_ret (e_var 3))))))⟩) (by decide)

abbrev s__law_dealt : Stmt := topS 39
theorem sc__law_dealt : FnScope ["draws", "n"] ["draws", "n"] (defScope s__law_dealt) := ⟨rfl, rfl, rfl, by decide +kernel, rfl, by decide +kernel, by decide +kernel⟩
noncomputable def g__law_dealt : Ss := (gRet (fUn dTupOf (fCall f__law_shuffled (aDrw 0 (aCons (fFrz (fRg1 (fVar 1))) aNil)))))
noncomputable def f__law_dealt : Fsem := semOf 2 g__law_dealt
theorem ok__law_dealt {f : Addr} {fd : FuncData} (F : Fun K "_law_dealt" "_law_dealt" s__law_dealt f fd) (C__law_shuffled : Cal P w K mg base "_law_shuffled" 3 2 f__law_shuffled) (z_list : mg "list" = none) (z_range : mg "range" = none) (z_tuple : mg "tuple" = none) : FnOk P w K mg base (L2.CX P w) 4 f fd ["draws", "n"] (spD K 2 f__law_dealt) :=
  fnE g__law_dealt 2 2 sc__law_dealt rfl rfl F (fun cdv A outer s H E hr => ⟨_, fun Z => by
    have hu64 := hr.units
    unfold g__law_dealt
    exact (b_one (d_ret (e_tupleOf z_tuple (e_call C__law_shuffled hr (by decide) (passes_call (takes_of rfl rfl rfl rfl) fun _ _ _ _ h => h) (a_drw 0 (a_cons (e_frz (n_listRg1 rfl z_list z_range (e_var 1))) a_nil)) (aDrw_len (aCons_len aNil_len))))))⟩) (by decide)

abbrev s__law_pick : Stmt := topS 27
theorem sc__law_pick : FnScope ["state", "some"] ["state", "some"] (defScope s__law_pick) := ⟨rfl, rfl, rfl, by decide +kernel, rfl, by decide +kernel, by decide +kernel⟩
noncomputable def g__law_pick : Ss := (gRet (fOp dSubI (fVar 1) (fCall f__law_draw (aDrw 0 (aCons (fCB dLen (aCons (fVar 1) aNil)) aNil)))))
noncomputable def f__law_pick : Fsem := semOf 2 g__law_pick
theorem ok__law_pick {f : Addr} {fd : FuncData} (F : Fun K "_law_pick" "_law_pick" s__law_pick f fd) (C__law_draw : Cal P w K mg base "_law_draw" 2 2 f__law_draw) (z_len : mg "len" = none) : FnOk P w K mg base (L2.CX P w) 3 f fd ["state", "some"] (spD K 2 f__law_pick) :=
  fnE g__law_pick 2 2 sc__law_pick rfl rfl F (fun cdv A outer s H E hr => ⟨_, fun Z => by
    have hu64 := hr.units
    unfold g__law_pick
    exact (b_one (d_ret (e_sub hr (e_var 1) (e_call C__law_draw hr (by decide) (passes_call (takes_of rfl rfl rfl rfl) fun _ _ _ _ h => h) (a_drw 0 (a_cons (e_cb k_len o_len z_len (a_cons (e_var 1) a_nil)) a_nil)) (aDrw_len (aCons_len aNil_len))))))⟩) (by decide)

abbrev s__law_beside : Stmt := topS 35
theorem sc__law_beside : FnScope ["one", "other", "entry"] ["one", "other"] (defScope s__law_beside) := ⟨rfl, rfl, rfl, by decide +kernel, rfl, by decide +kernel, by decide +kernel⟩
noncomputable def g__law_beside : Ss := (gRet (fOp dAdd (fUn dTupOf (fVar 0)) (fUn dTupOf (fFrz (fLcW (fItems (fVar 1)) (kName 2) fYes (fOp dAdd (fVar 2) (fCB dLen (aCons (fVar 0) aNil))) [2])))))
noncomputable def f__law_beside : Fsem := semOf 3 g__law_beside
theorem ok__law_beside {f : Addr} {fd : FuncData} (F : Fun K "_law_beside" "_law_beside" s__law_beside f fd) (z_len : mg "len" = none) (z_tuple : mg "tuple" = none) : FnOk P w K mg base (L2.CX P w) 1 f fd ["one", "other"] (spD K 2 f__law_beside) :=
  fnE g__law_beside 3 2 sc__law_beside rfl rfl F (fun cdv A outer s H E hr => ⟨_, fun Z => by
    have hu64 := hr.units
    unfold g__law_beside
    exact (b_one (d_ret (e_op op_addA o_add (e_tupleOf z_tuple (e_var 0)) (e_tupleOf z_tuple (e_frz (n_lc (own := [("entry", 2)]) rfl sc__law_beside.nd (i_seq (e_var 1)) (blkOk_by (by kernel_rfl)) (fun _ _ _ _ _ _ => (g_name 2 sc__law_beside.nd)) (fun _ _ _ _ _ _ => ts_nil) (fun _ _ _ _ _ _ => (e_op op_addA o_add (e_var 2) (e_cb k_len o_len z_len (a_cons (e_var 0) a_nil)))) (by decide)))))))⟩) (by decide)

abbrev s__law_under : Stmt := topS 36
theorem sc__law_under : FnScope ["one", "other", "entry"] ["one", "other"] (defScope s__law_under) := ⟨rfl, rfl, rfl, by decide +kernel, rfl, by decide +kernel, by decide +kernel⟩
noncomputable def g__law_under : Ss := (gRet (fOp dAdd (fUn dTupOf (fFrz (fLcW (fItems (fVar 0)) (kName 2) fYes (fOp dAdd (fVar 2) (fCB dLen (aCons (fVar 1) aNil))) [2]))) (fUn dTupOf (fVar 1))))
noncomputable def f__law_under : Fsem := semOf 3 g__law_under
theorem ok__law_under {f : Addr} {fd : FuncData} (F : Fun K "_law_under" "_law_under" s__law_under f fd) (z_len : mg "len" = none) (z_tuple : mg "tuple" = none) : FnOk P w K mg base (L2.CX P w) 1 f fd ["one", "other"] (spD K 2 f__law_under) :=
  fnE g__law_under 3 2 sc__law_under rfl rfl F (fun cdv A outer s H E hr => ⟨_, fun Z => by
    have hu64 := hr.units
    unfold g__law_under
    exact (b_one (d_ret (e_op op_addA o_add (e_tupleOf z_tuple (e_frz (n_lc (own := [("entry", 2)]) rfl sc__law_under.nd (i_seq (e_var 0)) (blkOk_by (by kernel_rfl)) (fun _ _ _ _ _ _ => (g_name 2 sc__law_under.nd)) (fun _ _ _ _ _ _ => ts_nil) (fun _ _ _ _ _ _ => (e_op op_addA o_add (e_var 2) (e_cb k_len o_len z_len (a_cons (e_var 1) a_nil)))) (by decide)))) (e_tupleOf z_tuple (e_var 1)))))⟩) (by decide)

abbrev s__law_blown : Stmt := topS 37
theorem sc__law_blown : FnScope ["row", "parts", "firsts", "count", "entry", "spot", "found", "place", "own"] ["row", "parts"] (defScope s__law_blown) := ⟨rfl, rfl, rfl, by decide +kernel, rfl, by decide +kernel, by decide +kernel⟩
noncomputable def b__law_blown_1 : Ss := (gParPutD 2 3 (fVar 5) (fVar 3) (fOp dAdd (fVar 3) (fCB dLen (aCons (fOp dSubI (fVar 1) (fVar 5)) aNil))))
theorem u_b__law_blown_1 (ρ : List EV) (w : DS) : b__law_blown_1 ρ w = (gParPutD 2 3 (fVar 5) (fVar 3) (fOp dAdd (fVar 3) (fCB dLen (aCons (fOp dSubI (fVar 1) (fVar 5)) aNil)))) ρ w := rfl
noncomputable def b__law_blown_2 : Ss := (gSet 6 (fFrz (fCatE (fVar 6) (fFrz (fLcW (fItems (fVar 8)) (kName 4) fYes (fOp dAdd (fVar 4) (fOp dSubI (fVar 2) (fVar 7))) [4])))))
theorem u_b__law_blown_2 (ρ : List EV) (w : DS) : b__law_blown_2 ρ w = (gSet 6 (fFrz (fCatE (fVar 6) (fFrz (fLcW (fItems (fVar 8)) (kName 4) fYes (fOp dAdd (fVar 4) (fOp dSubI (fVar 2) (fVar 7))) [4]))))) ρ w := rfl
noncomputable def g__law_blown : Ss := (gSeq (gPar [2, 3] (aNewD (aCons (fC (.int 0)) aNil))) (gSeq (gFor (fItems (fFrz (fCN dSorted (aCons (fFrz (fLcW (fEnum (fVar 0)) (kTup 2 (kCons (kName 7) (kCons (kName 4) kNil))) fYes (fTup (aCons (fVar 4) (aCons (fVar 7) aNil))) [7, 4])) aNil)))) (kTup 2 (kCons (kName 4) (kCons (kName 5) kNil))) b__law_blown_1) (gSeq (gSet 6 (fFrz (fLst aNil))) (gSeq (gFrz 2 (gFor (fEnum (fVar 1)) (kTup 2 (kCons (kName 7) (kCons (kName 8) kNil))) b__law_blown_2)) (gRet (fUn dTupOf (fVar 6)))))))
noncomputable def f__law_blown : Fsem := semOf 9 g__law_blown
theorem ok__law_blown {f : Addr} {fd : FuncData} (F : Fun K "_law_blown" "_law_blown" s__law_blown f fd) (z_enumerate : mg "enumerate" = none) (z_len : mg "len" = none) (z_sorted : mg "sorted" = none) (z_tuple : mg "tuple" = none) : FnOk P w K mg base (L2.CX P w) 1 f fd ["row", "parts"] (spD K 2 f__law_blown) :=
  fnE g__law_blown 9 2 sc__law_blown rfl rfl F (fun cdv A outer s H E hr => ⟨_, fun Z => by
    have hu64 := hr.units
    unfold g__law_blown b__law_blown_2 b__law_blown_1
    exact (b_cons (d_parC2 2 3 rfl sc__law_blown.nd (m_newD fun _ => (m_dat e_int m_nil))) (b_cons (d_for (passes_of rfl) rfl (i_seq (e_frz (n_cb (k_sorted hu64) o_sorted z_sorted (a_cons (e_frz (n_lc (own := [("place", 7), ("entry", 4)]) rfl sc__law_blown.nd (i_enum z_enumerate (e_var 0)) (blkOk_by (by kernel_rfl)) (fun _ _ _ _ _ _ => (g_tup rfl (gs_cons (g_name 7 sc__law_blown.nd) (gs_cons (g_name 4 sc__law_blown.nd) gs_nil)))) (fun _ _ _ _ _ _ => ts_nil) (fun _ _ _ _ _ _ => (e_tup (a_cons (e_var 4) (a_cons (e_var 7) a_nil)))) (by decide))) a_nil)))) (g_tup rfl (gs_cons (g_name 4 sc__law_blown.nd) (gs_cons (g_name 5 sc__law_blown.nd) gs_nil))) (b_one (d_parPutD 2 3 (hu_of hr) rfl sc__law_blown.nd (e_var 5) (e_var 3) (e_op op_addA o_add (e_var 3) (e_cb k_len o_len z_len (a_cons (e_sub hr (e_var 1) (e_var 5)) a_nil)))))) (b_cons (d_set 6 sc__law_blown.nd (e_frz (n_lst a_nil))) (b_cons (d_frz 2 (d_for (passes_of rfl) rfl (i_enum z_enumerate (e_var 1)) (g_tup rfl (gs_cons (g_name 7 sc__law_blown.nd) (gs_cons (g_name 8 sc__law_blown.nd) gs_nil))) (b_one (d_set 6 sc__law_blown.nd (e_frz (n_catE (e_var 6) (e_frz (n_lc (own := [("entry", 4)]) rfl sc__law_blown.nd (i_seq (e_var 8)) (blkOk_by (by kernel_rfl)) (fun _ _ _ _ _ _ => (g_name 4 sc__law_blown.nd)) (fun _ _ _ _ _ _ => ts_nil) (fun _ _ _ _ _ _ => (e_op op_addA o_add (e_var 4) (e_sub hr (e_var 2) (e_var 7)))) (by decide))))))))) (b_one (d_ret (e_tupleOf z_tuple (e_var 6))))))))⟩) (by decide)

abbrev s__law_row : Stmt := topS 38
theorem sc__law_row : FnScope ["draws", "most", "way", "n", "row", "lap", "here", "cut", "one", "other", "frame", "sizes", "spot", "size"] ["draws", "most"] (defScope s__law_row) := ⟨rfl, rfl, rfl, by decide +kernel, rfl, by decide +kernel, by decide +kernel⟩
noncomputable def b__law_row_1 : Ss := (gIf (fBool (fOp (dI fun i j => .bl (decide (j < i))) (fVar 3) (fC (.int 1)))) (gSeq (gSet 6 (fCall f__law_draw (aDrw 0 (aCons (fVar 3) aNil)))) (gIns 4 (fCall f__law_draw (aDrw 0 (aCons (fVar 3) aNil))) (fPopAt 4 (fVar 6)))) gNext)
theorem u_b__law_row_1 (ρ : List EV) (w : DS) : b__law_row_1 ρ w = (gIf (fBool (fOp (dI fun i j => .bl (decide (j < i))) (fVar 3) (fC (.int 1)))) (gSeq (gSet 6 (fCall f__law_draw (aDrw 0 (aCons (fVar 3) aNil)))) (gIns 4 (fCall f__law_draw (aDrw 0 (aCons (fVar 3) aNil))) (fPopAt 4 (fVar 6)))) gNext) ρ w := rfl
noncomputable def b__law_row_2 : Ss := (gSeq (gSet 12 (fCall f__law_draw (aDrw 0 (aCons (fCB dLen (aCons (fVar 10) aNil)) aNil)))) (gPutL 11 (fVar 12) (lendE 11 (fOp dAdd (fOp dSubI (fVar 11) (fVar 12)) (fC (.int 1))))))
theorem u_b__law_row_2 (ρ : List EV) (w : DS) : b__law_row_2 ρ w = (gSeq (gSet 12 (fCall f__law_draw (aDrw 0 (aCons (fCB dLen (aCons (fVar 10) aNil)) aNil)))) (gPutL 11 (fVar 12) (lendE 11 (fOp dAdd (fOp dSubI (fVar 11) (fVar 12)) (fC (.int 1)))))) ρ w := rfl
noncomputable def g__law_row : Ss := (gSeq (gPar [2, 3] (aCons (fCall f__law_draw (aDrw 0 (aCons (fC (.int 6)) aNil))) (aCons (fCall f__law_draw (aDrw 0 (aCons (fOp dAdd (fVar 1) (fC (.int 1))) aNil))) aNil))) (gSeq (gIf (fBool (fOp dEq (fVar 2) (fC (.int 0)))) (gRet (fCall f__law_dealt (aDrw 0 (aCons (fVar 3) aNil)))) gNext) (gSeq (gIf (fBool (fOp dEq (fVar 2) (fC (.int 1)))) (gSeq (gSetN 4 (fIfN (fBool (fOp dEq (fCall f__law_draw (aDrw 0 (aCons (fC (.int 2)) aNil))) (fC (.int 0)))) (fRg1 (fVar 3)) (fRevN (fFrz (fRg1 (fVar 3)))))) (gSeq (gFor (fIr1 (fCall f__law_draw (aDrw 0 (aCons (fC (.int 3)) aNil)))) (kName 5) b__law_row_1) (gFrz 4 (gRet (fUn dTupOf (fVar 4)))))) gNext) (gSeq (gIf (fBool (fOp dEq (fVar 2) (fC (.int 2)))) (gSeq (gSet 7 (fCall f__law_draw (aDrw 0 (aCons (fOp dAdd (fVar 3) (fC (.int 1))) aNil)))) (gSeq (gPar [8, 9] (aCons (fCall f__law_dealt (aDrw 0 (aCons (fVar 7) aNil))) (aCons (fCall f__law_dealt (aDrw 0 (aCons (fOp (dI fun i j => .int (i - j)) (fVar 3) (fVar 7)) aNil))) aNil))) (gRet (fIf (fBool (fOp dEq (fCall f__law_draw (aDrw 0 (aCons (fC (.int 2)) aNil))) (fC (.int 0)))) (fCall f__law_beside (aCons (fVar 8) (aCons (fVar 9) aNil))) (fCall f__law_under (aCons (fVar 8) (aCons (fVar 9) aNil))))))) gNext) (gSeq (gIf (fAnd (fBool (fOp dEq (fVar 2) (fC (.int 3)))) (fBool (fOp (dI fun i j => .bl (decide (j < i))) (fVar 3) (fC (.int 3))))) (gSeq (gSet 10 (fCall f__law_pick (aDrw 0 (aCons (fFrz (fLst (aCons (fTup (aCons (fC (.int 1)) (aCons (fC (.int 3)) (aCons (fC (.int 0)) (aCons (fC (.int 2)) aNil))))) (aCons (fTup (aCons (fC (.int 2)) (aCons (fC (.int 0)) (aCons (fC (.int 3)) (aCons (fC (.int 1)) aNil))))) (aCons (fTup (aCons (fC (.int 0)) (aCons (fC (.int 1)) aNil))) (aCons (fTup (aCons (fC (.int 1)) (aCons (fC (.int 0)) aNil))) (aCons (fTup (aCons (fC (.int 1)) (aCons (fC (.int 0)) (aCons (fC (.int 2)) aNil)))) (aCons (fTup (aCons (fC (.int 0)) (aCons (fC (.int 2)) (aCons (fC (.int 1)) aNil)))) aNil)))))))) aNil)))) (gIf (fBool (fOp (dI fun i j => .bl (decide (i ≤ j))) (fCB dLen (aCons (fVar 10) aNil)) (fVar 3))) (gSeq (gSetN 11 (fRep (fLst (aCons (fC (.int 1)) aNil)) (fCB dLen (aCons (fVar 10) aNil)))) (gSeq (gFor (fIr1 (fOp (dI fun i j => .int (i - j)) (fVar 3) (fCB dLen (aCons (fVar 10) aNil)))) (kName 5) b__law_row_2) (gFrz 11 (gRet (fCall f__law_blown (aCons (fVar 10) (aCons (fFrz (fLcW (fItems (fVar 11)) (kName 13) fYes (fCall f__law_dealt (aDrw 0 (aCons (fVar 13) aNil))) [13])) aNil))))))) gNext)) gNext) (gRet (fCall f__law_dealt (aDrw 0 (aCons (fVar 3) aNil)))))))))
noncomputable def f__law_row : Fsem := semOf 14 g__law_row
theorem ok__law_row {f : Addr} {fd : FuncData} (F : Fun K "_law_row" "_law_row" s__law_row f fd) (C__law_draw : Cal P w K mg base "_law_draw" 2 2 f__law_draw) (C__law_dealt : Cal P w K mg base "_law_dealt" 4 2 f__law_dealt) (C__law_beside : Cal P w K mg base "_law_beside" 1 2 f__law_beside) (C__law_under : Cal P w K mg base "_law_under" 1 2 f__law_under) (C__law_pick : Cal P w K mg base "_law_pick" 3 2 f__law_pick) (C__law_blown : Cal P w K mg base "_law_blown" 1 2 f__law_blown) (z_len : mg "len" = none) (z_list : mg "list" = none) (z_range : mg "range" = none) (z_tuple : mg "tuple" = none) : FnOk P w K mg base (L2.CX P w) 5 f fd ["draws", "most"] (spD K 2 f__law_row) :=
  fnE g__law_row 14 2 sc__law_row rfl rfl F (fun cdv A outer s H E hr => ⟨_, fun Z => by
    have hu64 := hr.units
    unfold g__law_row b__law_row_2 b__law_row_1
    exact (b_cons (d_par2 2 3 rfl sc__law_row.nd (m_dat (e_call C__law_draw hr (by decide) (passes_call (takes_of rfl rfl rfl rfl) fun _ _ _ _ h => h) (a_drw 0 (a_cons e_int a_nil)) (aDrw_len (aCons_len aNil_len))) (m_dat (e_call C__law_draw hr (by decide) (passes_call (takes_of rfl rfl rfl rfl) fun _ _ _ _ h => h) (a_drw 0 (a_cons (e_op op_addA o_add (e_var 1) e_int) a_nil)) (aDrw_len (aCons_len aNil_len))) m_nil))) (b_cons (d_if (t_cmp (k_eq hu64) o_eq (e_var 2) e_int (nomark _)) (b_one (d_ret (e_call C__law_dealt hr (by decide) (passes_call (takes_of rfl rfl rfl rfl) fun _ _ _ _ h => h) (a_drw 0 (a_cons (e_var 3) a_nil)) (aDrw_len (aCons_len aNil_len))))) b_nil) (b_cons (d_if (t_cmp (k_eq hu64) o_eq (e_var 2) e_int (nomark _)) (b_cons (d_setN 4 sc__law_row.nd (n_if (t_cmp (k_eq hu64) o_eq (e_call C__law_draw hr (by decide) (passes_call (takes_of rfl rfl rfl rfl) fun _ _ _ _ h => h) (a_drw 0 (a_cons e_int a_nil)) (aDrw_len (aCons_len aNil_len))) e_int (nomark _)) (n_listRg1 rfl z_list z_range (e_var 3)) (n_rev (e_frz (n_listRg1 rfl z_list z_range (e_var 3)))))) (b_cons (d_for (passes_of rfl) rfl (i_range1 z_range (e_call C__law_draw hr (by decide) (passes_call (takes_of rfl rfl rfl rfl) fun _ _ _ _ h => h) (a_drw 0 (a_cons e_int a_nil)) (aDrw_len (aCons_len aNil_len)))) (g_name 5 sc__law_row.nd) (b_one (d_if (t_cmp op_gt o_gt (e_var 3) e_int (nomark _)) (b_cons (d_set 6 sc__law_row.nd (e_call C__law_draw hr (by decide) (passes_call (takes_of rfl rfl rfl rfl) fun _ _ _ _ h => h) (a_drw 0 (a_cons (e_var 3) a_nil)) (aDrw_len (aCons_len aNil_len)))) (b_one (d_ins 4 (e_call C__law_draw hr (by decide) (passes_call (takes_of rfl rfl rfl rfl) fun _ _ _ _ h => h) (a_drw 0 (a_cons (e_var 3) a_nil)) (aDrw_len (aCons_len aNil_len))) (f_popAt 4 (e_var 6))))) b_nil))) (b_one (d_frz 4 (d_ret (e_tupleOf z_tuple (e_var 4))))))) b_nil) (b_cons (d_if (t_cmp (k_eq hu64) o_eq (e_var 2) e_int (nomark _)) (b_cons (d_set 7 sc__law_row.nd (e_call C__law_draw hr (by decide) (passes_call (takes_of rfl rfl rfl rfl) fun _ _ _ _ h => h) (a_drw 0 (a_cons (e_op op_addA o_add (e_var 3) e_int) a_nil)) (aDrw_len (aCons_len aNil_len)))) (b_cons (d_par2 8 9 rfl sc__law_row.nd (m_dat (e_call C__law_dealt hr (by decide) (passes_call (takes_of rfl rfl rfl rfl) fun _ _ _ _ h => h) (a_drw 0 (a_cons (e_var 7) a_nil)) (aDrw_len (aCons_len aNil_len))) (m_dat (e_call C__law_dealt hr (by decide) (passes_call (takes_of rfl rfl rfl rfl) fun _ _ _ _ h => h) (a_drw 0 (a_cons (e_op op_sub o_sub (e_var 3) (e_var 7)) a_nil)) (aDrw_len (aCons_len aNil_len))) m_nil))) (b_one (d_ret (e_if (t_cmp (k_eq hu64) o_eq (e_call C__law_draw hr (by decide) (passes_call (takes_of rfl rfl rfl rfl) fun _ _ _ _ h => h) (a_drw 0 (a_cons e_int a_nil)) (aDrw_len (aCons_len aNil_len))) e_int (nomark _)) (e_call C__law_beside hr (by decide) (passes_call (takes_of rfl rfl rfl rfl) fun _ _ _ _ h => h) (a_cons (e_var 8) (a_cons (e_var 9) a_nil)) (aCons_len (aCons_len aNil_len))) (e_call C__law_under hr (by decide) (passes_call (takes_of rfl rfl rfl rfl) fun _ _ _ _ h => h) (a_cons (e_var 8) (a_cons (e_var 9) a_nil)) (aCons_len (aCons_len aNil_len)))))))) b_nil) (b_cons (d_if (w_and (t_cmp (k_eq hu64) o_eq (e_var 2) e_int (nomark _)) (w_and1 (t_cmp op_gt o_gt (e_var 3) e_int (nomark _)))).dt (b_cons (d_set 10 sc__law_row.nd (e_call C__law_pick hr (by decide) (passes_call (takes_of rfl rfl rfl rfl) fun _ _ _ _ h => h) (a_drw 0 (a_cons (e_frz (n_lst (a_cons (e_tup (a_cons e_int (a_cons e_int (a_cons e_int (a_cons e_int a_nil))))) (a_cons (e_tup (a_cons e_int (a_cons e_int (a_cons e_int (a_cons e_int a_nil))))) (a_cons (e_tup (a_cons e_int (a_cons e_int a_nil))) (a_cons (e_tup (a_cons e_int (a_cons e_int a_nil))) (a_cons (e_tup (a_cons e_int (a_cons e_int (a_cons e_int a_nil)))) (a_cons (e_tup (a_cons e_int (a_cons e_int (a_cons e_int a_nil)))) a_nil)))))))) a_nil)) (aDrw_len (aCons_len aNil_len)))) (b_one (d_if (t_cmp op_le o_le (e_cb k_len o_len z_len (a_cons (e_var 10) a_nil)) (e_var 3) (nomark _)) (b_cons (d_setN 11 sc__law_row.nd (n_rep (n_lst (a_cons e_int a_nil)) (e_cb k_len o_len z_len (a_cons (e_var 10) a_nil)))) (b_cons (d_for (passes_of rfl) rfl (i_range1 z_range (e_op op_sub o_sub (e_var 3) (e_cb k_len o_len z_len (a_cons (e_var 10) a_nil)))) (g_name 5 sc__law_row.nd) (b_cons (d_set 12 sc__law_row.nd (e_call C__law_draw hr (by decide) (passes_call (takes_of rfl rfl rfl rfl) fun _ _ _ _ h => h) (a_drw 0 (a_cons (e_cb k_len o_len z_len (a_cons (e_var 10) a_nil)) a_nil)) (aDrw_len (aCons_len aNil_len)))) (b_one (d_putL 11 (e_var 12) (e_lend 11 (e_op op_addA o_add (e_sub hr (e_var 11) (e_var 12)) e_int)))))) (b_one (d_frz 11 (d_ret (e_call C__law_blown hr (by decide) (passes_call (takes_of rfl rfl rfl rfl) fun _ _ _ _ h => h) (a_cons (e_var 10) (a_cons (e_frz (n_lc (own := [("size", 13)]) rfl sc__law_row.nd (i_seq (e_var 11)) (blkOk_by (by kernel_rfl)) (fun _ _ _ _ _ _ => (g_name 13 sc__law_row.nd)) (fun _ _ _ _ _ _ => ts_nil) (fun _ _ _ _ _ _ => (e_call C__law_dealt hr (by decide) passL (a_drw 0 (a_cons (e_var 13) a_nil)) (aDrw_len (aCons_len aNil_len)))) (by decide))) a_nil)) (aCons_len (aCons_len aNil_len)))))))) b_nil))) b_nil) (b_one (d_ret (e_call C__law_dealt hr (by decide) (passes_call (takes_of rfl rfl rfl rfl) fun _ _ _ _ h => h) (a_drw 0 (a_cons (e_var 3) a_nil)) (aDrw_len (aCons_len aNil_len))))))))))⟩) (by decide)

abbrev s__law_is_truth : Stmt := topS 30
theorem sc__law_is_truth : FnScope ["found", "due"] ["found", "due"] (defScope s__law_is_truth) := ⟨rfl, rfl, rfl, by decide +kernel, rfl, by decide +kernel, by decide +kernel⟩
noncomputable def g__law_is_truth : Ss := (gRet (fIf (fBool (fVar 1)) (fOp (dIsB false) (fVar 0) (fC (.bl true))) (fOp (dIsB false) (fVar 0) (fC (.bl false)))))
noncomputable def f__law_is_truth : Fsem := semOf 2 g__law_is_truth
theorem ok__law_is_truth {f : Addr} {fd : FuncData} (F : Fun K "_law_is_truth" "_law_is_truth" s__law_is_truth f fd) : FnOk P w K mg base (L2.CX P w) 1 f fd ["found", "due"] (spD K 2 f__law_is_truth) :=
  fnE g__law_is_truth 2 2 sc__law_is_truth rfl rfl F (fun cdv A outer s H E hr => ⟨_, fun Z => by
    have hu64 := hr.units
    unfold g__law_is_truth
    exact (b_one (d_ret (e_if (t_val (e_var 1)) (e_cmp op_isBl o_isB (e_var 0) e_bl (nomark _)) (e_cmp op_isBl o_isB (e_var 0) e_bl (nomark _)))))⟩) (by decide)

abbrev s__law_same : Stmt := topS 31
theorem sc__law_same : FnScope ["found", "due", "unseen_here", "one", "other", "alike", "key", "left", "right"] ["found", "due"] (defScope s__law_same) := ⟨rfl, rfl, rfl, by decide +kernel, rfl, by decide +kernel, by decide +kernel⟩
noncomputable def t__law_same_1 : Sb := (lendT 2 (fBool (fOp dNe (fVar 2) (fFrz (fLst aNil)))))
theorem u_t__law_same_1 (ρ : List EV) (w : DS) : t__law_same_1 ρ w = (lendT 2 (fBool (fOp dNe (fVar 2) (fFrz (fLst aNil))))) ρ w := rfl
noncomputable def b__law_same_1 : Ss := (gSeq (gAsgF (fPop0 2) (kTup 2 (kCons (kName 3) (kCons (kName 4) kNil)))) (gIf (fOr (fBool (fOp (dIsN false) (fVar 4) (fC .non))) (fBool (fIsi ["bool"] (fVar 4)))) (gIf (fIfT (fBool (fOp (dIsN false) (fVar 4) (fC .non))) (fBool (fOp (dIsN true) (fVar 3) (fC .non))) (fNot (fBool (fCall f__law_is_truth (aCons (fVar 3) (aCons (fVar 4) aNil)))))) (gRet (fC (.bl false))) gNext) (gIf (fBool (fIsi ["int", "str"] (fVar 4))) (gIf (fOr (fBool (fIsi ["bool"] (fVar 3))) (fOr (fBool (fOp dNe (fIsi ["int"] (fVar 3)) (fIsi ["int"] (fVar 4)))) (fBool (fOp dNe (fVar 3) (fVar 4))))) (gRet (fC (.bl false))) gNext) (gIf (fBool (fIsi ["dict"] (fVar 4))) (gSeq gNever (gSeq gNever gNever)) (gSeq (gSet 5 (fFrz (fLst (aCons (fAndV (fIsi ["tuple"] (fVar 3)) (fIsi ["tuple"] (fVar 4))) (aCons (fAndV (fIsi ["list"] (fVar 3)) (fIsi ["list"] (fVar 4))) aNil))))) (gSeq (gIf (fOr (fBool (fOp (dIn true) (fC (.bl true)) (fVar 5))) (fBool (fOp dNe (fCB dLen (aCons (fVar 3) aNil)) (fCB dLen (aCons (fVar 4) aNil))))) (gRet (fC (.bl false))) gNext) (gExtN 2 (fLcW (fZip (fVar 3) (fVar 4)) (kTup 2 (kCons (kName 7) (kCons (kName 8) kNil))) fYes (fTup (aCons (fVar 7) (aCons (fVar 8) aNil))) [7, 8]))))))))
theorem u_b__law_same_1 (ρ : List EV) (w : DS) : b__law_same_1 ρ w = (gSeq (gAsgF (fPop0 2) (kTup 2 (kCons (kName 3) (kCons (kName 4) kNil)))) (gIf (fOr (fBool (fOp (dIsN false) (fVar 4) (fC .non))) (fBool (fIsi ["bool"] (fVar 4)))) (gIf (fIfT (fBool (fOp (dIsN false) (fVar 4) (fC .non))) (fBool (fOp (dIsN true) (fVar 3) (fC .non))) (fNot (fBool (fCall f__law_is_truth (aCons (fVar 3) (aCons (fVar 4) aNil)))))) (gRet (fC (.bl false))) gNext) (gIf (fBool (fIsi ["int", "str"] (fVar 4))) (gIf (fOr (fBool (fIsi ["bool"] (fVar 3))) (fOr (fBool (fOp dNe (fIsi ["int"] (fVar 3)) (fIsi ["int"] (fVar 4)))) (fBool (fOp dNe (fVar 3) (fVar 4))))) (gRet (fC (.bl false))) gNext) (gIf (fBool (fIsi ["dict"] (fVar 4))) (gSeq gNever (gSeq gNever gNever)) (gSeq (gSet 5 (fFrz (fLst (aCons (fAndV (fIsi ["tuple"] (fVar 3)) (fIsi ["tuple"] (fVar 4))) (aCons (fAndV (fIsi ["list"] (fVar 3)) (fIsi ["list"] (fVar 4))) aNil))))) (gSeq (gIf (fOr (fBool (fOp (dIn true) (fC (.bl true)) (fVar 5))) (fBool (fOp dNe (fCB dLen (aCons (fVar 3) aNil)) (fCB dLen (aCons (fVar 4) aNil))))) (gRet (fC (.bl false))) gNext) (gExtN 2 (fLcW (fZip (fVar 3) (fVar 4)) (kTup 2 (kCons (kName 7) (kCons (kName 8) kNil))) fYes (fTup (aCons (fVar 7) (aCons (fVar 8) aNil))) [7, 8])))))))) ρ w := rfl
noncomputable def g__law_same : Ss := (gSeq (gSetN 2 (fLst (aCons (fTup (aCons (fVar 0) (aCons (fVar 1) aNil))) aNil))) (gSeq (gWhile (fun _ _ => 1000000) t__law_same_1 b__law_same_1) (gRet (fC (.bl true)))))
noncomputable def f__law_same : Fsem := semOf 9 g__law_same
theorem ok__law_same {f : Addr} {fd : FuncData} (F : Fun K "_law_same" "_law_same" s__law_same f fd) (C__law_is_truth : Cal P w K mg base "_law_is_truth" 1 2 f__law_is_truth) (z_bool : mg "bool" = none) (z_dict : mg "dict" = none) (z_int : mg "int" = none) (z_isinstance : mg "isinstance" = none) (z_len : mg "len" = none) (z_list : mg "list" = none) (z_str : mg "str" = none) (z_tuple : mg "tuple" = none) (z_zip : mg "zip" = none) : FnOk P w K mg base (L2.CX P w) 2 f fd ["found", "due"] (spD K 2 f__law_same) :=
  fnE g__law_same 9 2 sc__law_same rfl rfl F (fun cdv A outer s H E hr => ⟨_, fun Z => by
    have hu64 := hr.units
    unfold g__law_same b__law_same_1 t__law_same_1
    exact (b_cons (d_setN 2 sc__law_same.nd (n_lst (a_cons (e_tup (a_cons (e_var 0) (a_cons (e_var 1) a_nil))) a_nil))) (b_cons (d_while (fun _ _ => 1000000) (passes_of rfl) (t_lend 2 (t_cmp (k_ne hu64) o_ne (e_var 2) (e_frz (n_lst a_nil)) (nomark _))) (b_cons (d_asgF (f_pop0 2) (g_tup rfl (gs_cons (g_name 3 sc__law_same.nd) (gs_cons (g_name 4 sc__law_same.nd) gs_nil)))) (b_one (d_if (w_or (t_cmp op_isN o_isN (e_var 4) e_non (nomark _)) (w_or1 (t_val (e_isi z_isinstance (e_var 4) z_bool (by decide +kernel) (by decide))))).dt (b_one (d_if (t_if (t_cmp op_isN o_isN (e_var 4) e_non (nomark _)) (t_cmp op_notN o_notN (e_var 3) e_non (nomark _)) (t_not (t_val (e_call C__law_is_truth hr (by decide) (passes_call (takes_of rfl rfl rfl rfl) fun _ _ _ _ h => h) (a_cons (e_var 3) (a_cons (e_var 4) a_nil)) (aCons_len (aCons_len aNil_len)))))) (b_one (d_ret e_bl)) b_nil)) (b_one (d_if (t_val (e_isiT z_isinstance (e_var 4) (pa_ty (T' := "int") z_int (by decide +kernel) (pa_ty (T' := "str") z_str (by decide +kernel) pa_nil)) (at_cons (at_cons at_nil)) (by decide) (by decide))) (b_one (d_if (w_or (t_val (e_isi z_isinstance (e_var 3) z_bool (by decide +kernel) (by decide))) (w_or (t_cmp (k_ne hu64) o_ne (e_isi z_isinstance (e_var 3) z_int (by decide +kernel) (by decide)) (e_isi z_isinstance (e_var 4) z_int (by decide +kernel) (by decide)) (nomark _)) (w_or1 (t_cmp (k_ne hu64) o_ne (e_var 3) (e_var 4) (nomark _))))).dt (b_one (d_ret e_bl)) b_nil)) (b_one (d_if (t_val (e_isi z_isinstance (e_var 4) z_dict (by decide +kernel) (by decide))) (b_cons d_never (b_cons d_never (b_one d_never))) (b_cons (d_set 5 sc__law_same.nd (e_frz (n_lst (a_cons (e_and (e_isi z_isinstance (e_var 3) z_tuple (by decide +kernel) (by decide)) (e_one (e_isi z_isinstance (e_var 4) z_tuple (by decide +kernel) (by decide)))) (a_cons (e_and (e_isi z_isinstance (e_var 3) z_list (by decide +kernel) (by decide)) (e_one (e_isi z_isinstance (e_var 4) z_list (by decide +kernel) (by decide)))) a_nil))))) (b_cons (d_if (w_or (t_cmp k_notIn o_inG e_bl (e_var 5) rfl) (w_or1 (t_cmp (k_ne hu64) o_ne (e_cb k_len o_len z_len (a_cons (e_var 3) a_nil)) (e_cb k_len o_len z_len (a_cons (e_var 4) a_nil)) (nomark _)))).dt (b_one (d_ret e_bl)) b_nil) (b_one (d_extN 2 fun _ => (n_lc (own := [("left", 7), ("right", 8)]) rfl sc__law_same.nd (i_zip z_zip (e_var 3) (e_var 4)) (blkOk_by (by kernel_rfl)) (fun _ _ _ _ _ _ => (g_tup rfl (gs_cons (g_name 7 sc__law_same.nd) (gs_cons (g_name 8 sc__law_same.nd) gs_nil)))) (fun _ _ _ _ _ _ => ts_nil) (fun _ _ _ _ _ _ => (e_tup (a_cons (e_var 7) (a_cons (e_var 8) a_nil)))) (by decide)))))))))))))) (b_one (d_ret e_bl))))⟩) (by decide)

abbrev s_is_whole : Stmt := topS 7
theorem sc_is_whole : FnScope ["value"] ["value"] (defScope s_is_whole) := ⟨rfl, rfl, rfl, by decide +kernel, rfl, by decide +kernel, by decide +kernel⟩
noncomputable def g_is_whole : Ss := (gRet (fAndV (fIsi ["int"] (fVar 0)) (fNotV (fIsi ["bool"] (fVar 0)))))
noncomputable def f_is_whole : Fsem := semOf 1 g_is_whole
theorem ok_is_whole {f : Addr} {fd : FuncData} (F : Fun K "is_whole" "is_whole" s_is_whole f fd) (z_bool : mg "bool" = none) (z_int : mg "int" = none) (z_isinstance : mg "isinstance" = none) : FnOk P w K mg base (L2.CX P w) 1 f fd ["value"] (spD K 1 f_is_whole) :=
  fnE g_is_whole 1 1 sc_is_whole rfl rfl F (fun cdv A outer s H E hr => ⟨_, fun Z => by
    have hu64 := hr.units
    unfold g_is_whole
    exact (b_one (d_ret (e_and (e_isi z_isinstance (e_var 0) z_int (by decide +kernel) (by decide)) (e_one (e_not (e_isi z_isinstance (e_var 0) z_bool (by decide +kernel) (by decide)))))))⟩) (by decide)

abbrev s_is_row : Stmt := topS 8
theorem sc_is_row : FnScope ["value", "entry"] ["value"] (defScope s_is_row) := ⟨rfl, rfl, rfl, by decide +kernel, rfl, by decide +kernel, by decide +kernel⟩
noncomputable def g_is_row : Ss := (gSeq (gIf (fOr (fNot (fBool (fIsi ["tuple"] (fVar 0)))) (fOr (fBool (fOp (dI fun i j => .bl (decide (j < i))) (fCB dLen (aCons (fVar 0) aNil)) (fC (.int 40)))) (fNot (fBool (fCB dAll (aCons (fFrz (fLcW (fItems (fVar 0)) (kName 1) fYes (fCall f_is_whole (aCons (fVar 1) aNil)) [1])) aNil)))))) (gRet (fC (.bl false))) gNext) (gRet (fOp dEq (fFrz (fCN dSorted (aCons (fVar 0) aNil))) (fFrz (fRg1 (fCB dLen (aCons (fVar 0) aNil)))))))
noncomputable def f_is_row : Fsem := semOf 2 g_is_row
theorem ok_is_row {f : Addr} {fd : FuncData} (F : Fun K "is_row" "is_row" s_is_row f fd) (C_is_whole : Cal P w K mg base "is_whole" 1 1 f_is_whole) {v_MOST_ENTRIES : V} (c_MOST_ENTRIES : Glo K mg "MOST_ENTRIES" v_MOST_ENTRIES (.int 40)) (z_all : mg "all" = none) (z_isinstance : mg "isinstance" = none) (z_len : mg "len" = none) (z_list : mg "list" = none) (z_range : mg "range" = none) (z_sorted : mg "sorted" = none) (z_tuple : mg "tuple" = none) : FnOk P w K mg base (L2.CX P w) 2 f fd ["value"] (spD K 1 f_is_row) :=
  fnE g_is_row 2 1 sc_is_row rfl rfl F (fun cdv A outer s H E hr => ⟨_, fun Z => by
    have hu64 := hr.units
    unfold g_is_row
    exact (b_cons (d_if (w_or (t_not (t_val (e_isi z_isinstance (e_var 0) z_tuple (by decide +kernel) (by decide)))) (w_or (t_cmp op_gt o_gt (e_cb k_len o_len z_len (a_cons (e_var 0) a_nil)) (e_gl c_MOST_ENTRIES) (nomark _)) (w_or1 (t_not (t_val (e_cb (k_all rfl) o_all z_all (a_cons (e_frz (n_lc (own := [("entry", 1)]) rfl sc_is_row.nd (i_seq (e_var 0)) (blkOk_by (by kernel_rfl)) (fun _ _ _ _ _ _ => (g_name 1 sc_is_row.nd)) (fun _ _ _ _ _ _ => ts_nil) (fun _ _ _ _ _ _ => (e_call C_is_whole hr (by decide) passL (a_cons (e_var 1) a_nil) (aCons_len aNil_len))) (by decide))) a_nil))))))).dt (b_one (d_ret e_bl)) b_nil) (b_one (d_ret (e_cmp (k_eq hu64) o_eq (e_frz (n_cb (k_sorted hu64) o_sorted z_sorted (a_cons (e_var 0) a_nil))) (e_frz (n_listRg1 rfl z_list z_range (e_cb k_len o_len z_len (a_cons (e_var 0) a_nil)))) (nomark _)))))⟩) (by decide)

abbrev s_need_row : Stmt := topS 9
theorem sc_need_row : FnScope ["row"] ["row"] (defScope s_need_row) := ⟨rfl, rfl, rfl, by decide +kernel, rfl, by decide +kernel, by decide +kernel⟩
noncomputable def g_need_row : Ss := (gIf (fNot (fBool (fCall f_is_row (aCons (fVar 0) aNil)))) (gRaise "BadRow") gNext)
noncomputable def f_need_row : Fsem := semOf 1 g_need_row
theorem ok_need_row {f : Addr} {fd : FuncData} (F : Fun K "need_row" "need_row" s_need_row f fd) (C_is_row : Cal P w K mg base "is_row" 2 1 f_is_row) {A_BadRow : Addr} (K_BadRow : ExcCl K mg "BadRow" A_BadRow) : FnOk P w K mg base (L2.CX P w) 3 f fd ["row"] (spD K 1 f_need_row) :=
  fnE g_need_row 1 1 sc_need_row rfl rfl F (fun cdv A outer s H E hr => ⟨_, fun Z => by
    have hu64 := hr.units
    unfold g_need_row
    exact (b_one (d_if (t_not (t_val (e_call C_is_row hr (by decide) (passes_call (takes_of rfl rfl rfl rfl) fun _ _ _ _ h => h) (a_cons (e_var 0) a_nil) (aCons_len aNil_len)))) (b_one (d_raise K_BadRow (takes_of rfl rfl rfl rfl))) b_nil))⟩) (by decide)

abbrev s_back : Stmt := topS 10
theorem sc_back : FnScope ["row"] ["row"] (defScope s_back) := ⟨rfl, rfl, rfl, by decide +kernel, rfl, by decide +kernel, by decide +kernel⟩
noncomputable def g_back : Ss := (gRet (fUn dTupRev (fVar 0)))
noncomputable def f_back : Fsem := semOf 1 g_back
theorem ok_back {f : Addr} {fd : FuncData} (F : Fun K "back" "back" s_back f fd) (z_reversed : mg "reversed" = none) (z_tuple : mg "tuple" = none) : FnOk P w K mg base (L2.CX P w) 1 f fd ["row"] (spD K 1 f_back) :=
  fnE g_back 1 1 sc_back rfl rfl F (fun cdv A outer s H E hr => ⟨_, fun Z => by
    have hu64 := hr.units
    unfold g_back
    exact (b_one (d_ret (e_tupRev rfl z_tuple z_reversed (e_var 0))))⟩) (by decide)

abbrev s_turned : Stmt := topS 11
theorem sc_turned : FnScope ["row"] ["row"] (defScope s_turned) := ⟨rfl, rfl, rfl, by decide +kernel, rfl, by decide +kernel, by decide +kernel⟩
noncomputable def g_turned : Ss := (gSeq (gDrop (fCall f_need_row (aCons (fVar 0) aNil))) (gRet (fCall f_back (aCons (fVar 0) aNil))))
noncomputable def f_turned : Fsem := semOf 1 g_turned
theorem ok_turned {f : Addr} {fd : FuncData} (F : Fun K "turned" "turned" s_turned f fd) (C_need_row : Cal P w K mg base "need_row" 3 1 f_need_row) (C_back : Cal P w K mg base "back" 1 1 f_back) : FnOk P w K mg base (L2.CX P w) 4 f fd ["row"] (spD K 1 f_turned) :=
  fnE g_turned 1 1 sc_turned rfl rfl F (fun cdv A outer s H E hr => ⟨_, fun Z => by
    have hu64 := hr.units
    unfold g_turned
    exact (b_cons (d_drop (e_call C_need_row hr (by decide) (passes_call (takes_of rfl rfl rfl rfl) fun _ _ _ _ h => h) (a_cons (e_var 0) a_nil) (aCons_len aNil_len))) (b_one (d_ret (e_call C_back hr (by decide) (passes_call (takes_of rfl rfl rfl rfl) fun _ _ _ _ h => h) (a_cons (e_var 0) a_nil) (aCons_len aNil_len)))))⟩) (by decide)

abbrev s_flipped : Stmt := topS 12
theorem sc_flipped : FnScope ["row", "entry"] ["row"] (defScope s_flipped) := ⟨rfl, rfl, rfl, by decide +kernel, rfl, by decide +kernel, by decide +kernel⟩
noncomputable def g_flipped : Ss := (gRet (fUn dTupOf (fFrz (fLcW (fItems (fVar 0)) (kName 1) fYes (fOp (dI fun i j => .int (i - j)) (fOp (dI fun i j => .int (i - j)) (fCB dLen (aCons (fVar 0) aNil)) (fC (.int 1))) (fVar 1)) [1]))))
noncomputable def f_flipped : Fsem := semOf 2 g_flipped
theorem ok_flipped {f : Addr} {fd : FuncData} (F : Fun K "flipped" "flipped" s_flipped f fd) (z_len : mg "len" = none) (z_tuple : mg "tuple" = none) : FnOk P w K mg base (L2.CX P w) 1 f fd ["row"] (spD K 1 f_flipped) :=
  fnE g_flipped 2 1 sc_flipped rfl rfl F (fun cdv A outer s H E hr => ⟨_, fun Z => by
    have hu64 := hr.units
    unfold g_flipped
    exact (b_one (d_ret (e_tupleOf z_tuple (e_frz (n_lc (own := [("entry", 1)]) rfl sc_flipped.nd (i_seq (e_var 0)) (blkOk_by (by kernel_rfl)) (fun _ _ _ _ _ _ => (g_name 1 sc_flipped.nd)) (fun _ _ _ _ _ _ => ts_nil) (fun _ _ _ _ _ _ => (e_op op_sub o_sub (e_op op_sub o_sub (e_cb k_len o_len z_len (a_cons (e_var 0) a_nil)) e_int) (e_var 1))) (by decide))))))⟩) (by decide)

abbrev s_upside : Stmt := topS 13
theorem sc_upside : FnScope ["row"] ["row"] (defScope s_upside) := ⟨rfl, rfl, rfl, by decide +kernel, rfl, by decide +kernel, by decide +kernel⟩
noncomputable def g_upside : Ss := (gSeq (gDrop (fCall f_need_row (aCons (fVar 0) aNil))) (gRet (fCall f_flipped (aCons (fVar 0) aNil))))
noncomputable def f_upside : Fsem := semOf 1 g_upside
theorem ok_upside {f : Addr} {fd : FuncData} (F : Fun K "upside" "upside" s_upside f fd) (C_need_row : Cal P w K mg base "need_row" 3 1 f_need_row) (C_flipped : Cal P w K mg base "flipped" 1 1 f_flipped) : FnOk P w K mg base (L2.CX P w) 4 f fd ["row"] (spD K 1 f_upside) :=
  fnE g_upside 1 1 sc_upside rfl rfl F (fun cdv A outer s H E hr => ⟨_, fun Z => by
    have hu64 := hr.units
    unfold g_upside
    exact (b_cons (d_drop (e_call C_need_row hr (by decide) (passes_call (takes_of rfl rfl rfl rfl) fun _ _ _ _ h => h) (a_cons (e_var 0) a_nil) (aCons_len aNil_len))) (b_one (d_ret (e_call C_flipped hr (by decide) (passes_call (takes_of rfl rfl rfl rfl) fun _ _ _ _ h => h) (a_cons (e_var 0) a_nil) (aCons_len aNil_len)))))⟩) (by decide)

abbrev s_inverse : Stmt := topS 14
theorem sc_inverse : FnScope ["row", "found", "place", "entry"] ["row"] (defScope s_inverse) := ⟨rfl, rfl, rfl, by decide +kernel, rfl, by decide +kernel, by decide +kernel⟩
noncomputable def b_inverse_1 : Ss := (gPutL 1 (fVar 3) (fVar 2))
theorem u_b_inverse_1 (ρ : List EV) (w : DS) : b_inverse_1 ρ w = (gPutL 1 (fVar 3) (fVar 2)) ρ w := rfl
noncomputable def g_inverse : Ss := (gSeq (gSetN 1 (fRep (fLst (aCons (fC (.int 0)) aNil)) (fCB dLen (aCons (fVar 0) aNil)))) (gSeq (gFor (fEnum (fVar 0)) (kTup 2 (kCons (kName 2) (kCons (kName 3) kNil))) b_inverse_1) (gFrz 1 (gRet (fUn dTupOf (fVar 1))))))
noncomputable def f_inverse : Fsem := semOf 4 g_inverse
theorem ok_inverse {f : Addr} {fd : FuncData} (F : Fun K "inverse" "inverse" s_inverse f fd) (z_enumerate : mg "enumerate" = none) (z_len : mg "len" = none) (z_tuple : mg "tuple" = none) : FnOk P w K mg base (L2.CX P w) 1 f fd ["row"] (spD K 1 f_inverse) :=
  fnE g_inverse 4 1 sc_inverse rfl rfl F (fun cdv A outer s H E hr => ⟨_, fun Z => by
    have hu64 := hr.units
    unfold g_inverse b_inverse_1
    exact (b_cons (d_setN 1 sc_inverse.nd (n_rep (n_lst (a_cons e_int a_nil)) (e_cb k_len o_len z_len (a_cons (e_var 0) a_nil)))) (b_cons (d_for (passes_of rfl) rfl (i_enum z_enumerate (e_var 0)) (g_tup rfl (gs_cons (g_name 2 sc_inverse.nd) (gs_cons (g_name 3 sc_inverse.nd) gs_nil))) (b_one (d_putL 1 (e_var 3) (e_var 2)))) (b_one (d_frz 1 (d_ret (e_tupleOf z_tuple (e_var 1)))))))⟩) (by decide)

abbrev s_swapped : Stmt := topS 15
theorem sc_swapped : FnScope ["row"] ["row"] (defScope s_swapped) := ⟨rfl, rfl, rfl, by decide +kernel, rfl, by decide +kernel, by decide +kernel⟩
noncomputable def g_swapped : Ss := (gSeq (gDrop (fCall f_need_row (aCons (fVar 0) aNil))) (gRet (fCall f_inverse (aCons (fVar 0) aNil))))
noncomputable def f_swapped : Fsem := semOf 1 g_swapped
theorem ok_swapped {f : Addr} {fd : FuncData} (F : Fun K "swapped" "swapped" s_swapped f fd) (C_need_row : Cal P w K mg base "need_row" 3 1 f_need_row) (C_inverse : Cal P w K mg base "inverse" 1 1 f_inverse) : FnOk P w K mg base (L2.CX P w) 4 f fd ["row"] (spD K 1 f_swapped) :=
  fnE g_swapped 1 1 sc_swapped rfl rfl F (fun cdv A outer s H E hr => ⟨_, fun Z => by
    have hu64 := hr.units
    unfold g_swapped
    exact (b_cons (d_drop (e_call C_need_row hr (by decide) (passes_call (takes_of rfl rfl rfl rfl) fun _ _ _ _ h => h) (a_cons (e_var 0) a_nil) (aCons_len aNil_len))) (b_one (d_ret (e_call C_inverse hr (by decide) (passes_call (takes_of rfl rfl rfl rfl) fun _ _ _ _ h => h) (a_cons (e_var 0) a_nil) (aCons_len aNil_len)))))⟩) (by decide)

abbrev s_need_room : Stmt := topS 18
theorem sc_need_room : FnScope ["many"] ["many"] (defScope s_need_room) := ⟨rfl, rfl, rfl, by decide +kernel, rfl, by decide +kernel, by decide +kernel⟩
noncomputable def g_need_room : Ss := (gIf (fBool (fOp (dI fun i j => .bl (decide (j < i))) (fVar 0) (fC (.int 40)))) (gRaiseI "TooMany" "most" (fC (.int 40))) gNext)
noncomputable def f_need_room : Fsem := semOf 1 g_need_room
theorem ok_need_room {f : Addr} {fd : FuncData} (F : Fun K "need_room" "need_room" s_need_room f fd) {v_MOST_ENTRIES : V} (c_MOST_ENTRIES : Glo K mg "MOST_ENTRIES" v_MOST_ENTRIES (.int 40)) {A_TooMany : Addr} {f_TooMany : Addr} (O_TooMany : OwnTxt P K mg "TooMany" "most" A_TooMany f_TooMany) (W_most : WOk "most") : FnOk P w K mg base (L2.CX P w) 1 f fd ["many"] (spD K 1 f_need_room) :=
  fnE g_need_room 1 1 sc_need_room rfl rfl F (fun cdv A outer s H E hr => ⟨_, fun Z => by
    have hu64 := hr.units
    unfold g_need_room
    exact (b_one (d_if (t_cmp op_gt o_gt (e_var 0) (e_gl c_MOST_ENTRIES) (nomark _)) (b_one (d_raiseI O_TooMany W_most hr (e_gl c_MOST_ENTRIES) (takes_of rfl rfl rfl rfl))) b_nil))⟩) (by decide)

abbrev s_skew_of : Stmt := topS 17
theorem sc_skew_of : FnScope ["one", "other", "entry"] ["one", "other"] (defScope s_skew_of) := ⟨rfl, rfl, rfl, by decide +kernel, rfl, by decide +kernel, by decide +kernel⟩
noncomputable def g_skew_of : Ss := (gRet (fOp dAdd (fUn dTupOf (fFrz (fLcW (fItems (fVar 0)) (kName 2) fYes (fOp dAdd (fVar 2) (fCB dLen (aCons (fVar 1) aNil))) [2]))) (fVar 1)))
noncomputable def f_skew_of : Fsem := semOf 3 g_skew_of
theorem ok_skew_of {f : Addr} {fd : FuncData} (F : Fun K "skew_of" "skew_of" s_skew_of f fd) (z_len : mg "len" = none) (z_tuple : mg "tuple" = none) : FnOk P w K mg base (L2.CX P w) 1 f fd ["one", "other"] (spD K 2 f_skew_of) :=
  fnE g_skew_of 3 2 sc_skew_of rfl rfl F (fun cdv A outer s H E hr => ⟨_, fun Z => by
    have hu64 := hr.units
    unfold g_skew_of
    exact (b_one (d_ret (e_op op_addA o_add (e_tupleOf z_tuple (e_frz (n_lc (own := [("entry", 2)]) rfl sc_skew_of.nd (i_seq (e_var 0)) (blkOk_by (by kernel_rfl)) (fun _ _ _ _ _ _ => (g_name 2 sc_skew_of.nd)) (fun _ _ _ _ _ _ => ts_nil) (fun _ _ _ _ _ _ => (e_op op_addA o_add (e_var 2) (e_cb k_len o_len z_len (a_cons (e_var 1) a_nil)))) (by decide)))) (e_var 1))))⟩) (by decide)

abbrev s_under : Stmt := topS 20
theorem sc_under : FnScope ["one", "other"] ["one", "other"] (defScope s_under) := ⟨rfl, rfl, rfl, by decide +kernel, rfl, by decide +kernel, by decide +kernel⟩
noncomputable def g_under : Ss := (gSeq (gDrop (fCall f_need_row (aCons (fVar 0) aNil))) (gSeq (gDrop (fCall f_need_row (aCons (fVar 1) aNil))) (gSeq (gDrop (fCall f_need_room (aCons (fOp dAdd (fCB dLen (aCons (fVar 0) aNil)) (fCB dLen (aCons (fVar 1) aNil))) aNil))) (gRet (fCall f_skew_of (aCons (fVar 0) (aCons (fVar 1) aNil)))))))
noncomputable def f_under : Fsem := semOf 2 g_under
theorem ok_under {f : Addr} {fd : FuncData} (F : Fun K "under" "under" s_under f fd) (C_need_row : Cal P w K mg base "need_row" 3 1 f_need_row) (C_need_room : Cal P w K mg base "need_room" 1 1 f_need_room) (C_skew_of : Cal P w K mg base "skew_of" 1 2 f_skew_of) (z_len : mg "len" = none) : FnOk P w K mg base (L2.CX P w) 4 f fd ["one", "other"] (spD K 2 f_under) :=
  fnE g_under 2 2 sc_under rfl rfl F (fun cdv A outer s H E hr => ⟨_, fun Z => by
    have hu64 := hr.units
    unfold g_under
    exact (b_cons (d_drop (e_call C_need_row hr (by decide) (passes_call (takes_of rfl rfl rfl rfl) fun _ _ _ _ h => h) (a_cons (e_var 0) a_nil) (aCons_len aNil_len))) (b_cons (d_drop (e_call C_need_row hr (by decide) (passes_call (takes_of rfl rfl rfl rfl) fun _ _ _ _ h => h) (a_cons (e_var 1) a_nil) (aCons_len aNil_len))) (b_cons (d_drop (e_call C_need_room hr (by decide) (passes_call (takes_of rfl rfl rfl rfl) fun _ _ _ _ h => h) (a_cons (e_op op_addA o_add (e_cb k_len o_len z_len (a_cons (e_var 0) a_nil)) (e_cb k_len o_len z_len (a_cons (e_var 1) a_nil))) a_nil) (aCons_len aNil_len))) (b_one (d_ret (e_call C_skew_of hr (by decide) (passes_call (takes_of rfl rfl rfl rfl) fun _ _ _ _ h => h) (a_cons (e_var 0) (a_cons (e_var 1) a_nil)) (aCons_len (aCons_len aNil_len))))))))⟩) (by decide)

abbrev s_sum_of : Stmt := topS 16
theorem sc_sum_of : FnScope ["one", "other", "entry"] ["one", "other"] (defScope s_sum_of) := ⟨rfl, rfl, rfl, by decide +kernel, rfl, by decide +kernel, by decide +kernel⟩
noncomputable def g_sum_of : Ss := (gRet (fOp dAdd (fVar 0) (fUn dTupOf (fFrz (fLcW (fItems (fVar 1)) (kName 2) fYes (fOp dAdd (fVar 2) (fCB dLen (aCons (fVar 0) aNil))) [2])))))
noncomputable def f_sum_of : Fsem := semOf 3 g_sum_of
theorem ok_sum_of {f : Addr} {fd : FuncData} (F : Fun K "sum_of" "sum_of" s_sum_of f fd) (z_len : mg "len" = none) (z_tuple : mg "tuple" = none) : FnOk P w K mg base (L2.CX P w) 1 f fd ["one", "other"] (spD K 2 f_sum_of) :=
  fnE g_sum_of 3 2 sc_sum_of rfl rfl F (fun cdv A outer s H E hr => ⟨_, fun Z => by
    have hu64 := hr.units
    unfold g_sum_of
    exact (b_one (d_ret (e_op op_addA o_add (e_var 0) (e_tupleOf z_tuple (e_frz (n_lc (own := [("entry", 2)]) rfl sc_sum_of.nd (i_seq (e_var 1)) (blkOk_by (by kernel_rfl)) (fun _ _ _ _ _ _ => (g_name 2 sc_sum_of.nd)) (fun _ _ _ _ _ _ => ts_nil) (fun _ _ _ _ _ _ => (e_op op_addA o_add (e_var 2) (e_cb k_len o_len z_len (a_cons (e_var 0) a_nil)))) (by decide)))))))⟩) (by decide)

abbrev s_beside : Stmt := topS 19
theorem sc_beside : FnScope ["one", "other"] ["one", "other"] (defScope s_beside) := ⟨rfl, rfl, rfl, by decide +kernel, rfl, by decide +kernel, by decide +kernel⟩
noncomputable def g_beside : Ss := (gSeq (gDrop (fCall f_need_row (aCons (fVar 0) aNil))) (gSeq (gDrop (fCall f_need_row (aCons (fVar 1) aNil))) (gSeq (gDrop (fCall f_need_room (aCons (fOp dAdd (fCB dLen (aCons (fVar 0) aNil)) (fCB dLen (aCons (fVar 1) aNil))) aNil))) (gRet (fCall f_sum_of (aCons (fVar 0) (aCons (fVar 1) aNil)))))))
noncomputable def f_beside : Fsem := semOf 2 g_beside
theorem ok_beside {f : Addr} {fd : FuncData} (F : Fun K "beside" "beside" s_beside f fd) (C_need_row : Cal P w K mg base "need_row" 3 1 f_need_row) (C_need_room : Cal P w K mg base "need_room" 1 1 f_need_room) (C_sum_of : Cal P w K mg base "sum_of" 1 2 f_sum_of) (z_len : mg "len" = none) : FnOk P w K mg base (L2.CX P w) 4 f fd ["one", "other"] (spD K 2 f_beside) :=
  fnE g_beside 2 2 sc_beside rfl rfl F (fun cdv A outer s H E hr => ⟨_, fun Z => by
    have hu64 := hr.units
    unfold g_beside
    exact (b_cons (d_drop (e_call C_need_row hr (by decide) (passes_call (takes_of rfl rfl rfl rfl) fun _ _ _ _ h => h) (a_cons (e_var 0) a_nil) (aCons_len aNil_len))) (b_cons (d_drop (e_call C_need_row hr (by decide) (passes_call (takes_of rfl rfl rfl rfl) fun _ _ _ _ h => h) (a_cons (e_var 1) a_nil) (aCons_len aNil_len))) (b_cons (d_drop (e_call C_need_room hr (by decide) (passes_call (takes_of rfl rfl rfl rfl) fun _ _ _ _ h => h) (a_cons (e_op op_addA o_add (e_cb k_len o_len z_len (a_cons (e_var 0) a_nil)) (e_cb k_len o_len z_len (a_cons (e_var 1) a_nil))) a_nil) (aCons_len aNil_len))) (b_one (d_ret (e_call C_sum_of hr (by decide) (passes_call (takes_of rfl rfl rfl rfl) fun _ _ _ _ h => h) (a_cons (e_var 0) (a_cons (e_var 1) a_nil)) (aCons_len (aCons_len aNil_len))))))))⟩) (by decide)

abbrev s_blown_up : Stmt := topS 21
theorem sc_blown_up : FnScope ["row", "parts", "firsts", "count", "place", "found", "own", "entry"] ["row", "parts"] (defScope s_blown_up) := ⟨rfl, rfl, rfl, by decide +kernel, rfl, by decide +kernel, by decide +kernel⟩
noncomputable def b_blown_up_1 : Ss := (gSeq (gPutD 2 (fVar 4) (fVar 3)) (gSet 3 (fOp dAdd (fVar 3) (fCB dLen (aCons (fOp dSubI (fVar 1) (fVar 4)) aNil)))))
theorem u_b_blown_up_1 (ρ : List EV) (w : DS) : b_blown_up_1 ρ w = (gSeq (gPutD 2 (fVar 4) (fVar 3)) (gSet 3 (fOp dAdd (fVar 3) (fCB dLen (aCons (fOp dSubI (fVar 1) (fVar 4)) aNil))))) ρ w := rfl
noncomputable def b_blown_up_2 : Ss := (gExtN 5 (fLcW (fItems (fVar 6)) (kName 7) fYes (fOp dAdd (fVar 7) (fOp dSubI (fVar 2) (fVar 4))) [7]))
theorem u_b_blown_up_2 (ρ : List EV) (w : DS) : b_blown_up_2 ρ w = (gExtN 5 (fLcW (fItems (fVar 6)) (kName 7) fYes (fOp dAdd (fVar 7) (fOp dSubI (fVar 2) (fVar 4))) [7])) ρ w := rfl
noncomputable def g_blown_up : Ss := (gSeq (gPar [2, 3] (aNewD (aCons (fC (.int 0)) aNil))) (gSeq (gFor (fItems (fCall f_inverse (aCons (fVar 0) aNil))) (kName 4) b_blown_up_1) (gSeq (gSetN 5 (fLst aNil)) (gSeq (gFrz 2 (gFor (fEnum (fVar 1)) (kTup 2 (kCons (kName 4) (kCons (kName 6) kNil))) b_blown_up_2)) (gFrz 5 (gRet (fUn dTupOf (fVar 5))))))))
noncomputable def f_blown_up : Fsem := semOf 8 g_blown_up
theorem ok_blown_up {f : Addr} {fd : FuncData} (F : Fun K "blown_up" "blown_up" s_blown_up f fd) (C_inverse : Cal P w K mg base "inverse" 1 1 f_inverse) (z_enumerate : mg "enumerate" = none) (z_len : mg "len" = none) (z_tuple : mg "tuple" = none) : FnOk P w K mg base (L2.CX P w) 2 f fd ["row", "parts"] (spD K 2 f_blown_up) :=
  fnE g_blown_up 8 2 sc_blown_up rfl rfl F (fun cdv A outer s H E hr => ⟨_, fun Z => by
    have hu64 := hr.units
    unfold g_blown_up b_blown_up_2 b_blown_up_1
    exact (b_cons (d_parC2 2 3 rfl sc_blown_up.nd (m_newD fun _ => (m_dat e_int m_nil))) (b_cons (d_for (passes_of rfl) rfl (i_seq (e_call C_inverse hr (by decide) (passes_call (takes_of rfl rfl rfl rfl) fun _ _ _ _ h => h) (a_cons (e_var 0) a_nil) (aCons_len aNil_len))) (g_name 4 sc_blown_up.nd) (b_cons (d_putD 2 (hu_of hr) (e_var 4) (e_var 3)) (b_one (d_set 3 sc_blown_up.nd (e_op op_addA o_add (e_var 3) (e_cb k_len o_len z_len (a_cons (e_sub hr (e_var 1) (e_var 4)) a_nil))))))) (b_cons (d_setN 5 sc_blown_up.nd (n_lst a_nil)) (b_cons (d_frz 2 (d_for (passes_of rfl) rfl (i_enum z_enumerate (e_var 1)) (g_tup rfl (gs_cons (g_name 4 sc_blown_up.nd) (gs_cons (g_name 6 sc_blown_up.nd) gs_nil))) (b_one (d_extN 5 fun _ => (n_lc (own := [("entry", 7)]) rfl sc_blown_up.nd (i_seq (e_var 6)) (blkOk_by (by kernel_rfl)) (fun _ _ _ _ _ _ => (g_name 7 sc_blown_up.nd)) (fun _ _ _ _ _ _ => ts_nil) (fun _ _ _ _ _ _ => (e_op op_addA o_add (e_var 7) (e_sub hr (e_var 2) (e_var 4)))) (by decide)))))) (b_one (d_frz 5 (d_ret (e_tupleOf z_tuple (e_var 5)))))))))⟩) (by decide)

abbrev s_blown : Stmt := topS 22
theorem sc_blown : FnScope ["row", "parts", "own"] ["row", "parts"] (defScope s_blown) := ⟨rfl, rfl, rfl, by decide +kernel, rfl, by decide +kernel, by decide +kernel⟩
noncomputable def g_blown : Ss := (gSeq (gDrop (fCall f_need_row (aCons (fVar 0) aNil))) (gSeq (gIf (fOr (fNot (fBool (fIsi ["tuple"] (fVar 1)))) (fOr (fBool (fOp dNe (fCB dLen (aCons (fVar 1) aNil)) (fCB dLen (aCons (fVar 0) aNil)))) (fNot (fBool (fCB dAll (aCons (fFrz (fLcW (fItems (fVar 1)) (kName 2) fYes (fAndV (fCall f_is_row (aCons (fVar 2) aNil)) (fOp dNe (fVar 2) (fTup aNil))) [2])) aNil)))))) (gRaise "BadParts") gNext) (gSeq (gDrop (fCall f_need_room (aCons (fCB dSum (aCons (fFrz (fLcW (fItems (fVar 1)) (kName 2) fYes (fCB dLen (aCons (fVar 2) aNil)) [2])) aNil)) aNil))) (gRet (fCall f_blown_up (aCons (fVar 0) (aCons (fVar 1) aNil)))))))
noncomputable def f_blown : Fsem := semOf 3 g_blown
theorem ok_blown {f : Addr} {fd : FuncData} (F : Fun K "blown" "blown" s_blown f fd) (C_need_row : Cal P w K mg base "need_row" 3 1 f_need_row) (C_is_row : Cal P w K mg base "is_row" 2 1 f_is_row) (C_need_room : Cal P w K mg base "need_room" 1 1 f_need_room) (C_blown_up : Cal P w K mg base "blown_up" 2 2 f_blown_up) (z_all : mg "all" = none) (z_isinstance : mg "isinstance" = none) (z_len : mg "len" = none) (z_sum : mg "sum" = none) (z_tuple : mg "tuple" = none) {A_BadParts : Addr} (K_BadParts : ExcCl K mg "BadParts" A_BadParts) : FnOk P w K mg base (L2.CX P w) 4 f fd ["row", "parts"] (spD K 2 f_blown) :=
  fnE g_blown 3 2 sc_blown rfl rfl F (fun cdv A outer s H E hr => ⟨_, fun Z => by
    have hu64 := hr.units
    unfold g_blown
    exact (b_cons (d_drop (e_call C_need_row hr (by decide) (passes_call (takes_of rfl rfl rfl rfl) fun _ _ _ _ h => h) (a_cons (e_var 0) a_nil) (aCons_len aNil_len))) (b_cons (d_if (w_or (t_not (t_val (e_isi z_isinstance (e_var 1) z_tuple (by decide +kernel) (by decide)))) (w_or (t_cmp (k_ne hu64) o_ne (e_cb k_len o_len z_len (a_cons (e_var 1) a_nil)) (e_cb k_len o_len z_len (a_cons (e_var 0) a_nil)) (nomark _)) (w_or1 (t_not (t_val (e_cb (k_all rfl) o_all z_all (a_cons (e_frz (n_lc (own := [("own", 2)]) rfl sc_blown.nd (i_seq (e_var 1)) (blkOk_by (by kernel_rfl)) (fun _ _ _ _ _ _ => (g_name 2 sc_blown.nd)) (fun _ _ _ _ _ _ => ts_nil) (fun _ _ _ _ _ _ => (e_and (e_call C_is_row hr (by decide) passL (a_cons (e_var 2) a_nil) (aCons_len aNil_len)) (e_one (e_cmp (k_ne hu64) o_ne (e_var 2) (e_tup a_nil) (nomark _))))) (by decide))) a_nil))))))).dt (b_one (d_raise K_BadParts (takes_of rfl rfl rfl rfl))) b_nil) (b_cons (d_drop (e_call C_need_room hr (by decide) (passes_call (takes_of rfl rfl rfl rfl) fun _ _ _ _ h => h) (a_cons (e_cb (k_sum rfl) o_sum z_sum (a_cons (e_frz (n_lc (own := [("own", 2)]) rfl sc_blown.nd (i_seq (e_var 1)) (blkOk_by (by kernel_rfl)) (fun _ _ _ _ _ _ => (g_name 2 sc_blown.nd)) (fun _ _ _ _ _ _ => ts_nil) (fun _ _ _ _ _ _ => (e_cb k_len o_len z_len (a_cons (e_var 2) a_nil))) (by decide))) a_nil)) a_nil) (aCons_len aNil_len))) (b_one (d_ret (e_call C_blown_up hr (by decide) (passes_call (takes_of rfl rfl rfl rfl) fun _ _ _ _ h => h) (a_cons (e_var 0) (a_cons (e_var 1) a_nil)) (aCons_len (aCons_len aNil_len))))))))⟩) (by decide)

abbrev s__law_odd : Stmt := topS 40
theorem sc__law_odd : FnScope ["draws", "some"] ["draws"] (defScope s__law_odd) := ⟨rfl, rfl, rfl, by decide +kernel, rfl, by decide +kernel, by decide +kernel⟩
noncomputable def g__law_odd : Ss := (gSeq (gSet 1 (fFrz (fLst (aCons (fC .non) (aCons (fC (.bl true)) (aCons (fC (.int 5)) (aCons (fC (.str "")) (aCons (fC (.str "01")) (aCons (fFrz (fLst aNil)) (aCons (fFrz (fLst (aCons (fC (.int 0)) aNil))) (aCons (fC (.dct [])) (aCons (fTup (aCons (fC (.int 1)) aNil)) (aCons (fTup (aCons (fC (.int 0)) (aCons (fC (.int 0)) aNil))) (aCons (fTup (aCons (fC (.int 0)) (aCons (fC (.int 2)) aNil))) (aCons (fTup (aCons (fUn dNeg (fC (.int 1))) (aCons (fC (.int 0)) aNil))) (aCons (fTup (aCons (fC (.int 0)) (aCons (fC (.bl true)) aNil))) (aCons (fTup (aCons (fC (.int 0)) (aCons (fC (.str "1")) aNil))) (aCons (fTup (aCons (fTup (aCons (fC (.int 0)) aNil)) aNil)) (aCons (fTup (aCons (fC (.int 0)) (aCons (fC .non) aNil))) (aCons (fTup (aCons (fC (.int 1)) (aCons (fC (.int 2)) (aCons (fC (.int 3)) aNil)))) aNil)))))))))))))))))))) (gRet (fCall f__law_pick (aDrw 0 (aCons (fFrz (fCatE (fVar 1) (fFrz (fLst (aCons (fTup (aCons (fC (.int 0)) (aCons (fC (.int 1)) (aCons (fC (.int 1)) aNil)))) (aCons (fun ρ w => (fRg1 (fC (.int 41)) ρ w).bind fun ds w => .ok (.tup ds) w) (aCons (fFrz (fLst (aCons (fC (.int 1)) (aCons (fC (.int 0)) aNil)))) (aCons (fTup (aCons (fC (.int 2)) (aCons (fC (.int 0)) aNil))) aNil)))))))) aNil)))))
noncomputable def f__law_odd : Fsem := semOf 2 g__law_odd
theorem ok__law_odd {f : Addr} {fd : FuncData} (F : Fun K "_law_odd" "_law_odd" s__law_odd f fd) (C__law_pick : Cal P w K mg base "_law_pick" 3 2 f__law_pick) (z_range : mg "range" = none) (z_tuple : mg "tuple" = none) : FnOk P w K mg base (L2.CX P w) 4 f fd ["draws"] (spD K 1 f__law_odd) :=
  fnE g__law_odd 2 1 sc__law_odd rfl rfl F (fun cdv A outer s H E hr => ⟨_, fun Z => by
    have hu64 := hr.units
    unfold g__law_odd
    exact (b_cons (d_set 1 sc__law_odd.nd (e_frz (n_lst (a_cons e_non (a_cons e_bl (a_cons e_int (a_cons e_str (a_cons e_str (a_cons (e_frz (n_lst a_nil)) (a_cons (e_frz (n_lst (a_cons e_int a_nil))) (a_cons e_disp0 (a_cons (e_tup (a_cons e_int a_nil)) (a_cons (e_tup (a_cons e_int (a_cons e_int a_nil))) (a_cons (e_tup (a_cons e_int (a_cons e_int a_nil))) (a_cons (e_tup (a_cons (e_un un_neg u_negD e_int) (a_cons e_int a_nil))) (a_cons (e_tup (a_cons e_int (a_cons e_bl a_nil))) (a_cons (e_tup (a_cons e_int (a_cons e_str a_nil))) (a_cons (e_tup (a_cons (e_tup (a_cons e_int a_nil)) a_nil)) (a_cons (e_tup (a_cons e_int (a_cons e_non a_nil))) (a_cons (e_tup (a_cons e_int (a_cons e_int (a_cons e_int a_nil)))) a_nil)))))))))))))))))))) (b_one (d_ret (e_call C__law_pick hr (by decide) (passes_call (takes_of rfl rfl rfl rfl) fun _ _ _ _ h => h) (a_drw 0 (a_cons (e_frz (n_catE (e_var 1) (e_frz (n_lst (a_cons (e_tup (a_cons e_int (a_cons e_int (a_cons e_int a_nil)))) (a_cons (e_tupRg1 rfl z_tuple z_range e_int) (a_cons (e_frz (n_lst (a_cons e_int (a_cons e_int a_nil)))) (a_cons (e_tup (a_cons e_int (a_cons e_int a_nil))) a_nil)))))))) a_nil)) (aDrw_len (aCons_len aNil_len))))))⟩) (by decide)

abbrev s__law_caught : Stmt := topS 29
theorem sc__law_caught : FnScope ["action", "found", "error"] ["action"] (defScope s__law_caught) := ⟨rfl, rfl, rfl, by decide +kernel, rfl, by decide +kernel, by decide +kernel⟩
noncomputable def g__law_caught : Ss := (gSeq (gSet 1 (fC .non)) (gSeq (gKeep 0 2 1 okKeep) (gRet (fVar 1))))
noncomputable def f__law_caught : Fsem := semOf 3 g__law_caught
theorem ok__law_caught {f : Addr} {fd : FuncData} (F : Fun K "_law_caught" "_law_caught" s__law_caught f fd) {A_RowError : Addr} (T_RowError : mg "RowError" = some (.ref A_RowError)) (H_RowError : KeepTab K (.ref A_RowError) okKeep) : FnOkC P w K mg base 5 6 f fd ["action"] 1 f__law_caught :=
  fnC 5 g__law_caught 3 1 sc__law_caught rfl rfl F (fun cdv A outer s H E hr => ⟨_, fun Z hZ => by
    have hu64 := hr.units
    unfold g__law_caught
    exact (b_cons (d_set 1 sc__law_caught.nd e_non) (b_cons (d_keep 0 2 1 hZ H_RowError hr (by decide) ⟨rfl, rfl, .inl T_RowError⟩ sc__law_caught.nd (by decide) (hin := (show 2 < 3 by decide))) (b_one (d_ret (e_var 1)))))⟩) (by decide)

abbrev s__law_is_refused : Stmt := topS 41
theorem sc__law_is_refused : FnScope ["ask", "due", "error", "kinds", "place"] ["ask", "due"] (defScope s__law_is_refused) := ⟨rfl, rfl, rfl, by decide +kernel, rfl, by decide +kernel, by decide +kernel⟩
noncomputable def g__law_is_refused : Ss := (gSeq (gSet 2 (fCall f__law_caught (aFn 0 aNil))) (gSeq (gSet 3 (fFrz (fLst (aCons (fIsXF sub_BadRow (fVar 2)) (aCons (fIsXF sub_BadParts (fVar 2)) (aCons (fAndV (fIsXF sub_TooMany (fVar 2)) (fOp dEq (fFld ok_most "most" (fVar 2)) (fC (.int 40)))) aNil)))))) (gRet (fOp dEq (fFrz (fLcW (fIr1 (fC (.int 3))) (kName 4) (fBool (fOp dSubI (fVar 3) (fVar 4))) (fVar 4) [4])) (fFrz (fLst (aCons (fVar 1) aNil)))))))
noncomputable def f__law_is_refused : Fsem := semOf 5 g__law_is_refused
theorem ok__law_is_refused {f : Addr} {fd : FuncData} (F : Fun K "_law_is_refused" "_law_is_refused" s__law_is_refused f fd) (C__law_caught : CalC P w K mg base 5 "_law_caught" 6 1 f__law_caught) (z_isinstance : mg "isinstance" = none) (z_range : mg "range" = none) {A_TooMany : Addr} (T_TooMany : mg "TooMany" = some (.ref A_TooMany)) (I_TooMany : IsTab K (.ref A_TooMany) sub_TooMany) (N_TooMany : W.kitOne K (.type "NoneType") (.ref A_TooMany) = some false) (L_most : FldTab K "most" ok_most) {A_BadParts : Addr} (T_BadParts : mg "BadParts" = some (.ref A_BadParts)) (I_BadParts : IsTab K (.ref A_BadParts) sub_BadParts) (N_BadParts : W.kitOne K (.type "NoneType") (.ref A_BadParts) = some false) {A_BadRow : Addr} (T_BadRow : mg "BadRow" = some (.ref A_BadRow)) (I_BadRow : IsTab K (.ref A_BadRow) sub_BadRow) (N_BadRow : W.kitOne K (.type "NoneType") (.ref A_BadRow) = some false) : FnOkC P w K mg base 5 7 f fd ["ask", "due"] 2 f__law_is_refused :=
  fnC 5 g__law_is_refused 5 2 sc__law_is_refused rfl rfl F (fun cdv A outer s H E hr => ⟨_, fun Z hZ => by
    have hu64 := hr.units
    unfold g__law_is_refused
    exact (b_cons (d_set 2 sc__law_is_refused.nd (e_callC C__law_caught hZ hr (by decide) (passes_call (takes_of rfl rfl rfl rfl) fun _ _ _ _ h => h) (a_fn 0 a_nil) (aFn_len aNil_len))) (b_cons (d_set 3 sc__law_is_refused.nd (e_frz (n_lst (a_cons (e_isxf z_isinstance (e_var 2) T_BadRow I_BadRow N_BadRow) (a_cons (e_isxf z_isinstance (e_var 2) T_BadParts I_BadParts N_BadParts) (a_cons (e_and (e_isxf z_isinstance (e_var 2) T_TooMany I_TooMany N_TooMany) (e_one (e_cmp (k_eq hu64) o_eq (e_fld L_most (e_var 2)) e_int (nomark _)))) a_nil)))))) (b_one (d_ret (e_cmp (k_eq hu64) o_eq (e_frz (n_lc (own := [("place", 4)]) rfl sc__law_is_refused.nd (i_range1 z_range e_int) (blkOk_by (by kernel_rfl)) (fun _ _ _ _ _ _ => (g_name 4 sc__law_is_refused.nd)) (fun _ _ _ _ _ _ => (ts_one (t_val (e_sub hr (e_var 3) (e_var 4))))) (fun _ _ _ _ _ _ => (e_var 4)) (by decide))) (e_frz (n_lst (a_cons (e_var 1) a_nil))) (nomark _))))))⟩) (by decide)

abbrev s__law_refused : Stmt := topS 42
theorem sc__law_refused : FnScope ["draws", "row", "bad", "off", "great", "ask", "due"] ["draws", "row"] (defScope s__law_refused) := ⟨rfl, rfl, rfl, by decide +kernel, rfl, by decide +kernel, by decide +kernel⟩
noncomputable def l__law_refused_1 : Sx := (fCall f_turned (aCons (fVar 2) aNil))
theorem u_l__law_refused_1 (ρ : List EV) (w : DS) : l__law_refused_1 ρ w = (fCall f_turned (aCons (fVar 2) aNil)) ρ w := rfl
noncomputable def l__law_refused_2 : Sx := (fCall f_upside (aCons (fVar 2) aNil))
theorem u_l__law_refused_2 (ρ : List EV) (w : DS) : l__law_refused_2 ρ w = (fCall f_upside (aCons (fVar 2) aNil)) ρ w := rfl
noncomputable def l__law_refused_3 : Sx := (fCall f_swapped (aCons (fVar 2) aNil))
theorem u_l__law_refused_3 (ρ : List EV) (w : DS) : l__law_refused_3 ρ w = (fCall f_swapped (aCons (fVar 2) aNil)) ρ w := rfl
noncomputable def l__law_refused_4 : Sx := (fCall f_beside (aCons (fVar 2) (aCons (fVar 1) aNil)))
theorem u_l__law_refused_4 (ρ : List EV) (w : DS) : l__law_refused_4 ρ w = (fCall f_beside (aCons (fVar 2) (aCons (fVar 1) aNil))) ρ w := rfl
noncomputable def l__law_refused_5 : Sx := (fCall f_beside (aCons (fVar 1) (aCons (fVar 2) aNil)))
theorem u_l__law_refused_5 (ρ : List EV) (w : DS) : l__law_refused_5 ρ w = (fCall f_beside (aCons (fVar 1) (aCons (fVar 2) aNil))) ρ w := rfl
noncomputable def l__law_refused_6 : Sx := (fCall f_under (aCons (fVar 2) (aCons (fVar 2) aNil)))
theorem u_l__law_refused_6 (ρ : List EV) (w : DS) : l__law_refused_6 ρ w = (fCall f_under (aCons (fVar 2) (aCons (fVar 2) aNil))) ρ w := rfl
noncomputable def l__law_refused_7 : Sx := (fCall f_under (aCons (fVar 1) (aCons (fVar 2) aNil)))
theorem u_l__law_refused_7 (ρ : List EV) (w : DS) : l__law_refused_7 ρ w = (fCall f_under (aCons (fVar 1) (aCons (fVar 2) aNil))) ρ w := rfl
noncomputable def l__law_refused_8 : Sx := (fCall f_beside (aCons (fVar 4) (aCons (fVar 4) aNil)))
theorem u_l__law_refused_8 (ρ : List EV) (w : DS) : l__law_refused_8 ρ w = (fCall f_beside (aCons (fVar 4) (aCons (fVar 4) aNil))) ρ w := rfl
noncomputable def l__law_refused_9 : Sx := (fCall f_under (aCons (fVar 4) (aCons (fVar 4) aNil)))
theorem u_l__law_refused_9 (ρ : List EV) (w : DS) : l__law_refused_9 ρ w = (fCall f_under (aCons (fVar 4) (aCons (fVar 4) aNil))) ρ w := rfl
noncomputable def l__law_refused_10 : Sx := (fCall f_blown (aCons (fVar 2) (aCons (fVar 3) aNil)))
theorem u_l__law_refused_10 (ρ : List EV) (w : DS) : l__law_refused_10 ρ w = (fCall f_blown (aCons (fVar 2) (aCons (fVar 3) aNil))) ρ w := rfl
noncomputable def l__law_refused_11 : Sx := (fCall f_blown (aCons (fVar 1) (aCons (fVar 3) aNil)))
theorem u_l__law_refused_11 (ρ : List EV) (w : DS) : l__law_refused_11 ρ w = (fCall f_blown (aCons (fVar 1) (aCons (fVar 3) aNil))) ρ w := rfl
noncomputable def l__law_refused_12 : Sx := (fCall f_blown (aCons (fTup (aCons (fC (.int 0)) (aCons (fC (.int 1)) aNil))) (aCons (fTup (aCons (fVar 4) (aCons (fVar 4) aNil))) aNil)))
theorem u_l__law_refused_12 (ρ : List EV) (w : DS) : l__law_refused_12 ρ w = (fCall f_blown (aCons (fTup (aCons (fC (.int 0)) (aCons (fC (.int 1)) aNil))) (aCons (fTup (aCons (fVar 4) (aCons (fVar 4) aNil))) aNil))) ρ w := rfl
noncomputable def b__law_refused_1 : Ss := (gIf (fNot (fBool (fCallM f__law_is_refused [l__law_refused_1, l__law_refused_2, l__law_refused_3, l__law_refused_4, l__law_refused_5, l__law_refused_6, l__law_refused_7, l__law_refused_8, l__law_refused_9, l__law_refused_10, l__law_refused_11, l__law_refused_12] 5 (aCons (fVar 6) aNil)))) (gRet (fC (.bl false))) gNext)
theorem u_b__law_refused_1 (ρ : List EV) (w : DS) : b__law_refused_1 ρ w = (gIf (fNot (fBool (fCallM f__law_is_refused [l__law_refused_1, l__law_refused_2, l__law_refused_3, l__law_refused_4, l__law_refused_5, l__law_refused_6, l__law_refused_7, l__law_refused_8, l__law_refused_9, l__law_refused_10, l__law_refused_11, l__law_refused_12] 5 (aCons (fVar 6) aNil)))) (gRet (fC (.bl false))) gNext) ρ w := rfl
noncomputable def g__law_refused : Ss := (gSeq (gAsg (fTup (aCons (fCall f__law_odd (aDrw 0 aNil)) (aCons (fCall f__law_pick (aDrw 0 (aCons (fFrz (fLst (aCons (fC .non) (aCons (fFrz (fLst aNil)) (aCons (fOp dRepT (fTup (aCons (fTup (aCons (fC (.int 0)) aNil)) aNil)) (fOp dAdd (fCB dLen (aCons (fVar 1) aNil)) (fC (.int 1)))) (aCons (fIf (fBool (fOp dNe (fVar 1) (fTup aNil))) (fOp dAdd (fTup (aCons (fTup aNil) aNil)) (fOp dRepT (fTup (aCons (fTup (aCons (fC (.int 0)) aNil)) aNil)) (fOp (dI fun i j => .int (i - j)) (fCB dLen (aCons (fVar 1) aNil)) (fC (.int 1))))) (fC (.int 5))) (aCons (fIf (fBool (fOp dNe (fVar 1) (fTup aNil))) (fOp dRepT (fTup (aCons (fTup (aCons (fC (.int 0)) (aCons (fC (.int 0)) aNil))) aNil)) (fCB dLen (aCons (fVar 1) aNil))) (fFrz (fLst (aCons (fTup aNil) aNil)))) (aCons (fC (.str "0")) aNil)))))))) aNil))) aNil))) (kTup 2 (kCons (kName 2) (kCons (kName 3) kNil)))) (gSeq (gSet 4 (fun ρ w => (fRg1 (fC (.int 21)) ρ w).bind fun ds w => .ok (.tup ds) w)) (gSeq (gForM (mCons (aLam 0 (aCons (fC (.int 0)) aNil)) (mCons (aLam 1 (aCons (fC (.int 0)) aNil)) (mCons (aLam 2 (aCons (fC (.int 0)) aNil)) (mCons (aLam 3 (aCons (fC (.int 0)) aNil)) (mCons (aLam 4 (aCons (fC (.int 0)) aNil)) (mCons (aLam 5 (aCons (fC (.int 0)) aNil)) (mCons (aLam 6 (aCons (fC (.int 0)) aNil)) (mCons (aLam 7 (aCons (fC (.int 2)) aNil)) (mCons (aLam 8 (aCons (fC (.int 2)) aNil)) (mCons (aLam 9 (aCons (fC (.int 0)) aNil)) (mCons (aLam 10 (aCons (fC (.int 1)) aNil)) (mCons (aLam 11 (aCons (fC (.int 2)) aNil)) mNil)))))))))))) 5 6 b__law_refused_1) (gRet (fOp dEq (fCB dLen (aCons (fCall f_beside (aCons (fVar 4) (aCons (fun ρ w => (fRg1 (fC (.int 19)) ρ w).bind fun ds w => .ok (.tup ds) w) aNil))) aNil)) (fC (.int 40)))))))
noncomputable def f__law_refused : Fsem := semOf 7 g__law_refused
def lams__law_refused : List Lm := lamsOf (stAt (defBody s__law_refused) 2)
abbrev qn__law_refused : Str := (envOfC "_law_refused" (defScope s__law_refused) 0 0 .none).qual ++ "<lambda>"
theorem ok__law_refused {f : Addr} {fd : FuncData} (F : Fun K "_law_refused" "_law_refused" s__law_refused f fd) {c__law_refused t__law_refused : Addr} (hcd : fd.code = .ref c__law_refused) (hP : (t__law_refused, qn__law_refused) ∈ T) (hO : ∀ p ∈ T, p.1 = t__law_refused → p.2 = qn__law_refused) (TB : LamX.TabB base mg c__law_refused t__law_refused) (C__law_pick : Cal P w K mg base "_law_pick" 3 2 f__law_pick) (C__law_odd : Cal P w K mg base "_law_odd" 4 1 f__law_odd) (C_turned : Cal P w K mg base "turned" 4 1 f_turned) (C_upside : Cal P w K mg base "upside" 4 1 f_upside) (C_swapped : Cal P w K mg base "swapped" 4 1 f_swapped) (C_beside : Cal P w K mg base "beside" 4 2 f_beside) (C_under : Cal P w K mg base "under" 4 2 f_under) (C_blown : Cal P w K mg base "blown" 4 2 f_blown) (C__law_is_refused : CalC P w K mg base 5 "_law_is_refused" 7 2 f__law_is_refused) (z_len : mg "len" = none) (z_range : mg "range" = none) (z_tuple : mg "tuple" = none) : FnOk P w K mg base (L2.CX P w) 8 f fd ["draws", "row"] (spT K T 2 f__law_refused) :=
  fnTL (.ref c__law_refused) lams__law_refused g__law_refused 7 2 sc__law_refused rfl rfl F hcd (fun A outer s H E hr => ⟨_, fun Z hT hlam hlq => by
    have hu64 := hr.units
    have zL := LamZ.mk hT hlam hlq hP hO TB rfl
    unfold g__law_refused b__law_refused_1
    exact (b_cons (d_asg (e_tup (a_cons (e_call C__law_odd hr (by decide) (passes_call (takes_of rfl rfl rfl rfl) fun _ _ _ _ h => h) (a_drw 0 a_nil) (aDrw_len aNil_len)) (a_cons (e_call C__law_pick hr (by decide) (passes_call (takes_of rfl rfl rfl rfl) fun _ _ _ _ h => h) (a_drw 0 (a_cons (e_frz (n_lst (a_cons e_non (a_cons (e_frz (n_lst a_nil)) (a_cons (e_op op_repA o_repT (e_tup (a_cons (e_tup (a_cons e_int a_nil)) a_nil)) (e_op op_addA o_add (e_cb k_len o_len z_len (a_cons (e_var 1) a_nil)) e_int)) (a_cons (e_if (t_cmp (k_ne hu64) o_ne (e_var 1) (e_tup a_nil) (nomark _)) (e_op op_addA o_add (e_tup (a_cons (e_tup a_nil) a_nil)) (e_op op_repA o_repT (e_tup (a_cons (e_tup (a_cons e_int a_nil)) a_nil)) (e_op op_sub o_sub (e_cb k_len o_len z_len (a_cons (e_var 1) a_nil)) e_int))) e_int) (a_cons (e_if (t_cmp (k_ne hu64) o_ne (e_var 1) (e_tup a_nil) (nomark _)) (e_op op_repA o_repT (e_tup (a_cons (e_tup (a_cons e_int (a_cons e_int a_nil))) a_nil)) (e_cb k_len o_len z_len (a_cons (e_var 1) a_nil))) (e_frz (n_lst (a_cons (e_tup a_nil) a_nil)))) (a_cons e_str a_nil)))))))) a_nil)) (aDrw_len (aCons_len aNil_len))) a_nil))) (g_tup rfl (gs_cons (g_name 2 sc__law_refused.nd) (gs_cons (g_name 3 sc__law_refused.nd) gs_nil)))) (b_cons (d_set 4 sc__law_refused.nd (e_tupRg1 rfl z_tuple z_range e_int)) (b_cons (d_forM 5 6 (passes_of rfl) rfl (xs_cons (x_lam 0 zL (x_dat e_int x_nil0)) (xs_cons (x_lam 1 zL (x_dat e_int x_nil0)) (xs_cons (x_lam 2 zL (x_dat e_int x_nil0)) (xs_cons (x_lam 3 zL (x_dat e_int x_nil0)) (xs_cons (x_lam 4 zL (x_dat e_int x_nil0)) (xs_cons (x_lam 5 zL (x_dat e_int x_nil0)) (xs_cons (x_lam 6 zL (x_dat e_int x_nil0)) (xs_cons (x_lam 7 zL (x_dat e_int x_nil0)) (xs_cons (x_lam 8 zL (x_dat e_int x_nil0)) (xs_cons (x_lam 9 zL (x_dat e_int x_nil0)) (xs_cons (x_lam 10 zL (x_dat e_int x_nil0)) (xs_cons (x_lam 11 zL (x_dat e_int x_nil0)) xs_nil)))))))))))) ((g_tup rfl (gs_cons (g_name 5 sc__law_refused.nd) (gs_cons (g_name 6 sc__law_refused.nd) gs_nil))) : DG _ Z _ _ _ _).pg (b_one (d_if (t_not (t_val (e_callM 5 C__law_is_refused zL hr (by decide) (passes_call (takes_of rfl rfl rfl rfl) fun _ _ _ _ h => h) (.cons ⟨LamX.lamS_by (by kernel_rfl), by intros; rfl, (fun A outer s H E a c' hr => ⟨_, fun Z => by
      have hu64 := hr.units
      exact (e_call C_turned hr (by decide) (passes_call (takes_of rfl rfl rfl rfl) fun _ _ _ _ h => h) (a_cons (e_var 2) a_nil) (aCons_len aNil_len))⟩)⟩ (.cons ⟨LamX.lamS_by (by kernel_rfl), by intros; rfl, (fun A outer s H E a c' hr => ⟨_, fun Z => by
      have hu64 := hr.units
      exact (e_call C_upside hr (by decide) (passes_call (takes_of rfl rfl rfl rfl) fun _ _ _ _ h => h) (a_cons (e_var 2) a_nil) (aCons_len aNil_len))⟩)⟩ (.cons ⟨LamX.lamS_by (by kernel_rfl), by intros; rfl, (fun A outer s H E a c' hr => ⟨_, fun Z => by
      have hu64 := hr.units
      exact (e_call C_swapped hr (by decide) (passes_call (takes_of rfl rfl rfl rfl) fun _ _ _ _ h => h) (a_cons (e_var 2) a_nil) (aCons_len aNil_len))⟩)⟩ (.cons ⟨LamX.lamS_by (by kernel_rfl), by intros; rfl, (fun A outer s H E a c' hr => ⟨_, fun Z => by
      have hu64 := hr.units
      exact (e_call C_beside hr (by decide) (passes_call (takes_of rfl rfl rfl rfl) fun _ _ _ _ h => h) (a_cons (e_var 2) (a_cons (e_var 1) a_nil)) (aCons_len (aCons_len aNil_len)))⟩)⟩ (.cons ⟨LamX.lamS_by (by kernel_rfl), by intros; rfl, (fun A outer s H E a c' hr => ⟨_, fun Z => by
      have hu64 := hr.units
      exact (e_call C_beside hr (by decide) (passes_call (takes_of rfl rfl rfl rfl) fun _ _ _ _ h => h) (a_cons (e_var 1) (a_cons (e_var 2) a_nil)) (aCons_len (aCons_len aNil_len)))⟩)⟩ (.cons ⟨LamX.lamS_by (by kernel_rfl), by intros; rfl, (fun A outer s H E a c' hr => ⟨_, fun Z => by
      have hu64 := hr.units
      exact (e_call C_under hr (by decide) (passes_call (takes_of rfl rfl rfl rfl) fun _ _ _ _ h => h) (a_cons (e_var 2) (a_cons (e_var 2) a_nil)) (aCons_len (aCons_len aNil_len)))⟩)⟩ (.cons ⟨LamX.lamS_by (by kernel_rfl), by intros; rfl, (fun A outer s H E a c' hr => ⟨_, fun Z => by
      have hu64 := hr.units
      exact (e_call C_under hr (by decide) (passes_call (takes_of rfl rfl rfl rfl) fun _ _ _ _ h => h) (a_cons (e_var 1) (a_cons (e_var 2) a_nil)) (aCons_len (aCons_len aNil_len)))⟩)⟩ (.cons ⟨LamX.lamS_by (by kernel_rfl), by intros; rfl, (fun A outer s H E a c' hr => ⟨_, fun Z => by
      have hu64 := hr.units
      exact (e_call C_beside hr (by decide) (passes_call (takes_of rfl rfl rfl rfl) fun _ _ _ _ h => h) (a_cons (e_var 4) (a_cons (e_var 4) a_nil)) (aCons_len (aCons_len aNil_len)))⟩)⟩ (.cons ⟨LamX.lamS_by (by kernel_rfl), by intros; rfl, (fun A outer s H E a c' hr => ⟨_, fun Z => by
      have hu64 := hr.units
      exact (e_call C_under hr (by decide) (passes_call (takes_of rfl rfl rfl rfl) fun _ _ _ _ h => h) (a_cons (e_var 4) (a_cons (e_var 4) a_nil)) (aCons_len (aCons_len aNil_len)))⟩)⟩ (.cons ⟨LamX.lamS_by (by kernel_rfl), by intros; rfl, (fun A outer s H E a c' hr => ⟨_, fun Z => by
      have hu64 := hr.units
      exact (e_call C_blown hr (by decide) (passes_call (takes_of rfl rfl rfl rfl) fun _ _ _ _ h => h) (a_cons (e_var 2) (a_cons (e_var 3) a_nil)) (aCons_len (aCons_len aNil_len)))⟩)⟩ (.cons ⟨LamX.lamS_by (by kernel_rfl), by intros; rfl, (fun A outer s H E a c' hr => ⟨_, fun Z => by
      have hu64 := hr.units
      exact (e_call C_blown hr (by decide) (passes_call (takes_of rfl rfl rfl rfl) fun _ _ _ _ h => h) (a_cons (e_var 1) (a_cons (e_var 3) a_nil)) (aCons_len (aCons_len aNil_len)))⟩)⟩ (.cons ⟨LamX.lamS_by (by kernel_rfl), by intros; rfl, (fun A outer s H E a c' hr => ⟨_, fun Z => by
      have hu64 := hr.units
      exact (e_call C_blown hr (by decide) (passes_call (takes_of rfl rfl rfl rfl) fun _ _ _ _ h => h) (a_cons (e_tup (a_cons e_int (a_cons e_int a_nil))) (a_cons (e_tup (a_cons (e_var 4) (a_cons (e_var 4) a_nil))) a_nil)) (aCons_len (aCons_len aNil_len)))⟩)⟩ .nil)))))))))))) (a_cons (e_var 6) a_nil) (fun ρ w ps w' h => congrArg Nat.succ ((aCons_len aNil_len) ρ w ps w' h))))) (b_one (d_ret e_bl)) b_nil))) (b_one (d_ret (e_cmp (k_eq hu64) o_eq (e_cb k_len o_len z_len (a_cons (e_call C_beside hr (by decide) (passes_call (takes_of rfl rfl rfl rfl) fun _ _ _ _ h => h) (a_cons (e_var 4) (a_cons (e_tupRg1 rfl z_tuple z_range e_int) a_nil)) (aCons_len (aCons_len aNil_len))) a_nil)) e_int (nomark _)))))))⟩) (by decide)

abbrev s__law_turned : Stmt := topS 32
theorem sc__law_turned : FnScope ["row"] ["row"] (defScope s__law_turned) := ⟨rfl, rfl, rfl, by decide +kernel, rfl, by decide +kernel, by decide +kernel⟩
noncomputable def g__law_turned : Ss := (gRet (fUn dTupOf (fUn dRev (fVar 0))))
noncomputable def f__law_turned : Fsem := semOf 1 g__law_turned
theorem ok__law_turned {f : Addr} {fd : FuncData} (F : Fun K "_law_turned" "_law_turned" s__law_turned f fd) (z_tuple : mg "tuple" = none) : FnOk P w K mg base (L2.CX P w) 1 f fd ["row"] (spD K 1 f__law_turned) :=
  fnE g__law_turned 1 1 sc__law_turned rfl rfl F (fun cdv A outer s H E hr => ⟨_, fun Z => by
    have hu64 := hr.units
    unfold g__law_turned
    exact (b_one (d_ret (e_tupleOf z_tuple (e_rev (e_var 0)))))⟩) (by decide)

abbrev s__law_upside : Stmt := topS 33
theorem sc__law_upside : FnScope ["row", "entry"] ["row"] (defScope s__law_upside) := ⟨rfl, rfl, rfl, by decide +kernel, rfl, by decide +kernel, by decide +kernel⟩
noncomputable def g__law_upside : Ss := (gRet (fUn dTupOf (fFrz (fLcW (fItems (fVar 0)) (kName 1) fYes (fOp (dI fun i j => .int (i - j)) (fOp (dI fun i j => .int (i - j)) (fCB dLen (aCons (fVar 0) aNil)) (fC (.int 1))) (fVar 1)) [1]))))
noncomputable def f__law_upside : Fsem := semOf 2 g__law_upside
theorem ok__law_upside {f : Addr} {fd : FuncData} (F : Fun K "_law_upside" "_law_upside" s__law_upside f fd) (z_len : mg "len" = none) (z_tuple : mg "tuple" = none) : FnOk P w K mg base (L2.CX P w) 1 f fd ["row"] (spD K 1 f__law_upside) :=
  fnE g__law_upside 2 1 sc__law_upside rfl rfl F (fun cdv A outer s H E hr => ⟨_, fun Z => by
    have hu64 := hr.units
    unfold g__law_upside
    exact (b_one (d_ret (e_tupleOf z_tuple (e_frz (n_lc (own := [("entry", 1)]) rfl sc__law_upside.nd (i_seq (e_var 0)) (blkOk_by (by kernel_rfl)) (fun _ _ _ _ _ _ => (g_name 1 sc__law_upside.nd)) (fun _ _ _ _ _ _ => ts_nil) (fun _ _ _ _ _ _ => (e_op op_sub o_sub (e_op op_sub o_sub (e_cb k_len o_len z_len (a_cons (e_var 0) a_nil)) e_int) (e_var 1))) (by decide))))))⟩) (by decide)

abbrev s__law_swapped : Stmt := topS 34
theorem sc__law_swapped : FnScope ["row", "found", "place", "entry"] ["row"] (defScope s__law_swapped) := ⟨rfl, rfl, rfl, by decide +kernel, rfl, by decide +kernel, by decide +kernel⟩
noncomputable def b__law_swapped_1 : Ss := (gPutL 1 (fVar 3) (fVar 2))
theorem u_b__law_swapped_1 (ρ : List EV) (w : DS) : b__law_swapped_1 ρ w = (gPutL 1 (fVar 3) (fVar 2)) ρ w := rfl
noncomputable def g__law_swapped : Ss := (gSeq (gSetN 1 (fRep (fLst (aCons (fC (.int 0)) aNil)) (fCB dLen (aCons (fVar 0) aNil)))) (gSeq (gFor (fEnum (fVar 0)) (kTup 2 (kCons (kName 2) (kCons (kName 3) kNil))) b__law_swapped_1) (gFrz 1 (gRet (fUn dTupOf (fVar 1))))))
noncomputable def f__law_swapped : Fsem := semOf 4 g__law_swapped
theorem ok__law_swapped {f : Addr} {fd : FuncData} (F : Fun K "_law_swapped" "_law_swapped" s__law_swapped f fd) (z_enumerate : mg "enumerate" = none) (z_len : mg "len" = none) (z_tuple : mg "tuple" = none) : FnOk P w K mg base (L2.CX P w) 1 f fd ["row"] (spD K 1 f__law_swapped) :=
  fnE g__law_swapped 4 1 sc__law_swapped rfl rfl F (fun cdv A outer s H E hr => ⟨_, fun Z => by
    have hu64 := hr.units
    unfold g__law_swapped b__law_swapped_1
    exact (b_cons (d_setN 1 sc__law_swapped.nd (n_rep (n_lst (a_cons e_int a_nil)) (e_cb k_len o_len z_len (a_cons (e_var 0) a_nil)))) (b_cons (d_for (passes_of rfl) rfl (i_enum z_enumerate (e_var 0)) (g_tup rfl (gs_cons (g_name 2 sc__law_swapped.nd) (gs_cons (g_name 3 sc__law_swapped.nd) gs_nil))) (b_one (d_putL 1 (e_var 3) (e_var 2)))) (b_one (d_frz 1 (d_ret (e_tupleOf z_tuple (e_var 1)))))))⟩) (by decide)

abbrev s_law : Stmt := topS 43
theorem sc_law : FnScope ["script", "draws", "turn", "row", "other", "one", "two", "frame", "parts", "due", "entry", "own", "place"] ["script"] (defScope s_law) := ⟨rfl, rfl, rfl, by decide +kernel, rfl, by decide +kernel, by decide +kernel⟩
noncomputable def b_law_1 : Ss := (gSeq (gPar [3, 4] (aCons (fCall f__law_row (aDrw 1 (aCons (fCall f__law_pick (aDrw 1 (aCons (fFrz (fLst (aCons (fC (.int 5)) (aCons (fC (.int 20)) aNil)))) aNil))) aNil))) (aCons (fCall f__law_row (aDrw 1 (aCons (fCall f__law_pick (aDrw 1 (aCons (fFrz (fLst (aCons (fC (.int 5)) (aCons (fC (.int 20)) aNil)))) aNil))) aNil))) aNil))) (gSeq (gIf (fNot (fBool (fCall f__law_same (aCons (fFrz (fLst (aCons (fCall f_turned (aCons (fVar 3) aNil)) (aCons (fCall f_upside (aCons (fVar 3) aNil)) (aCons (fCall f_swapped (aCons (fVar 3) aNil)) aNil))))) (aCons (fFrz (fLst (aCons (fCall f__law_turned (aCons (fVar 3) aNil)) (aCons (fCall f__law_upside (aCons (fVar 3) aNil)) (aCons (fCall f__law_swapped (aCons (fVar 3) aNil)) aNil))))) aNil))))) (gRet (fC (.bl false))) gNext) (gSeq (gIf (fOr (fBool (fOp dNe (fCall f_turned (aCons (fCall f_turned (aCons (fVar 3) aNil)) aNil)) (fVar 3))) (fOr (fBool (fOp dNe (fCallK f_upside [0] aNil (aCons (fCall f_upside (aCons (fVar 3) aNil)) aNil)) (fVar 3))) (fOr (fBool (fOp dNe (fCall f_swapped (aCons (fCallK f_swapped [0] aNil (aCons (fVar 3) aNil)) aNil)) (fVar 3))) (fBool (fOp dNe (fCall f_swapped (aCons (fCall f_turned (aCons (fVar 3) aNil)) aNil)) (fCall f_upside (aCons (fCall f_swapped (aCons (fVar 3) aNil)) aNil))))))) (gRet (fC (.bl false))) gNext) (gSeq (gPar [5, 6] (aCons (fCall f__law_beside (aCons (fVar 3) (aCons (fVar 4) aNil))) (aCons (fCall f__law_under (aCons (fVar 3) (aCons (fVar 4) aNil))) aNil))) (gSeq (gIf (fOr (fNot (fBool (fCall f__law_same (aCons (fFrz (fLst (aCons (fCall f_beside (aCons (fVar 3) (aCons (fVar 4) aNil))) (aCons (fCall f_under (aCons (fVar 3) (aCons (fVar 4) aNil))) aNil)))) (aCons (fFrz (fLst (aCons (fVar 5) (aCons (fVar 6) aNil)))) aNil))))) (fBool (fOp dNe (fCallK f_under [1, 0] aNil (aCons (fCall f_upside (aCons (fVar 4) aNil)) (aCons (fCall f_upside (aCons (fVar 3) aNil)) aNil))) (fCall f_upside (aCons (fVar 5) aNil))))) (gRet (fC (.bl false))) gNext) (gSeq (gIf (fOr (fBool (fOp dNe (fCall f_turned (aCons (fVar 5) aNil)) (fCall f_under (aCons (fCall f_turned (aCons (fVar 4) aNil)) (aCons (fCall f_turned (aCons (fVar 3) aNil)) aNil))))) (fOr (fBool (fOp dNe (fCall f_swapped (aCons (fVar 5) aNil)) (fCall f_beside (aCons (fCall f_swapped (aCons (fVar 3) aNil)) (aCons (fCall f_swapped (aCons (fVar 4) aNil)) aNil))))) (fBool (fOp dNe (fCall f_swapped (aCons (fVar 6) aNil)) (fCall f_under (aCons (fCall f_swapped (aCons (fVar 4) aNil)) (aCons (fCall f_swapped (aCons (fVar 3) aNil)) aNil))))))) (gRet (fC (.bl false))) gNext) (gSeq (gSet 7 (fCall f__law_row (aDrw 1 (aCons (fC (.int 6)) aNil)))) (gSeq (gSet 8 (fUn dTupOf (fFrz (fLcW (fItems (fVar 7)) (kName 10) fYes (fCall f__law_dealt (aDrw 1 (aCons (fOp dAdd (fC (.int 1)) (fCall f__law_draw (aDrw 1 (aCons (fC (.int 6)) aNil)))) aNil))) [10])))) (gSeq (gSet 9 (fCall f__law_blown (aCons (fVar 7) (aCons (fVar 8) aNil)))) (gSeq (gIf (fOr (fNot (fBool (fCall f__law_same (aCons (fCall f_blown (aCons (fVar 7) (aCons (fVar 8) aNil))) (aCons (fVar 9) aNil))))) (fBool (fOp dNe (fCallK f_blown [1, 0] aNil (aCons (fUn dTupOf (fFrz (fLcW (fItems (fUn dRev (fVar 8))) (kName 11) fYes (fCall f__law_turned (aCons (fVar 11) aNil)) [11]))) (aCons (fCall f_turned (aCons (fVar 7) aNil)) aNil))) (fCall f_turned (aCons (fVar 9) aNil))))) (gRet (fC (.bl false))) gNext) (gSeq (gIf (fOr (fBool (fOp dNe (fCall f_upside (aCons (fVar 9) aNil)) (fCall f_blown (aCons (fCall f_upside (aCons (fVar 7) aNil)) (aCons (fUn dTupOf (fFrz (fLcW (fItems (fVar 8)) (kName 11) fYes (fCall f_upside (aCons (fVar 11) aNil)) [11]))) aNil))))) (fBool (fOp dNe (fCall f_swapped (aCons (fVar 9) aNil)) (fCall f_blown (aCons (fCall f_swapped (aCons (fVar 7) aNil)) (aCons (fUn dTupOf (fFrz (fLcW (fItems (fCall f__law_swapped (aCons (fVar 7) aNil))) (kName 12) fYes (fCall f_swapped (aCons (fOp dSubI (fVar 8) (fVar 12)) aNil)) [12]))) aNil)))))) (gRet (fC (.bl false))) gNext) (gIf (fOr (fBool (fOp dNe (fCall f_blown (aCons (fTup (aCons (fC (.int 0)) (aCons (fC (.int 1)) aNil))) (aCons (fIf (fBool (fOp dNe (fVar 7) (fTup aNil))) (fTup (aCons (fOp dAdd (fVar 7) (fTup aNil)) (aCons (fTup (aCons (fC (.int 0)) aNil)) aNil))) (fTup (aCons (fTup (aCons (fC (.int 0)) aNil)) (aCons (fTup (aCons (fC (.int 0)) aNil)) aNil)))) aNil))) (fIf (fBool (fOp dNe (fVar 7) (fTup aNil))) (fCall f__law_beside (aCons (fVar 7) (aCons (fTup (aCons (fC (.int 0)) aNil)) aNil))) (fTup (aCons (fC (.int 0)) (aCons (fC (.int 1)) aNil)))))) (fNot (fBool (fCall f__law_refused (aDrw 1 (aCons (fVar 3) aNil)))))) (gRet (fC (.bl false))) gNext))))))))))))
theorem u_b_law_1 (ρ : List EV) (w : DS) : b_law_1 ρ w = (gSeq (gPar [3, 4] (aCons (fCall f__law_row (aDrw 1 (aCons (fCall f__law_pick (aDrw 1 (aCons (fFrz (fLst (aCons (fC (.int 5)) (aCons (fC (.int 20)) aNil)))) aNil))) aNil))) (aCons (fCall f__law_row (aDrw 1 (aCons (fCall f__law_pick (aDrw 1 (aCons (fFrz (fLst (aCons (fC (.int 5)) (aCons (fC (.int 20)) aNil)))) aNil))) aNil))) aNil))) (gSeq (gIf (fNot (fBool (fCall f__law_same (aCons (fFrz (fLst (aCons (fCall f_turned (aCons (fVar 3) aNil)) (aCons (fCall f_upside (aCons (fVar 3) aNil)) (aCons (fCall f_swapped (aCons (fVar 3) aNil)) aNil))))) (aCons (fFrz (fLst (aCons (fCall f__law_turned (aCons (fVar 3) aNil)) (aCons (fCall f__law_upside (aCons (fVar 3) aNil)) (aCons (fCall f__law_swapped (aCons (fVar 3) aNil)) aNil))))) aNil))))) (gRet (fC (.bl false))) gNext) (gSeq (gIf (fOr (fBool (fOp dNe (fCall f_turned (aCons (fCall f_turned (aCons (fVar 3) aNil)) aNil)) (fVar 3))) (fOr (fBool (fOp dNe (fCallK f_upside [0] aNil (aCons (fCall f_upside (aCons (fVar 3) aNil)) aNil)) (fVar 3))) (fOr (fBool (fOp dNe (fCall f_swapped (aCons (fCallK f_swapped [0] aNil (aCons (fVar 3) aNil)) aNil)) (fVar 3))) (fBool (fOp dNe (fCall f_swapped (aCons (fCall f_turned (aCons (fVar 3) aNil)) aNil)) (fCall f_upside (aCons (fCall f_swapped (aCons (fVar 3) aNil)) aNil))))))) (gRet (fC (.bl false))) gNext) (gSeq (gPar [5, 6] (aCons (fCall f__law_beside (aCons (fVar 3) (aCons (fVar 4) aNil))) (aCons (fCall f__law_under (aCons (fVar 3) (aCons (fVar 4) aNil))) aNil))) (gSeq (gIf (fOr (fNot (fBool (fCall f__law_same (aCons (fFrz (fLst (aCons (fCall f_beside (aCons (fVar 3) (aCons (fVar 4) aNil))) (aCons (fCall f_under (aCons (fVar 3) (aCons (fVar 4) aNil))) aNil)))) (aCons (fFrz (fLst (aCons (fVar 5) (aCons (fVar 6) aNil)))) aNil))))) (fBool (fOp dNe (fCallK f_under [1, 0] aNil (aCons (fCall f_upside (aCons (fVar 4) aNil)) (aCons (fCall f_upside (aCons (fVar 3) aNil)) aNil))) (fCall f_upside (aCons (fVar 5) aNil))))) (gRet (fC (.bl false))) gNext) (gSeq (gIf (fOr (fBool (fOp dNe (fCall f_turned (aCons (fVar 5) aNil)) (fCall f_under (aCons (fCall f_turned (aCons (fVar 4) aNil)) (aCons (fCall f_turned (aCons (fVar 3) aNil)) aNil))))) (fOr (fBool (fOp dNe (fCall f_swapped (aCons (fVar 5) aNil)) (fCall f_beside (aCons (fCall f_swapped (aCons (fVar 3) aNil)) (aCons (fCall f_swapped (aCons (fVar 4) aNil)) aNil))))) (fBool (fOp dNe (fCall f_swapped (aCons (fVar 6) aNil)) (fCall f_under (aCons (fCall f_swapped (aCons (fVar 4) aNil)) (aCons (fCall f_swapped (aCons (fVar 3) aNil)) aNil))))))) (gRet (fC (.bl false))) gNext) (gSeq (gSet 7 (fCall f__law_row (aDrw 1 (aCons (fC (.int 6)) aNil)))) (gSeq (gSet 8 (fUn dTupOf (fFrz (fLcW (fItems (fVar 7)) (kName 10) fYes (fCall f__law_dealt (aDrw 1 (aCons (fOp dAdd (fC (.int 1)) (fCall f__law_draw (aDrw 1 (aCons (fC (.int 6)) aNil)))) aNil))) [10])))) (gSeq (gSet 9 (fCall f__law_blown (aCons (fVar 7) (aCons (fVar 8) aNil)))) (gSeq (gIf (fOr (fNot (fBool (fCall f__law_same (aCons (fCall f_blown (aCons (fVar 7) (aCons (fVar 8) aNil))) (aCons (fVar 9) aNil))))) (fBool (fOp dNe (fCallK f_blown [1, 0] aNil (aCons (fUn dTupOf (fFrz (fLcW (fItems (fUn dRev (fVar 8))) (kName 11) fYes (fCall f__law_turned (aCons (fVar 11) aNil)) [11]))) (aCons (fCall f_turned (aCons (fVar 7) aNil)) aNil))) (fCall f_turned (aCons (fVar 9) aNil))))) (gRet (fC (.bl false))) gNext) (gSeq (gIf (fOr (fBool (fOp dNe (fCall f_upside (aCons (fVar 9) aNil)) (fCall f_blown (aCons (fCall f_upside (aCons (fVar 7) aNil)) (aCons (fUn dTupOf (fFrz (fLcW (fItems (fVar 8)) (kName 11) fYes (fCall f_upside (aCons (fVar 11) aNil)) [11]))) aNil))))) (fBool (fOp dNe (fCall f_swapped (aCons (fVar 9) aNil)) (fCall f_blown (aCons (fCall f_swapped (aCons (fVar 7) aNil)) (aCons (fUn dTupOf (fFrz (fLcW (fItems (fCall f__law_swapped (aCons (fVar 7) aNil))) (kName 12) fYes (fCall f_swapped (aCons (fOp dSubI (fVar 8) (fVar 12)) aNil)) [12]))) aNil)))))) (gRet (fC (.bl false))) gNext) (gIf (fOr (fBool (fOp dNe (fCall f_blown (aCons (fTup (aCons (fC (.int 0)) (aCons (fC (.int 1)) aNil))) (aCons (fIf (fBool (fOp dNe (fVar 7) (fTup aNil))) (fTup (aCons (fOp dAdd (fVar 7) (fTup aNil)) (aCons (fTup (aCons (fC (.int 0)) aNil)) aNil))) (fTup (aCons (fTup (aCons (fC (.int 0)) aNil)) (aCons (fTup (aCons (fC (.int 0)) aNil)) aNil)))) aNil))) (fIf (fBool (fOp dNe (fVar 7) (fTup aNil))) (fCall f__law_beside (aCons (fVar 7) (aCons (fTup (aCons (fC (.int 0)) aNil)) aNil))) (fTup (aCons (fC (.int 0)) (aCons (fC (.int 1)) aNil)))))) (fNot (fBool (fCall f__law_refused (aDrw 1 (aCons (fVar 3) aNil)))))) (gRet (fC (.bl false))) gNext)))))))))))) ρ w := rfl
noncomputable def g_law : Ss := (gSeq (gFor (fIr1 (fOp dAdd (fC (.int 3)) (fCB dMin2 (aCons (fCB dLen (aCons (fVar 0) aNil)) (aCons (fC (.int 5)) aNil))))) (kName 2) b_law_1) (gRet (fC (.bl true))))
noncomputable def f_law : Fsem := semOf 13 g_law
theorem ok_law {f fB : Addr} {fd fdB : FuncData} (F : Fun K "law" "law" s_law f fd) (GB : FnOk P w K mg base (L2.CX P w) 1 fB fdB ["script"] (spBegun K)) (bB : L2.Binds K fdB ["script"] []) (mB : mg "_law_begun" = some (.ref fB)) (kB : W.keepIn K (.ref fB) = true) (C__law_row : Cal P w K mg base "_law_row" 5 2 f__law_row) (C__law_pick : Cal P w K mg base "_law_pick" 3 2 f__law_pick) (C__law_same : Cal P w K mg base "_law_same" 2 2 f__law_same) (C__law_swapped : Cal P w K mg base "_law_swapped" 1 1 f__law_swapped) (C__law_upside : Cal P w K mg base "_law_upside" 1 1 f__law_upside) (C__law_turned : Cal P w K mg base "_law_turned" 1 1 f__law_turned) (C_swapped : Cal P w K mg base "swapped" 4 1 f_swapped) (C_upside : Cal P w K mg base "upside" 4 1 f_upside) (C_turned : Cal P w K mg base "turned" 4 1 f_turned) (C__law_under : Cal P w K mg base "_law_under" 1 2 f__law_under) (C__law_beside : Cal P w K mg base "_law_beside" 1 2 f__law_beside) (C_under : Cal P w K mg base "under" 4 2 f_under) (C_beside : Cal P w K mg base "beside" 4 2 f_beside) (C__law_dealt : Cal P w K mg base "_law_dealt" 4 2 f__law_dealt) (C__law_draw : Cal P w K mg base "_law_draw" 2 2 f__law_draw) (C__law_blown : Cal P w K mg base "_law_blown" 1 2 f__law_blown) (C_blown : Cal P w K mg base "blown" 4 2 f_blown) (C__law_refused : CalT P w K mg base T "_law_refused" 8 2 f__law_refused) (Q_upside_0_row : CalK P w K mg base "upside" 4 1 f_upside 0 ["row"] [0]) (Q_swapped_0_row : CalK P w K mg base "swapped" 4 1 f_swapped 0 ["row"] [0]) (Q_under_0_other_one : CalK P w K mg base "under" 4 2 f_under 0 ["other", "one"] [1, 0]) (Q_blown_0_parts_row : CalK P w K mg base "blown" 4 2 f_blown 0 ["parts", "row"] [1, 0]) (z_len : mg "len" = none) (z_min : mg "min" = none) (z_range : mg "range" = none) (z_tuple : mg "tuple" = none)
    (hlaw : ∀ ns : List Int, ns.length ≤ 63 → ∃ w', f_law [.dat (.scr ns), .drw] (beginW ns) = .ok (.bl true) w') : FnOk P w K mg base (L2.CX P w) 9 f fd ["script"] (spLaw K T) := by
  refine F.okX sc_law (fun vs H Q E h => ?_) (fun cdv A outer s H vs Q E hr h => ?_)
  · obtain ⟨a, ns, rfl, _⟩ := h
    rfl
  · obtain ⟨a, ns, rfl, hS, hlen, hTb, q⟩ := h
    have hu64 := hr.units
    have rest : ∃ t, ∀ Z, Z.dr.tb = T → DB (cxOf (L2.CX P w) P w K mg base ["script", "draws", "turn", "row", "other", "one", "two", "frame", "parts", "due", "entry", "own", "place"] "law" (defScope s_law) f cdv A outer s H E) Z E ((defBody s_law).drop 1) t g_law := ⟨_, fun Z hT => by
      unfold g_law b_law_1
      exact (b_cons (d_for (passes_of rfl) rfl (i_range1 z_range (e_op op_addA o_add e_int (e_cb (call_min2 rfl) o_min2 z_min (a_cons (e_cb k_len o_len z_len (a_cons (e_var 0) a_nil)) (a_cons e_int a_nil))))) (g_name 2 sc_law.nd) (b_cons (d_par2 3 4 rfl sc_law.nd (m_dat (e_call C__law_row hr (by decide) (passes_call (takes_of rfl rfl rfl rfl) fun _ _ _ _ h => h) (a_drw 1 (a_cons (e_call C__law_pick hr (by decide) (passes_call (takes_of rfl rfl rfl rfl) fun _ _ _ _ h => h) (a_drw 1 (a_cons (e_frz (n_lst (a_cons e_int (a_cons e_int a_nil)))) a_nil)) (aDrw_len (aCons_len aNil_len))) a_nil)) (aDrw_len (aCons_len aNil_len))) (m_dat (e_call C__law_row hr (by decide) (passes_call (takes_of rfl rfl rfl rfl) fun _ _ _ _ h => h) (a_drw 1 (a_cons (e_call C__law_pick hr (by decide) (passes_call (takes_of rfl rfl rfl rfl) fun _ _ _ _ h => h) (a_drw 1 (a_cons (e_frz (n_lst (a_cons e_int (a_cons e_int a_nil)))) a_nil)) (aDrw_len (aCons_len aNil_len))) a_nil)) (aDrw_len (aCons_len aNil_len))) m_nil))) (b_cons (d_if (t_not (t_val (e_call C__law_same hr (by decide) (passes_call (takes_of rfl rfl rfl rfl) fun _ _ _ _ h => h) (a_cons (e_frz (n_lst (a_cons (e_call C_turned hr (by decide) (passes_call (takes_of rfl rfl rfl rfl) fun _ _ _ _ h => h) (a_cons (e_var 3) a_nil) (aCons_len aNil_len)) (a_cons (e_call C_upside hr (by decide) (passes_call (takes_of rfl rfl rfl rfl) fun _ _ _ _ h => h) (a_cons (e_var 3) a_nil) (aCons_len aNil_len)) (a_cons (e_call C_swapped hr (by decide) (passes_call (takes_of rfl rfl rfl rfl) fun _ _ _ _ h => h) (a_cons (e_var 3) a_nil) (aCons_len aNil_len)) a_nil))))) (a_cons (e_frz (n_lst (a_cons (e_call C__law_turned hr (by decide) (passes_call (takes_of rfl rfl rfl rfl) fun _ _ _ _ h => h) (a_cons (e_var 3) a_nil) (aCons_len aNil_len)) (a_cons (e_call C__law_upside hr (by decide) (passes_call (takes_of rfl rfl rfl rfl) fun _ _ _ _ h => h) (a_cons (e_var 3) a_nil) (aCons_len aNil_len)) (a_cons (e_call C__law_swapped hr (by decide) (passes_call (takes_of rfl rfl rfl rfl) fun _ _ _ _ h => h) (a_cons (e_var 3) a_nil) (aCons_len aNil_len)) a_nil))))) a_nil)) (aCons_len (aCons_len aNil_len))))) (b_one (d_ret e_bl)) b_nil) (b_cons (d_if (w_or (t_cmp (k_ne hu64) o_ne (e_call C_turned hr (by decide) (passes_call (takes_of rfl rfl rfl rfl) fun _ _ _ _ h => h) (a_cons (e_call C_turned hr (by decide) (passes_call (takes_of rfl rfl rfl rfl) fun _ _ _ _ h => h) (a_cons (e_var 3) a_nil) (aCons_len aNil_len)) a_nil) (aCons_len aNil_len)) (e_var 3) (nomark _)) (w_or (t_cmp (k_ne hu64) o_ne (e_callK0 Q_upside_0_row hr (by decide) (passes_call (takes_of rfl rfl rfl rfl) fun _ _ _ _ h => h) (k_arg (e_call C_upside hr (by decide) (passes_call (takes_of rfl rfl rfl rfl) fun _ _ _ _ h => h) (a_cons (e_var 3) a_nil) (aCons_len aNil_len)) k_nil0) (aCons_len aNil_len)) (e_var 3) (nomark _)) (w_or (t_cmp (k_ne hu64) o_ne (e_call C_swapped hr (by decide) (passes_call (takes_of rfl rfl rfl rfl) fun _ _ _ _ h => h) (a_cons (e_callK0 Q_swapped_0_row hr (by decide) (passes_call (takes_of rfl rfl rfl rfl) fun _ _ _ _ h => h) (k_arg (e_var 3) k_nil0) (aCons_len aNil_len)) a_nil) (aCons_len aNil_len)) (e_var 3) (nomark _)) (w_or1 (t_cmp (k_ne hu64) o_ne (e_call C_swapped hr (by decide) (passes_call (takes_of rfl rfl rfl rfl) fun _ _ _ _ h => h) (a_cons (e_call C_turned hr (by decide) (passes_call (takes_of rfl rfl rfl rfl) fun _ _ _ _ h => h) (a_cons (e_var 3) a_nil) (aCons_len aNil_len)) a_nil) (aCons_len aNil_len)) (e_call C_upside hr (by decide) (passes_call (takes_of rfl rfl rfl rfl) fun _ _ _ _ h => h) (a_cons (e_call C_swapped hr (by decide) (passes_call (takes_of rfl rfl rfl rfl) fun _ _ _ _ h => h) (a_cons (e_var 3) a_nil) (aCons_len aNil_len)) a_nil) (aCons_len aNil_len)) (nomark _)))))).dt (b_one (d_ret e_bl)) b_nil) (b_cons (d_par2 5 6 rfl sc_law.nd (m_dat (e_call C__law_beside hr (by decide) (passes_call (takes_of rfl rfl rfl rfl) fun _ _ _ _ h => h) (a_cons (e_var 3) (a_cons (e_var 4) a_nil)) (aCons_len (aCons_len aNil_len))) (m_dat (e_call C__law_under hr (by decide) (passes_call (takes_of rfl rfl rfl rfl) fun _ _ _ _ h => h) (a_cons (e_var 3) (a_cons (e_var 4) a_nil)) (aCons_len (aCons_len aNil_len))) m_nil))) (b_cons (d_if (w_or (t_not (t_val (e_call C__law_same hr (by decide) (passes_call (takes_of rfl rfl rfl rfl) fun _ _ _ _ h => h) (a_cons (e_frz (n_lst (a_cons (e_call C_beside hr (by decide) (passes_call (takes_of rfl rfl rfl rfl) fun _ _ _ _ h => h) (a_cons (e_var 3) (a_cons (e_var 4) a_nil)) (aCons_len (aCons_len aNil_len))) (a_cons (e_call C_under hr (by decide) (passes_call (takes_of rfl rfl rfl rfl) fun _ _ _ _ h => h) (a_cons (e_var 3) (a_cons (e_var 4) a_nil)) (aCons_len (aCons_len aNil_len))) a_nil)))) (a_cons (e_frz (n_lst (a_cons (e_var 5) (a_cons (e_var 6) a_nil)))) a_nil)) (aCons_len (aCons_len aNil_len))))) (w_or1 (t_cmp (k_ne hu64) o_ne (e_callK0 Q_under_0_other_one hr (by decide) (passes_call (takes_of rfl rfl rfl rfl) fun _ _ _ _ h => h) (k_arg (e_call C_upside hr (by decide) (passes_call (takes_of rfl rfl rfl rfl) fun _ _ _ _ h => h) (a_cons (e_var 4) a_nil) (aCons_len aNil_len)) (k_arg (e_call C_upside hr (by decide) (passes_call (takes_of rfl rfl rfl rfl) fun _ _ _ _ h => h) (a_cons (e_var 3) a_nil) (aCons_len aNil_len)) k_nil0)) (aCons_len (aCons_len aNil_len))) (e_call C_upside hr (by decide) (passes_call (takes_of rfl rfl rfl rfl) fun _ _ _ _ h => h) (a_cons (e_var 5) a_nil) (aCons_len aNil_len)) (nomark _)))).dt (b_one (d_ret e_bl)) b_nil) (b_cons (d_if (w_or (t_cmp (k_ne hu64) o_ne (e_call C_turned hr (by decide) (passes_call (takes_of rfl rfl rfl rfl) fun _ _ _ _ h => h) (a_cons (e_var 5) a_nil) (aCons_len aNil_len)) (e_call C_under hr (by decide) (passes_call (takes_of rfl rfl rfl rfl) fun _ _ _ _ h => h) (a_cons (e_call C_turned hr (by decide) (passes_call (takes_of rfl rfl rfl rfl) fun _ _ _ _ h => h) (a_cons (e_var 4) a_nil) (aCons_len aNil_len)) (a_cons (e_call C_turned hr (by decide) (passes_call (takes_of rfl rfl rfl rfl) fun _ _ _ _ h => h) (a_cons (e_var 3) a_nil) (aCons_len aNil_len)) a_nil)) (aCons_len (aCons_len aNil_len))) (nomark _)) (w_or (t_cmp (k_ne hu64) o_ne (e_call C_swapped hr (by decide) (passes_call (takes_of rfl rfl rfl rfl) fun _ _ _ _ h => h) (a_cons (e_var 5) a_nil) (aCons_len aNil_len)) (e_call C_beside hr (by decide) (passes_call (takes_of rfl rfl rfl rfl) fun _ _ _ _ h => h) (a_cons (e_call C_swapped hr (by decide) (passes_call (takes_of rfl rfl rfl rfl) fun _ _ _ _ h => h) (a_cons (e_var 3) a_nil) (aCons_len aNil_len)) (a_cons (e_call C_swapped hr (by decide) (passes_call (takes_of rfl rfl rfl rfl) fun _ _ _ _ h => h) (a_cons (e_var 4) a_nil) (aCons_len aNil_len)) a_nil)) (aCons_len (aCons_len aNil_len))) (nomark _)) (w_or1 (t_cmp (k_ne hu64) o_ne (e_call C_swapped hr (by decide) (passes_call (takes_of rfl rfl rfl rfl) fun _ _ _ _ h => h) (a_cons (e_var 6) a_nil) (aCons_len aNil_len)) (e_call C_under hr (by decide) (passes_call (takes_of rfl rfl rfl rfl) fun _ _ _ _ h => h) (a_cons (e_call C_swapped hr (by decide) (passes_call (takes_of rfl rfl rfl rfl) fun _ _ _ _ h => h) (a_cons (e_var 4) a_nil) (aCons_len aNil_len)) (a_cons (e_call C_swapped hr (by decide) (passes_call (takes_of rfl rfl rfl rfl) fun _ _ _ _ h => h) (a_cons (e_var 3) a_nil) (aCons_len aNil_len)) a_nil)) (aCons_len (aCons_len aNil_len))) (nomark _))))).dt (b_one (d_ret e_bl)) b_nil) (b_cons (d_set 7 sc_law.nd (e_call C__law_row hr (by decide) (passes_call (takes_of rfl rfl rfl rfl) fun _ _ _ _ h => h) (a_drw 1 (a_cons e_int a_nil)) (aDrw_len (aCons_len aNil_len)))) (b_cons (d_set 8 sc_law.nd (e_tupleOf z_tuple (e_frz (n_lc (own := [("entry", 10)]) rfl sc_law.nd (i_seq (e_var 7)) (blkOk_by (by kernel_rfl)) (fun _ _ _ _ _ _ => (g_name 10 sc_law.nd)) (fun _ _ _ _ _ _ => ts_nil) (fun _ _ _ _ _ _ => (e_call C__law_dealt hr (by decide) passL (a_drw 1 (a_cons (e_op op_addA o_add e_int (e_call C__law_draw hr (by decide) passL (a_drw 1 (a_cons e_int a_nil)) (aDrw_len (aCons_len aNil_len)))) a_nil)) (aDrw_len (aCons_len aNil_len)))) (by decide))))) (b_cons (d_set 9 sc_law.nd (e_call C__law_blown hr (by decide) (passes_call (takes_of rfl rfl rfl rfl) fun _ _ _ _ h => h) (a_cons (e_var 7) (a_cons (e_var 8) a_nil)) (aCons_len (aCons_len aNil_len)))) (b_cons (d_if (w_or (t_not (t_val (e_call C__law_same hr (by decide) (passes_call (takes_of rfl rfl rfl rfl) fun _ _ _ _ h => h) (a_cons (e_call C_blown hr (by decide) (passes_call (takes_of rfl rfl rfl rfl) fun _ _ _ _ h => h) (a_cons (e_var 7) (a_cons (e_var 8) a_nil)) (aCons_len (aCons_len aNil_len))) (a_cons (e_var 9) a_nil)) (aCons_len (aCons_len aNil_len))))) (w_or1 (t_cmp (k_ne hu64) o_ne (e_callK0 Q_blown_0_parts_row hr (by decide) (passes_call (takes_of rfl rfl rfl rfl) fun _ _ _ _ h => h) (k_arg (e_tupleOf z_tuple (e_frz (n_lc (own := [("own", 11)]) rfl sc_law.nd (i_seq (e_rev (e_var 8))) (blkOk_by (by kernel_rfl)) (fun _ _ _ _ _ _ => (g_name 11 sc_law.nd)) (fun _ _ _ _ _ _ => ts_nil) (fun _ _ _ _ _ _ => (e_call C__law_turned hr (by decide) passL (a_cons (e_var 11) a_nil) (aCons_len aNil_len))) (by decide)))) (k_arg (e_call C_turned hr (by decide) (passes_call (takes_of rfl rfl rfl rfl) fun _ _ _ _ h => h) (a_cons (e_var 7) a_nil) (aCons_len aNil_len)) k_nil0)) (aCons_len (aCons_len aNil_len))) (e_call C_turned hr (by decide) (passes_call (takes_of rfl rfl rfl rfl) fun _ _ _ _ h => h) (a_cons (e_var 9) a_nil) (aCons_len aNil_len)) (nomark _)))).dt (b_one (d_ret e_bl)) b_nil) (b_cons (d_if (w_or (t_cmp (k_ne hu64) o_ne (e_call C_upside hr (by decide) (passes_call (takes_of rfl rfl rfl rfl) fun _ _ _ _ h => h) (a_cons (e_var 9) a_nil) (aCons_len aNil_len)) (e_call C_blown hr (by decide) (passes_call (takes_of rfl rfl rfl rfl) fun _ _ _ _ h => h) (a_cons (e_call C_upside hr (by decide) (passes_call (takes_of rfl rfl rfl rfl) fun _ _ _ _ h => h) (a_cons (e_var 7) a_nil) (aCons_len aNil_len)) (a_cons (e_tupleOf z_tuple (e_frz (n_lc (own := [("own", 11)]) rfl sc_law.nd (i_seq (e_var 8)) (blkOk_by (by kernel_rfl)) (fun _ _ _ _ _ _ => (g_name 11 sc_law.nd)) (fun _ _ _ _ _ _ => ts_nil) (fun _ _ _ _ _ _ => (e_call C_upside hr (by decide) passL (a_cons (e_var 11) a_nil) (aCons_len aNil_len))) (by decide)))) a_nil)) (aCons_len (aCons_len aNil_len))) (nomark _)) (w_or1 (t_cmp (k_ne hu64) o_ne (e_call C_swapped hr (by decide) (passes_call (takes_of rfl rfl rfl rfl) fun _ _ _ _ h => h) (a_cons (e_var 9) a_nil) (aCons_len aNil_len)) (e_call C_blown hr (by decide) (passes_call (takes_of rfl rfl rfl rfl) fun _ _ _ _ h => h) (a_cons (e_call C_swapped hr (by decide) (passes_call (takes_of rfl rfl rfl rfl) fun _ _ _ _ h => h) (a_cons (e_var 7) a_nil) (aCons_len aNil_len)) (a_cons (e_tupleOf z_tuple (e_frz (n_lc (own := [("place", 12)]) rfl sc_law.nd (i_seq (e_call C__law_swapped hr (by decide) (passes_call (takes_of rfl rfl rfl rfl) fun _ _ _ _ h => h) (a_cons (e_var 7) a_nil) (aCons_len aNil_len))) (blkOk_by (by kernel_rfl)) (fun _ _ _ _ _ _ => (g_name 12 sc_law.nd)) (fun _ _ _ _ _ _ => ts_nil) (fun _ _ _ _ _ _ => (e_call C_swapped hr (by decide) passL (a_cons (e_sub hr (e_var 8) (e_var 12)) a_nil) (aCons_len aNil_len))) (by decide)))) a_nil)) (aCons_len (aCons_len aNil_len))) (nomark _)))).dt (b_one (d_ret e_bl)) b_nil) (b_one (d_if (w_or (t_cmp (k_ne hu64) o_ne (e_call C_blown hr (by decide) (passes_call (takes_of rfl rfl rfl rfl) fun _ _ _ _ h => h) (a_cons (e_tup (a_cons e_int (a_cons e_int a_nil))) (a_cons (e_if (t_cmp (k_ne hu64) o_ne (e_var 7) (e_tup a_nil) (nomark _)) (e_tup (a_cons (e_op op_addA o_add (e_var 7) (e_tup a_nil)) (a_cons (e_tup (a_cons e_int a_nil)) a_nil))) (e_tup (a_cons (e_tup (a_cons e_int a_nil)) (a_cons (e_tup (a_cons e_int a_nil)) a_nil)))) a_nil)) (aCons_len (aCons_len aNil_len))) (e_if (t_cmp (k_ne hu64) o_ne (e_var 7) (e_tup a_nil) (nomark _)) (e_call C__law_beside hr (by decide) (passes_call (takes_of rfl rfl rfl rfl) fun _ _ _ _ h => h) (a_cons (e_var 7) (a_cons (e_tup (a_cons e_int a_nil)) a_nil)) (aCons_len (aCons_len aNil_len))) (e_tup (a_cons e_int (a_cons e_int a_nil)))) (nomark _)) (w_or1 (t_not (t_val (e_callT C__law_refused hT hr (by decide) (passes_call (takes_of rfl rfl rfl rfl) fun _ _ _ _ h => h) (a_drw 1 (a_cons (e_var 3) a_nil)) (aDrw_len (aCons_len aNil_len))))))).dt (b_one (d_ret e_bl)) b_nil)))))))))))))) (b_one (d_ret e_bl)))⟩
    obtain ⟨t, ht⟩ := rest
    refine ⟨_, pss_cons (ps_set (i := 1) sc_law.nd rfl (by first | exact .inl rfl | exact .inr rfl) (pe_call GB (hr.mono (by decide)) rfl mB kB bB .nil (passes_call (takes_of rfl rfl rfl rfl) fun _ _ _ _ h => h) (pa_cons (pv 0) pa_nil))) (ht ⟨H, H, { st := none, tb := T, clo := fun _ _ => True }⟩ rfl).ps, ?_⟩
    refine ⟨_, rfl, a, ns, rfl, hS, Nat.le_trans hlen (by decide), fun st g c H' sm n1 n2 n3 sh => ?_⟩
    exact law_rdT (by decide) (fun Z hz => (ht Z hz).sn) (hlaw ns hlen) hS hTb sm n1 n2 n3 sh q
end defs

section lib
variable {w : DS}
theorem perm_take {α : Type} : ∀ {l : List α} {i : Nat} (h : i < l.length), (l[i] :: l.eraseIdx i).Perm l
  | x :: l, 0, _ => List.Perm.refl _
  | x :: l, i + 1, h => by
    have h' : i < l.length := by simpa using h
    exact (List.Perm.swap x _ _).trans ((perm_take h').cons x)
/-- what may be shuffled -/
def okSh (l : List Dv) : Prop := ∀ d ∈ l, okn 50 d ∧ imm d = true
theorem immAll_of : ∀ {l : List Dv}, (∀ d ∈ l, imm d = true) → immAll l = true
  | [], _ => rfl
  | d :: l, h => by
    show (imm d && immAll l) = true
    rw [h d List.mem_cons_self, immAll_of fun x hx => h x (List.mem_cons_of_mem _ hx)]; rfl
theorem okSh.c {l : List Dv} (h : okSh l) : okc (.lst l) := (okn_lst (n := 50) fun d hd => (h d hd).1).c
theorem okSh.i {l : List Dv} (h : okSh l) : immAll l = true := immAll_of fun d hd => (h d hd).2
theorem v_draw {n : Nat} (h0 : 0 < n) (h1 : (n : Int) < most) (h2 : 0 ≤ w.turn) (h3 : w.turn < most) : ∃ i w', i < n ∧ Adv 1 w w' ∧ semDraw [.drw, .dat (.int (n : Int))] w = .ok (.int (i : Int)) w' := by
  obtain ⟨a, b⟩ := draw_range (w := w) (room := (n : Int)) (by omega)
  refine ⟨(drawV w n).toNat, drawW w n, by omega, adv_draw, ?_⟩
  rw [semDraw_ok (by omega) h1 h2 h3, Int.toNat_of_nonneg a]
theorem v_shuffling {s : Dv} : ∀ (m : Nat) (left found : List Dv) (w : DS), left.length = m → okSh left → okSh found → left.length ≤ 100000 → found.length + left.length ≤ 100000 → 0 ≤ w.turn → w.turn + left.length < most → ∀ fuel, m < fuel →
    ∃ out w', whileD t__law_shuffled_1 b__law_shuffled_1 fuel [.drw, .dat s, .lst left, .lst found] w = .ok (.nx [.drw, .dat s, .lst [], .lst (found ++ out)]) w' ∧ out.Perm left ∧ Adv left.length w w' := by
  intro m
  induction m with
  | zero =>
    intro left found w hm h1 h2 h3 h3' h4 h5 fuel hf
    have hl : left = [] := List.length_eq_zero_iff.mp hm
    subst hl
    obtain ⟨f, rfl⟩ : ∃ f, fuel = f + 1 := ⟨fuel - 1, by omega⟩
    refine ⟨[], w, ?_, .nil, by exact Adv.refl⟩
    have e1 : dNe (.lst []) (.lst []) = some (.bl false) := by rw [dNe_of h1.c h1.c]; simp
    have e2 : okLend [.drw, .dat s, .lst [], .lst found] 2 = true := by unfold okLend; simp [immEV, h2.i]
    unfold whileD
    simp [u_t__law_shuffled_1, lendT, e1, e2]
  | succ m ih =>
    intro left found w hm h1 h2 h3 h3' h4 h5 fuel hf
    obtain ⟨f, rfl⟩ : ∃ f, fuel = f + 1 := ⟨fuel - 1, by omega⟩
    have hne : left ≠ [] := fun e => by rw [e] at hm; cases hm
    have e1 : dNe (.lst left) (.lst []) = some (.bl true) := by
      rw [dNe_of h1.c (okSh.c (l := []) fun d hd => nomatch hd)]
      simp [hne]
    have e2 : okLend [.drw, .dat s, .lst left, .lst found] 2 = true := by unfold okLend; simp [immEV, h2.i]
    obtain ⟨i, w1, hi, ad, ed⟩ := v_draw (w := w) (n := left.length) (by omega) (by unfold most; omega) h4 (by omega)
    have e3 : ixN left.length (i : Int) = some i := ixN_nat hi
    have e4 : left[i]? = some left[i] := List.getElem?_eq_getElem hi
    have hlen : (left.eraseIdx i).length = m := by rw [List.length_eraseIdx_of_lt hi]; omega
    have h1' : okSh (left.eraseIdx i) := fun d hd => h1 d (List.mem_of_mem_eraseIdx hd)
    have h2' : okSh (found ++ [left[i]]) := fun d hd => by
      rcases List.mem_append.mp hd with z | z
      · exact h2 d z
      · rw [List.mem_singleton.mp z]; exact h1 _ (List.getElem_mem hi)
    obtain ⟨out, w2, e5, hp, ad2⟩ := ih (left.eraseIdx i) (found ++ [left[i]]) w1 hlen h1' h2' (by omega) (by rw [List.length_append, List.length_singleton]; omega) (by have := ad.1; omega) (by have := ad.2; omega) f (by omega)
    refine ⟨left[i] :: out, w2, ?_, ?_, ?_⟩
    · have e6 : left.length ≤ big := le_big (by omega)
      have e7 : found.length < big := Nat.lt_of_lt_of_le (by omega : found.length < 1000000) (by decide)
      unfold whileD
      simp [u_t__law_shuffled_1, u_b__law_shuffled_1, lendT, lendE, e1, e2, fPopAt, ed, imm, e6, e3, e4, e7]
      rw [e5, List.append_assoc]
      rfl
    · exact (List.Perm.cons _ hp).trans (perm_take hi)
    · exact (ad.trans ad2).le (by rw [hlen]; omega)
theorem v_shuffled {l : List Dv} (h : okSh l) (hl : l.length ≤ 100000) (h4 : 0 ≤ w.turn) (h5 : w.turn + l.length < most) :
    ∃ out w', f__law_shuffled [.drw, .dat (.lst l)] w = .ok (.lst out) w' ∧ out.Perm l ∧ Adv l.length w w' := by
  obtain ⟨out, w', e, hp, ad⟩ := v_shuffling (s := .lst l) l.length l [] w rfl h (fun d hd => nomatch hd) hl (by simpa using hl) h4 h5 1000000 (by omega)
  refine ⟨out, w', ?_, hp, ad⟩
  have e1 : dList [.lst l] = some l := rfl
  simp [f__law_shuffled, semOf_eq, g__law_shuffled, setsE, e1, gWhile, e]
theorem v_dealt {n : Nat} (hn : n ≤ 40) (h4 : 0 ≤ w.turn) (h5 : w.turn + n < most) : ∃ p w', f__law_dealt [.drw, .dat (.int (n : Int))] w = .ok (rowD p) w' ∧ IsRow p ∧ p.length = n ∧ Adv n w w' := by
  obtain ⟨out, w', e, hp, ad⟩ := v_shuffled (l := natD (List.range n)) (w := w) (fun d hd => ⟨okn_natD d hd, by obtain ⟨i, _, rfl⟩ := List.mem_map.mp hd; rfl⟩) (by rw [natD_length, List.length_range]; omega) h4 (by rw [natD_length, List.length_range]; exact h5)
  have e5 : okRg 0 (n : Int) := by unfold okRg; omega
  obtain ⟨p, rfl, hpp⟩ : ∃ p, out = natD p ∧ p.Perm (List.range n) := by
    have hm : ∀ d ∈ out, ∃ i : Nat, d = .int (i : Int) := fun d hd => by
      obtain ⟨i, _, rfl⟩ := List.mem_map.mp (hp.mem_iff.mp hd)
      exact ⟨i, rfl⟩
    have key : ∀ out : List Dv, (∀ d ∈ out, ∃ i : Nat, d = .int (i : Int)) → ∃ p, out = natD p := fun out => by
      induction out with
      | nil => exact fun _ => ⟨[], rfl⟩
      | cons d out ih =>
        intro hd
        obtain ⟨i, rfl⟩ := hd d List.mem_cons_self
        obtain ⟨p, rfl⟩ := ih fun x hx => hd x (List.mem_cons_of_mem _ hx)
        exact ⟨i :: p, rfl⟩
    obtain ⟨p, rfl⟩ := key out hm
    refine ⟨p, rfl, ?_⟩
    have := hp.map fun d => match d with | Dv.int i => i.toNat | _ => 0
    unfold natD at this
    rw [List.map_map, List.map_map] at this
    have ef : ((fun d => match d with | Dv.int i => i.toNat | _ => 0) ∘ fun x : Nat => Dv.int (x : Int)) = id := by
      funext x; exact Int.toNat_natCast x
    rw [ef, List.map_id, List.map_id] at this
    exact this
  have hl : p.length = n := by rw [hpp.length_eq, List.length_range]
  rw [natD_length, List.length_range] at ad
  refine ⟨p, w', ?_, ⟨by rw [hl]; exact hpp, by omega⟩, hl, ad⟩
  simp [f__law_dealt, semOf_eq, g__law_dealt, e5, rgD_nat, e, row_fold]
mutual
def szD : Dv → Nat
  | .tup ds => szAll ds + 1
  | .lst ds => szAll ds + 1
  | _ => 1
def szAll : List Dv → Nat
  | [] => 0
  | d :: ds => szD d + szAll ds
end
theorem szAll_append : ∀ (a b : List Dv), szAll (a ++ b) = szAll a + szAll b
  | [], b => by simp [szAll]
  | d :: a, b => by
    show szD d + szAll (a ++ b) = (szD d + szAll a) + szAll b
    rw [szAll_append a b]; omega
theorem szAll_len : ∀ (a : List Dv), a.length ≤ szAll a
  | [] => Nat.zero_le _
  | d :: a => by
    have h := szAll_len a
    have h1 : 1 ≤ szD d := by cases d <;> simp [szD]
    show a.length + 1 ≤ szD d + szAll a
    omega
def twin (d : Dv) : Dv := .tup [d, d]
theorem zip_self (ds : List Dv) : zipD ds ds = ds.map twin := by
  unfold zipD
  induction ds with
  | nil => rfl
  | cons d ds ih => rw [List.zipWith_cons_cons, List.map_cons, ih]; rfl
theorem okn_twins {n : Nat} {l : List Dv} (h : ∀ d ∈ l, okn n d) : okn (n + 2) (.lst (l.map twin)) := okn_lst fun e he => by
  obtain ⟨d, hd, rfl⟩ := List.mem_map.mp he
  exact okn_tup fun x hx => by
    have : x = d := by simpa using hx
    rw [this]; exact h d hd
theorem dNe_self {d : Dv} (h : okc d) : dNe d d = some (.bl false) := by rw [dNe_of h h]; simp
theorem dNe_tt : dNe (.bl true) (.bl true) = some (.bl false) := rfl
theorem dNe_ff : dNe (.bl false) (.bl false) = some (.bl false) := rfl
theorem okn_mem {n : Nat} : ∀ {ds : List Dv}, clnAll ds = true → deepAll ds ≤ n → ∀ e ∈ ds, okn n e
  | d :: ds, h, hn, e, he => by
    have h : (cln d && clnAll ds) = true := h
    have hn : max (deep d) (deepAll ds) ≤ n := hn
    rw [Bool.and_eq_true] at h
    rcases List.mem_cons.mp he with rfl | z
    · exact ⟨h.1, by omega⟩
    · exact okn_mem h.2 (by omega) e z
theorem okn_of_tup {n : Nat} {ds : List Dv} (h : okn n (.tup ds)) : ∀ e ∈ ds, okn n e := okn_mem h.1 (by have : deepAll ds + 1 ≤ n := h.2; omega)
theorem okn_of_lst {n : Nat} {ds : List Dv} (h : okn n (.lst ds)) : ∀ e ∈ ds, okn n e := okn_mem h.1 (by have : deepAll ds + 1 ≤ n := h.2; omega)
theorem v_sameBody {f0 d0 d : Dv} {L : List Dv} {x3 x4 x5 x6 x7 x8 : EV} (hL : szAll L + szD d ≤ 500000) (hd : okn 50 d) (p7 : plainEV x7 = true) (p8 : plainEV x8 = true) :
    ∃ (M : List Dv) (y5 : EV), (∀ e ∈ M, okn 50 e) ∧ szAll M + 1 = szD d ∧ (plainEV x5 = true → plainEV y5 = true) ∧
      b__law_same_1 [.dat f0, .dat d0, .lst ((L ++ [d]).map twin), x3, x4, x5, x6, x7, x8] w = .ok (.nx [.dat f0, .dat d0, .lst ((L ++ M).map twin), .dat d, .dat d, y5, x6, x7, x8]) w := by
  have e2 : ((L ++ [d]).map twin)[((L ++ [d]).map twin).length - 1]? = some (twin d) := by simp
  have e3 : ((L ++ [d]).map twin).dropLast = L.map twin := by simp
  have hl := szAll_len L
  cases d with
  | non =>
    refine ⟨[], x5, (fun e he => nomatch he), rfl, id, ?_⟩
    rw [u_b__law_same_1]
    have k1 : dIsN false .non .non = some (.bl true) := rfl
    have k2 : dIsN true .non .non = some (.bl false) := rfl
    simp [gAsgF, fPop0, e2, twin, k1, k2]
  | int i =>
    refine ⟨[], x5, (fun e he => nomatch he), rfl, id, ?_⟩
    rw [u_b__law_same_1]
    have k1 : dIsN false (.int i) .non = some (.bl false) := rfl
    have k2 := dNe_self (okc_int i)
    simp [gAsgF, fPop0, e2, twin, k1, k2, isB, dNe_tt]
  | str s =>
    refine ⟨[], x5, (fun e he => nomatch he), rfl, id, ?_⟩
    rw [u_b__law_same_1]
    have k1 : dIsN false (.str s) .non = some (.bl false) := rfl
    have k2 := dNe_self hd.c
    simp [gAsgF, fPop0, e2, twin, k1, k2, isB, dNe_ff]
  | tup ds =>
    have hds : ∀ e ∈ ds, okn 50 e := fun e he => okn_of_tup hd e he
    have hsz : szAll ds ≤ 500000 := by have : szD (.tup ds) = szAll ds + 1 := rfl; omega
    have hlen := szAll_len ds
    refine ⟨ds, .dat (.lst [.bl true, .bl false]), hds, rfl, fun _ => rfl, ?_⟩
    rw [u_b__law_same_1]
    have k1 : dIsN false (.tup ds) .non = some (.bl false) := rfl
    have k2 : dIn true (.bl true) (.lst [.bl true, .bl false]) = some (.bl false) := rfl
    have k3 := dNe_self (okc_int (ds.length : Int))
    have k4 : dZip (.tup ds) (.tup ds) = some (ds.map twin) := by
      show some (zipD ds ds) = _
      rw [zip_self]
    have k5 : okW [.dat f0, .dat d0, .lst (L.map twin), .dat (.tup ds), .dat (.tup ds), .dat (.lst [.bl true, .bl false]), x6, x7, x8] [7, 8] = true := by
      unfold okW; simp [p7, p8]
    have k6 : fLcW (fZip (fVar 3) (fVar 4)) (kTup 2 (kCons (kName 7) (kCons (kName 8) kNil))) fYes (fTup (aCons (fVar 7) (aCons (fVar 8) aNil))) [7, 8] [.dat f0, .dat d0, .lst (L.map twin), .dat (.tup ds), .dat (.tup ds), .dat (.lst [.bl true, .bl false]), x6, x7, x8] w = .ok (ds.map twin) w := by
      have hi : fZip (fVar 3) (fVar 4) [.dat f0, .dat d0, .lst (L.map twin), .dat (.tup ds), .dat (.tup ds), .dat (.lst [.bl true, .bl false]), x6, x7, x8] w = .ok (ds.map twin) w := by simp [fZip, k4]
      rw [lcW_of twin (fun _ => true) twin ds hi (le_big (by omega)) k5 fun x _ => ⟨_, rfl, rfl, fun _ => by simp [wipeE, twin]⟩]
      rw [List.filter_eq_self.mpr fun _ _ => rfl]
    have k7 : L.length + ds.length ≤ big := le_big (by omega)
    simp [gAsgF, fPop0, e2, twin, k1, k2, k3, isB, gExtN, k6, k7]
  | lst ds =>
    have hds : ∀ e ∈ ds, okn 50 e := fun e he => okn_of_lst hd e he
    have hsz : szAll ds ≤ 500000 := by have : szD (.lst ds) = szAll ds + 1 := rfl; omega
    have hlen := szAll_len ds
    refine ⟨ds, .dat (.lst [.bl false, .bl true]), hds, rfl, fun _ => rfl, ?_⟩
    rw [u_b__law_same_1]
    have k1 : dIsN false (.lst ds) .non = some (.bl false) := rfl
    have k2 : dIn true (.bl true) (.lst [.bl false, .bl true]) = some (.bl false) := rfl
    have k3 := dNe_self (okc_int (ds.length : Int))
    have k4 : dZip (.lst ds) (.lst ds) = some (ds.map twin) := by
      show some (zipD ds ds) = _
      rw [zip_self]
    have k5 : okW [.dat f0, .dat d0, .lst (L.map twin), .dat (.lst ds), .dat (.lst ds), .dat (.lst [.bl false, .bl true]), x6, x7, x8] [7, 8] = true := by
      unfold okW; simp [p7, p8]
    have k6 : fLcW (fZip (fVar 3) (fVar 4)) (kTup 2 (kCons (kName 7) (kCons (kName 8) kNil))) fYes (fTup (aCons (fVar 7) (aCons (fVar 8) aNil))) [7, 8] [.dat f0, .dat d0, .lst (L.map twin), .dat (.lst ds), .dat (.lst ds), .dat (.lst [.bl false, .bl true]), x6, x7, x8] w = .ok (ds.map twin) w := by
      have hi : fZip (fVar 3) (fVar 4) [.dat f0, .dat d0, .lst (L.map twin), .dat (.lst ds), .dat (.lst ds), .dat (.lst [.bl false, .bl true]), x6, x7, x8] w = .ok (ds.map twin) w := by simp [fZip, k4]
      rw [lcW_of twin (fun _ => true) twin ds hi (le_big (by omega)) k5 fun x _ => ⟨_, rfl, rfl, fun _ => by simp [wipeE, twin]⟩]
      rw [List.filter_eq_self.mpr fun _ _ => rfl]
    have k7 : L.length + ds.length ≤ big := le_big (by omega)
    simp [gAsgF, fPop0, e2, twin, k1, k2, k3, isB, gExtN, k6, k7]
  | bl b => exact nomatch hd.1
  | dct _ => exact nomatch hd.1
  | glo _ => exact nomatch hd.1
  | exc _ _ => exact nomatch hd.1
  | scr _ => exact nomatch hd.1
theorem v_samings {f0 d0 : Dv} : ∀ (fuel : Nat) (L : List Dv) (x3 x4 x5 x6 x7 x8 : EV), (∀ d ∈ L, okn 50 d) → szAll L ≤ 500000 → szAll L < fuel → plainEV x3 = true → plainEV x4 = true → plainEV x5 = true → plainEV x6 = true → plainEV x7 = true → plainEV x8 = true →
    ∃ ρ', whileD t__law_same_1 b__law_same_1 fuel [.dat f0, .dat d0, .lst (L.map twin), x3, x4, x5, x6, x7, x8] w = .ok (.nx ρ') w := by
  intro fuel
  induction fuel with
  | zero => intro L x3 x4 x5 x6 x7 x8 h hz hf; omega
  | succ fuel ih =>
    intro L x3 x4 x5 x6 x7 x8 h hz hf p3 p4 p5 p6 p7 p8
    have imE : ∀ {e : EV}, plainEV e = true → immEV e = true := fun {e} h => by cases e <;> first | rfl | cases h
    have imD : ∀ d : Dv, immEV (.dat d) = true := fun _ => rfl
    have imU : immEV .un = true := rfl
    have eL : okLend [.dat f0, .dat d0, .lst (L.map twin), x3, x4, x5, x6, x7, x8] 2 = true := by
      unfold okLend; simp [imE p3, imE p4, imE p5, imE p6, imE p7, imE p8, imD, imU]
    rcases List.eq_nil_or_concat L with rfl | ⟨L', d, rfl⟩
    · have e1 : dNe (.lst []) (.lst []) = some (.bl false) := dNe_self (okn_lst (n := 0) (ds := []) fun d hd => nomatch hd).c
      refine ⟨[.dat f0, .dat d0, .lst [], x3, x4, x5, x6, x7, x8], ?_⟩
      have et : t__law_same_1 [.dat f0, .dat d0, .lst ([].map twin), x3, x4, x5, x6, x7, x8] w = .ok false w := by
        rw [u_t__law_same_1]
        have eL' : okLend [.dat f0, .dat d0, .lst [], x3, x4, x5, x6, x7, x8] 2 = true := eL
        simp [lendT, e1, eL']
      unfold whileD
      rw [et]
      rfl
    · have hd := h d (by simp)
      have hL' : ∀ e ∈ L', okn 50 e := fun e he => h e (by simp [he])
      have e0 : L'.concat d = L' ++ [d] := List.concat_eq_append
      rw [e0] at h hz hf eL ⊢
      have e1 : dNe (.lst ((L' ++ [d]).map twin)) (.lst []) = some (.bl true) := by
        rw [dNe_of ((okn_twins h).c) (okn_lst (n := 0) (ds := []) fun d hd => nomatch hd).c]; simp
      rw [szAll_append] at hz hf
      have hs : szAll [d] = szD d := by simp [szAll]
      rw [hs] at hz hf
      obtain ⟨M, y5, hM, hMs, hy, eb⟩ := v_sameBody (w := w) (f0 := f0) (d0 := d0) (x3 := x3) (x4 := x4) (x5 := x5) (x6 := x6) hz hd p7 p8
      have hLM : ∀ e ∈ L' ++ M, okn 50 e := fun e he => (List.mem_append.mp he).elim (hL' e) (hM e)
      obtain ⟨ρ', er⟩ := ih (L' ++ M) (.dat d) (.dat d) y5 x6 x7 x8 hLM (by rw [szAll_append]; omega) (by rw [szAll_append]; omega) rfl rfl (hy p5) p6 p7 p8
      refine ⟨ρ', ?_⟩
      have et : t__law_same_1 [.dat f0, .dat d0, .lst ((L' ++ [d]).map twin), x3, x4, x5, x6, x7, x8] w = .ok true w := by
        rw [u_t__law_same_1]
        simp only [lendT, List.getElem?_cons_succ, List.getElem?_cons_zero, Option.bind_some, lent_lst, eL, if_true]
        have e1' : dNe (.lst (L'.map twin ++ [twin d])) (.lst []) = some (.bl true) := by simpa using e1
        simp [e1']
      unfold whileD
      rw [et]
      simp only [RR.bind_ok, if_true]
      rw [eb]
      simp only [RR.bind_ok]
      exact er
theorem v_same {d : Dv} (h : okn 50 d) (hz : szD d ≤ 500000) : f__law_same [.dat d, .dat d] w = .ok (.bl true) w := by
  obtain ⟨ρ', e⟩ := v_samings (w := w) (f0 := d) (d0 := d) 1000000 [d] .un .un .un .un .un .un (fun e he => by rw [List.mem_singleton.mp he]; exact h) (by simp [szAll]; omega) (by simp [szAll]; omega) rfl rfl rfl rfl rfl rfl
  have e2 : [d].map twin = [.tup [d, d]] := rfl
  rw [e2] at e
  simp [f__law_same, semOf_eq, g__law_same, gWhile, e]
/-- a whole number -/
def wh : Dv → Bool
  | .int _ => true
  | _ => false
/-- data of the plain kinds -/
def okT (d : Dv) : Prop := (tyN d).isSome = true
theorem v_is_whole_any {d : Dv} (h : okT d) : f_is_whole [.dat d] w = .ok (.bl (wh d)) w := by
  cases d <;> first | (cases h; done) | (simp [f_is_whole, semOf_eq, g_is_whole, tyN, isB, wh])
def intL (ds : List Dv) : List Int := ds.filterMap fun d => match d with | .int i => some i | _ => none
theorem intL_map (l : List Int) : intL (l.map Dv.int) = l := by
  induction l with
  | nil => rfl
  | cons a l ih => show a :: intL (l.map Dv.int) = _; rw [ih]
theorem intL_all {ds : List Dv} (h : ds.all wh = true) : ds = (intL ds).map Dv.int := by
  induction ds with
  | nil => rfl
  | cons d ds ih =>
    rw [List.all_cons, Bool.and_eq_true] at h
    cases d with
    | int i => show _ = Dv.int i :: (intL ds).map Dv.int; rw [← ih h.2]
    | _ => exact absurd h.1 (by simp [wh])
/-- every number below the size stands in it -/
def rowL (l : List Int) : Bool := (List.range l.length).all fun i => l.contains (i : Int)
def isRowD : Dv → Bool
  | .tup ds => decide (ds.length ≤ 40) && ds.all wh && rowL (intL ds)
  | _ => false
theorem rowL_perm : ∀ (n : Nat) (l : List Int), l.length = n → (∀ i < n, ((i : Nat) : Int) ∈ l) → l.Perm ((List.range n).map fun x : Nat => (x : Int))
  | 0, l, hl, _ => by rw [List.length_eq_zero_iff.mp hl]; exact .nil
  | n + 1, l, hl, h => by
    have hn : ((n : Nat) : Int) ∈ l := h n (Nat.lt_succ_self n)
    have e := List.perm_cons_erase hn
    have ih := rowL_perm n (l.erase ((n : Nat) : Int)) (by rw [List.length_erase_of_mem hn, hl]; rfl) fun i hi => (List.mem_erase_of_ne (by omega)).mpr (h i (by omega))
    rw [List.range_succ, List.map_append]
    exact e.trans ((ih.cons _).trans (List.perm_append_comm (l₁ := [((n : Nat) : Int)])))
theorem rowL_iff (l : List Int) : rowL l = true ↔ l.Perm ((List.range l.length).map fun x : Nat => (x : Int)) := by
  unfold rowL
  rw [List.all_eq_true]
  constructor
  · intro h
    exact rowL_perm l.length l rfl fun i hi => by simpa using h i (List.mem_range.mpr hi)
  · intro h i hi
    have : ((i : Nat) : Int) ∈ l := h.mem_iff.mpr (List.mem_map.mpr ⟨i, hi, rfl⟩)
    simpa using this
theorem sorted_range (n : Nat) : ((List.range n).map fun x : Nat => (x : Int)).Pairwise fun a b => decide (a ≤ b) = true := by
  rw [List.pairwise_map]
  exact (List.pairwise_lt_range (n := n)).imp fun h => decide_eq_true (by omega)
theorem sort_row (l : List Int) : (l.mergeSort fun a b => decide (a ≤ b)) = ((List.range l.length).map fun x : Nat => (x : Int)) ↔ rowL l = true := by
  rw [rowL_iff]
  constructor
  · intro h
    rw [← h]
    exact (List.mergeSort_perm l _).symm
  · intro h
    refine List.Perm.eq_of_pairwise (le := fun a b : Int => decide (a ≤ b) = true) (fun a b _ _ h1 h2 => by have := of_decide_eq_true h1; have := of_decide_eq_true h2; omega) (List.pairwise_mergeSort (fun a b c h1 h2 => by have := of_decide_eq_true h1; have := of_decide_eq_true h2; exact decide_eq_true (by omega)) (fun a b => by simp; omega) l) (sorted_range _) ((List.mergeSort_perm l _).trans h)
open Classical in
theorem v_is_row_any {d : Dv} (h : okT d) (hd : ∀ ds, d = .tup ds → ds.length ≤ 100000 ∧ ∀ e ∈ ds, okT e) : f_is_row [.dat d] w = .ok (.bl (isRowD d)) w := by
  cases d with
  | tup ds =>
    obtain ⟨hl, ho⟩ := hd ds rfl
    have e1 : fLcW (fItems (fVar 0)) (kName 1) fYes (fCall f_is_whole (aCons (fVar 1) aNil)) [1] [.dat (.tup ds), .un] w = .ok (ds.map fun d => .bl (wh d)) w := by
      have hi : fItems (fVar 0) [.dat (.tup ds), .un] w = .ok (ds.map id) w := by simp
      rw [lcW_of (id : Dv → Dv) (fun _ => true) (fun d => .bl (wh d)) ds hi (le_big (by omega)) rfl fun x hx => ⟨_, rfl, rfl, fun _ => by simp [wipeE, v_is_whole_any (ho x hx)]⟩]
      rw [List.filter_eq_self.mpr fun _ _ => rfl]
    have e2 : dAll [.lst (ds.map fun d => Dv.bl (wh d))] = some (.bl (ds.all wh)) := by
      have : (ds.map fun d => Dv.bl (wh d)) = (ds.map wh).map .bl := by rw [List.map_map]; rfl
      rw [this]
      show (blsOf _).map _ = _
      rw [blsOf_map]
      simp [List.all_map]
    by_cases h40 : ds.length ≤ 40
    · have h40' : ¬ ((40 : Int) < (ds.length : Int)) := by omega
      cases ha : ds.all wh with
      | false =>
        have e3 : isRowD (.tup ds) = false := by simp [isRowD, ha]
        simp [f_is_row, semOf_eq, g_is_row, isB, e1, e2, ha, h40', e3]
      | true =>
        have eds := intL_all ha
        have hlen : (intL ds).length = ds.length := by
          conv => rhs; rw [eds]
          rw [List.length_map]
        have e3 : isRowD (.tup ds) = rowL (intL ds) := by simp [isRowD, ha, h40]
        have e4 : dSorted [.tup ds] = some (((intL ds).mergeSort fun a b => decide (a ≤ b)).map .int) := by rw [eds, dSorted_tup, intL_map]
        have e5 : okRg 0 (ds.length : Int) := by unfold okRg; omega
        have e6 : dEq (.lst (((intL ds).mergeSort fun a b => decide (a ≤ b)).map .int)) (.lst (natD (List.range ds.length))) = some (.bl (rowL (intL ds))) := by
          rw [natD_eq, dEq_of (okn_intsL (n := 0) _).c (okn_intsL (n := 0) _).c]
          congr 2
          have k := sort_row (intL ds)
          rw [hlen] at k
          rw [Bool.eq_iff_iff, decide_eq_true_iff, ← k]
          exact ⟨fun z => ints_inj.mp (Dv.lst.inj z), fun z => by rw [z]⟩
        rw [e3]
        simp [f_is_row, semOf_eq, g_is_row, isB, e1, e2, ha, h40', e4, e5, rgD_nat, e6]
    · have h40' : ((40 : Int) < (ds.length : Int)) := by omega
      have e3 : isRowD (.tup ds) = false := by simp [isRowD, h40]
      simp [f_is_row, semOf_eq, g_is_row, isB, h40', e3]
  | _ => first | (cases h; done) | (simp [f_is_row, semOf_eq, g_is_row, isB, tyN, isRowD])
theorem v_need_row_any {d : Dv} (h : okT d) (hd : ∀ ds, d = .tup ds → ds.length ≤ 100000 ∧ ∀ e ∈ ds, okT e) : f_need_row [.dat d] w = if isRowD d = true then .ok .non w else .rz ⟨"BadRow", none⟩ w := by
  cases e : isRowD d <;> simp [f_need_row, semOf_eq, g_need_row, v_is_row_any h hd, e, gRaise]
theorem intL_natD (p : List Nat) : intL (natD p) = p.map fun x : Nat => (x : Int) := by rw [natD_eq, intL_map]
theorem wh_natD (p : List Nat) : (natD p).all wh = true := by
  unfold natD
  rw [List.all_map]
  exact List.all_eq_true.mpr fun _ _ => rfl
theorem isRowD_row {p : List Nat} (h : IsRow p) : isRowD (rowD p) = true := by
  have hl := h.len
  show (decide ((natD p).length ≤ 40) && (natD p).all wh && rowL (intL (natD p))) = true
  rw [wh_natD, natD_length, intL_natD, decide_eq_true hl, (rowL_iff _).mpr ?_]
  · rfl
  · rw [List.length_map]; exact h.perm.map _
theorem okT_row (p : List Nat) : okT (rowD p) := rfl
theorem okT_rowD {p : List Nat} (h : p.length ≤ 100000) : ∀ ds, rowD p = .tup ds → ds.length ≤ 100000 ∧ ∀ e ∈ ds, okT e := fun ds e => by
  cases e
  refine ⟨by rw [natD_length]; exact h, fun e he => ?_⟩
  obtain ⟨x, _, rfl⟩ := List.mem_map.mp he
  rfl
theorem v_is_row {p : List Nat} (h : IsRow p) : f_is_row [.dat (rowD p)] w = .ok (.bl true) w := by
  have hl := h.len
  rw [v_is_row_any (okT_row p) (okT_rowD (by omega)), isRowD_row h]
theorem v_need_row {p : List Nat} (h : IsRow p) : f_need_row [.dat (rowD p)] w = .ok .non w := by
  have hl := h.len
  rw [v_need_row_any (okT_row p) (okT_rowD (by omega)), isRowD_row h]; rfl
theorem v_caught {g : DS → RR Dv} {x : Xc} {w1 : DS} (h : g w = .rz x w1) (hk : okKeep x.cls = true) : f__law_caught [.fn g] w = .ok (excD x) w1 := by
  simp [f__law_caught, semOf_eq, g__law_caught, gKeep, h, hk]
/-- a dict whose keys and values are numbers -/
def prD (s : List (Int × Int)) : List (Dv × Dv) := s.map fun z => (Dv.int z.1, Dv.int z.2)
theorem hasKey_int (x y : Int) (d : Dv) : hasKey (.int x) (.int y, d) = decide (y = x) := by
  have := hasKey_kD (k := .inl x) (j := .inl y) (d := d)
  rw [show hasKey (.int x) (.int y, d) = hasKey (kD (.inl x)) (kD (.inl y), d) from rfl, this]
  rw [Bool.eq_iff_iff]; simp
theorem prD_any (s : List (Int × Int)) (x : Int) : (prD s).any (hasKey (.int x)) = (s.map (·.1)).contains x := by
  induction s with
  | nil => rfl
  | cons z s ih =>
    show (hasKey (.int x) (.int z.1, .int z.2) || (prD s).any _) = _
    rw [ih, hasKey_int, List.map_cons, List.contains_cons]
    congr 1
    rw [Bool.eq_iff_iff]; simp; exact eq_comm
theorem put_new {s : List (Int × Int)} {x i : Int} (h : x ∉ s.map (·.1)) : dPutD (prD s) (.int x) (.int i) = prD (s ++ [(x, i)]) := by
  unfold dPutD
  rw [prD_any, if_neg (by simpa using h)]
  show _ = List.map _ _
  rw [List.map_append]; rfl
theorem prD_length (s : List (Int × Int)) : (prD s).length = s.length := List.length_map _
theorem prD_look : ∀ {s : List (Int × Int)} {x i : Int}, (s.map (·.1)).Nodup → (x, i) ∈ s → dLook (prD s) (.int x) = some (.int i)
  | z :: s, x, i, hn, h => by
    rw [List.map_cons, List.nodup_cons] at hn
    unfold dLook
    show ((((.int z.1, .int z.2) :: prD s).find? _).map _) = _
    rw [List.find?_cons]
    have e : (decide ((keyOf (Dv.int z.1)).isSome = true ∧ keyOf (Dv.int z.1) = keyOf (Dv.int x))) = decide (z.1 = x) := by
      rw [Bool.eq_iff_iff]
      simp [keyOf, toKey]
    simp only [e]
    rcases List.mem_cons.mp h with rfl | h
    · simp
    · have ne : ¬ z.1 = x := fun q => hn.1 (by rw [q]; exact List.mem_map.mpr ⟨_, h, rfl⟩)
      rw [decide_eq_false ne]
      exact prD_look hn.2 h
theorem prD_sub {s : List (Int × Int)} {x i : Int} (hn : (s.map (·.1)).Nodup) (h : (x, i) ∈ s) : dSubI (.dct (prD s)) (.int x) = some (.int i) := by
  have ha : agree (prD s) (.int x) = true := by
    cases s with
    | nil => cases h
    | cons z s => rfl
  show (if agree (prD s) (.int x) = true ∧ (toKey (.int x)).isSome = true then dLook (prD s) (.int x) else none) = _
  rw [if_pos ⟨ha, rfl⟩, prD_look hn h]
/-- a tuple or a list of numbers -/
def seqD (b : Bool) (l : List Int) : Dv := if b = true then .tup (l.map .int) else .lst (l.map .int)
@[simp] theorem seqD_items (b : Bool) (l : List Int) : itemsS (seqD b l) = some (l.map .int) := by cases b <;> rfl
@[simp] theorem seqD_itemsOf (b : Bool) (l : List Int) : itemsOf (seqD b l) = some (l.map .int) := by cases b <;> rfl
@[simp] theorem x_sl0 (fa : Sx) (fl fh : List EV → DS → RR (Option Int)) (ρ : List EV) (w : DS) : fSl fa fl fh ρ w = (fa ρ w).bind fun d w1 => (fl ρ w1).bind fun lo w2 => (fh ρ w2).bind fun hi w3 => .of (dSl lo hi d) w3 := rfl
/-- ascending places of a row of n entries -/
def Places (n : Nat) (q : List Nat) : Prop := q.Pairwise (· < ·) ∧ ∀ i ∈ q, i < n
theorem Places.nodup {n : Nat} {q : List Nat} (h : Places n q) : q.Nodup := h.1.imp fun h => Nat.ne_of_lt h
theorem Places.len {n : Nat} {q : List Nat} (h : Places n q) : q.length ≤ n := by
  have gen : ∀ (q : List Nat) (k : Nat), k ≤ n → q.Pairwise (· < ·) → (∀ i ∈ q, k ≤ i ∧ i < n) → q.length + k ≤ n := fun q => by
    induction q with
    | nil => intro k hk _ _; simpa using hk
    | cons x q ih =>
      intro k hk hp hb
      rw [List.pairwise_cons] at hp
      have hx := hb x List.mem_cons_self
      have := ih (x + 1) (by omega) hp.2 fun i hi => ⟨hp.1 i hi, (hb i (List.mem_cons_of_mem _ hi)).2⟩
      rw [List.length_cons]; omega
  exact gen q 0 (Nat.zero_le _) h.1 fun i hi => ⟨Nat.zero_le _, h.2 i hi⟩
/-- data that may be asked about -/
def okA (d : Dv) : Prop := okT d ∧ ∀ ds, d = .tup ds → ds.length ≤ 100000 ∧ ∀ e ∈ ds, okT e
theorem v_pick {l : List Dv} (h0 : 0 < l.length) (hl : l.length ≤ 100000) (h2 : 0 ≤ w.turn) (h3 : w.turn < most) : ∃ d w', d ∈ l ∧ Adv 1 w w' ∧ f__law_pick [.drw, .dat (.lst l)] w = .ok d w' := by
  obtain ⟨i, w', hi, ad, e⟩ := v_draw (w := w) (n := l.length) h0 (by unfold most; omega) h2 h3
  refine ⟨l[i], w', List.getElem_mem hi, ad, ?_⟩
  have e2 := dSubI_lst (ds := l) (i := i) (d := l[i]) (List.getElem?_eq_getElem hi)
  simp [f__law_pick, semOf_eq, g__law_pick, e, e2]
def oddL : List Dv := [.non, .bl true, .int 5, .str "", .str "01", .lst [], .lst [.int 0], .dct [], .tup [.int 1], .tup [.int 0, .int 0], .tup [.int 0, .int 2], .tup [.int (-1), .int 0], .tup [.int 0, .bl true], .tup [.int 0, .str "1"],
  .tup [.tup [.int 0]], .tup [.int 0, .non], .tup [.int 1, .int 2, .int 3], .tup [.int 0, .int 1, .int 1], rowD (List.range 41), .lst [.int 1, .int 0], .tup [.int 2, .int 0]]
theorem v_law_odd_eq : f__law_odd [.drw] w = f__law_pick [.drw, .dat (.lst oddL)] w := by
  have e5 : okRg 0 41 := by unfold okRg; omega
  have e6 : rgD 0 41 = natD (List.range 41) := rgD_nat 41
  have b : ∀ n : Nat, n ≤ 100 → n ≤ big := fun n h => le_big (by omega)
  simp [f__law_odd, semOf_eq, g__law_odd, fCatE, e5, e6, b, dNeg, oddL, rowD]
  generalize f__law_pick _ w = r
  cases r <;> rfl
theorem odd_ok : ∀ d ∈ oddL, okA d ∧ isRowD d = false := by
  have k : okA (rowD (List.range 41)) ∧ isRowD (rowD (List.range 41)) = false := ⟨⟨okT_row _, okT_rowD (by simp)⟩, by
    show (decide ((natD (List.range 41)).length ≤ 40) && (natD (List.range 41)).all wh && rowL (intL (natD (List.range 41)))) = false
    rw [natD_length, List.length_range]; rfl⟩
  have t : ∀ ds : List Dv, ds.length ≤ 100000 → (∀ e ∈ ds, okT e) → okA (.tup ds) := fun ds h1 h2 => ⟨rfl, fun ds' e => by cases e; exact ⟨h1, h2⟩⟩
  have f : ∀ d : Dv, okT d → (∀ ds, d ≠ .tup ds) → okA d ∧ isRowD d = false := fun d h1 h2 => ⟨⟨h1, fun ds e => absurd e (h2 ds)⟩, by cases d <;> first | rfl | exact absurd rfl (h2 _)⟩
  have g : ∀ ds : List Dv, ds.length ≤ 100000 → (∀ e ∈ ds, okT e) → isRowD (.tup ds) = false → okA (.tup ds) ∧ isRowD (.tup ds) = false := fun ds h1 h2 h3 => ⟨t ds h1 h2, h3⟩
  unfold oddL
  simp only [List.forall_mem_cons, List.not_mem_nil, false_implies, implies_true, and_true]
  refine ⟨f _ rfl (by intro _ h; cases h), f _ rfl (by intro _ h; cases h), f _ rfl (by intro _ h; cases h), f _ rfl (by intro _ h; cases h), f _ rfl (by intro _ h; cases h), f _ rfl (by intro _ h; cases h), f _ rfl (by intro _ h; cases h), f _ rfl (by intro _ h; cases h), ?_, ?_, ?_, ?_, ?_, ?_, ?_, ?_, ?_, ?_, k, f _ rfl (by intro _ h; cases h), ?_⟩
  all_goals exact g _ (by simp) (by simp [okT, tyN]) (by decide)
theorem v_law_odd (h2 : 0 ≤ w.turn) (h3 : w.turn < most) : ∃ d w', okA d ∧ isRowD d = false ∧ Adv 1 w w' ∧ f__law_odd [.drw] w = .ok d w' := by
  obtain ⟨d, w', hd, ad, e⟩ := v_pick (w := w) (l := oddL) (by decide) (by decide) h2 h3
  obtain ⟨h1, h4⟩ := odd_ok d hd
  exact ⟨d, w', h1, h4, ad, by rw [v_law_odd_eq, e]⟩
/-- tuples of ints, as they are ordered -/
def lexLe : List Int → List Int → Bool
  | [], _ => true
  | _ :: _, [] => false
  | x :: xs, y :: ys => decide (x < y) || (decide (x = y) && lexLe xs ys)
def tokI (l : List Int) : List (Int ⊕ List Nat) := W.keyToks (.tuple (l.map PyData.int))
theorem tokI_nil : tokI [] = [.inl 0] := rfl
theorem tokI_cons (x : Int) (l : List Int) : tokI (x :: l) = .inl 1 :: .inl x :: tokI l := rfl
theorem lexI_cons (x y : Int ⊕ List Nat) (a b : List (Int ⊕ List Nat)) : PyProof.Rows.lexLt itemOrd (x :: a) (y :: b) = (itemLt x y || (!itemLt y x && PyProof.Rows.lexLt itemOrd a b)) := by
  first | rfl | rw [PyProof.Rows.lexLt]
theorem lex_tok : ∀ a b : List Int, PyProof.Rows.lexLt itemOrd (tokI b) (tokI a) = !lexLe a b
  | [], [] => by rw [tokI_nil, lexI_cons]; simp [itemLt, lexLe, PyProof.Rows.lexLt]
  | [], y :: b => by rw [tokI_nil, tokI_cons, lexI_cons]; simp [itemLt, lexLe]
  | x :: a, [] => by rw [tokI_nil, tokI_cons, lexI_cons]; simp [itemLt, lexLe]
  | x :: a, y :: b => by
    have ih := lex_tok a b
    rw [tokI_cons, tokI_cons, lexI_cons, lexI_cons, ih]
    rcases Int.lt_trichotomy x y with h | h | h
    · have h2 : ¬ y < x := by omega
      simp [itemLt, lexLe, h, h2]
    · subst h; simp [itemLt, lexLe]
    · have h2 : ¬ x < y := by omega
      have h3 : ¬ x = y := by omega
      simp [itemLt, lexLe, h, h2, h3]
def tupI (l : List Int) : Dv := .tup (l.map .int)
theorem toPy_tupI (l : List Int) : toPy (tupI l) = .tuple (l.map PyData.int) := by
  show PyData.tuple (toPys (l.map Dv.int)) = _
  rw [toPys_map, List.map_map]; rfl
theorem leD_tup (a b : List Int) : leD (tupI a) (tupI b) = lexLe a b := by
  show (!PyProof.Rows.lexLt itemOrd (W.keyToks (toPy (tupI b))) (W.keyToks (toPy (tupI a)))) = _
  rw [toPy_tupI, toPy_tupI]
  show (!PyProof.Rows.lexLt itemOrd (tokI b) (tokI a)) = _
  rw [lex_tok, Bool.not_not]
theorem lexLe_total : ∀ a b : List Int, (lexLe a b || lexLe b a) = true
  | [], _ => rfl
  | _ :: _, [] => rfl
  | x :: a, y :: b => by
    have ih := lexLe_total a b
    simp only [lexLe, Bool.or_eq_true, Bool.and_eq_true, decide_eq_true_iff] at ih ⊢
    rcases Int.lt_trichotomy x y with h | h | h
    · exact .inl (.inl h)
    · rcases ih with z | z
      · exact .inl (.inr ⟨h, z⟩)
      · exact .inr (.inr ⟨h.symm, z⟩)
    · exact .inr (.inl h)
theorem lexLe_trans : ∀ a b c : List Int, lexLe a b = true → lexLe b c = true → lexLe a c = true
  | [], _, _, _, _ => rfl
  | _ :: _, [], _, h, _ => nomatch h
  | _ :: _, _ :: _, [], _, h => nomatch h
  | x :: a, y :: b, z :: c, h1, h2 => by
    have ih := lexLe_trans a b c
    simp only [lexLe, Bool.or_eq_true, Bool.and_eq_true, decide_eq_true_iff] at h1 h2 ⊢
    rcases h1 with h1 | ⟨h1, h1'⟩
    · rcases h2 with h2 | ⟨h2, _⟩
      · exact .inl (by omega)
      · exact .inl (by omega)
    · rcases h2 with h2 | ⟨h2, h2'⟩
      · exact .inl (by omega)
      · exact .inr ⟨by omega, ih h1' h2'⟩
theorem lexLe_anti : ∀ a b : List Int, lexLe a b = true → lexLe b a = true → a = b
  | [], [], _, _ => rfl
  | [], _ :: _, _, h => nomatch h
  | _ :: _, [], h, _ => nomatch h
  | x :: a, y :: b, h1, h2 => by
    simp only [lexLe, Bool.or_eq_true, Bool.and_eq_true, decide_eq_true_iff] at h1 h2
    rcases h1 with h1 | ⟨h1, h1'⟩
    · rcases h2 with h2 | ⟨h2, _⟩ <;> omega
    · rcases h2 with h2 | ⟨_, h2'⟩
      · omega
      · rw [h1, lexLe_anti a b h1' h2']
theorem sort_tups (L : List (List Int)) : (L.map tupI).mergeSort leD = (L.mergeSort lexLe).map tupI := by
  rw [← List.map_mergeSort (f := tupI) (r := lexLe) (s := leD) fun a _ b _ => (leD_tup a b).symm]
theorem alike_ints : ∀ a b : List Int, a.length = b.length → W.alikeAll (a.map PyData.int) (b.map PyData.int) = true
  | [], [], _ => rfl
  | x :: a, y :: b, h => by
    show (W.alike (.int x) (.int y) && W.alikeAll (a.map PyData.int) (b.map PyData.int)) = true
    rw [alike_ints a b (by simpa using h)]; rfl
theorem tups_ok {L : List (List Int)} {n : Nat} (hn : 0 < n) (h : ∀ l ∈ L, l.length = n) : W.AllAlike ((L.map tupI).map toPy) ∧ W.Sortable ((L.map tupI).map toPy) ∧ ∀ d ∈ L.map tupI, (toPy d).canLay0 = true ∧ (toPy d).depth ≤ 60 := by
  have hm : ∀ d ∈ (L.map tupI).map toPy, ∃ l ∈ L, d = .tuple (l.map PyData.int) := fun d hd => by
    rw [List.map_map, List.mem_map] at hd
    obtain ⟨l, hl, rfl⟩ := hd
    exact ⟨l, hl, toPy_tupI l⟩
  refine ⟨fun d hd e he => ?_, .inl fun d hd => ?_, fun d hd => ?_⟩
  · obtain ⟨a, ha, rfl⟩ := hm d hd
    obtain ⟨b, hb, rfl⟩ := hm e he
    exact alike_ints a b (by rw [h a ha, h b hb])
  · obtain ⟨a, ha, rfl⟩ := hm d hd
    have := h a ha
    cases a with
    | nil => simp at this; omega
    | cons x a => exact ⟨_, _, rfl⟩
  · obtain ⟨l, hl, rfl⟩ := List.mem_map.mp hd
    have hk := okn_ints (n := 0) l
    have := cln_lay (tupI l) hk.1
    exact ⟨this.1, by rw [this.2]; have hk2 : deep (tupI l) ≤ 1 := hk.2; omega⟩
theorem dSorted_tups {L : List (List Int)} {n : Nat} (hn : 0 < n) (h : ∀ l ∈ L, l.length = n) : dSorted [.lst (L.map tupI)] = some ((L.mergeSort lexLe).map tupI) := by
  unfold dSorted
  rw [← sort_tups]
  exact if_pos (tups_ok hn h)
theorem sort_lex {L M : List (List Int)} (hp : M.Perm L) (hs : M.Pairwise fun a b => lexLe a b = true) : L.mergeSort lexLe = M :=
  List.Perm.eq_of_pairwise (le := fun a b => lexLe a b = true) (fun a b _ _ h1 h2 => lexLe_anti a b h1 h2) (List.pairwise_mergeSort (fun a b c => lexLe_trans a b c) lexLe_total L) hs ((List.mergeSort_perm L _).trans hp.symm)
/-- what stands before the part of the entry e -/
def offs (p : List Nat) (qs : List (List Nat)) (e : Nat) : Nat := ((List.range e).map fun e' => (qs.getD (p.idxOf e') []).length).sum
theorem offs_zero (p : List Nat) (qs : List (List Nat)) : offs p qs 0 = 0 := rfl
theorem offs_succ (p : List Nat) (qs : List (List Nat)) (e : Nat) : offs p qs (e + 1) = offs p qs e + (qs.getD (p.idxOf e) []).length := by
  unfold offs
  rw [List.range_succ, List.map_append, List.sum_append]
  simp
def blownL (p : List Nat) (qs : List (List Nat)) : List Nat := (List.range p.length).flatMap fun j => (qs.getD j []).map (· + offs p qs (p.getD j 0))
theorem idxOf_get {p : List Nat} (h : p.Nodup) {j : Nat} (hj : j < p.length) : p.idxOf (p.getD j 0) = j := by
  rw [List.getD_eq_getElem?_getD, List.getElem?_eq_getElem hj]
  exact h.idxOf_getElem j hj
theorem get_idxOf {p : List Nat} {e : Nat} (h : e ∈ p) : p.getD (p.idxOf e) 0 = e := by
  have hl := List.idxOf_lt_length_of_mem h
  rw [List.getD_eq_getElem?_getD, List.getElem?_eq_getElem hl]
  exact List.getElem_idxOf hl
theorem places_perm {p : List Nat} (h : IsRow p) : (List.range p.length).Perm ((List.range p.length).map fun e => p.idxOf e) := by
  have e : p.map (fun e => p.idxOf e) = List.range p.length := by
    apply List.ext_getElem
    · simp
    · intro i h1 h2
      rw [List.getElem_map, List.getElem_range]
      exact h.nodup.idxOf_getElem i _
  have := h.perm.map fun e => p.idxOf e
  rwa [e] at this
theorem flat_perm {α β : Type} {f g : α → List β} : ∀ {l : List α}, (∀ x ∈ l, (f x).Perm (g x)) → (l.flatMap f).Perm (l.flatMap g)
  | [], _ => .nil
  | x :: l, h => by
    rw [List.flatMap_cons, List.flatMap_cons]
    exact (h x List.mem_cons_self).append (flat_perm fun y hy => h y (List.mem_cons_of_mem _ hy))
theorem blocks (p : List Nat) (qs : List (List Nat)) : ∀ m, ((List.range m).flatMap fun e => (List.range (qs.getD (p.idxOf e) []).length).map (· + offs p qs e)) = List.range (offs p qs m)
  | 0 => rfl
  | m + 1 => by
    rw [List.range_succ, List.flatMap_append, blocks p qs m, offs_succ, List.range_add]
    simp [Nat.add_comm]
theorem blown_perm {p : List Nat} {qs : List (List Nat)} (h : IsRow p) (hq : ∀ q ∈ qs, q.Perm (List.range q.length)) : (blownL p qs).Perm (List.range (offs p qs p.length)) := by
  have h1 : (blownL p qs).Perm ((List.range p.length).flatMap fun j => (List.range (qs.getD j []).length).map (· + offs p qs (p.getD j 0))) := by
    refine flat_perm fun j _ => List.Perm.map _ ?_
    by_cases hj : j < qs.length
    · rw [List.getD_eq_getElem?_getD, List.getElem?_eq_getElem hj]
      exact hq _ (List.getElem_mem hj)
    · rw [List.getD_eq_getElem?_getD, List.getElem?_eq_none (by omega)]
      exact .nil
  refine h1.trans ?_
  refine ((places_perm h).flatMap_right _).trans ?_
  rw [List.flatMap_map, ← blocks p qs p.length]
  refine flat_perm fun e he => ?_
  have hm : e ∈ p := h.mem.mpr (List.mem_range.mp he)
  rw [get_idxOf hm]
theorem blown_length {p : List Nat} {qs : List (List Nat)} (h : IsRow p) (hq : ∀ q ∈ qs, q.Perm (List.range q.length)) : (blownL p qs).length = offs p qs p.length := by
  rw [(blown_perm h hq).length_eq, List.length_range]
theorem blown_row {p : List Nat} {qs : List (List Nat)} (h : IsRow p) (hq : ∀ q ∈ qs, q.Perm (List.range q.length)) (hl : offs p qs p.length ≤ 40) : IsRow (blownL p qs) := by
  have e := blown_length h hq
  exact ⟨by rw [e]; exact blown_perm h hq, by rw [e]; exact hl⟩
/-- all parts together -/
theorem offs_sum {p : List Nat} {qs : List (List Nat)} (h : IsRow p) (hl : qs.length = p.length) : offs p qs p.length = (qs.map (·.length)).sum := by
  unfold offs
  have h1 := ((places_perm h).map fun j => (qs.getD j []).length).sum_nat
  rw [List.map_map] at h1
  have h2 : ((List.range p.length).map fun j => (qs.getD j []).length) = qs.map (·.length) := by
    rw [← hl]
    apply List.ext_getElem
    · simp
    · intro i h1 h2
      simp at h1
      simp [h1]
  rw [h2] at h1
  exact h1.symm
theorem shift_sem {q : List Nat} {k i j : Nat} {ρ : List EV} {f : Sx} (hj : ρ[i]? = some (.dat (rowD q))) (hq : q.length ≤ 1000) (hi : j < ρ.length) (hk : ∀ x : Nat, f (ρ.set j (.dat (.int (x : Int)))) w = .ok (.int ((x : Int) + (k : Int))) w) (hu : plainEV (ρ.getD j .un) = true) :
    fLcW (fItems (fVar i)) (kName j) fYes f [j] ρ w = .ok (natD (q.map (· + k))) w := by
  have h1 : fItems (fVar i) ρ w = .ok (q.map fun x : Nat => Dv.int (x : Int)) w := by simp [hj]; rfl
  have h2 : okW ρ [j] = true := by unfold okW; simp only [List.all_cons, List.all_nil, hu]; rfl
  rw [lcW_of (fun x : Nat => Dv.int (x : Int)) (fun _ => true) (fun x => .int ((x : Int) + (k : Int))) q h1 (le_big (by omega)) h2 fun x _ => ⟨(ρ.set j .un).set j (.dat (.int (x : Int))), rfl, rfl, fun _ => by rw [List.set_set]; exact hk x⟩]
  rw [List.filter_eq_self.mpr fun _ _ => rfl]
  congr 1
  unfold natD
  rw [List.map_map]
  congr 1
/-- the spots, by ascending entries, with what stands before each -/
def fsts (p : List Nat) (qs : List (List Nat)) (m : Nat) : List (Int × Int) := (List.range m).map fun e => (((p.idxOf e : Nat) : Int), ((offs p qs e : Nat) : Int))
theorem fsts_succ (p : List Nat) (qs : List (List Nat)) (m : Nat) : fsts p qs (m + 1) = fsts p qs m ++ [(((p.idxOf m : Nat) : Int), ((offs p qs m : Nat) : Int))] := by
  unfold fsts
  rw [List.range_succ, List.map_append]; rfl
theorem idx_inj {p : List Nat} (h : IsRow p) {a b : Nat} (ha : a < p.length) (hb : b < p.length) (e : p.idxOf a = p.idxOf b) : a = b := by
  have h1 := get_idxOf (h.mem.mpr ha)
  have h2 := get_idxOf (h.mem.mpr hb)
  rw [← h1, ← h2, e]
theorem fsts_new {p : List Nat} {qs : List (List Nat)} (h : IsRow p) {m : Nat} (hm : m < p.length) : ((p.idxOf m : Nat) : Int) ∉ (fsts p qs m).map (·.1) := fun z => by
  unfold fsts at z
  rw [List.map_map] at z
  obtain ⟨e, he, e2⟩ := List.mem_map.mp z
  have he := List.mem_range.mp he
  have e2 : ((p.idxOf e : Nat) : Int) = ((p.idxOf m : Nat) : Int) := e2
  have := idx_inj h (a := e) (b := m) (by omega) hm (by omega)
  omega
theorem fsts_nodup {p : List Nat} {qs : List (List Nat)} (h : IsRow p) : ((fsts p qs p.length).map (·.1)).Nodup := by
  unfold fsts List.Nodup
  rw [List.map_map, List.pairwise_map]
  refine List.Pairwise.imp_of_mem (R := fun a b => a < b) ?_ List.pairwise_lt_range
  intro a b ha hb hab e
  have e : ((p.idxOf a : Nat) : Int) = ((p.idxOf b : Nat) : Int) := e
  have := idx_inj h (a := a) (b := b) (List.mem_range.mp ha) (List.mem_range.mp hb) (by omega)
  omega
theorem fsts_at {p : List Nat} {qs : List (List Nat)} (h : IsRow p) {j : Nat} (hj : j < p.length) : dSubI (.dct (prD (fsts p qs p.length))) (.int (j : Int)) = some (.int ((offs p qs (p.getD j 0) : Nat) : Int)) := by
  refine prD_sub (fsts_nodup h) ?_
  have hm : p.getD j 0 ∈ p := by
    rw [List.getD_eq_getElem?_getD, List.getElem?_eq_getElem hj]
    exact List.getElem_mem hj
  refine List.mem_map.mpr ⟨p.getD j 0, List.mem_range.mpr (h.mem.mp hm), ?_⟩
  rw [idxOf_get h.nodup hj]
theorem sorted_pairs {p : List Nat} (h : IsRow p) : dSorted [.lst (p.zipIdx.map fun z : Nat × Nat => Dv.tup [.int (z.1 : Int), .int (z.2 : Int)])] = some ((List.range p.length).map fun e : Nat => Dv.tup [.int (e : Int), .int ((p.idxOf e : Nat) : Int)]) := by
  have e1 : (p.zipIdx.map fun z : Nat × Nat => Dv.tup [.int (z.1 : Int), .int (z.2 : Int)]) = ((p.zipIdx.map fun z : Nat × Nat => [(z.1 : Int), (z.2 : Int)]).map tupI) := by
    rw [List.map_map]; rfl
  have e2 : ((List.range p.length).map fun e : Nat => Dv.tup [.int (e : Int), .int ((p.idxOf e : Nat) : Int)]) = (((List.range p.length).map fun e : Nat => [(e : Int), ((p.idxOf e : Nat) : Int)]).map tupI) := by
    rw [List.map_map]; rfl
  rw [e1, e2, dSorted_tups (n := 2) (by omega) fun l hl => by obtain ⟨z, _, rfl⟩ := List.mem_map.mp hl; rfl, sort_lex]
  · have e3 : (p.zipIdx.map fun z : Nat × Nat => [(z.1 : Int), (z.2 : Int)]) = p.map fun x : Nat => [(x : Int), ((p.idxOf x : Nat) : Int)] := by
      apply List.ext_getElem
      · simp
      · intro i h1 h2
        rw [List.length_map, List.length_zipIdx] at h1
        simp only [List.getElem_map, List.getElem_zipIdx, Nat.zero_add]
        rw [h.nodup.idxOf_getElem i h1]
    rw [e3]
    exact (h.perm.map _).symm
  · rw [List.pairwise_map]
    exact (List.pairwise_lt_range (n := p.length)).imp fun {a b} hab => by
      have : (a : Int) < (b : Int) := by omega
      simp [lexLe, this]
theorem part_at_i {qs : List (List Nat)} {j : Nat} (hj : j < qs.length) : dSubI (.lst (qs.map rowD)) (.int (j : Int)) = some (rowD (qs.getD j [])) := by
  refine dSubI_lst ?_
  rw [List.getElem?_map, List.getElem?_eq_getElem hj, List.getD_eq_getElem?_getD, List.getElem?_eq_getElem hj]; rfl
theorem v_law_blown_of {D : Dv} {p : List Nat} {qs : List (List Nat)} (hD1 : ∀ j < qs.length, dSubI D (.int (j : Int)) = some (rowD (qs.getD j []))) (hD2 : itemsOf D = some (qs.map rowD)) (h : IsRow p) (hl : qs.length = p.length) (hq : ∀ q ∈ qs, q.Perm (List.range q.length)) (h40 : offs p qs p.length ≤ 40) : f__law_blown [.dat (rowD p), .dat D] w = .ok (rowD (blownL p qs)) w := by
  have hp := h.len
  have e1 : fLcW (fEnum (fVar 0)) (kTup 2 (kCons (kName 7) (kCons (kName 4) kNil))) fYes (fTup (aCons (fVar 4) (aCons (fVar 7) aNil))) [7, 4] [.dat (rowD p), .dat D, .dct [], .dat (.int 0), .un, .un, .un, .un, .un] w = .ok (p.zipIdx.map fun z : Nat × Nat => Dv.tup [.int (z.1 : Int), .int (z.2 : Int)]) w := by
    have hi : fEnum (fVar 0) [.dat (rowD p), .dat D, .dct [], .dat (.int 0), .un, .un, .un, .un, .un] w = .ok (p.zipIdx.map fun z : Nat × Nat => Dv.tup [.int ((z.2 : Nat) : Int), .int ((z.1 : Nat) : Int)]) w := by
      simp [enumD_natD]
    have b2 : (2 : Nat) ≤ big := by decide
    rw [lcW_of (fun z : Nat × Nat => Dv.tup [.int ((z.2 : Nat) : Int), .int ((z.1 : Nat) : Int)]) (fun _ => true) (fun z => Dv.tup [.int (z.1 : Int), .int (z.2 : Int)]) p.zipIdx hi (by rw [List.length_zipIdx]; exact le_big (by omega)) rfl fun x _ => ⟨_, rfl, rfl, fun _ => by simp [wipeE, b2]⟩]
    rw [List.filter_eq_self.mpr fun _ _ => rfl]
  obtain ⟨ρ1, e2, x4, x5, p4, rfl⟩ := loopD_at (k := kTup 2 (kCons (kName 4) (kCons (kName 5) kNil))) (g := b__law_blown_1) (w := w) (fun e : Nat => Dv.tup [.int (e : Int), .int ((p.idxOf e : Nat) : Int)]) (List.range p.length)
    (fun done ρ => ∃ x4 x5, plainEV x4 = true ∧ ρ = [.dat (rowD p), .dat D, .dct (prD (fsts p qs done.length)), .dat (.int ((offs p qs done.length : Nat) : Int)), x4, x5, .un, .un, .un]) (fun done e rest ρ hz ⟨x4, x5, p4, hr⟩ => by
      subst hr
      have hi : e = done.length ∧ done.length < p.length := by
        have h1 := congrArg (·[done.length]?) hz
        simp only [List.getElem?_append_right (Nat.le_refl _), Nat.sub_self, List.getElem?_cons_zero] at h1
        rw [List.getElem?_eq_some_iff] at h1
        obtain ⟨h2, h3⟩ := h1
        rw [List.getElem_range] at h3
        rw [List.length_range] at h2
        exact ⟨h3.symm, h2⟩
      obtain ⟨rfl, hlt⟩ := hi
      have hix : p.idxOf done.length < qs.length := by rw [hl]; exact List.idxOf_lt_length_of_mem (h.mem.mpr hlt)
      refine ⟨[.dat (rowD p), .dat D, .dct (prD (fsts p qs done.length)), .dat (.int ((offs p qs done.length : Nat) : Int)), .dat (.int (done.length : Int)), .dat (.int ((p.idxOf done.length : Nat) : Int)), .un, .un, .un], [.dat (rowD p), .dat D, .dct (prD (fsts p qs (done.length + 1))), .dat (.int ((offs p qs (done.length + 1) : Nat) : Int)), .dat (.int (done.length : Int)), .dat (.int ((p.idxOf done.length : Nat) : Int)), .un, .un, .un], rfl, ?_, _, _, rfl, by rw [List.length_append, List.length_singleton]⟩
      have k1 := hD1 _ hix
      have k2 : (prD (fsts p qs done.length)).length < big := by
        rw [prD_length]
        unfold fsts
        rw [List.length_map, List.length_range]
        have := le_big (n := 1000000) (by omega)
        omega
      rw [u_b__law_blown_1, fsts_succ, ← put_new (fsts_new h hlt), offs_succ]
      generalize prD (fsts p qs done.length) = A at k2
      simp [gParPutD, k1, k2, toKey]) (List.range p.length) [] [.dat (rowD p), .dat D, .dct [], .dat (.int 0), .un, .un, .un, .un, .un] rfl ⟨_, _, rfl, rfl⟩
  rw [List.length_range] at e2
  have hbl := blown_length h hq
  obtain ⟨ρ2, e3, y4, x7, x8, q4, rfl⟩ := loopD_at (k := kTup 2 (kCons (kName 7) (kCons (kName 8) kNil))) (g := b__law_blown_2) (w := w) (fun j : Nat => Dv.tup [.int (j : Int), rowD (qs.getD j [])]) (List.range p.length)
    (fun done ρ => ∃ y4 x7 x8, plainEV y4 = true ∧ ρ = [.dat (rowD p), .dat D, .dat (.dct (prD (fsts p qs p.length))), .dat (.int ((offs p qs p.length : Nat) : Int)), y4, x5, .dat (.lst (natD (done.flatMap fun j => (qs.getD j []).map (· + offs p qs (p.getD j 0))))), x7, x8]) (fun done j rest ρ hz ⟨y4, x7, x8, p4, hr⟩ => by
      subst hr
      have hj : j < p.length := List.mem_range.mp (by rw [hz]; simp)
      have hqj : (qs.getD j []).length ≤ 40 ∧ (done.flatMap fun j => (qs.getD j []).map (· + offs p qs (p.getD j 0))).length + (qs.getD j []).length ≤ 40 := by
        have e : blownL p qs = (done ++ j :: rest).flatMap fun j => (qs.getD j []).map (· + offs p qs (p.getD j 0)) := by rw [← hz]; rfl
        rw [List.flatMap_append, List.flatMap_cons] at e
        have e := congrArg List.length e
        rw [List.length_append, List.length_append, List.length_map, hbl] at e
        omega
      refine ⟨[.dat (rowD p), .dat D, .dat (.dct (prD (fsts p qs p.length))), .dat (.int ((offs p qs p.length : Nat) : Int)), y4, x5, .dat (.lst (natD (done.flatMap fun j => (qs.getD j []).map (· + offs p qs (p.getD j 0))))), .dat (.int (j : Int)), .dat (rowD (qs.getD j []))], _, rfl, ?_, y4, .dat (.int (j : Int)), .dat (rowD (qs.getD j [])), p4, rfl⟩
      have k1 := shift_sem (w := w) (q := qs.getD j []) (k := offs p qs (p.getD j 0)) (i := 8) (j := 4) (ρ := [.dat (rowD p), .dat D, .dat (.dct (prD (fsts p qs p.length))), .dat (.int ((offs p qs p.length : Nat) : Int)), y4, x5, .dat (.lst (natD (done.flatMap fun j => (qs.getD j []).map (· + offs p qs (p.getD j 0))))), .dat (.int (j : Int)), .dat (rowD (qs.getD j []))]) (f := fOp dAdd (fVar 4) (fOp dSubI (fVar 2) (fVar 7))) rfl (by omega) (show 4 < 9 by decide) (fun x => by simp [fsts_at h hj]) p4
      have k2 : (natD (done.flatMap fun j => (qs.getD j []).map (· + offs p qs (p.getD j 0)))).length + (natD ((qs.getD j []).map (· + offs p qs (p.getD j 0)))).length ≤ big := by
        rw [natD_length, natD_length, List.length_map]
        exact le_big (by omega)
      rw [u_b__law_blown_2, List.flatMap_append, List.flatMap_cons, List.flatMap_nil, List.append_nil, natD_append]
      generalize natD (done.flatMap fun j => (qs.getD j []).map (· + offs p qs (p.getD j 0))) = A at k1 k2
      generalize natD ((qs.getD j []).map (· + offs p qs (p.getD j 0))) = B at k1 k2
      generalize rowD (qs.getD j []) = R at k1
      simp [fCatE, k1, k2]) (List.range p.length) [] [.dat (rowD p), .dat D, .dat (.dct (prD (fsts p qs p.length))), .dat (.int ((offs p qs p.length : Nat) : Int)), x4, x5, .dat (.lst []), .un, .un] rfl ⟨_, _, _, p4, rfl⟩
  have e4 : enumD 0 (qs.map rowD) = (List.range p.length).map fun j : Nat => Dv.tup [.int (j : Int), rowD (qs.getD j [])] := by
    apply List.ext_getElem?
    intro i
    rw [enumD_get, List.getElem?_map, List.getElem?_map]
    by_cases hi : i < qs.length
    · rw [List.getElem?_eq_getElem hi, List.getElem?_range (by omega)]
      show some (Dv.tup [.int ((0 + i : Nat) : Int), rowD qs[i]]) = some (Dv.tup [.int (i : Int), rowD (qs.getD i [])])
      rw [List.getD_eq_getElem?_getD, List.getElem?_eq_getElem hi, Nat.zero_add]; rfl
    · rw [List.getElem?_eq_none (by omega), List.getElem?_eq_none (by simp; omega)]; rfl
  have e5 := sorted_pairs h
  have e6 : blownL p qs = (List.range p.length).flatMap fun j => (qs.getD j []).map (· + offs p qs (p.getD j 0)) := rfl
  rw [← e6] at e3
  generalize (p.zipIdx.map fun z : Nat × Nat => Dv.tup [.int (z.1 : Int), .int (z.2 : Int)]) = A at e1 e5
  generalize ((List.range p.length).map fun e : Nat => Dv.tup [.int (e : Int), .int ((p.idxOf e : Nat) : Int)]) = B at e2 e5
  have e7 : loopD (kTup 2 (kCons (kName 7) (kCons (kName 8) kNil))) b__law_blown_2 (enumD 0 (qs.map rowD)) [.dat (rowD p), .dat D, .dat (.dct (prD (fsts p qs p.length))), .dat (.int ((offs p qs p.length : Nat) : Int)), x4, x5, .dat (.lst []), .un, .un] w = .ok (.nx [.dat (rowD p), .dat D, .dat (.dct (prD (fsts p qs p.length))), .dat (.int ((offs p qs p.length : Nat) : Int)), y4, x5, .dat (.lst (natD (blownL p qs))), x7, x8]) w := by
    rw [e4]; exact e3
  simp [f__law_blown, semOf_eq, g__law_blown, aNewD, setsE, e1, e5, e2, lent, hD2, e7, row_fold]
theorem v_law_blown {p : List Nat} {qs : List (List Nat)} (h : IsRow p) (hl : qs.length = p.length) (hq : ∀ q ∈ qs, q.Perm (List.range q.length)) (h40 : offs p qs p.length ≤ 40) : f__law_blown [.dat (rowD p), .dat (.lst (qs.map rowD))] w = .ok (rowD (blownL p qs)) w :=
  v_law_blown_of (fun j hj => part_at_i hj) rfl h hl hq h40
theorem loopD_w {k : Sg} {g : Ss} (I : List Dv → List EV → DS → Prop) (hs : ∀ d rest ρ w, I (d :: rest) ρ w → ∃ ρ1 ρ2 w2, k d ρ = some ρ1 ∧ g ρ1 w = .ok (.nx ρ2) w2 ∧ I rest ρ2 w2) : ∀ (items : List Dv) (ρ : List EV) (w : DS), I items ρ w → ∃ ρ' w', loopD k g items ρ w = .ok (.nx ρ') w' ∧ I [] ρ' w'
  | [], ρ, w, h => ⟨ρ, w, rfl, h⟩
  | d :: rest, ρ, w, h => by
    obtain ⟨ρ1, ρ2, w2, h1, h2, h3⟩ := hs d rest ρ w h
    obtain ⟨ρ', w', e, h4⟩ := loopD_w I hs rest ρ2 w2 h3
    refine ⟨ρ', w', ?_, h4⟩
    rw [loopD]
    simp only [h1, h2, RR.bind_ok]
    exact e
theorem ins_perm {α : Type} {l : List α} {i k : Nat} (hi : i < l.length) : ((l.eraseIdx i).take k ++ [l[i]] ++ (l.eraseIdx i).drop k).Perm l := by
  have h1 := perm_take hi
  refine List.Perm.trans ?_ h1
  have h2 : ((l.eraseIdx i).take k ++ [l[i]]).Perm ([l[i]] ++ (l.eraseIdx i).take k) := List.perm_append_comm
  refine (h2.append_right _).trans ?_
  rw [List.append_assoc, List.take_append_drop]
  exact List.Perm.refl _
theorem erase_map {α β : Type} (f : α → β) : ∀ (l : List α) (i : Nat), (l.map f).eraseIdx i = (l.eraseIdx i).map f
  | [], _ => rfl
  | x :: l, 0 => rfl
  | x :: l, i + 1 => by
    show f x :: (l.map f).eraseIdx i = f x :: (l.eraseIdx i).map f
    rw [erase_map f l i]
theorem gIns_ok {ρ ρ' : List EV} {i k : Nat} {fa : Sx} {ff : Sf} {ds ds' : List Dv} {d : Dv} {w w1 w2 : DS} (h1 : ρ[i]? = some (.lst ds)) (ha : fa ρ w = .ok (.int (k : Int)) w1) (hf : ff ρ w1 = .ok (d, ρ') w2) (h2 : ρ'[i]? = some (.lst ds')) (hk : k < 1000) (hl : ds'.length < big) :
    gIns i fa ff ρ w = .ok (.nx (ρ'.set i (.lst (insAt ds' k d)))) w2 := by
  unfold gIns
  rw [h1]
  simp only [ha, RR.bind_ok, hf, h2]
  have h0 : (0 : Int) ≤ (k : Int) ∧ (k : Int) < 2 ^ 63 ∧ ds'.length < big := ⟨by omega, by omega, hl⟩
  rw [if_pos h0, Int.toNat_natCast]
/-- entries taken out and put elsewhere -/
theorem v_moves {n : Nat} {m way : EV} (hn : n ≤ 40) : ∀ (t : Nat) (L : List Nat) (x5 x6 : EV) (r : List EV) (w : DS), L.Perm (List.range n) → 0 ≤ w.turn → w.turn + 2 * t < most → t ≤ 2 →
    ∃ L' y5 y6 w', loopD (kName 5) b__law_row_1 (natD (List.range t)) (.drw :: m :: way :: .dat (.int (n : Int)) :: .lst (natD L) :: x5 :: x6 :: r) w = .ok (.nx (.drw :: m :: way :: .dat (.int (n : Int)) :: .lst (natD L') :: y5 :: y6 :: r)) w' ∧ L'.Perm (List.range n) ∧ Adv (2 * t) w w' := by
  intro t L x5 x6 r w hL h2 h3 ht
  obtain ⟨ρ', w', e, c, L', y5, y6, hc, rfl, hL', ad⟩ := loopD_w (k := kName 5) (g := b__law_row_1) (fun rest ρ w' => ∃ (c : Nat) (L' : List Nat) (y5 y6 : EV), rest.length + c = t ∧ ρ = (.drw :: m :: way :: .dat (.int (n : Int)) :: .lst (natD L') :: y5 :: y6 :: r) ∧ L'.Perm (List.range n) ∧ Adv (2 * c) w w') (fun d rest ρ w1 ⟨c, L1, y5, y6, hc, hr, hL1, ad⟩ => by
      subst hr
      rw [List.length_cons] at hc
      have t1 := ad.1; have t1' := ad.2
      have hlen : L1.length = n := by rw [hL1.length_eq, List.length_range]
      by_cases h1 : 1 < n
      · obtain ⟨i, w2, hi, ad2, e2⟩ := v_draw (w := w1) (n := n) (by omega) (by unfold most; omega) (by omega) (by omega)
        have t2 := ad2.1; have t2' := ad2.2
        obtain ⟨j, w3, hj, ad3, e3⟩ := v_draw (w := w2) (n := n) (by omega) (by unfold most; omega) (by omega) (by omega)
        have hi' : i < L1.length := by omega
        have t3 := ad3.1; have t3' := ad3.2
        refine ⟨_, (.drw :: m :: way :: .dat (.int (n : Int)) :: .lst (natD ((L1.eraseIdx i).take j ++ [L1[i]] ++ (L1.eraseIdx i).drop j)) :: .dat d :: .dat (.int (i : Int)) :: r), w3, rfl, ?_, c + 1, _, .dat d, .dat (.int (i : Int)), by omega, rfl, (ins_perm hi').trans hL1, ⟨by omega, by omega⟩⟩
        have k1 : ixN L1.length (i : Int) = some i := ixN_nat hi'
        have k2 : (natD L1)[i]? = some (.int ((L1[i] : Nat) : Int)) := by rw [natD_get, List.getElem?_eq_getElem hi']; rfl
        have k3 : L1.length ≤ big := le_big (by omega)
        have k4 : insAt ((natD L1).eraseIdx i) j (.int ((L1[i] : Nat) : Int)) = natD ((L1.eraseIdx i).take j ++ [L1[i]] ++ (L1.eraseIdx i).drop j) := by
          unfold insAt natD
          rw [erase_map]
          simp
        have k5 : ((natD L1).eraseIdx i).length < big := by
          have := List.length_eraseIdx_le (natD L1) i
          have := le_big (n := 1000000) (by omega)
          rw [natD_length] at *
          omega
        have k6 : (1 : Int) < (n : Int) := by omega
        rw [u_b__law_row_1, ← k4]
        have k8 : fPopAt 4 (fVar 6) (.drw :: m :: way :: .dat (.int (n : Int)) :: .lst (natD L1) :: .dat d :: .dat (.int (i : Int)) :: r) w3 = .ok (.int ((L1[i] : Nat) : Int), (.drw :: m :: way :: .dat (.int (n : Int)) :: .lst ((natD L1).eraseIdx i) :: .dat d :: .dat (.int (i : Int)) :: r)) w3 := by
          simp [fPopAt, k1, k2, k3]
        have k9 := gIns_ok (i := 4) (k := j) (fa := fCall f__law_draw (aDrw 0 (aCons (fVar 3) aNil))) (w := w2) (ρ := (.drw :: m :: way :: .dat (.int (n : Int)) :: .lst (natD L1) :: .dat d :: .dat (.int (i : Int)) :: r)) rfl (by simp [e3]) k8 rfl (by omega) k5
        simp only [List.set_cons_succ, List.set_cons_zero] at k9
        simp [k6, e2, k9]
      · have k6 : ¬ (1 : Int) < (n : Int) := by omega
        refine ⟨_, (.drw :: m :: way :: .dat (.int (n : Int)) :: .lst (natD L1) :: .dat d :: y6 :: r), w1, rfl, ?_, c + 1, L1, .dat d, y6, by omega, rfl, hL1, ⟨by omega, by omega⟩⟩
        rw [u_b__law_row_1]
        simp [k6]) (natD (List.range t)) (.drw :: m :: way :: .dat (.int (n : Int)) :: .lst (natD L) :: x5 :: x6 :: r) w ⟨0, L, x5, x6, by rw [natD_length, List.length_range]; rfl, rfl, hL, ⟨by omega, by omega⟩⟩
  have : c = t := by simpa using hc
  subst this
  exact ⟨L', y5, y6, w', e, hL', ad⟩
theorem sum_set : ∀ {S : List Nat} {i : Nat} (h : i < S.length), (S.set i (S[i] + 1)).sum = S.sum + 1
  | x :: S, 0, _ => by simp; omega
  | x :: S, i + 1, h => by
    have := sum_set (S := S) (i := i) (by simpa using h)
    simp at this ⊢
    omega
/-- sizes, one more here and there -/
theorem v_sizes {fr : List Nat} {a b c0 d e f g h : EV} (hf : 0 < fr.length) (hf4 : fr.length ≤ 4) (ha : immEV a = true) (hb : immEV b = true) (hc : immEV c0 = true) (hd : immEV d = true) (he : immEV e = true) (hf' : immEV f = true) (hg : immEV g = true) (hh : immEV h = true) {x13 : EV} (h13 : immEV x13 = true) : ∀ (t : Nat) (S : List Nat) (x5 x12 : EV) (w : DS), S.length = fr.length → S.sum + t ≤ 1000 → 0 ≤ w.turn → w.turn + t < most →
    ∃ S' y5 y12 w', loopD (kName 5) b__law_row_2 (natD (List.range t)) [.drw, a, b, c0, d, x5, e, f, g, h, .dat (rowD fr), .lst (natD S), x12, x13] w = .ok (.nx [.drw, a, b, c0, d, y5, e, f, g, h, .dat (rowD fr), .lst (natD S'), y12, x13]) w' ∧ S'.length = fr.length ∧ S'.sum = S.sum + t ∧ Adv t w w' := by
  intro t S x5 x12 w hS hsum h2 h3
  have hlend : ∀ (i : Nat) (dd : Dv) (y : EV) (S : List Nat), okLend [.drw, a, b, c0, d, .dat dd, e, f, g, h, .dat (rowD fr), .lst (natD S), .dat (.int (i : Int)), x13] 11 = true := fun i dd y S => by
    unfold okLend
    simp only [List.set_cons_succ, List.set_cons_zero, List.all_cons, List.all_nil, ha, hb, hc, hd, he, hf', hg, hh, h13]
    rfl
  obtain ⟨ρ', w', e1, c, S', y5, y12, hc, rfl, hS', hs', ad⟩ := loopD_w (k := kName 5) (g := b__law_row_2) (fun rest ρ w' => ∃ (c : Nat) (S' : List Nat) (y5 y12 : EV), rest.length + c = t ∧ ρ = [.drw, a, b, c0, d, y5, e, f, g, h, .dat (rowD fr), .lst (natD S'), y12, x13] ∧ S'.length = fr.length ∧ S'.sum = S.sum + c ∧ Adv c w w') (fun dd rest ρ w1 ⟨c, S1, y5, y12, hc, hr, hS1, hs1, ad⟩ => by
      subst hr
      rw [List.length_cons] at hc
      have t1 := ad.1; have t1' := ad.2
      obtain ⟨i, w2, hi, ad2, e2⟩ := v_draw (w := w1) (n := fr.length) hf (by unfold most; omega) (by omega) (by omega)
      have t2 := ad2.1; have t2' := ad2.2
      have hi' : i < S1.length := by omega
      refine ⟨_, [.drw, a, b, c0, d, .dat dd, e, f, g, h, .dat (rowD fr), .lst (natD (S1.set i (S1[i] + 1))), .dat (.int (i : Int)), x13], w2, rfl, ?_, c + 1, _, .dat dd, .dat (.int (i : Int)), by omega, rfl, by rw [List.length_set]; exact hS1, ?_, ⟨by omega, by omega⟩⟩
      · have k1 : ixN S1.length (i : Int) = some i := ixN_nat hi'
        have k2 : dSubI (.lst (natD S1)) (.int (i : Int)) = some (.int ((S1[i] : Nat) : Int)) := dSubI_lst (by rw [natD_get, List.getElem?_eq_getElem hi']; rfl)
        have k3 : (natD S1).set i (.int ((S1[i] : Int) + 1)) = natD (S1.set i (S1[i] + 1)) := by
          rw [← natD_set]; rfl
        have k4 : okLend [.drw, a, b, c0, d, .dat dd, e, f, g, h, .dat (rowD fr), .lst (natD S1), .dat (.int (i : Int)), x13] 11 = true := hlend i dd y12 S1
        rw [u_b__law_row_2, ← k3]
        simp [e2, lendE, lent, k4, k2, imm, k1]
      · rw [sum_set hi']; omega) (natD (List.range t)) [.drw, a, b, c0, d, x5, e, f, g, h, .dat (rowD fr), .lst (natD S), x12, x13] w ⟨0, S, x5, x12, by rw [natD_length, List.length_range]; rfl, rfl, hS, rfl, ⟨by omega, by omega⟩⟩
  have : c = t := by simpa using hc
  subst this
  exact ⟨S', y5, y12, w', e1, hS', hs', ad⟩
theorem v_deals {ρ0 : List EV} (h0 : ρ0[0]? = some .drw) (h13 : 13 < ρ0.length) : ∀ (S : List Nat) (w : DS), (∀ s ∈ S, s ≤ 40) → 0 ≤ w.turn → w.turn + S.sum < most →
    ∃ (qs : List (List Nat)) (w' : DS), lcD (kName 13) fYes (fCall f__law_dealt (aDrw 0 (aCons (fVar 13) aNil))) ρ0 (natD S) w = .ok (qs.map rowD) w' ∧ qs.map (·.length) = S ∧ (∀ q ∈ qs, IsRow q) ∧ Adv S.sum w w'
  | [], w, _, _, _ => ⟨[], w, rfl, rfl, fun q h => absurd h List.not_mem_nil, ⟨by simp, by simp⟩⟩
  | s :: S, w, hs, h2, h3 => by
    rw [List.sum_cons] at h3
    obtain ⟨p, w1, e1, hp, hl, ad1⟩ := v_dealt (w := w) (n := s) (hs s List.mem_cons_self) h2 (by omega)
    have t1 := ad1.1; have t1' := ad1.2
    obtain ⟨qs, w2, e2, hq, hr, ad2⟩ := v_deals h0 h13 S w1 (fun x hx => hs x (List.mem_cons_of_mem _ hx)) (by omega) (by omega)
    have t2 := ad2.1; have t2' := ad2.2
    refine ⟨p :: qs, w2, ?_, by rw [List.map_cons, hl, hq], fun q h => ?_, by rw [List.sum_cons]; exact ⟨by omega, by omega⟩⟩
    · have k1 : (ρ0.set 13 (.dat (.int (s : Int))))[0]? = some .drw := by rw [List.getElem?_set_ne (by decide)]; exact h0
      have k2 : (ρ0.set 13 (.dat (.int (s : Int))))[13]? = some (.dat (.int (s : Int))) := List.getElem?_set_self h13
      have k3 : fCall f__law_dealt (aDrw 0 (aCons (fVar 13) aNil)) (ρ0.set 13 (.dat (.int (s : Int)))) w = .ok (rowD p) w1 := by simp [k1, k2, e1]
      show lcD _ _ _ ρ0 (.int (s : Int) :: natD S) w = _
      rw [lcD]
      simp only [show kName 13 (.int (s : Int)) ρ0 = some (ρ0.set 13 (.dat (.int (s : Int)))) from rfl, fYes, k3, e2]
      rfl
    · rcases List.mem_cons.mp h with rfl | h
      · exact hp
      · exact hr q h
theorem frames_ok : ∀ fr ∈ [[1, 3, 0, 2], [2, 0, 3, 1], [0, 1], [1, 0], [1, 0, 2], [0, 2, 1]], IsRow fr ∧ 0 < fr.length ∧ fr.length ≤ 4 := by
  have k : ∀ fr : List Nat, fr.Perm (List.range fr.length) → fr.length ≤ 4 → 0 < fr.length → IsRow fr ∧ 0 < fr.length ∧ fr.length ≤ 4 := fun fr h1 h2 h3 => ⟨⟨h1, by omega⟩, h3, h2⟩
  simp only [List.forall_mem_cons, List.not_mem_nil, false_implies, implies_true, and_true]
  refine ⟨k _ (by decide) (by decide) (by decide), k _ (by decide) (by decide) (by decide), k _ (by decide) (by decide) (by decide), k _ (by decide) (by decide) (by decide), k _ (by decide) (by decide) (by decide), k _ (by decide) (by decide) (by decide)⟩
theorem dEq_nat (a b : Nat) : dEq (.int (a : Int)) (.int (b : Int)) = some (.bl (decide (a = b))) := by
  rw [dEq_of (okc_int _) (okc_int _)]
  congr 2
  rw [Bool.eq_iff_iff]
  simp
  omega
def besideL (p q : List Nat) : List Nat := p ++ q.map (· + p.length)
def underL (p q : List Nat) : List Nat := p.map (· + q.length) ++ q
theorem v_law_beside {p q : List Nat} (hp : p.length ≤ 40) (hq : q.length ≤ 40) : f__law_beside [.dat (rowD p), .dat (rowD q)] w = .ok (rowD (besideL p q)) w := by
  have e := shift_sem (w := w) (q := q) (k := p.length) (i := 1) (j := 2) (ρ := [.dat (rowD p), .dat (rowD q), .un]) (f := fOp dAdd (fVar 2) (fCB dLen (aCons (fVar 0) aNil))) rfl (by omega) (show 2 < 3 by decide) (fun x => by simp) rfl
  have ea : dAdd (rowD p) (rowD (q.map (· + p.length))) = some (rowD (p ++ q.map (· + p.length))) := by
    show (if _ then _ else _) = _
    rw [if_pos (by simp only [natD_length, List.length_map]; exact le_big (by omega)), ← natD_append]; rfl
  have et : dTupOf (rowD p) = some (rowD p) := rfl
  simp [f__law_beside, semOf_eq, g__law_beside, e, row_fold, ea, et, besideL]
theorem v_law_under {p q : List Nat} (hp : p.length ≤ 40) (hq : q.length ≤ 40) : f__law_under [.dat (rowD p), .dat (rowD q)] w = .ok (rowD (underL p q)) w := by
  have e := shift_sem (w := w) (q := p) (k := q.length) (i := 0) (j := 2) (ρ := [.dat (rowD p), .dat (rowD q), .un]) (f := fOp dAdd (fVar 2) (fCB dLen (aCons (fVar 1) aNil))) rfl (by omega) (show 2 < 3 by decide) (fun x => by simp) rfl
  have ea : dAdd (rowD (p.map (· + q.length))) (rowD q) = some (rowD (p.map (· + q.length) ++ q)) := by
    show (if _ then _ else _) = _
    rw [if_pos (by simp only [natD_length, List.length_map]; exact le_big (by omega)), ← natD_append]; rfl
  have et : dTupOf (rowD q) = some (rowD q) := rfl
  simp [f__law_under, semOf_eq, g__law_under, e, row_fold, ea, et, underL]
theorem beside_row {p q : List Nat} (hp : IsRow p) (hq : IsRow q) (h : p.length + q.length ≤ 40) : IsRow (besideL p q) := by
  unfold besideL
  refine ⟨?_, by simpa using h⟩
  rw [List.length_append, List.length_map, List.range_add]
  refine hp.perm.append ?_
  have := hq.perm.map (· + p.length)
  refine this.trans (List.Perm.of_eq (List.map_congr_left fun x _ => Nat.add_comm _ _))
theorem under_row {p q : List Nat} (hp : IsRow p) (hq : IsRow q) (h : p.length + q.length ≤ 40) : IsRow (underL p q) := by
  have := beside_row hq hp (by omega)
  unfold underL
  unfold besideL at this
  refine ⟨?_, by simpa using h⟩
  refine List.perm_append_comm.trans (this.perm.trans (List.Perm.of_eq ?_))
  simp [Nat.add_comm]
theorem dEq_k (a b : Nat) {z : Int} (hz : (b : Int) = z) : dEq (.int (a : Int)) (.int z) = some (.bl (decide (a = b))) := by
  subst hz; exact dEq_nat a b
/-- the first two draws of a row, and the way -/
theorem row_start {m : Nat} (hm : m ≤ 40) (h2 : 0 ≤ w.turn) (h3 : w.turn + 2 < most) : ∃ i n w', i < 6 ∧ n ≤ m ∧ Adv 2 w w' ∧
    (gPar [2, 3] (aCons (fCall f__law_draw (aDrw 0 (aCons (fC (.int 6)) aNil))) (aCons (fCall f__law_draw (aDrw 0 (aCons (fOp dAdd (fVar 1) (fC (.int 1))) aNil))) aNil))) [.drw, .dat (.int (m : Int)), .un, .un, .un, .un, .un, .un, .un, .un, .un, .un, .un, .un] w
      = .ok (.nx [.drw, .dat (.int (m : Int)), .dat (.int ((i : Nat) : Int)), .dat (.int ((n : Nat) : Int)), .un, .un, .un, .un, .un, .un, .un, .un, .un, .un]) w' := by
  obtain ⟨i, w1, hi, ad1, e1⟩ := v_draw (w := w) (n := 6) (by decide) (by unfold most; omega) (by omega) (by omega)
  have t1 := ad1.1; have t1' := ad1.2
  obtain ⟨n, w2, hn, ad2, e2⟩ := v_draw (w := w1) (n := m + 1) (by omega) (by unfold most; omega) (by omega) (by omega)
  have t2 := ad2.1; have t2' := ad2.2
  have e1' : semDraw [.drw, .dat (.int 6)] w = .ok (.int (i : Int)) w1 := e1
  have e2' : semDraw [.drw, .dat (.int ((m : Int) + 1))] w1 = .ok (.int (n : Int)) w2 := e2
  refine ⟨i, n, w2, hi, by omega, ⟨by omega, by omega⟩, ?_⟩
  simp [e1', e2']
  rfl
noncomputable def row_B1 : Ss := (gSeq (gSetN 4 (fIfN (fBool (fOp dEq (fCall f__law_draw (aDrw 0 (aCons (fC (.int 2)) aNil))) (fC (.int 0)))) (fRg1 (fVar 3)) (fRevN (fFrz (fRg1 (fVar 3)))))) (gSeq (gFor (fIr1 (fCall f__law_draw (aDrw 0 (aCons (fC (.int 3)) aNil)))) (kName 5) b__law_row_1) (gFrz 4 (gRet (fUn dTupOf (fVar 4))))))
noncomputable def row_B2 : Ss := (gSeq (gSet 7 (fCall f__law_draw (aDrw 0 (aCons (fOp dAdd (fVar 3) (fC (.int 1))) aNil)))) (gSeq (gPar [8, 9] (aCons (fCall f__law_dealt (aDrw 0 (aCons (fVar 7) aNil))) (aCons (fCall f__law_dealt (aDrw 0 (aCons (fOp (dI fun i j => .int (i - j)) (fVar 3) (fVar 7)) aNil))) aNil))) (gRet (fIf (fBool (fOp dEq (fCall f__law_draw (aDrw 0 (aCons (fC (.int 2)) aNil))) (fC (.int 0)))) (fCall f__law_beside (aCons (fVar 8) (aCons (fVar 9) aNil))) (fCall f__law_under (aCons (fVar 8) (aCons (fVar 9) aNil)))))))
noncomputable def row_B3a : Ss := (gSet 10 (fCall f__law_pick (aDrw 0 (aCons (fFrz (fLst (aCons (fTup (aCons (fC (.int 1)) (aCons (fC (.int 3)) (aCons (fC (.int 0)) (aCons (fC (.int 2)) aNil))))) (aCons (fTup (aCons (fC (.int 2)) (aCons (fC (.int 0)) (aCons (fC (.int 3)) (aCons (fC (.int 1)) aNil))))) (aCons (fTup (aCons (fC (.int 0)) (aCons (fC (.int 1)) aNil))) (aCons (fTup (aCons (fC (.int 1)) (aCons (fC (.int 0)) aNil))) (aCons (fTup (aCons (fC (.int 1)) (aCons (fC (.int 0)) (aCons (fC (.int 2)) aNil)))) (aCons (fTup (aCons (fC (.int 0)) (aCons (fC (.int 2)) (aCons (fC (.int 1)) aNil)))) aNil)))))))) aNil))))
noncomputable def row_B3b : Ss := (gIf (fBool (fOp (dI fun i j => .bl (decide (i ≤ j))) (fCB dLen (aCons (fVar 10) aNil)) (fVar 3))) (gSeq (gSetN 11 (fRep (fLst (aCons (fC (.int 1)) aNil)) (fCB dLen (aCons (fVar 10) aNil)))) (gSeq (gFor (fIr1 (fOp (dI fun i j => .int (i - j)) (fVar 3) (fCB dLen (aCons (fVar 10) aNil)))) (kName 5) b__law_row_2) (gFrz 11 (gRet (fCall f__law_blown (aCons (fVar 10) (aCons (fFrz (fLcW (fItems (fVar 11)) (kName 13) fYes (fCall f__law_dealt (aDrw 0 (aCons (fVar 13) aNil))) [13])) aNil))))))) gNext)
theorem row_b1 {m n i : Nat} (hn : n ≤ 40) (h2 : 0 ≤ w.turn) (h3 : w.turn + 10 < most) : ∃ p w', row_B1 [.drw, .dat (.int (m : Int)), .dat (.int (i : Int)), .dat (.int (n : Int)), .un, .un, .un, .un, .un, .un, .un, .un, .un, .un] w = .ok (.rt (rowD p)) w' ∧ IsRow p ∧ p.length = n ∧ Adv 6 w w' := by
  obtain ⟨c, w1, hc, ad1, e1⟩ := v_draw (w := w) (n := 2) (by decide) (by unfold most; omega) (by omega) (by omega)
  have t1 := ad1.1; have t1' := ad1.2
  have e1' : semDraw [.drw, .dat (.int 2)] w = .ok (.int (c : Int)) w1 := e1
  have e5 : okRg 0 (n : Int) := by unfold okRg; omega
  have q := dEq_k c 0 (z := 0) rfl
  obtain ⟨t, w2, ht, ad2, e2⟩ := v_draw (w := w1) (n := 3) (by decide) (by unfold most; omega) (by omega) (by omega)
  have t2 := ad2.1; have t2' := ad2.2
  have e2' : semDraw [.drw, .dat (.int 3)] w1 = .ok (.int (t : Int)) w2 := e2
  have e6 : okI (t : Int) := by unfold okI; omega
  have key : ∀ L : List Nat, L.Perm (List.range n) → ∃ L' y5 y6 w', loopD (kName 5) b__law_row_1 (natD (List.range t)) [.drw, .dat (.int (m : Int)), .dat (.int (i : Int)), .dat (.int (n : Int)), .lst (natD L), .un, .un, .un, .un, .un, .un, .un, .un, .un] w2 = .ok (.nx [.drw, .dat (.int (m : Int)), .dat (.int (i : Int)), .dat (.int (n : Int)), .lst (natD L'), y5, y6, .un, .un, .un, .un, .un, .un, .un]) w' ∧ L'.Perm (List.range n) ∧ Adv (2 * t) w2 w' := fun L hL =>
    v_moves hn t L .un .un [.un, .un, .un, .un, .un, .un, .un] w2 hL (by omega) (by omega) (by omega)
  have et : ∀ l : List Nat, dTupOf (.lst (natD l)) = some (rowD l) := fun l => rfl
  by_cases h0 : c = 0
  · obtain ⟨L', y5, y6, w3, e3, hL', ad3⟩ := key (List.range n) (List.Perm.refl _)
    have t3 := ad3.1; have t3' := ad3.2
    have hl : L'.length = n := by rw [hL'.length_eq, List.length_range]
    refine ⟨L', w3, ?_, ⟨by rw [hl]; exact hL', by omega⟩, hl, ⟨by omega, by omega⟩⟩
    rw [decide_eq_true h0] at q
    simp [row_B1, fIfN, e1', q, e5, rgD_nat, e2', e6, e3, lent, et]
  · obtain ⟨L', y5, y6, w3, e3, hL', ad3⟩ := key (List.range n).reverse (List.reverse_perm _)
    have t3 := ad3.1; have t3' := ad3.2
    have hl : L'.length = n := by rw [hL'.length_eq, List.length_range]
    refine ⟨L', w3, ?_, ⟨by rw [hl]; exact hL', by omega⟩, hl, ⟨by omega, by omega⟩⟩
    rw [decide_eq_false h0] at q
    have er : (natD (List.range n)).reverse = natD (List.range n).reverse := by unfold natD; rw [List.map_reverse]
    simp only [row_B1, fIfN, fRevN, x_setN, x_frz]
    simp [fIfN, fRevN, e1', q, e5, rgD_nat, er, e2', e6, e3, lent, et]
theorem row_b2 {m n i : Nat} (hn : n ≤ 40) (h2 : 0 ≤ w.turn) (h3 : w.turn + 100 < most) : ∃ p w', row_B2 [.drw, .dat (.int (m : Int)), .dat (.int (i : Int)), .dat (.int (n : Int)), .un, .un, .un, .un, .un, .un, .un, .un, .un, .un] w = .ok (.rt (rowD p)) w' ∧ IsRow p ∧ p.length = n ∧ Adv 42 w w' := by
  obtain ⟨c, w1, hc, ad1, e1⟩ := v_draw (w := w) (n := n + 1) (by omega) (by unfold most; omega) (by omega) (by omega)
  have t1 := ad1.1; have t1' := ad1.2
  have e1' : semDraw [.drw, .dat (.int ((n : Int) + 1))] w = .ok (.int (c : Int)) w1 := e1
  obtain ⟨p, w2, e2, hp, hpl, ad2⟩ := v_dealt (w := w1) (n := c) (by omega) (by omega) (by omega)
  have t2 := ad2.1; have t2' := ad2.2
  obtain ⟨r, w3, e3, hr, hrl, ad3⟩ := v_dealt (w := w2) (n := n - c) (by omega) (by omega) (by omega)
  have t3 := ad3.1; have t3' := ad3.2
  have e3' : f__law_dealt [.drw, .dat (.int ((n : Int) - (c : Int)))] w2 = .ok (rowD r) w3 := by
    rw [show ((n : Int) - (c : Int)) = ((n - c : Nat) : Int) by omega]; exact e3
  obtain ⟨t, w4, ht, ad4, e4⟩ := v_draw (w := w3) (n := 2) (by decide) (by unfold most; omega) (by omega) (by omega)
  have t4 := ad4.1; have t4' := ad4.2
  have e4' : semDraw [.drw, .dat (.int 2)] w3 = .ok (.int (t : Int)) w4 := e4
  have q := dEq_k t 0 (z := 0) rfl
  have es : setsE [8, 9] [EV.dat (rowD p), EV.dat (rowD r)] [.drw, .dat (.int (m : Int)), .dat (.int (i : Int)), .dat (.int (n : Int)), .un, .un, .un, .dat (.int (c : Int)), .un, .un, .un, .un, .un, .un]
      = [.drw, .dat (.int (m : Int)), .dat (.int (i : Int)), .dat (.int (n : Int)), .un, .un, .un, .dat (.int (c : Int)), .dat (rowD p), .dat (rowD r), .un, .un, .un, .un] := rfl
  by_cases h0 : t = 0
  · rw [decide_eq_true h0] at q
    refine ⟨besideL p r, w4, ?_, beside_row hp hr (by omega), by unfold besideL; simp; omega, ⟨by omega, by omega⟩⟩
    have k := v_law_beside (w := w4) (p := p) (q := r) (by omega) (by omega)
    simp [row_B2, e1', e2, e3', e4', q, es, k]
  · rw [decide_eq_false h0] at q
    refine ⟨underL p r, w4, ?_, under_row hp hr (by omega), by unfold underL; simp; omega, ⟨by omega, by omega⟩⟩
    have k := v_law_under (w := w4) (p := p) (q := r) (by omega) (by omega)
    simp [row_B2, e1', e2, e3', e4', q, es, k]
def framesL : List (List Nat) := [[1, 3, 0, 2], [2, 0, 3, 1], [0, 1], [1, 0], [1, 0, 2], [0, 2, 1]]
theorem row_b3a {m n i : Nat} (h2 : 0 ≤ w.turn) (h3 : w.turn + 100 < most) : ∃ fr w', row_B3a [.drw, .dat (.int (m : Int)), .dat (.int (i : Int)), .dat (.int (n : Int)), .un, .un, .un, .un, .un, .un, .un, .un, .un, .un] w = .ok (.nx [.drw, .dat (.int (m : Int)), .dat (.int (i : Int)), .dat (.int (n : Int)), .un, .un, .un, .un, .un, .un, .dat (rowD fr), .un, .un, .un]) w' ∧ IsRow fr ∧ 0 < fr.length ∧ fr.length ≤ 4 ∧ Adv 1 w w' := by
  obtain ⟨d, w1, hd, ad, e⟩ := v_pick (w := w) (l := framesL.map rowD) (by decide) (by decide) h2 (by omega)
  obtain ⟨fr, hf, rfl⟩ := List.mem_map.mp hd
  obtain ⟨f1, f2, f3⟩ := frames_ok fr hf
  refine ⟨fr, w1, ?_, f1, f2, f3, ad⟩
  have e' : f__law_pick [.drw, .dat (.lst [.tup [.int 1, .int 3, .int 0, .int 2], .tup [.int 2, .int 0, .int 3, .int 1], .tup [.int 0, .int 1], .tup [.int 1, .int 0], .tup [.int 1, .int 0, .int 2], .tup [.int 0, .int 2, .int 1]])] w = .ok (rowD fr) w1 := e
  have b3 : 3 ≤ big := le_big (by omega)
  have b4 : 4 ≤ big := le_big (by omega)
  have b6 : 6 ≤ big := le_big (by omega)
  simp [row_B3a, b3, b4, datsOf, b6, e']
theorem mem_le_sum : ∀ {S : List Nat} {s : Nat}, s ∈ S → s ≤ S.sum
  | x :: S, s, h => by
    rw [List.sum_cons]
    rcases List.mem_cons.mp h with rfl | h
    · omega
    · have := mem_le_sum h; omega
theorem sum_rep (k : Nat) : (List.replicate k 1).sum = k := by
  induction k with
  | zero => rfl
  | succ k ih => rw [List.replicate_succ, List.sum_cons, ih]; omega
theorem row_b3b {m n i : Nat} {fr : List Nat} (hfr : IsRow fr) (f0 : 0 < fr.length) (f4 : fr.length ≤ 4) (hl : fr.length ≤ n) (hn : n ≤ 40) (h2 : 0 ≤ w.turn) (h3 : w.turn + 100 < most) : ∃ p w', row_B3b [.drw, .dat (.int (m : Int)), .dat (.int (i : Int)), .dat (.int (n : Int)), .un, .un, .un, .un, .un, .un, .dat (rowD fr), .un, .un, .un] w = .ok (.rt (rowD p)) w' ∧ IsRow p ∧ p.length = n ∧ Adv 80 w w' := by
  obtain ⟨S, y5, y12, w1, e1, hS, hs, ad1⟩ := v_sizes (w := w) (fr := fr) (a := .dat (.int (m : Int))) (b := .dat (.int (i : Int))) (c0 := .dat (.int (n : Int))) (d := .un) (e := .un) (f := .un) (g := .un) (h := .un) f0 f4 rfl rfl rfl rfl rfl rfl rfl rfl (x13 := .un) rfl (n - fr.length) (List.replicate fr.length 1) .un .un (by simp) (by rw [sum_rep]; omega) h2 (by omega)
  have t1 := ad1.1; have t1' := ad1.2
  rw [sum_rep] at hs
  obtain ⟨qs, w2, e2, hq, hr, ad2⟩ := v_deals (ρ0 := [.drw, .dat (.int (m : Int)), .dat (.int (i : Int)), .dat (.int (n : Int)), .un, y5, .un, .un, .un, .un, .dat (rowD fr), .dat (.lst (natD S)), y12, .un]) rfl (show 13 < 14 by decide) S w1 (fun s h => by have := mem_le_sum h; omega) (by omega) (by omega)
  have t2 := ad2.1; have t2' := ad2.2
  have hql : qs.length = fr.length := by
    have := congrArg List.length hq
    rw [List.length_map] at this; omega
  have hsum : offs fr qs fr.length = n := by rw [offs_sum hfr hql, hq, hs]; omega
  have hperm : ∀ q ∈ qs, q.Perm (List.range q.length) := fun q h => (hr q h).perm
  have k := v_law_blown (w := w2) hfr hql hperm (by omega)
  have e6 : okI ((n : Int) - (fr.length : Int)) := by unfold okI; omega
  have e7 : rgD 0 ((n : Int) - (fr.length : Int)) = natD (List.range (n - fr.length)) := by
    rw [show ((n : Int) - (fr.length : Int)) = ((n - fr.length : Nat) : Int) by omega, rgD_nat]
  have e8 : okRp (fr.length : Int) 1 := by unfold okRp; exact ⟨by omega, by omega, by rw [Nat.one_mul, Int.toNat_natCast]; exact le_big (by omega)⟩
  have e9 : S.length ≤ big := le_big (by omega)
  have ew : wipeE [.drw, .dat (.int (m : Int)), .dat (.int (i : Int)), .dat (.int (n : Int)), .un, y5, .un, .un, .un, .un, .dat (rowD fr), .dat (.lst (natD S)), y12, .un] [13] = [.drw, .dat (.int (m : Int)), .dat (.int (i : Int)), .dat (.int (n : Int)), .un, y5, .un, .un, .un, .un, .dat (rowD fr), .dat (.lst (natD S)), y12, .un] := rfl
  have eo : okW [.drw, .dat (.int (m : Int)), .dat (.int (i : Int)), .dat (.int (n : Int)), .un, y5, .un, .un, .un, .un, .dat (rowD fr), .dat (.lst (natD S)), y12, .un] [13] = true := rfl
  have eL : fLcW (fItems (fVar 11)) (kName 13) fYes (fCall f__law_dealt (aDrw 0 (aCons (fVar 13) aNil))) [13] [.drw, .dat (.int (m : Int)), .dat (.int (i : Int)), .dat (.int (n : Int)), .un, y5, .un, .un, .un, .un, .dat (rowD fr), .dat (.lst (natD S)), y12, .un] w1 = .ok (qs.map rowD) w2 := by
    have hi : fItems (fVar 11) [.drw, .dat (.int (m : Int)), .dat (.int (i : Int)), .dat (.int (n : Int)), .un, y5, .un, .un, .un, .un, .dat (rowD fr), .dat (.lst (natD S)), y12, .un] w1 = .ok (natD S) w1 := rfl
    unfold fLcW
    rw [hi]
    show (if _ then _ else _) = _
    rw [if_pos ⟨by rw [natD_length]; exact e9, eo⟩, ew, e2]
  have hle : (fr.length : Int) ≤ (n : Int) := by omega
  have b1 : 1 ≤ big := le_big (by omega)
  refine ⟨blownL fr qs, w2, ?_, blown_row hfr hperm (by omega), by rw [blown_length hfr hperm]; exact hsum, ⟨by omega, by omega⟩⟩
  unfold row_B3b
  have er : List.replicate fr.length (Dv.int 1) = natD (List.replicate fr.length 1) := by unfold natD; rw [List.map_replicate]; rfl
  simp [hle, b1, datsOf, e8, er, e6, e7, e1, lent, eL, k]
noncomputable def row_P : Ss := (gPar [2, 3] (aCons (fCall f__law_draw (aDrw 0 (aCons (fC (.int 6)) aNil))) (aCons (fCall f__law_draw (aDrw 0 (aCons (fOp dAdd (fVar 1) (fC (.int 1))) aNil))) aNil)))
theorem row_parts2 : g__law_row = (gSeq row_P (gSeq (gIf (fBool (fOp dEq (fVar 2) (fC (.int 0)))) (gRet (fCall f__law_dealt (aDrw 0 (aCons (fVar 3) aNil)))) gNext) (gSeq (gIf (fBool (fOp dEq (fVar 2) (fC (.int 1)))) row_B1 gNext) (gSeq (gIf (fBool (fOp dEq (fVar 2) (fC (.int 2)))) row_B2 gNext) (gSeq (gIf (fAnd (fBool (fOp dEq (fVar 2) (fC (.int 3)))) (fBool (fOp (dI fun i j => .bl (decide (j < i))) (fVar 3) (fC (.int 3))))) (gSeq row_B3a row_B3b) gNext) (gRet (fCall f__law_dealt (aDrw 0 (aCons (fVar 3) aNil))))))))) := rfl
theorem row_val {m : Nat} (hm : m ≤ 40) (h2 : 0 ≤ w.turn) (h3 : w.turn + 200 < most) : ∃ p w', g__law_row [.drw, .dat (.int (m : Int)), .un, .un, .un, .un, .un, .un, .un, .un, .un, .un, .un, .un] w = .ok (.rt (rowD p)) w' ∧ IsRow p ∧ p.length ≤ m ∧ Adv 150 w w' := by
  obtain ⟨i, n, w1, hi, hn, ad1, e1⟩ := row_start (w := w) hm h2 (by omega)
  have t1 := ad1.1; have t1' := ad1.2
  have e1' : row_P [.drw, .dat (.int (m : Int)), .un, .un, .un, .un, .un, .un, .un, .un, .un, .un, .un, .un] w = .ok (.nx [.drw, .dat (.int (m : Int)), .dat (.int ((i : Nat) : Int)), .dat (.int ((n : Nat) : Int)), .un, .un, .un, .un, .un, .un, .un, .un, .un, .un]) w1 := e1
  have q0 := dEq_k i 0 (z := 0) rfl
  have q1 := dEq_k i 1 (z := 1) rfl
  have q2 := dEq_k i 2 (z := 2) rfl
  have q3 := dEq_k i 3 (z := 3) rfl
  rw [row_parts2]
  by_cases h0 : i = 0
  · rw [decide_eq_true h0] at q0
    obtain ⟨p, w2, e2, hp, hl, ad2⟩ := v_dealt (w := w1) (n := n) (by omega) (by omega) (by omega)
    have t2 := ad2.1; have t2' := ad2.2
    exact ⟨p, w2, by simp [e1', q0, e2], hp, by omega, ⟨by omega, by omega⟩⟩
  rw [decide_eq_false h0] at q0
  by_cases h1 : i = 1
  · rw [decide_eq_true h1] at q1
    obtain ⟨p, w2, e2, hp, hl, ad2⟩ := row_b1 (w := w1) (m := m) (n := n) (i := i) (by omega) (by omega) (by omega)
    have t2 := ad2.1; have t2' := ad2.2
    exact ⟨p, w2, by simp [e1', q0, q1, e2], hp, by omega, ⟨by omega, by omega⟩⟩
  rw [decide_eq_false h1] at q1
  by_cases h2' : i = 2
  · rw [decide_eq_true h2'] at q2
    obtain ⟨p, w2, e2, hp, hl, ad2⟩ := row_b2 (w := w1) (m := m) (n := n) (i := i) (by omega) (by omega) (by omega)
    have t2 := ad2.1; have t2' := ad2.2
    exact ⟨p, w2, by simp [e1', q0, q1, q2, e2], hp, by omega, ⟨by omega, by omega⟩⟩
  rw [decide_eq_false h2'] at q2
  have last : ∀ (w : DS), 0 ≤ w.turn → w.turn + 100 < most → ∃ p w', f__law_dealt [.drw, .dat (.int (n : Int))] w = .ok (rowD p) w' ∧ IsRow p ∧ p.length = n ∧ Adv n w w' := fun w a b => v_dealt (by omega) a (by omega)
  by_cases h3' : i = 3 ∧ 3 < n
  · rw [decide_eq_true h3'.1] at q3
    have hlt : (3 : Int) < (n : Int) := by omega
    obtain ⟨fr, w2, e2, f1, f2, f3, ad2⟩ := row_b3a (w := w1) (m := m) (n := n) (i := i) (by omega) (by omega)
    have t2 := ad2.1; have t2' := ad2.2
    obtain ⟨p, w3, e3, hp, hl, ad3⟩ := row_b3b (w := w2) (m := m) (n := n) (i := i) f1 f2 f3 (by omega) (by omega) (by omega) (by omega)
    have t3 := ad3.1; have t3' := ad3.2
    exact ⟨p, w3, by simp [e1', q0, q1, q2, q3, hlt, e2, e3], hp, by omega, ⟨by omega, by omega⟩⟩
  · obtain ⟨p, w2, e2, hp, hl, ad2⟩ := last w1 (by omega) (by omega)
    have t2 := ad2.1; have t2' := ad2.2
    refine ⟨p, w2, ?_, hp, by omega, ⟨by omega, by omega⟩⟩
    by_cases h4 : i = 3
    · rw [decide_eq_true h4] at q3
      have hlt : ¬ (3 : Int) < (n : Int) := by omega
      simp [e1', q0, q1, q2, q3, hlt, e2]
    · rw [decide_eq_false h4] at q3
      simp [e1', q0, q1, q2, q3, e2]
theorem v_law_row {m : Nat} (hm : m ≤ 40) (h2 : 0 ≤ w.turn) (h3 : w.turn + 200 < most) : ∃ p w', f__law_row [.drw, .dat (.int (m : Int))] w = .ok (rowD p) w' ∧ IsRow p ∧ p.length ≤ m ∧ Adv 150 w w' := by
  obtain ⟨p, w1, e, a⟩ := row_val (w := w) hm h2 h3
  refine ⟨p, w1, ?_, a⟩
  simp [f__law_row, semOf_eq, e]
theorem v_back (p : List Nat) : f_back [.dat (rowD p)] w = .ok (rowD p.reverse) w := by
  simp [f_back, semOf_eq, g_back, rowD, natD_reverse]
theorem v_turned {p : List Nat} (h : IsRow p) : f_turned [.dat (rowD p)] w = .ok (rowD p.reverse) w := by
  simp [f_turned, semOf_eq, g_turned, v_need_row h, v_back]
theorem v_inverse {p : List Nat} (h : IsRow p) : f_inverse [.dat (rowD p)] w = .ok (rowD (invP p)) w := by
  have hl := h.len
  have e1 : okRp (p.length : Int) 1 := by unfold okRp; exact ⟨by omega, by omega, le_big (by omega)⟩
  obtain ⟨ρ', e2, a, b, rfl⟩ := loopD_inv (k := kTup 2 (kCons (kName 2) (kCons (kName 3) kNil))) (g := b_inverse_1) (w := w) (fun z : Nat × Nat => Dv.tup [.int ((z.2 : Nat) : Int), .int ((z.1 : Nat) : Int)])
    (fun done ρ => ∃ a b, ρ = [.dat (rowD p), .lst (natD (invF p done)), a, b]) p.zipIdx [] [.dat (rowD p), .lst (natD (List.replicate p.length 0)), .un, .un] ⟨.un, .un, rfl⟩ (fun done z ρ hz ⟨a, b, hr⟩ => by
      subst hr
      have hz1 : z.1 < p.length := h.mem.mp (List.fst_mem_of_mem_zipIdx hz)
      refine ⟨_, [.dat (rowD p), .lst (natD (invF p (done ++ [z]))), .dat (.int (z.2 : Int)), .dat (.int (z.1 : Int))], rfl, ?_, _, _, rfl⟩
      have e3 : ixN (natD (invF p done)).length (z.1 : Int) = some z.1 := ixN_nat (by rw [natD_length, invF_length]; exact hz1)
      simp only [u_b_inverse_1, x_putL, x_var, List.set_cons_succ, List.set_cons_zero, List.getElem?_cons_succ, List.getElem?_cons_zero, RR.bind_ok, e3, natD_set]
      unfold invF
      rw [List.foldl_append]
      rfl)
  rw [List.nil_append, invF_row h] at e2
  simp [f_inverse, semOf_eq, g_inverse, e1, rep_one, enumD_natD, ← natD_replicate, e2, row_fold]
theorem v_sum_of {p q : List Nat} (hp : p.length ≤ 40) (hq : q.length ≤ 40) : f_sum_of [.dat (rowD p), .dat (rowD q)] w = .ok (rowD (p ++ q.map (· + p.length))) w := by
  have e := shift_sem (w := w) (q := q) (k := p.length) (i := 1) (j := 2) (ρ := [.dat (rowD p), .dat (rowD q), .un]) (f := fOp dAdd (fVar 2) (fCB dLen (aCons (fVar 0) aNil))) rfl (by omega) (show 2 < 3 by decide) (fun x => by simp) rfl
  have ea : dAdd (rowD p) (rowD (q.map (· + p.length))) = some (rowD (p ++ q.map (· + p.length))) := by
    show (if _ then _ else _) = _
    rw [if_pos (by simp only [natD_length, List.length_map]; exact le_big (by omega)), ← natD_append]; rfl
  simp [f_sum_of, semOf_eq, g_sum_of, e, row_fold, ea]
theorem v_skew_of {p q : List Nat} (hp : p.length ≤ 40) (hq : q.length ≤ 40) : f_skew_of [.dat (rowD p), .dat (rowD q)] w = .ok (rowD (p.map (· + q.length) ++ q)) w := by
  have e := shift_sem (w := w) (q := p) (k := q.length) (i := 0) (j := 2) (ρ := [.dat (rowD p), .dat (rowD q), .un]) (f := fOp dAdd (fVar 2) (fCB dLen (aCons (fVar 1) aNil))) rfl (by omega) (show 2 < 3 by decide) (fun x => by simp) rfl
  have ea : dAdd (rowD (p.map (· + q.length))) (rowD q) = some (rowD (p.map (· + q.length) ++ q)) := by
    show (if _ then _ else _) = _
    rw [if_pos (by simp only [natD_length, List.length_map]; exact le_big (by omega)), ← natD_append]; rfl
  simp [f_skew_of, semOf_eq, g_skew_of, e, row_fold, ea]
theorem v_need_room {n : Int} (h : n ≤ 40) : f_need_room [.dat (.int n)] w = .ok .non w := by
  have e : ¬ (40 < n) := by omega
  simp [f_need_room, semOf_eq, g_need_room, e]
theorem v_beside {p q : List Nat} (hp : IsRow p) (hq : IsRow q) (h : p.length + q.length ≤ 40) : f_beside [.dat (rowD p), .dat (rowD q)] w = .ok (rowD (besideL p q)) w := by
  have e : ((p.length : Int) + (q.length : Int)) ≤ 40 := by omega
  simp [f_beside, semOf_eq, g_beside, v_need_row hp, v_need_row hq, v_need_room e, v_sum_of hp.len hq.len, besideL]
theorem v_under {p q : List Nat} (hp : IsRow p) (hq : IsRow q) (h : p.length + q.length ≤ 40) : f_under [.dat (rowD p), .dat (rowD q)] w = .ok (rowD (underL p q)) w := by
  have e : ((p.length : Int) + (q.length : Int)) ≤ 40 := by omega
  simp [f_under, semOf_eq, g_under, v_need_row hp, v_need_row hq, v_need_room e, v_skew_of hp.len hq.len, underL]
theorem szAll_nats (l : List Nat) : szAll (natD l) = l.length := by
  induction l with
  | nil => rfl
  | cons x l ih =>
    show szD (.int (x : Int)) + szAll (natD l) = _
    rw [ih, List.length_cons, show szD (.int (x : Int)) = 1 from rfl]
    omega
theorem okn_row (p : List Nat) : okn 1 (rowD p) := okn_tup okn_natD
theorem same_row {p : List Nat} (h : p.length ≤ 100) : f__law_same [.dat (rowD p), .dat (rowD p)] w = .ok (.bl true) w :=
  v_same ((okn_row p).le (by decide)) (by show szAll (natD p) + 1 ≤ _; rw [szAll_nats]; omega)
/-- the places of the kinds that fit: just one -/
theorem kinds_lc {n i : Nat} (hi : i < n) (hn : n ≤ 1000) {x0 x1 x2 : EV} : fLcW (fIr1 (fC (.int (n : Int)))) (kName 4) (fBool (fOp dSubI (fVar 3) (fVar 4))) (fVar 4) [4] [x0, x1, x2, .dat (.lst ((List.range n).map fun j => Dv.bl (decide (j = i)))), .un] w = .ok [.int (i : Int)] w := by
  have hi' : fIr1 (fC (.int (n : Int))) [x0, x1, x2, .dat (.lst ((List.range n).map fun j => Dv.bl (decide (j = i)))), .un] w = .ok ((List.range n).map fun j : Nat => Dv.int (j : Int)) w := by
    have e5 : okI (n : Int) := by unfold okI; omega
    have := rgD_nat n
    simp [e5]; exact this
  rw [lcW_of (fun j : Nat => Dv.int (j : Int)) (fun j => decide (j = i)) (fun j => .int (j : Int)) _ hi' (by rw [List.length_range]; exact le_big (by omega)) rfl fun x hx => ⟨_, rfl, ?_, fun _ => rfl⟩]
  · congr 1
    have key : ∀ m, (List.range m).filter (fun j => decide (j = i)) = if i < m then [i] else [] := fun m => by
      induction m with
      | zero => rfl
      | succ m ih =>
        rw [List.range_succ, List.filter_append, ih]
        by_cases h : i < m
        · rw [if_pos h, if_pos (by omega)]
          simp
          omega
        · by_cases h2 : i = m
          · subst h2
            simp
          · rw [if_neg h, if_neg (by omega)]
            simp
            omega
    rw [key, if_pos hi]; rfl
  · have hx4 := List.mem_range.mp hx
    have e : dSubI (.lst ((List.range n).map fun j => Dv.bl (decide (j = i)))) (.int (x : Int)) = some (.bl (decide (x = i))) := dSubI_lst (by rw [List.getElem?_map, List.getElem?_range hx4]; rfl)
    simp [wipeE, e]
theorem kinds_eq (i : Nat) : dEq (.lst [.int (i : Int)]) (.lst [.int (i : Int)]) = some (.bl true) := by
  have hc : okc (.lst [.int (i : Int)]) := (okn_lst (n := 0) fun d hd => by rw [List.mem_singleton.mp hd]; exact okn_int _).c
  rw [dEq_of hc hc]; simp
theorem dEq_i (a : Int) : dEq (.int a) (.int a) = some (.bl true) := by rw [dEq_of (okc_int _) (okc_int _)]; simp
theorem dNe_row (p q : List Nat) : dNe (rowD p) (rowD q) = some (.bl (decide (p ≠ q))) := by
  rw [dNe_of (okc_row p) (okc_row q)]
  congr 2
  rw [Bool.eq_iff_iff]
  simp [rowD_inj]
theorem dNe_row_self (p : List Nat) : dNe (rowD p) (rowD p) = some (.bl false) := by rw [dNe_row]; simp
/-- upside down -/
def flipP (p : List Nat) : List Nat := p.map fun x => p.length - 1 - x
theorem flipP_len (p : List Nat) : (flipP p).length = p.length := by unfold flipP; rw [List.length_map]
theorem flip_lc {p : List Nat} (h : IsRow p) : fLcW (fItems (fVar 0)) (kName 1) fYes (fOp (dI fun i j => .int (i - j)) (fOp (dI fun i j => .int (i - j)) (fCB dLen (aCons (fVar 0) aNil)) (fC (.int 1))) (fVar 1)) [1] [.dat (rowD p), .un] w = .ok (natD (flipP p)) w := by
  have hl := h.len
  have hi : fItems (fVar 0) [.dat (rowD p), .un] w = .ok (p.map fun x : Nat => Dv.int (x : Int)) w := by simp; rfl
  rw [lcW_of (fun x : Nat => Dv.int (x : Int)) (fun _ => true) (fun x => .int ((p.length - 1 - x : Nat) : Int)) p hi (le_big (by omega)) rfl fun x hx => ⟨_, rfl, rfl, fun _ => by
    have := h.mem.mp hx
    simp [wipeE]
    omega⟩]
  rw [List.filter_eq_self.mpr fun _ _ => rfl]
  unfold flipP natD
  rw [List.map_map]; rfl
theorem v_flipped {p : List Nat} (h : IsRow p) : f_flipped [.dat (rowD p)] w = .ok (rowD (flipP p)) w := by
  have e := flip_lc (w := w) h
  simp [f_flipped, semOf_eq, g_flipped, e, row_fold]
theorem v_upside {p : List Nat} (h : IsRow p) : f_upside [.dat (rowD p)] w = .ok (rowD (flipP p)) w := by
  simp [f_upside, semOf_eq, g_upside, v_need_row h, v_flipped h]
theorem v_law_upside {p : List Nat} (h : IsRow p) : f__law_upside [.dat (rowD p)] w = .ok (rowD (flipP p)) w := by
  have e := flip_lc (w := w) h
  simp [f__law_upside, semOf_eq, g__law_upside, e, row_fold]
theorem v_law_turned (p : List Nat) : f__law_turned [.dat (rowD p)] w = .ok (rowD p.reverse) w := by
  have e : dRev (rowD p) = some (rowD p.reverse) := by
    show some (Dv.tup (natD p).reverse) = some (Dv.tup (natD p.reverse))
    unfold natD; rw [List.map_reverse]
  have e2 : dTupOf (rowD p.reverse) = some (rowD p.reverse) := rfl
  simp [f__law_turned, semOf_eq, g__law_turned, e, e2]
theorem v_law_swapped {p : List Nat} (h : IsRow p) : f__law_swapped [.dat (rowD p)] w = .ok (rowD (invP p)) w := by
  have e : f__law_swapped [.dat (rowD p)] w = f_inverse [.dat (rowD p)] w := rfl
  rw [e, v_inverse h]
theorem v_swapped {p : List Nat} (h : IsRow p) : f_swapped [.dat (rowD p)] w = .ok (rowD (invP p)) w := by
  simp [f_swapped, semOf_eq, g_swapped, v_need_row h, v_inverse h]
/-! what is no row is refused -/
theorem no_row {d : Dv} (h : okA d) (hr : isRowD d = false) : f_need_row [.dat d] w = .rz ⟨"BadRow", none⟩ w := by
  rw [v_need_row_any h.1 h.2, hr]; rfl
theorem no_turned {d : Dv} (h : okA d) (hr : isRowD d = false) : f_turned [.dat d] w = .rz ⟨"BadRow", none⟩ w := by
  simp [f_turned, semOf_eq, g_turned, no_row h hr]
theorem no_upside {d : Dv} (h : okA d) (hr : isRowD d = false) : f_upside [.dat d] w = .rz ⟨"BadRow", none⟩ w := by
  simp [f_upside, semOf_eq, g_upside, no_row h hr]
theorem no_swapped {d : Dv} (h : okA d) (hr : isRowD d = false) : f_swapped [.dat d] w = .rz ⟨"BadRow", none⟩ w := by
  simp [f_swapped, semOf_eq, g_swapped, no_row h hr]
theorem no_beside1 {d e : Dv} (h : okA d) (hr : isRowD d = false) : f_beside [.dat d, .dat e] w = .rz ⟨"BadRow", none⟩ w := by
  simp [f_beside, semOf_eq, g_beside, no_row h hr]
theorem no_beside2 {p : List Nat} {d : Dv} (hp : IsRow p) (h : okA d) (hr : isRowD d = false) : f_beside [.dat (rowD p), .dat d] w = .rz ⟨"BadRow", none⟩ w := by
  simp [f_beside, semOf_eq, g_beside, v_need_row hp, no_row h hr]
theorem no_under1 {d e : Dv} (h : okA d) (hr : isRowD d = false) : f_under [.dat d, .dat e] w = .rz ⟨"BadRow", none⟩ w := by
  simp [f_under, semOf_eq, g_under, no_row h hr]
theorem no_under2 {p : List Nat} {d : Dv} (hp : IsRow p) (h : okA d) (hr : isRowD d = false) : f_under [.dat (rowD p), .dat d] w = .rz ⟨"BadRow", none⟩ w := by
  simp [f_under, semOf_eq, g_under, v_need_row hp, no_row h hr]
theorem no_room {n : Int} (h : 40 < n) : f_need_room [.dat (.int n)] w = .rz ⟨"TooMany", some ("most", .int 40)⟩ w := by
  simp [f_need_room, semOf_eq, g_need_room, h, gRaiseI]
theorem no_beside3 {p q : List Nat} (hp : IsRow p) (hq : IsRow q) (h : 40 < p.length + q.length) : f_beside [.dat (rowD p), .dat (rowD q)] w = .rz ⟨"TooMany", some ("most", .int 40)⟩ w := by
  have e : 40 < ((p.length : Int) + (q.length : Int)) := by omega
  simp [f_beside, semOf_eq, g_beside, v_need_row hp, v_need_row hq, no_room e]
theorem no_under3 {p q : List Nat} (hp : IsRow p) (hq : IsRow q) (h : 40 < p.length + q.length) : f_under [.dat (rowD p), .dat (rowD q)] w = .rz ⟨"TooMany", some ("most", .int 40)⟩ w := by
  have e : 40 < ((p.length : Int) + (q.length : Int)) := by omega
  simp [f_under, semOf_eq, g_under, v_need_row hp, v_need_row hq, no_room e]
/-- one statement behind another -/
theorem nx_seq {g h : Ss} {ρ ρ1 : List EV} {w w1 : DS} {r : RR SF} (e : g ρ w = .ok (.nx ρ1) w1) (k : h ρ1 w1 = r) : gSeq g h ρ w = r := by
  rw [x_seq, e]; exact k
theorem part_at_t {qs : List (List Nat)} {j : Nat} (hj : j < qs.length) : dSubI (.tup (qs.map rowD)) (.int (j : Int)) = some (rowD (qs.getD j [])) := by
  refine dSubI_tup ?_
  rw [List.getElem?_map, List.getElem?_eq_getElem hj, List.getD_eq_getElem?_getD, List.getElem?_eq_getElem hj]; rfl
theorem range_at {n e : Nat} {done rest : List Nat} (hz : List.range n = done ++ e :: rest) : e = done.length ∧ done.length < n := by
  have h1 := congrArg (·[done.length]?) hz
  simp only [List.getElem?_append_right (Nat.le_refl _), Nat.sub_self, List.getElem?_cons_zero] at h1
  rw [List.getElem?_eq_some_iff] at h1
  obtain ⟨h2, h3⟩ := h1
  rw [List.getElem_range] at h3
  rw [List.length_range] at h2
  exact ⟨h3.symm, h2⟩
theorem enum_rows {p : List Nat} {qs : List (List Nat)} (hl : qs.length = p.length) : enumD 0 (qs.map rowD) = (List.range p.length).map fun j : Nat => Dv.tup [.int (j : Int), rowD (qs.getD j [])] := by
  apply List.ext_getElem?
  intro i
  rw [enumD_get, List.getElem?_map, List.getElem?_map]
  by_cases hi : i < qs.length
  · rw [List.getElem?_eq_getElem hi, List.getElem?_range (by omega)]
    show some (Dv.tup [.int ((0 + i : Nat) : Int), rowD qs[i]]) = some (Dv.tup [.int (i : Int), rowD (qs.getD i [])])
    rw [List.getD_eq_getElem?_getD, List.getElem?_eq_getElem hi, Nat.zero_add]; rfl
  · rw [List.getElem?_eq_none (by omega), List.getElem?_eq_none (by simp; omega)]; rfl
theorem v_blown_up {p : List Nat} {qs : List (List Nat)} (h : IsRow p) (hl : qs.length = p.length) (hq : ∀ q ∈ qs, q.Perm (List.range q.length)) (h40 : offs p qs p.length ≤ 40) : f_blown_up [.dat (rowD p), .dat (.tup (qs.map rowD))] w = .ok (rowD (blownL p qs)) w := by
  have hp := h.len
  obtain ⟨ρ1, e2, x4, p4, rfl⟩ := loopD_at (k := kName 4) (g := b_blown_up_1) (w := w) (fun e : Nat => Dv.int ((p.idxOf e : Nat) : Int)) (List.range p.length)
    (fun done ρ => ∃ x4, plainEV x4 = true ∧ ρ = [.dat (rowD p), .dat (.tup (qs.map rowD)), .dct (prD (fsts p qs done.length)), .dat (.int ((offs p qs done.length : Nat) : Int)), x4, .un, .un, .un]) (fun done e rest ρ hz ⟨x4, p4, hr⟩ => by
      subst hr
      obtain ⟨rfl, hlt⟩ := range_at hz
      have hix : p.idxOf done.length < qs.length := by rw [hl]; exact List.idxOf_lt_length_of_mem (h.mem.mpr hlt)
      refine ⟨[.dat (rowD p), .dat (.tup (qs.map rowD)), .dct (prD (fsts p qs done.length)), .dat (.int ((offs p qs done.length : Nat) : Int)), .dat (.int ((p.idxOf done.length : Nat) : Int)), .un, .un, .un], [.dat (rowD p), .dat (.tup (qs.map rowD)), .dct (prD (fsts p qs (done.length + 1))), .dat (.int ((offs p qs (done.length + 1) : Nat) : Int)), .dat (.int ((p.idxOf done.length : Nat) : Int)), .un, .un, .un], rfl, ?_, _, rfl, by rw [List.length_append, List.length_singleton]⟩
      have k1 := part_at_t hix
      have k2 : (prD (fsts p qs done.length)).length < big := by
        rw [prD_length]
        unfold fsts
        rw [List.length_map, List.length_range]
        have := le_big (n := 1000000) (by omega)
        omega
      rw [u_b_blown_up_1, fsts_succ, ← put_new (fsts_new h hlt), offs_succ]
      generalize prD (fsts p qs done.length) = A at k2
      simp [gPutD, k1, k2, toKey]) (List.range p.length) [] [.dat (rowD p), .dat (.tup (qs.map rowD)), .dct [], .dat (.int 0), .un, .un, .un, .un] rfl ⟨_, rfl, rfl⟩
  rw [List.length_range] at e2
  have hbl := blown_length h hq
  obtain ⟨ρ2, e3, y4, y6, y7, q4, rfl⟩ := loopD_at (k := kTup 2 (kCons (kName 4) (kCons (kName 6) kNil))) (g := b_blown_up_2) (w := w) (fun j : Nat => Dv.tup [.int (j : Int), rowD (qs.getD j [])]) (List.range p.length)
    (fun done ρ => ∃ y4 y6 y7, plainEV y7 = true ∧ ρ = [.dat (rowD p), .dat (.tup (qs.map rowD)), .dat (.dct (prD (fsts p qs p.length))), .dat (.int ((offs p qs p.length : Nat) : Int)), y4, .lst (natD (done.flatMap fun j => (qs.getD j []).map (· + offs p qs (p.getD j 0)))), y6, y7]) (fun done j rest ρ hz ⟨y4, y6, y7, p7, hr⟩ => by
      subst hr
      have hj : j < p.length := List.mem_range.mp (by rw [hz]; simp)
      have hqj : (qs.getD j []).length ≤ 40 ∧ (done.flatMap fun j => (qs.getD j []).map (· + offs p qs (p.getD j 0))).length + (qs.getD j []).length ≤ 40 := by
        have e : blownL p qs = (done ++ j :: rest).flatMap fun j => (qs.getD j []).map (· + offs p qs (p.getD j 0)) := by rw [← hz]; rfl
        rw [List.flatMap_append, List.flatMap_cons] at e
        have e := congrArg List.length e
        rw [List.length_append, List.length_append, List.length_map, hbl] at e
        omega
      refine ⟨[.dat (rowD p), .dat (.tup (qs.map rowD)), .dat (.dct (prD (fsts p qs p.length))), .dat (.int ((offs p qs p.length : Nat) : Int)), .dat (.int (j : Int)), .lst (natD (done.flatMap fun j => (qs.getD j []).map (· + offs p qs (p.getD j 0)))), .dat (rowD (qs.getD j [])), y7], _, rfl, ?_, .dat (.int (j : Int)), .dat (rowD (qs.getD j [])), y7, p7, rfl⟩
      have k1 := shift_sem (w := w) (q := qs.getD j []) (k := offs p qs (p.getD j 0)) (i := 6) (j := 7) (ρ := [.dat (rowD p), .dat (.tup (qs.map rowD)), .dat (.dct (prD (fsts p qs p.length))), .dat (.int ((offs p qs p.length : Nat) : Int)), .dat (.int (j : Int)), .lst (natD (done.flatMap fun j => (qs.getD j []).map (· + offs p qs (p.getD j 0)))), .dat (rowD (qs.getD j [])), y7]) (f := fOp dAdd (fVar 7) (fOp dSubI (fVar 2) (fVar 4))) rfl (by omega) (show 7 < 8 by decide) (fun x => by simp [fsts_at h hj]) p7
      have k2 : (natD (done.flatMap fun j => (qs.getD j []).map (· + offs p qs (p.getD j 0)))).length + (natD ((qs.getD j []).map (· + offs p qs (p.getD j 0)))).length ≤ big := by
        rw [natD_length, natD_length, List.length_map]
        exact le_big (by omega)
      rw [u_b_blown_up_2, List.flatMap_append, List.flatMap_cons, List.flatMap_nil, List.append_nil, natD_append]
      generalize natD (done.flatMap fun j => (qs.getD j []).map (· + offs p qs (p.getD j 0))) = A at k1 k2
      generalize natD ((qs.getD j []).map (· + offs p qs (p.getD j 0))) = B at k1 k2
      generalize rowD (qs.getD j []) = R at k1
      simp [gExtN, k1, k2]) (List.range p.length) [] [.dat (rowD p), .dat (.tup (qs.map rowD)), .dat (.dct (prD (fsts p qs p.length))), .dat (.int ((offs p qs p.length : Nat) : Int)), x4, .lst [], .un, .un] rfl ⟨_, _, _, rfl, rfl⟩
  have e6 : blownL p qs = (List.range p.length).flatMap fun j => (qs.getD j []).map (· + offs p qs (p.getD j 0)) := rfl
  rw [← e6, ← enum_rows hl] at e3
  have e7 : natD (invP p) = (List.range p.length).map fun e : Nat => Dv.int ((p.idxOf e : Nat) : Int) := by
    unfold natD invP
    rw [List.map_map]; rfl
  have e8 := v_inverse (w := w) h
  have e9 : itemsS (rowD (invP p)) = some (natD (invP p)) := rfl
  rw [← e7] at e2
  simp [f_blown_up, semOf_eq, g_blown_up, aNewD, setsE, e8, e2, lent, e3, row_fold]
/-- parts that can be put in -/
def PartsOk (p : List Nat) (qs : List (List Nat)) : Prop := qs.length = p.length ∧ (∀ q ∈ qs, IsRow q ∧ q ≠ []) ∧ offs p qs p.length ≤ 40
theorem sumD_nats (l : List Nat) : dSum [.lst (natD l)] = some (.int ((l.sum : Nat) : Int)) := by
  show (intsOf (natD l)).map (fun bs : List Int => Dv.int bs.sum) = _
  rw [natD_eq, intsOf_map]
  show some (Dv.int _) = some (Dv.int _)
  congr 2
  induction l with
  | nil => rfl
  | cons x l ih => rw [List.map_cons, List.sum_cons, ih, List.sum_cons]; omega
theorem rowD_ne {q : List Nat} : dNe (rowD q) (.tup []) = some (.bl (decide (q ≠ []))) := by
  exact dNe_row q []
theorem parts_lc {p : List Nat} {qs : List (List Nat)} {d : Dv} {x : EV} (hq : ∀ q ∈ qs, IsRow q ∧ q ≠ []) (hl : qs.length ≤ 40) : fLcW (fItems (fVar 1)) (kName 2) fYes (fAndV (fCall f_is_row (aCons (fVar 2) aNil)) (fOp dNe (fVar 2) (fTup aNil))) [2] [.dat d, .dat (.tup (qs.map rowD)), .un] w = .ok (qs.map fun _ => .bl true) w := by
  have hi : fItems (fVar 1) [.dat d, .dat (.tup (qs.map rowD)), .un] w = .ok (qs.map rowD) w := by simp
  rw [lcW_of rowD (fun _ => true) (fun _ => .bl true) qs hi (le_big (by omega)) rfl fun q hx => ⟨_, rfl, rfl, fun _ => by
    obtain ⟨h1, h2⟩ := hq q hx
    have k := rowD_ne (q := q)
    rw [decide_eq_true h2] at k
    simp [wipeE, v_is_row h1, k]⟩]
  rw [List.filter_eq_self.mpr fun _ _ => rfl]
theorem lens_lc {qs : List (List Nat)} {d : Dv} (hl : qs.length ≤ 40) : fLcW (fItems (fVar 1)) (kName 2) fYes (fCB dLen (aCons (fVar 2) aNil)) [2] [.dat d, .dat (.tup (qs.map rowD)), .un] w = .ok (natD (qs.map (·.length))) w := by
  have hi : fItems (fVar 1) [.dat d, .dat (.tup (qs.map rowD)), .un] w = .ok (qs.map rowD) w := by simp
  rw [lcW_of rowD (fun _ => true) (fun q => .int ((q.length : Nat) : Int)) qs hi (le_big (by omega)) rfl fun q hx => ⟨_, rfl, rfl, fun _ => by simp [wipeE]⟩]
  rw [List.filter_eq_self.mpr fun _ _ => rfl]
  unfold natD
  rw [List.map_map]; rfl
theorem v_blown {p : List Nat} {qs : List (List Nat)} (h : IsRow p) (ho : PartsOk p qs) : f_blown [.dat (rowD p), .dat (.tup (qs.map rowD))] w = .ok (rowD (blownL p qs)) w := by
  obtain ⟨hl, hq, h40⟩ := ho
  have hp := h.len
  have e1 := parts_lc (p := p) (w := w) (d := rowD p) (x := .un) hq (by omega)
  have e2 := lens_lc (w := w) (qs := qs) (d := rowD p) (by omega)
  have e3 := sumD_nats (qs.map (·.length))
  rw [← offs_sum h hl] at e3
  have e4 := v_need_room (w := w) (n := ((offs p qs p.length : Nat) : Int)) (by omega)
  have e5 := v_blown_up (w := w) h hl (fun q hx => (hq q hx).1.perm) h40
  have e6 : dNe (.int (p.length : Int)) (.int (p.length : Int)) = some (.bl false) := by rw [dNe_of (okc_int _) (okc_int _)]; simp
  have e7 := all_true (α := List Nat) qs
  have e8 : (qs.map rowD).length = p.length := by rw [List.length_map, hl]
  generalize qs.map rowD = A at e1 e2 e5 e8
  generalize natD (qs.map (·.length)) = B at e2 e3
  generalize (qs.map fun _ => Dv.bl true) = C at e1 e7
  simp [f_blown, semOf_eq, g_blown, v_need_row h, isB, e8, e6, e1, e7, e2, e3, e4, e5]
/-- parts that are none, too many entries, no row -/
theorem no_blown1 {d e : Dv} (h : okA d) (hr : isRowD d = false) : f_blown [.dat d, .dat e] w = .rz ⟨"BadRow", none⟩ w := by
  simp [f_blown, semOf_eq, g_blown, no_row h hr]
theorem no_blown2 {p : List Nat} {e : Dv} (h : IsRow p) (ht : okT e) (hk : ∀ ds, e ≠ .tup ds) : f_blown [.dat (rowD p), .dat e] w = .rz ⟨"BadParts", none⟩ w := by
  cases e <;> first | (cases ht; done) | exact absurd rfl (hk _) | simp [f_blown, semOf_eq, g_blown, v_need_row h, isB, gRaise, tyN]
theorem no_blown3 {p : List Nat} {ds : List Dv} (h : IsRow p) (hk : ds.length ≠ p.length) : f_blown [.dat (rowD p), .dat (.tup ds)] w = .rz ⟨"BadParts", none⟩ w := by
  have e6 : dNe (.int (ds.length : Int)) (.int (p.length : Int)) = some (.bl true) := by
    rw [dNe_of (okc_int _) (okc_int _)]
    congr 2
    simp
    omega
  simp [f_blown, semOf_eq, g_blown, v_need_row h, isB, gRaise, e6]
theorem no_blown4 {p : List Nat} {ds : List Dv} {bs : List Bool} (h : IsRow p) (hk : ds.length = p.length) (hb : fLcW (fItems (fVar 1)) (kName 2) fYes (fAndV (fCall f_is_row (aCons (fVar 2) aNil)) (fOp dNe (fVar 2) (fTup aNil))) [2] [.dat (rowD p), .dat (.tup ds), .un] w = .ok (bs.map .bl) w) (hf : bs.all id = false) : f_blown [.dat (rowD p), .dat (.tup ds)] w = .rz ⟨"BadParts", none⟩ w := by
  have e6 : dNe (.int (p.length : Int)) (.int (p.length : Int)) = some (.bl false) := by rw [dNe_of (okc_int _) (okc_int _)]; simp
  have e7 : dAll [.lst (bs.map .bl)] = some (.bl false) := by
    show (blsOf _).map _ = _
    rw [blsOf_map]
    show some (Dv.bl (bs.all id)) = _
    rw [hf]
  simp [f_blown, semOf_eq, g_blown, v_need_row h, isB, gRaise, hk, e6, hb, e7]
theorem no_blown5 {p : List Nat} {qs : List (List Nat)} (h : IsRow p) (hl : qs.length = p.length) (hq : ∀ q ∈ qs, IsRow q ∧ q ≠ []) (h40 : 40 < offs p qs p.length) : f_blown [.dat (rowD p), .dat (.tup (qs.map rowD))] w = .rz ⟨"TooMany", some ("most", .int 40)⟩ w := by
  have hp := h.len
  have e1 := parts_lc (p := p) (w := w) (d := rowD p) (x := .un) hq (by omega)
  have e2 := lens_lc (w := w) (qs := qs) (d := rowD p) (by omega)
  have e3 := sumD_nats (qs.map (·.length))
  rw [← offs_sum h hl] at e3
  have e4 := no_room (w := w) (n := ((offs p qs p.length : Nat) : Int)) (by omega)
  have e6 : dNe (.int (p.length : Int)) (.int (p.length : Int)) = some (.bl false) := by rw [dNe_of (okc_int _) (okc_int _)]; simp
  have e7 := all_true (α := List Nat) qs
  have e8 : (qs.map rowD).length = p.length := by rw [List.length_map, hl]
  generalize qs.map rowD = A at e1 e2 e8
  generalize natD (qs.map (·.length)) = B at e2 e3
  generalize (qs.map fun _ => Dv.bl true) = C at e1 e7
  simp [f_blown, semOf_eq, g_blown, v_need_row h, isB, e8, e6, e1, e7, e2, e3, e4]
theorem rev_row {p : List Nat} (hp : IsRow p) : IsRow p.reverse := ⟨by rw [List.length_reverse]; exact (List.reverse_perm p).trans hp.perm, by rw [List.length_reverse]; exact hp.len⟩
theorem perm_of_sub : ∀ {l m : List Nat}, l.Nodup → (∀ x ∈ l, x ∈ m) → m.length ≤ l.length → l.Perm m
  | [], m, _, _, h => by
    have : m = [] := List.length_eq_zero_iff.mp (by simpa using h)
    rw [this]
  | x :: l, m, hn, hs, h => by
    rw [List.nodup_cons] at hn
    have hx : x ∈ m := hs x List.mem_cons_self
    have e := List.perm_cons_erase hx
    have ih := perm_of_sub (l := l) (m := m.erase x) hn.2 (fun y hy => (List.mem_erase_of_ne (fun q => by subst q; exact hn.1 hy)).mpr (hs y (List.mem_cons_of_mem _ hy))) (by rw [List.length_erase_of_mem hx]; simp at h; omega)
    exact (ih.cons x).trans e.symm
theorem row_of {p : List Nat} (h1 : p.Nodup) (h2 : ∀ x ∈ p, x < p.length) (h3 : p.length ≤ 40) : IsRow p :=
  ⟨perm_of_sub h1 (fun x hx => List.mem_range.mpr (h2 x hx)) (by rw [List.length_range]; exact Nat.le_refl _), h3⟩
theorem nodup_map {f : Nat → Nat} : ∀ {l : List Nat}, (∀ a ∈ l, ∀ b ∈ l, f a = f b → a = b) → l.Nodup → (l.map f).Nodup
  | [], _, _ => List.nodup_nil
  | x :: l, h, hn => by
    rw [List.nodup_cons] at hn
    rw [List.map_cons, List.nodup_cons]
    refine ⟨fun q => ?_, nodup_map (fun a ha b hb => h a (List.mem_cons_of_mem _ ha) b (List.mem_cons_of_mem _ hb)) hn.2⟩
    obtain ⟨y, hy, e⟩ := List.mem_map.mp q
    have := h y (List.mem_cons_of_mem _ hy) x List.mem_cons_self e
    exact hn.1 (this ▸ hy)
theorem flip_row {p : List Nat} (hp : IsRow p) : IsRow (flipP p) := by
  refine row_of (nodup_map (fun a ha b hb e => ?_) hp.nodup) (fun x hx => ?_) (by rw [flipP_len]; exact hp.len)
  · have := hp.mem.mp ha; have := hp.mem.mp hb; omega
  · obtain ⟨y, hy, rfl⟩ := List.mem_map.mp hx
    have := hp.mem.mp hy
    rw [flipP_len]; omega
theorem invP_len (p : List Nat) : (invP p).length = p.length := by unfold invP; rw [List.length_map, List.length_range]
theorem invP_row {p : List Nat} (h : IsRow p) : IsRow (invP p) := by
  refine row_of ?_ (fun x hx => ?_) (by rw [invP_len]; exact h.len)
  · exact nodup_map (fun a ha b hb e => idx_inj h (List.mem_range.mp ha) (List.mem_range.mp hb) e) List.nodup_range
  · obtain ⟨e, he, rfl⟩ := List.mem_map.mp hx
    rw [invP_len]
    exact List.idxOf_lt_length_of_mem (h.mem.mpr (List.mem_range.mp he))
theorem invP_at {p : List Nat} {e : Nat} (he : e < p.length) : (invP p).getD e 0 = p.idxOf e := by
  unfold invP
  rw [List.getD_eq_getElem?_getD, List.getElem?_map, List.getElem?_range he]; rfl
theorem getD_lt {p : List Nat} (h : IsRow p) {i : Nat} (hi : i < p.length) : p.getD i 0 < p.length := by
  rw [List.getD_eq_getElem?_getD, List.getElem?_eq_getElem hi]
  exact h.mem.mp (List.getElem_mem hi)
/-- what leads each entry back to its place is the row of the places -/
theorem invP_unique {p r : List Nat} (h : IsRow p) (hl : r.length = p.length) (hr : ∀ i < p.length, r.getD (p.getD i 0) 0 = i) : r = invP p := by
  apply List.ext_getElem
  · rw [hl, invP_len]
  · intro e h1 h2
    have he : e < p.length := by omega
    have hm := h.mem.mpr he
    have hi := List.idxOf_lt_length_of_mem hm
    have k := hr _ hi
    rw [get_idxOf hm] at k
    have k2 := invP_at he
    rw [List.getD_eq_getElem?_getD, List.getElem?_eq_getElem h1] at k
    rw [List.getD_eq_getElem?_getD, List.getElem?_eq_getElem h2] at k2
    simp only [Option.getD_some] at k k2
    rw [k, k2]
theorem inv_inv {p : List Nat} (h : IsRow p) : invP (invP p) = p := by
  refine (invP_unique (invP_row h) (invP_len p).symm fun i hi => ?_).symm
  rw [invP_len] at hi
  rw [invP_at hi, get_idxOf (h.mem.mpr hi)]
theorem rev_at {p : List Nat} {i : Nat} (hi : i < p.length) : p.reverse.getD i 0 = p.getD (p.length - 1 - i) 0 := by
  rw [List.getD_eq_getElem?_getD, List.getD_eq_getElem?_getD, List.getElem?_reverse hi]
theorem flip_at {p : List Nat} {i : Nat} (hi : i < p.length) : (flipP p).getD i 0 = p.length - 1 - p.getD i 0 := by
  unfold flipP
  rw [List.getD_eq_getElem?_getD, List.getElem?_map, List.getD_eq_getElem?_getD, List.getElem?_eq_getElem hi]; rfl
theorem flip_flip {p : List Nat} (h : IsRow p) : flipP (flipP p) = p := by
  unfold flipP
  rw [List.map_map, List.length_map]
  conv => rhs; rw [← List.map_id p]
  refine List.map_congr_left fun x hx => ?_
  have := h.mem.mp hx
  show p.length - 1 - (p.length - 1 - x) = x
  omega
/-- places of the row backwards: the places upside -/
theorem inv_rev {p : List Nat} (h : IsRow p) : invP p.reverse = flipP (invP p) := by
  refine (invP_unique (rev_row h) (by rw [flipP_len, invP_len, List.length_reverse]) fun i hi => ?_).symm
  rw [List.length_reverse] at hi
  have hj : p.length - 1 - i < p.length := by omega
  have hlt := getD_lt h hj
  rw [rev_at hi, flip_at (by rw [invP_len]; exact hlt), invP_len, invP_at hlt, idxOf_get h.nodup hj]
  omega
theorem beside_at1 {p q : List Nat} {i : Nat} (hi : i < p.length) : (besideL p q).getD i 0 = p.getD i 0 := by
  unfold besideL
  rw [List.getD_eq_getElem?_getD, List.getElem?_append_left hi, ← List.getD_eq_getElem?_getD]
theorem beside_at2 {p q : List Nat} {i : Nat} (hi : i < q.length) : (besideL p q).getD (p.length + i) 0 = q.getD i 0 + p.length := by
  unfold besideL
  rw [List.getD_eq_getElem?_getD, List.getElem?_append_right (by omega), List.getElem?_map, Nat.add_sub_cancel_left, List.getElem?_eq_getElem hi, List.getD_eq_getElem?_getD, List.getElem?_eq_getElem hi]; rfl
theorem under_at1 {p q : List Nat} {i : Nat} (hi : i < p.length) : (underL p q).getD i 0 = p.getD i 0 + q.length := by
  unfold underL
  rw [List.getD_eq_getElem?_getD, List.getElem?_append_left (by rw [List.length_map]; exact hi), List.getElem?_map, List.getElem?_eq_getElem hi, List.getD_eq_getElem?_getD, List.getElem?_eq_getElem hi]; rfl
theorem under_at2 {p q : List Nat} {i : Nat} : (underL p q).getD (p.length + i) 0 = q.getD i 0 := by
  unfold underL
  rw [List.getD_eq_getElem?_getD, List.getElem?_append_right (by rw [List.length_map]; omega), List.length_map, Nat.add_sub_cancel_left, ← List.getD_eq_getElem?_getD]
theorem beside_len (p q : List Nat) : (besideL p q).length = p.length + q.length := by unfold besideL; rw [List.length_append, List.length_map]
theorem under_len (p q : List Nat) : (underL p q).length = p.length + q.length := by unfold underL; rw [List.length_append, List.length_map]
theorem flip_beside {p q : List Nat} (hp : IsRow p) (hq : IsRow q) : flipP (besideL p q) = underL (flipP p) (flipP q) := by
  unfold flipP besideL underL
  simp only [List.map_append, List.map_map, List.length_append, List.length_map]
  congr 1
  · refine List.map_congr_left fun x hx => ?_
    have := hp.mem.mp hx
    show _ = p.length - 1 - x + q.length
    omega
  · refine List.map_congr_left fun x hx => ?_
    have := hq.mem.mp hx
    show p.length + q.length - 1 - (x + p.length) = _
    omega
theorem rev_beside (p q : List Nat) : (besideL p q).reverse = underL q.reverse p.reverse := by
  unfold besideL underL
  rw [List.reverse_append, List.length_reverse, List.map_reverse]
theorem inv_beside {p q : List Nat} (hp : IsRow p) (hq : IsRow q) (h : p.length + q.length ≤ 40) : invP (besideL p q) = besideL (invP p) (invP q) := by
  refine (invP_unique (beside_row hp hq h) (by rw [beside_len, beside_len, invP_len, invP_len]) fun i hi => ?_).symm
  rw [beside_len] at hi
  by_cases h1 : i < p.length
  · have := getD_lt hp h1
    rw [beside_at1 h1, beside_at1 (by rw [invP_len]; exact this), invP_at this, idxOf_get hp.nodup h1]
  · obtain ⟨j, rfl⟩ := Nat.exists_eq_add_of_le (Nat.le_of_not_lt h1)
    have hj : j < q.length := by omega
    have := getD_lt hq hj
    rw [beside_at2 hj, Nat.add_comm, ← invP_len p, beside_at2 (by rw [invP_len]; exact this), invP_at this, idxOf_get hq.nodup hj, Nat.add_comm]
theorem inv_under {p q : List Nat} (hp : IsRow p) (hq : IsRow q) (h : p.length + q.length ≤ 40) : invP (underL p q) = underL (invP q) (invP p) := by
  refine (invP_unique (under_row hp hq h) (by rw [under_len, under_len, invP_len, invP_len, Nat.add_comm]) fun i hi => ?_).symm
  rw [under_len] at hi
  by_cases h1 : i < p.length
  · have := getD_lt hp h1
    rw [under_at1 h1, Nat.add_comm, ← invP_len q, under_at2, invP_at this, idxOf_get hp.nodup h1]
  · obtain ⟨j, rfl⟩ := Nat.exists_eq_add_of_le (Nat.le_of_not_lt h1)
    have hj : j < q.length := by omega
    have := getD_lt hq hj
    rw [under_at2, under_at1 (by rw [invP_len]; exact this), invP_at this, idxOf_get hq.nodup hj, invP_len, Nat.add_comm]
/-- pieces put behind one another -/
def bef {α : Type} (f : Nat → List α) (n : Nat) : Nat := ((List.range n).map fun j => (f j).length).sum
theorem bef_succ {α : Type} (f : Nat → List α) (n : Nat) : bef f (n + 1) = bef f n + (f n).length := by
  unfold bef
  rw [List.range_succ, List.map_append, List.sum_append]
  simp
theorem flat_len2 {α : Type} (f : Nat → List α) : ∀ n, ((List.range n).flatMap f).length = bef f n
  | 0 => rfl
  | n + 1 => by rw [List.range_succ, List.flatMap_append, List.length_append, flat_len2 f n, bef_succ]; simp
theorem flat_at {α : Type} (f : Nat → List α) {j t : Nat} (ht : t < (f j).length) : ∀ {n : Nat}, j < n → ((List.range n).flatMap f)[bef f j + t]? = (f j)[t]?
  | n + 1, hj => by
    rw [List.range_succ, List.flatMap_append]
    by_cases h : j < n
    · rw [List.getElem?_append_left, flat_at f ht h]
      rw [flat_len2]
      have : bef f (j + 1) ≤ bef f n := by
        have key : ∀ k, bef f (j + 1) ≤ bef f (j + 1 + k) := fun k => by
          induction k with
          | zero => exact Nat.le_refl _
          | succ k ih =>
            have h2 := bef_succ f (j + 1 + k)
            rw [Nat.add_assoc] at h2
            omega
        obtain ⟨k, rfl⟩ := Nat.exists_eq_add_of_le h
        exact key k
      rw [bef_succ] at this
      omega
    · have : j = n := by omega
      subst this
      rw [List.getElem?_append_right (by rw [flat_len2]; omega), flat_len2, Nat.add_sub_cancel_left]
      simp
theorem flat_split {α : Type} (f : Nat → List α) : ∀ {n i : Nat}, i < bef f n → ∃ j t, j < n ∧ t < (f j).length ∧ i = bef f j + t
  | 0, i, h => absurd h (Nat.not_lt_zero i)
  | n + 1, i, h => by
    by_cases h1 : i < bef f n
    · obtain ⟨j, t, hj, ht, e⟩ := flat_split f h1
      exact ⟨j, t, by omega, ht, e⟩
    · rw [bef_succ] at h
      exact ⟨n, i - bef f n, by omega, by omega, by omega⟩
theorem flat_rev {α : Type} (f : Nat → List α) (n : Nat) : ((List.range n).flatMap f).reverse = (List.range n).flatMap fun j => (f (n - 1 - j)).reverse := by
  have h1 : (List.range n).reverse = (List.range n).map fun j => n - 1 - j := by
    apply List.ext_getElem
    · simp
    · intro i h1 h2
      simp
  rw [List.reverse_flatMap, h1, List.flatMap_map]
  rfl
theorem offs_congr {p p' : List Nat} {qs qs' : List (List Nat)} : ∀ {e : Nat}, (∀ k < e, (qs.getD (p.idxOf k) []).length = (qs'.getD (p'.idxOf k) []).length) → offs p qs e = offs p' qs' e
  | 0, _ => rfl
  | e + 1, h => by
    rw [offs_succ, offs_succ, offs_congr fun k hk => h k (by omega), h e (by omega)]
theorem flatMap_congr' {α β : Type} {f g : α → List β} : ∀ {l : List α}, (∀ x ∈ l, f x = g x) → l.flatMap f = l.flatMap g
  | [], _ => rfl
  | x :: l, h => by
    rw [List.flatMap_cons, List.flatMap_cons, h x List.mem_cons_self, flatMap_congr' fun y hy => h y (List.mem_cons_of_mem _ hy)]
theorem getD_map {α β : Type} {f : α → β} {l : List α} {i : Nat} {a : α} {b : β} (hi : i < l.length) : (l.map f).getD i b = f (l.getD i a) := by
  rw [List.getD_eq_getElem?_getD, List.getElem?_map, List.getD_eq_getElem?_getD, List.getElem?_eq_getElem hi]; rfl
theorem getD_rev {α : Type} {l : List α} {i : Nat} {a : α} (hi : i < l.length) : l.reverse.getD i a = l.getD (l.length - 1 - i) a := by
  rw [List.getD_eq_getElem?_getD, List.getD_eq_getElem?_getD, List.getElem?_reverse hi]
theorem idx_rev {p : List Nat} (h : IsRow p) {e : Nat} (he : e < p.length) : p.reverse.idxOf e = p.length - 1 - p.idxOf e := by
  have hi := List.idxOf_lt_length_of_mem (h.mem.mpr he)
  have k := idxOf_get (rev_row h).nodup (j := p.length - 1 - p.idxOf e) (by rw [List.length_reverse]; omega)
  rw [rev_at (by omega), show p.length - 1 - (p.length - 1 - p.idxOf e) = p.idxOf e by omega, get_idxOf (h.mem.mpr he)] at k
  exact k
theorem idx_flip {p : List Nat} (h : IsRow p) {e : Nat} (he : e < p.length) : (flipP p).idxOf e = p.idxOf (p.length - 1 - e) := by
  have he2 : p.length - 1 - e < p.length := by omega
  have hi := List.idxOf_lt_length_of_mem (h.mem.mpr he2)
  have k := idxOf_get (flip_row h).nodup (j := p.idxOf (p.length - 1 - e)) (by rw [flipP_len]; omega)
  rw [flip_at hi, get_idxOf (h.mem.mpr he2), show p.length - 1 - (p.length - 1 - e) = e by omega] at k
  exact k
theorem idx_inv {p : List Nat} (h : IsRow p) {j : Nat} (hj : j < p.length) : (invP p).idxOf j = p.getD j 0 := by
  have := invP_at (p := invP p) (e := j) (by rw [invP_len]; exact hj)
  rw [inv_inv h] at this
  exact this.symm
theorem rev_blown {p : List Nat} {qs : List (List Nat)} (h : IsRow p) (hl : qs.length = p.length) : (blownL p qs).reverse = blownL p.reverse (qs.reverse.map List.reverse) := by
  have hq : ∀ j < p.length, (qs.reverse.map List.reverse).getD j [] = (qs.getD (p.length - 1 - j) []).reverse := fun j hj => by
    rw [getD_map (a := []) (by rw [List.length_reverse]; omega), getD_rev (by omega), hl]
  unfold blownL
  rw [flat_rev, List.length_reverse]
  refine flatMap_congr' fun j hj => ?_
  have hj := List.mem_range.mp hj
  rw [hq j hj, rev_at hj, ← List.map_reverse]
  congr 2
  have hlt := getD_lt h (i := p.length - 1 - j) (by omega)
  funext x
  congr 1
  refine offs_congr fun k hk => ?_
  have hk : k < p.length := by omega
  have hi := List.idxOf_lt_length_of_mem (h.mem.mpr hk)
  rw [idx_rev h hk, hq _ (by omega), List.length_reverse]
  congr 2
  omega
theorem flip_blown {p : List Nat} {qs : List (List Nat)} (h : IsRow p) (hl : qs.length = p.length) (hq : ∀ q ∈ qs, IsRow q) : flipP (blownL p qs) = blownL (flipP p) (qs.map flipP) := by
  have hN := blown_length h (qs := qs) fun q hx => (hq q hx).perm
  have hQ : ∀ j < p.length, (qs.map flipP).getD j [] = flipP (qs.getD j []) := fun j hj => getD_map (by omega)
  have key : ∀ k ≤ p.length, offs (flipP p) (qs.map flipP) k + offs p qs (p.length - k) = offs p qs p.length := fun k => by
    induction k with
    | zero => intro _; rw [offs_zero, Nat.sub_zero, Nat.zero_add]
    | succ k ih =>
      intro hk
      have ih := ih (by omega)
      have hk' : k < p.length := by omega
      have he2 : p.length - 1 - k < p.length := by omega
      have hi := List.idxOf_lt_length_of_mem (h.mem.mpr he2)
      rw [offs_succ, idx_flip h hk', hQ _ hi, flipP_len]
      rw [show p.length - k = (p.length - 1 - k) + 1 by omega, offs_succ] at ih
      rw [show p.length - (k + 1) = p.length - 1 - k by omega]
      omega
  have e1 : flipP (blownL p qs) = (blownL p qs).map fun x => offs p qs p.length - 1 - x := by rw [← hN]; rfl
  rw [e1]
  unfold blownL
  rw [List.map_flatMap, flipP_len]
  refine flatMap_congr' fun j hj => ?_
  have hj := List.mem_range.mp hj
  have hlt := getD_lt h hj
  rw [hQ j hj, flip_at hj]
  unfold flipP
  rw [List.map_map, List.map_map]
  refine List.map_congr_left fun x hx => ?_
  have hrow : IsRow (qs.getD j []) := by
    rw [List.getD_eq_getElem?_getD, List.getElem?_eq_getElem (by omega)]
    exact hq _ (List.getElem_mem _)
  have hx := hrow.mem.mp hx
  have k := key (p.length - 1 - p.getD j 0) (by omega)
  rw [show p.length - (p.length - 1 - p.getD j 0) = p.getD j 0 + 1 by omega, offs_succ, idxOf_get h.nodup hj] at k
  show offs p qs p.length - 1 - (x + offs p qs (p.getD j 0)) = (qs.getD j []).length - 1 - x + offs (flipP p) (qs.map flipP) (p.length - 1 - p.getD j 0)
  omega
theorem inv_blown {p : List Nat} {qs : List (List Nat)} (h : IsRow p) (hl : qs.length = p.length) (hq : ∀ q ∈ qs, IsRow q) (h40 : offs p qs p.length ≤ 40) : invP (blownL p qs) = blownL (invP p) ((invP p).map fun j => invP (qs.getD j [])) := by
  have hrow : ∀ j < p.length, IsRow (qs.getD j []) := fun j hj => by
    rw [List.getD_eq_getElem?_getD, List.getElem?_eq_getElem (by omega)]
    exact hq _ (List.getElem_mem _)
  have hix : ∀ e < p.length, p.idxOf e < p.length := fun e he => List.idxOf_lt_length_of_mem (h.mem.mpr he)
  let Q := (invP p).map fun j => invP (qs.getD j [])
  have hQ : ∀ e < p.length, Q.getD e [] = invP (qs.getD (p.idxOf e) []) := fun e he => by
    show ((invP p).map _).getD e [] = _
    rw [getD_map (a := 0) (by rw [invP_len]; exact he), invP_at he]
  let f : Nat → List Nat := fun j => (qs.getD j []).map (· + offs p qs (p.getD j 0))
  let g : Nat → List Nat := fun e => (Q.getD e []).map (· + offs (invP p) Q ((invP p).getD e 0))
  have hf : ∀ j ≤ p.length, offs (invP p) Q j = bef f j := fun j => by
    induction j with
    | zero => intro _; rfl
    | succ j ih =>
      intro hj
      have hj' : j < p.length := by omega
      rw [offs_succ, bef_succ, ih (by omega), idx_inv h hj', hQ _ (getD_lt h hj'), invP_len, idxOf_get h.nodup hj']
      show _ = _ + ((qs.getD j []).map _).length
      rw [List.length_map]
  have hg : ∀ e ≤ p.length, bef g e = offs p qs e := fun e => by
    induction e with
    | zero => intro _; rfl
    | succ e ih =>
      intro he
      rw [offs_succ, bef_succ, ih (by omega)]
      show _ + ((Q.getD e []).map _).length = _
      rw [List.length_map, hQ e (by omega), invP_len]
  have hB := blown_length h (qs := qs) fun q hx => (hq q hx).perm
  have eg : blownL (invP p) Q = (List.range p.length).flatMap g := by unfold blownL; rw [invP_len]
  have ef : blownL p qs = (List.range p.length).flatMap f := rfl
  show _ = blownL (invP p) Q
  refine (invP_unique (blown_row h (fun q hx => (hq q hx).perm) h40) (by rw [eg, flat_len2, hg _ (Nat.le_refl _), hB]) fun i hi => ?_).symm
  rw [ef, flat_len2] at hi
  obtain ⟨j, t, hj, ht, rfl⟩ := flat_split f hi
  have htq : t < (qs.getD j []).length := by
    have : t < ((qs.getD j []).map _).length := ht
    rwa [List.length_map] at this
  have hp := getD_lt h hj
  have hr := hrow j hj
  have hlt := getD_lt hr htq
  have e1 : (blownL p qs).getD (bef f j + t) 0 = bef g (p.getD j 0) + (qs.getD j []).getD t 0 := by
    rw [hg _ (by omega), ef, List.getD_eq_getElem?_getD, flat_at f ht hj]
    show (((qs.getD j []).map _)[t]?).getD 0 = _
    rw [List.getElem?_map, List.getD_eq_getElem?_getD (l := qs.getD j []), List.getElem?_eq_getElem htq, Nat.add_comm]
    rfl
  have hg2 : (g (p.getD j 0)).length = (qs.getD j []).length := by
    show ((Q.getD (p.getD j 0) []).map _).length = _
    rw [List.length_map, hQ _ hp, invP_len, idxOf_get h.nodup hj]
  rw [e1, eg, List.getD_eq_getElem?_getD, flat_at g (by rw [hg2]; exact hlt) hp]
  show (((Q.getD (p.getD j 0) []).map _)[(qs.getD j []).getD t 0]?).getD 0 = _
  rw [hQ _ hp, idxOf_get h.nodup hj, invP_at hp, idxOf_get h.nodup hj, hf j (by omega), List.getElem?_map]
  have k := invP_at hlt
  rw [idxOf_get hr.nodup htq, List.getD_eq_getElem?_getD] at k
  rw [List.getElem?_eq_getElem (by rw [invP_len]; exact hlt)] at k ⊢
  simp only [Option.getD_some] at k
  show _ + _ = _
  rw [k, Nat.add_comm]
theorem blown_beside {p : List Nat} : blownL [0, 1] [p, [0]] = besideL p [0] := by
  unfold blownL besideL offs
  simp [List.range_succ]
end lib

section refused
variable {w : DS}
def kindX (i : Nat) : Xc := match i with
  | 0 => ⟨"BadRow", none⟩
  | 1 => ⟨"BadParts", none⟩
  | _ => ⟨"TooMany", some ("most", .int 40)⟩
theorem v_is_refused {g : DS → RR Dv} {i : Nat} {w1 : DS} (hi : i < 3) (h : g w = .rz (kindX i) w1) : f__law_is_refused [.fn g, .dat (.int (i : Int))] w = .ok (.bl true) w1 := by
  have hk : okKeep (kindX i).cls = true := by
    match i, hi with
    | 0, _ => decide
    | 1, _ => decide
    | 2, _ => decide
  have hc := v_caught h hk
  have hl := kinds_lc (w := w1) hi (by omega) (x0 := .fn g) (x1 := .dat (.int (i : Int))) (x2 := .dat (excD (kindX i)))
  have hq := kinds_eq i
  have hn := dEq_i 40
  have s0 : isXF sub_BadRow (excD (kindX i)) = some (.bl (decide (0 = i))) := by
    match i, hi with
    | 0, _ => rfl
    | 1, _ => rfl
    | 2, _ => rfl
  have s1 : isXF sub_BadParts (excD (kindX i)) = some (.bl (decide (1 = i))) := by
    match i, hi with
    | 0, _ => rfl
    | 1, _ => rfl
    | 2, _ => rfl
  have s2 : isXF sub_TooMany (excD (kindX i)) = some (.bl (decide (2 = i))) := by
    match i, hi with
    | 0, _ => rfl
    | 1, _ => rfl
    | 2, _ => rfl
  have s4 : i = 2 → fldD ok_most "most" (excD (kindX i)) = some (.int 40) := fun e => by subst e; rfl
  have hL : ((List.range 3).map fun j => Dv.bl (decide (j = i))) = [.bl (decide (0 = i)), .bl (decide (1 = i)), .bl (decide (2 = i))] := rfl
  rw [hL] at hl
  have e3 : (3 : Nat) ≤ big := by decide
  have c3 : ((3 : Nat) : Int) = 3 := rfl
  rw [c3] at hl
  generalize excD (kindX i) = X at hc hl s0 s1 s2 s4
  by_cases h3 : 2 = i
  · have s4 := s4 h3.symm
    rw [decide_eq_false (show ¬ 0 = i by omega)] at s0 hl
    rw [decide_eq_false (show ¬ 1 = i by omega)] at s1 hl
    rw [decide_eq_true h3] at s2 hl
    simp [f__law_is_refused, semOf_eq, g__law_is_refused, fIsXF, fFld, aFn, hc, s0, s1, s2, s4, hn, e3, hl, hq]
  · rw [decide_eq_false h3] at s2 hl
    simp [f__law_is_refused, semOf_eq, g__law_is_refused, fIsXF, fFld, aFn, hc, s0, s1, s2, e3, hl, hq]
theorem step_refused {ρ : List EV} {j i : Nat} {fb : Sx} {w1 : DS} (hi : i < 3) (h5 : ρ[5]? = some (.lam j)) (h6 : ρ[6]? = some (.dat (.int (i : Int)))) (hf : [l__law_refused_1, l__law_refused_2, l__law_refused_3, l__law_refused_4, l__law_refused_5, l__law_refused_6, l__law_refused_7, l__law_refused_8, l__law_refused_9, l__law_refused_10, l__law_refused_11, l__law_refused_12][j]? = some fb) (h : fb (datsE ρ) w = .rz (kindX i) w1) :
    b__law_refused_1 ρ w = .ok (.nx ρ) w1 := by
  have e : f__law_is_refused [.fn (lamF fb ρ), .dat (.int (i : Int))] w = .ok (.bl true) w1 := v_is_refused hi h
  have e2 : fCallM f__law_is_refused [l__law_refused_1, l__law_refused_2, l__law_refused_3, l__law_refused_4, l__law_refused_5, l__law_refused_6, l__law_refused_7, l__law_refused_8, l__law_refused_9, l__law_refused_10, l__law_refused_11, l__law_refused_12] 5 (aCons (fVar 6) aNil) ρ w = .ok (.bl true) w1 := by
    unfold fCallM
    rw [h5]
    simp only [hf]
    simp [h6, noFn, e]
  rw [u_b__law_refused_1]
  simp [e2]
def oneD : Dv := .tup [.int 0]
def offL (p : List Nat) : List Dv := [.non, .lst [], .tup (List.replicate (p.length + 1) oneD), if p ≠ [] then .tup (.tup [] :: List.replicate (p.length - 1) oneD) else .int 5, if p ≠ [] then .tup (List.replicate p.length (.tup [.int 0, .int 0])) else .lst [.tup []], .str "0"]
def isNil : Dv → Bool
  | .tup [] => true
  | _ => false
theorem no_bits {p : List Nat} {ds : List Dv} (hp : IsRow p) (hl : ds.length = p.length) (hd : ∀ d ∈ ds, okA d) (ht : ∃ d ∈ ds, isRowD d = false ∨ d = .tup []) (hk : ∀ d ∈ ds, ∃ ds', d = .tup ds' ∧ okc d) : f_blown [.dat (rowD p), .dat (.tup ds)] w = .rz ⟨"BadParts", none⟩ w := by
  have hpl := hp.len
  refine no_blown4 (bs := ds.map fun d => isRowD d && !isNil d) hp hl ?_ ?_
  · have hi : fItems (fVar 1) [.dat (rowD p), .dat (.tup ds), .un] w = .ok (ds.map id) w := by simp
    rw [lcW_of (id : Dv → Dv) (fun _ => true) (fun d => .bl (isRowD d && !isNil d)) ds hi (le_big (by omega)) rfl fun d hx => ⟨_, rfl, rfl, fun _ => by
      have h1 := v_is_row_any (w := w) (hd d hx).1 (hd d hx).2
      obtain ⟨ds', rfl, hc⟩ := hk d hx
      have h2 : dNe (.tup ds') (.tup []) = some (.bl (!isNil (.tup ds'))) := by
        rw [dNe_of hc (show okc (.tup []) from okc_row [])]
        cases ds' with
        | nil => simp [isNil]
        | cons a l => simp [isNil]
      cases e : isRowD (.tup ds')
      · rw [e] at h1
        simp [wipeE, h1, e]
      · rw [e] at h1
        simp [wipeE, h1, e, h2]⟩]
    rw [List.filter_eq_self.mpr fun _ _ => rfl, List.map_map]; rfl
  · obtain ⟨d, hm, h⟩ := ht
    rw [List.all_eq_false]
    refine ⟨isRowD d && !isNil d, List.mem_map.mpr ⟨d, hm, rfl⟩, ?_⟩
    rcases h with h | rfl
    · simp [h]
    · simp [isNil]
theorem off_no {p : List Nat} (hp : IsRow p) : ∀ d ∈ offL p, f_blown [.dat (rowD p), .dat d] w = .rz ⟨"BadParts", none⟩ w := by
  have hz : okA oneD ∧ okc oneD := ⟨⟨rfl, fun ds e => by cases e; exact ⟨by simp, by simp [okT]⟩⟩, okc_row [0]⟩
  have hz2 : okA (.tup [.int 0, .int 0]) ∧ okc (.tup [.int 0, .int 0]) := ⟨⟨rfl, fun ds e => by cases e; exact ⟨by simp, by simp [okT]⟩⟩, okc_row [0, 0]⟩
  have he : okA (.tup []) ∧ okc (.tup []) := ⟨⟨rfl, fun ds e => by cases e; exact ⟨by simp, by simp [okT]⟩⟩, okc_row []⟩
  unfold offL
  simp only [List.forall_mem_cons, List.not_mem_nil, false_implies, implies_true, and_true]
  refine ⟨no_blown2 hp rfl (by intro _ h; cases h), no_blown2 hp rfl (by intro _ h; cases h), no_blown3 hp (by rw [List.length_replicate]; omega), ?_, ?_, no_blown2 hp rfl (by intro _ h; cases h)⟩
  · by_cases h : p = []
    · rw [if_neg (by simpa using h)]
      exact no_blown2 hp rfl (by intro _ h; cases h)
    · rw [if_pos h]
      have h0 : 0 < p.length := List.length_pos_iff.mpr h
      refine no_bits hp (by rw [List.length_cons, List.length_replicate]; omega) (fun d hd => ?_) ⟨.tup [], List.mem_cons_self, .inr rfl⟩ fun d hd => ?_
      · rcases List.mem_cons.mp hd with rfl | hd
        · exact he.1
        · rw [List.eq_of_mem_replicate hd]; exact hz.1
      · rcases List.mem_cons.mp hd with rfl | hd
        · exact ⟨_, rfl, he.2⟩
        · rw [List.eq_of_mem_replicate hd]; exact ⟨_, rfl, hz.2⟩
  · by_cases h : p = []
    · rw [if_neg (by simpa using h)]
      exact no_blown2 hp rfl (by intro _ h; cases h)
    · rw [if_pos h]
      have h0 : 0 < p.length := List.length_pos_iff.mpr h
      refine no_bits hp (by rw [List.length_replicate]) (fun d hd => ?_) ⟨.tup [.int 0, .int 0], List.mem_replicate.mpr ⟨by omega, rfl⟩, .inl (by decide)⟩ fun d hd => ?_
      · rw [List.eq_of_mem_replicate hd]; exact hz2.1
      · rw [List.eq_of_mem_replicate hd]; exact ⟨_, rfl, hz2.2⟩
theorem range_row {n : Nat} (h : n ≤ 40) : IsRow (List.range n) := ⟨by rw [List.length_range], by rw [List.length_range]; exact h⟩
end refused

section refused2
variable {w : DS}
theorem v_law_refused {p : List Nat} (hp : IsRow p) (h2 : 0 ≤ w.turn) (h3 : w.turn + 4 < most) : ∃ w', Adv 2 w w' ∧ f__law_refused [.drw, .dat (rowD p)] w = .ok (.bl true) w' := by
  have hpl := hp.len
  obtain ⟨bad, w1, b1, b2, ad1, e1⟩ := v_law_odd (w := w) h2 (by omega)
  have t1 := ad1.1; have t1' := ad1.2
  obtain ⟨off, w2, m2, ad2, e2⟩ := v_pick (w := w1) (l := offL p) (show 0 < 6 by decide) (show 6 ≤ 100000 by decide) (by omega) (by omega)
  have hno := fun (w : DS) => off_no (w := w) hp off m2
  have hg := range_row (n := 21) (by decide)
  have hg2 := range_row (n := 19) (by decide)
  have h01 : IsRow [0, 1] := ⟨by decide, by decide⟩
  have s0 := step_refused (w := w2) (ρ := [.drw, .dat (rowD p), .dat bad, .dat off, .dat (rowD (List.range 21)), .lam 0, .dat (.int ((0 : Nat) : Int))]) (j := 0) (by decide) rfl rfl rfl (show l__law_refused_1 [.drw, .dat (rowD p), .dat bad, .dat off, .dat (rowD (List.range 21)), .un, .dat (.int ((0 : Nat) : Int))] w2 = .rz (kindX 0) w2 from no_turned b1 b2)
  have s1 := step_refused (w := w2) (ρ := [.drw, .dat (rowD p), .dat bad, .dat off, .dat (rowD (List.range 21)), .lam 1, .dat (.int ((0 : Nat) : Int))]) (j := 1) (by decide) rfl rfl rfl (show l__law_refused_2 [.drw, .dat (rowD p), .dat bad, .dat off, .dat (rowD (List.range 21)), .un, .dat (.int ((0 : Nat) : Int))] w2 = .rz (kindX 0) w2 from no_upside b1 b2)
  have s2 := step_refused (w := w2) (ρ := [.drw, .dat (rowD p), .dat bad, .dat off, .dat (rowD (List.range 21)), .lam 2, .dat (.int ((0 : Nat) : Int))]) (j := 2) (by decide) rfl rfl rfl (show l__law_refused_3 [.drw, .dat (rowD p), .dat bad, .dat off, .dat (rowD (List.range 21)), .un, .dat (.int ((0 : Nat) : Int))] w2 = .rz (kindX 0) w2 from no_swapped b1 b2)
  have s3 := step_refused (w := w2) (ρ := [.drw, .dat (rowD p), .dat bad, .dat off, .dat (rowD (List.range 21)), .lam 3, .dat (.int ((0 : Nat) : Int))]) (j := 3) (by decide) rfl rfl rfl (show l__law_refused_4 [.drw, .dat (rowD p), .dat bad, .dat off, .dat (rowD (List.range 21)), .un, .dat (.int ((0 : Nat) : Int))] w2 = .rz (kindX 0) w2 from no_beside1 b1 b2)
  have s4 := step_refused (w := w2) (ρ := [.drw, .dat (rowD p), .dat bad, .dat off, .dat (rowD (List.range 21)), .lam 4, .dat (.int ((0 : Nat) : Int))]) (j := 4) (by decide) rfl rfl rfl (show l__law_refused_5 [.drw, .dat (rowD p), .dat bad, .dat off, .dat (rowD (List.range 21)), .un, .dat (.int ((0 : Nat) : Int))] w2 = .rz (kindX 0) w2 from no_beside2 hp b1 b2)
  have s5 := step_refused (w := w2) (ρ := [.drw, .dat (rowD p), .dat bad, .dat off, .dat (rowD (List.range 21)), .lam 5, .dat (.int ((0 : Nat) : Int))]) (j := 5) (by decide) rfl rfl rfl (show l__law_refused_6 [.drw, .dat (rowD p), .dat bad, .dat off, .dat (rowD (List.range 21)), .un, .dat (.int ((0 : Nat) : Int))] w2 = .rz (kindX 0) w2 from no_under1 b1 b2)
  have s6 := step_refused (w := w2) (ρ := [.drw, .dat (rowD p), .dat bad, .dat off, .dat (rowD (List.range 21)), .lam 6, .dat (.int ((0 : Nat) : Int))]) (j := 6) (by decide) rfl rfl rfl (show l__law_refused_7 [.drw, .dat (rowD p), .dat bad, .dat off, .dat (rowD (List.range 21)), .un, .dat (.int ((0 : Nat) : Int))] w2 = .rz (kindX 0) w2 from no_under2 hp b1 b2)
  have s7 := step_refused (w := w2) (ρ := [.drw, .dat (rowD p), .dat bad, .dat off, .dat (rowD (List.range 21)), .lam 7, .dat (.int ((2 : Nat) : Int))]) (j := 7) (by decide) rfl rfl rfl (show l__law_refused_8 [.drw, .dat (rowD p), .dat bad, .dat off, .dat (rowD (List.range 21)), .un, .dat (.int ((2 : Nat) : Int))] w2 = .rz (kindX 2) w2 from no_beside3 hg hg (by simp))
  have s8 := step_refused (w := w2) (ρ := [.drw, .dat (rowD p), .dat bad, .dat off, .dat (rowD (List.range 21)), .lam 8, .dat (.int ((2 : Nat) : Int))]) (j := 8) (by decide) rfl rfl rfl (show l__law_refused_9 [.drw, .dat (rowD p), .dat bad, .dat off, .dat (rowD (List.range 21)), .un, .dat (.int ((2 : Nat) : Int))] w2 = .rz (kindX 2) w2 from no_under3 hg hg (by simp))
  have s9 := step_refused (w := w2) (ρ := [.drw, .dat (rowD p), .dat bad, .dat off, .dat (rowD (List.range 21)), .lam 9, .dat (.int ((0 : Nat) : Int))]) (j := 9) (by decide) rfl rfl rfl (show l__law_refused_10 [.drw, .dat (rowD p), .dat bad, .dat off, .dat (rowD (List.range 21)), .un, .dat (.int ((0 : Nat) : Int))] w2 = .rz (kindX 0) w2 from no_blown1 b1 b2)
  have s10 := step_refused (w := w2) (ρ := [.drw, .dat (rowD p), .dat bad, .dat off, .dat (rowD (List.range 21)), .lam 10, .dat (.int ((1 : Nat) : Int))]) (j := 10) (by decide) rfl rfl rfl (show l__law_refused_11 [.drw, .dat (rowD p), .dat bad, .dat off, .dat (rowD (List.range 21)), .un, .dat (.int ((1 : Nat) : Int))] w2 = .rz (kindX 1) w2 from hno w2)
  have l12 : l__law_refused_12 [.drw, .dat (rowD p), .dat bad, .dat off, .dat (rowD (List.range 21)), .un, .dat (.int ((2 : Nat) : Int))] w2 = .rz (kindX 2) w2 := by
    have h := no_blown5 (w := w2) (p := [0, 1]) (qs := [List.range 21, List.range 21]) h01 rfl (by intro q hq; simp only [List.mem_cons, List.not_mem_nil, or_false, or_self] at hq; subst hq; exact ⟨hg, by simp⟩) (by decide)
    have h' : f_blown [.dat (.tup [.int 0, .int 1]), .dat (.tup [rowD (List.range 21), rowD (List.range 21)])] w2 = .rz (kindX 2) w2 := h
    have b2' : (2 : Nat) ≤ big := by decide
    generalize rowD (List.range 21) = G at h'
    simp [l__law_refused_12, b2', h']
  have s11 := step_refused (w := w2) (ρ := [.drw, .dat (rowD p), .dat bad, .dat off, .dat (rowD (List.range 21)), .lam 11, .dat (.int ((2 : Nat) : Int))]) (j := 11) (by decide) rfl rfl rfl l12
  refine ⟨w2, ad1.trans ad2, ?_⟩
  have c0 : ((0 : Nat) : Int) = 0 := rfl
  have c1 : ((1 : Nat) : Int) = 1 := rfl
  have c2 : ((2 : Nat) : Int) = 2 := rfl
  rw [c0] at s0 s1 s2 s3 s4 s5 s6 s9; rw [c1] at s10; rw [c2] at s7 s8 s11
  have e5 : okRg 0 21 := by unfold okRg; omega
  have e6 : rgD 0 21 = natD (List.range 21) := rgD_nat 21
  have e7 : okRg 0 19 := by unfold okRg; omega
  have e8 : rgD 0 19 = natD (List.range 19) := rgD_nat 19
  have ev := v_beside (w := w2) hg hg2 (by simp)
  have el : ((besideL (List.range 21) (List.range 19)).length : Int) = 40 := by rw [beside_len]; simp
  have eq := dEq_i 40
  have b1' : (1 : Nat) ≤ big := by decide
  have b2' : (2 : Nat) ≤ big := by decide
  have b6 : (6 : Nat) ≤ big := by decide
  have b12 : (12 : Nat) ≤ big := by decide
  have n1 : dNe (rowD p) (.tup []) = some (.bl (decide (p ≠ []))) := dNe_row p []
  have r1 : dRepT (.tup [.tup [.int 0]]) (.int ((p.length : Int) + 1)) = some (.tup (List.replicate (p.length + 1) oneD)) := by
    show (if _ then _ else _) = _
    rw [if_pos ⟨by omega, by omega, by simp⟩, show ((p.length : Int) + 1).toNat = p.length + 1 by omega, rep_one]; rfl
  have r3 : dRepT (.tup [.tup [.int 0, .int 0]]) (.int (p.length : Int)) = some (.tup (List.replicate p.length (.tup [.int 0, .int 0]))) := by
    show (if _ then _ else _) = _
    rw [if_pos ⟨by omega, by omega, by simp⟩, Int.toNat_natCast, rep_one]
  have hln : dLen [rowD p] = some (.int (p.length : Int)) := len_row p
  unfold offL at e2
  by_cases h : p = []
  · rw [if_neg (by simpa using h), if_neg (by simpa using h)] at e2
    rw [decide_eq_false (by simpa using h)] at n1
    generalize List.replicate (p.length + 1) oneD = R1 at r1 e2
    generalize (p.length : Int) = N at r1 r3 hln
    generalize besideL (List.range 21) (List.range 19) = BB at ev el
    generalize rowD p = RP at e1 e2 s0 s1 s2 s3 s4 s5 s6 s7 s8 s9 s10 s11 n1 hln
    simp [f__law_refused, semOf_eq, g__law_refused, e1, e2, b1', b2', b6, e5, e6, e7, e8, row_fold, gForM, mCons, mNil, aLam, loopM, b12, s0, s1, s2, s3, s4, s5, s6, s7, s8, s9, s10, s11, ev, el, eq, n1, r1, r3, hln]
  · rw [if_pos h, if_pos h] at e2
    rw [decide_eq_true h] at n1
    have h0 : 0 < p.length := List.length_pos_iff.mpr h
    have r2 : dRepT (.tup [.tup [.int 0]]) (.int ((p.length : Int) - 1)) = some (.tup (List.replicate (p.length - 1) oneD)) := by
      show (if _ then _ else _) = _
      rw [if_pos ⟨by omega, by omega, by simp⟩, show ((p.length : Int) - 1).toNat = p.length - 1 by omega, rep_one]; rfl
    have ra : dAdd (.tup [.tup []]) (.tup (List.replicate (p.length - 1) oneD)) = some (.tup (.tup [] :: List.replicate (p.length - 1) oneD)) := by
      show (if _ then _ else _) = _
      rw [if_pos (by rw [List.length_replicate]; exact le_big (by simp; omega))]; rfl
    generalize List.replicate (p.length + 1) oneD = R1 at r1 e2
    generalize List.replicate (p.length - 1) oneD = R2 at r2 ra e2
    generalize List.replicate p.length (Dv.tup [.int 0, .int 0]) = R3 at r3 e2
    generalize (p.length : Int) = N at r1 r2 r3 hln
    generalize besideL (List.range 21) (List.range 19) = BB at ev el
    generalize rowD p = RP at e1 e2 s0 s1 s2 s3 s4 s5 s6 s7 s8 s9 s10 s11 n1 hln
    simp [f__law_refused, semOf_eq, g__law_refused, e1, e2, b1', b2', b6, e5, e6, e7, e8, row_fold, gForM, mCons, mNil, aLam, loopM, b12, s0, s1, s2, s3, s4, s5, s6, s7, s8, s9, s10, s11, ev, el, eq, n1, r1, r2, r3, ra, hln]
end refused2

section law1
variable {w : DS}
theorem v_parts {ρ0 : List EV} (h1 : ρ0[1]? = some .drw) (h10 : 10 < ρ0.length) : ∀ (S : List Nat) (w : DS), 0 ≤ w.turn → w.turn + 10 * S.length < most →
    ∃ (qs : List (List Nat)) (w' : DS), lcD (kName 10) fYes (fCall f__law_dealt (aDrw 1 (aCons (fOp dAdd (fC (.int 1)) (fCall f__law_draw (aDrw 1 (aCons (fC (.int 6)) aNil)))) aNil))) ρ0 (natD S) w = .ok (qs.map rowD) w' ∧ qs.length = S.length ∧ (∀ q ∈ qs, IsRow q ∧ q ≠ [] ∧ q.length ≤ 6) ∧ Adv (10 * S.length) w w'
  | [], w, _, _ => ⟨[], w, rfl, rfl, fun q h => absurd h List.not_mem_nil, ⟨by simp, by simp⟩⟩
  | s :: S, w, h2, h3 => by
    rw [List.length_cons] at h3
    obtain ⟨i, w0, hi, ad0, e0⟩ := v_draw (w := w) (n := 6) (by decide) (by unfold most; omega) h2 (by omega)
    have t0 := ad0.1; have t0' := ad0.2
    obtain ⟨p, w1, e1, hp, hl, ad1⟩ := v_dealt (w := w0) (n := 1 + i) (by omega) (by omega) (by omega)
    have t1 := ad1.1; have t1' := ad1.2
    obtain ⟨qs, w2, e2, hq, hr, ad2⟩ := v_parts h1 h10 S w1 (by omega) (by omega)
    have t2 := ad2.1; have t2' := ad2.2
    refine ⟨p :: qs, w2, ?_, by rw [List.length_cons, hq, List.length_cons], fun q h => ?_, by rw [List.length_cons]; exact ⟨by omega, by omega⟩⟩
    · have k1 : (ρ0.set 10 (.dat (.int (s : Int))))[1]? = some .drw := by rw [List.getElem?_set_ne (by decide)]; exact h1
      have e0' : semDraw [.drw, .dat (.int 6)] w = .ok (.int (i : Int)) w0 := e0
      have e1' : f__law_dealt [.drw, .dat (.int (1 + (i : Int)))] w0 = .ok (rowD p) w1 := by
        rw [← e1]
        congr 4
      have k3 : fCall f__law_dealt (aDrw 1 (aCons (fOp dAdd (fC (.int 1)) (fCall f__law_draw (aDrw 1 (aCons (fC (.int 6)) aNil)))) aNil)) (ρ0.set 10 (.dat (.int (s : Int)))) w = .ok (rowD p) w1 := by simp [k1, e0', e1']
      show lcD _ _ _ ρ0 (.int (s : Int) :: natD S) w = _
      rw [lcD]
      simp only [show kName 10 (.int (s : Int)) ρ0 = some (ρ0.set 10 (.dat (.int (s : Int)))) from rfl, fYes, k3, e2]
      rfl
    · rcases List.mem_cons.mp h with rfl | h
      · exact ⟨hp, fun e => by rw [e] at hl; simp at hl; omega, by omega⟩
      · exact hr q h
theorem szAll_rows : ∀ (L : List (List Nat)), (∀ p ∈ L, p.length ≤ 100) → szAll (L.map rowD) ≤ 101 * L.length
  | [], _ => by simp [szAll]
  | p :: L, h => by
    have h1 := szAll_rows L fun x hx => h x (List.mem_cons_of_mem _ hx)
    have h2 := h p List.mem_cons_self
    have e : szD (rowD p) = p.length + 1 := by show szAll (natD p) + 1 = _; rw [szAll_nats]
    show szD (rowD p) + szAll (L.map rowD) ≤ _
    rw [e, List.length_cons]; omega
theorem same_rows {L : List (List Nat)} (h : ∀ p ∈ L, p.length ≤ 100) (hl : L.length ≤ 1000) : f__law_same [.dat (.lst (L.map rowD)), .dat (.lst (L.map rowD))] w = .ok (.bl true) w :=
  v_same ((okn_lst (n := 1) fun d hd => by
    obtain ⟨p, _, rfl⟩ := List.mem_map.mp hd
    exact okn_row p).le (by decide)) (by
    have := szAll_rows L h
    show szAll (L.map rowD) + 1 ≤ _
    omega)
theorem len_sum_le {qs : List (List Nat)} {k : Nat} : (∀ q ∈ qs, q.length ≤ k) → (qs.map (·.length)).sum ≤ k * qs.length := by
  induction qs with
  | nil => intro _; simp
  | cons q qs ih =>
    intro h
    have h1 := ih fun x hx => h x (List.mem_cons_of_mem _ hx)
    have h2 := h q List.mem_cons_self
    rw [List.map_cons, List.sum_cons, List.length_cons, Nat.mul_succ]
    omega
/-- comprehensions over the parts -/
theorem parts_map {qs : List (List Nat)} {g : List Nat → List Nat} {f : Sx} {fi : Sl} {ρ : List EV} {j : Nat} (hi : fi ρ w = .ok (qs.map rowD) w) (hl : qs.length ≤ 100) (hw : okW ρ [j] = true) (hf : ∀ q ∈ qs, f ((wipeE ρ [j]).set j (.dat (rowD q))) w = .ok (rowD (g q)) w) :
    fLcW fi (kName j) fYes f [j] ρ w = .ok ((qs.map g).map rowD) w := by
  rw [lcW_of rowD (fun _ => true) (fun q => rowD (g q)) qs hi (le_big (by omega)) hw fun q hx => ⟨_, rfl, rfl, fun _ => hf q hx⟩]
  rw [List.filter_eq_self.mpr fun _ _ => rfl, List.map_map]; rfl
theorem places_map {js : List Nat} {g : Nat → List Nat} {f : Sx} {fi : Sl} {ρ : List EV} {j : Nat} (hi : fi ρ w = .ok (natD js) w) (hl : js.length ≤ 100) (hw : okW ρ [j] = true) (hf : ∀ x ∈ js, f ((wipeE ρ [j]).set j (.dat (.int ((x : Nat) : Int)))) w = .ok (rowD (g x)) w) :
    fLcW fi (kName j) fYes f [j] ρ w = .ok ((js.map g).map rowD) w := by
  rw [lcW_of (fun x : Nat => Dv.int (x : Int)) (fun _ => true) (fun q => rowD (g q)) js hi (le_big (by omega)) hw fun q hx => ⟨_, rfl, rfl, fun _ => hf q hx⟩]
  rw [List.filter_eq_self.mpr fun _ _ => rfl, List.map_map]; rfl
theorem v_pick20 (h2 : 0 ≤ w.turn) (h3 : w.turn + 10 < most) : ∃ (m : Nat) (w' : DS), m ≤ 20 ∧ Adv 1 w w' ∧ f__law_pick [.drw, .dat (.lst [.int 5, .int 20])] w = .ok (.int (m : Int)) w' := by
  obtain ⟨d, w1, hd, ad1, e1⟩ := v_pick (w := w) (l := [.int 5, .int 20]) (by simp) (by simp) h2 (by omega)
  simp only [List.mem_cons, List.not_mem_nil, or_false] at hd
  rcases hd with rfl | rfl
  · exact ⟨5, w1, by omega, ad1, e1⟩
  · exact ⟨20, w1, by omega, ad1, e1⟩
end law1

section law2
variable {w : DS}
theorem parts_ok {p : List Nat} {Q : List (List Nat)} (hp : IsRow p) (hl : Q.length = p.length) (hr : ∀ q ∈ Q, IsRow q ∧ q ≠ []) (hb : (blownL p Q).length ≤ 40) : PartsOk p Q :=
  ⟨hl, hr, by rw [← blown_length hp fun q hq => (hr q hq).1.perm]; exact hb⟩
theorem v_round {x0 x2 x3 x4 x5 x6 x7 x8 x9 : EV} (h2 : 0 ≤ w.turn) (h3 : w.turn + 1000 < most) : ∃ y3 y4 y5 y6 y7 y8 y9 w', b_law_1 [x0, .drw, x2, x3, x4, x5, x6, x7, x8, x9, .un, .un, .un] w = .ok (.nx [x0, .drw, x2, y3, y4, y5, y6, y7, y8, y9, .un, .un, .un]) w' ∧ Adv 600 w w' := by
  obtain ⟨m1, wa, hm1, ada, ea⟩ := v_pick20 (w := w) h2 (by omega)
  have ta := ada.1; have ta' := ada.2
  obtain ⟨p, wb, eb, hp, hpl, adb⟩ := v_law_row (w := wa) (m := m1) (by omega) (by omega) (by omega)
  have tb := adb.1; have tb' := adb.2
  obtain ⟨m2, wc, hm2, adc, ec⟩ := v_pick20 (w := wb) (by omega) (by omega)
  have tc := adc.1; have tc' := adc.2
  obtain ⟨q, wd, ed, hq, hql, add⟩ := v_law_row (w := wc) (m := m2) (by omega) (by omega) (by omega)
  have td := add.1; have td' := add.2
  obtain ⟨fr, we, ee, hf, hfl, ade⟩ := v_law_row (w := wd) (m := 6) (by omega) (by omega) (by omega)
  have te := ade.1; have te' := ade.2
  have ee' : f__law_row [.drw, .dat (.int 6)] wd = .ok (rowD fr) we := ee
  have hpq : p.length + q.length ≤ 40 := by omega
  have hbs := beside_row hp hq hpq
  have hus := under_row hp hq hpq
  have hfp := flip_row hp
  have hfq := flip_row hq
  have hip := invP_row hp
  have hiq := invP_row hq
  have hrp := rev_row hp
  have hrq := rev_row hq
  have b2 : (2 : Nat) ≤ big := by decide
  have b3 : (3 : Nat) ≤ big := by decide
  obtain ⟨qs, wf, ef, hqs, hqr, adf⟩ := v_parts (ρ0 := [x0, .drw, x2, .dat (rowD p), .dat (rowD q), .dat (rowD (besideL p q)), .dat (rowD (underL p q)), .dat (rowD fr), x8, x9, .un, .un, .un]) rfl (show 10 < 13 by decide) fr we (by omega) (by omega)
  have tf := adf.1; have tf' := adf.2
  obtain ⟨wg, adg, eg⟩ := v_law_refused (w := wf) hp (by omega) (by omega)
  have tg := adg.1; have tg' := adg.2
  refine ⟨.dat (rowD p), .dat (rowD q), .dat (rowD (besideL p q)), .dat (rowD (underL p q)), .dat (rowD fr), .dat (.tup (qs.map rowD)), .dat (rowD (blownL fr qs)), wg, ?_, ⟨by omega, by omega⟩⟩
  rw [u_b_law_1]
  -- rows
  refine nx_seq (ρ1 := [x0, .drw, x2, .dat (rowD p), .dat (rowD q), x5, x6, x7, x8, x9, .un, .un, .un]) (w1 := wd) (by simp [b2, datsOf, ea, eb, ec, ed, setsE]) ?_
  have s1 := same_rows (w := wd) (L := [p.reverse, flipP p, invP p]) (by
    intro x hx
    simp only [List.mem_cons, List.not_mem_nil, or_false] at hx
    rcases hx with rfl | rfl | rfl
    · rw [List.length_reverse]; omega
    · rw [flipP_len]; omega
    · rw [invP_len]; omega) (by simp)
  have s1' : f__law_same [.dat (.lst [rowD p.reverse, rowD (flipP p), rowD (invP p)]), .dat (.lst [rowD p.reverse, rowD (flipP p), rowD (invP p)])] wd = .ok (.bl true) wd := s1
  refine nx_seq (ρ1 := [x0, .drw, x2, .dat (rowD p), .dat (rowD q), x5, x6, x7, x8, x9, .un, .un, .un]) (w1 := wd) (by simp [b3, datsOf, v_turned hp, v_upside hp, v_swapped hp, v_law_turned, v_law_upside hp, v_law_swapped hp, s1']) ?_
  have c1 : f_turned [.dat (rowD p.reverse)] wd = .ok (rowD p) wd := by rw [v_turned hrp, List.reverse_reverse]
  have c2 : f_upside [.dat (rowD (flipP p))] wd = .ok (rowD p) wd := by rw [v_upside hfp, flip_flip hp]
  have c3 : f_swapped [.dat (rowD (invP p))] wd = .ok (rowD p) wd := by rw [v_swapped hip, inv_inv hp]
  have c4 : f_swapped [.dat (rowD p.reverse)] wd = .ok (rowD (flipP (invP p))) wd := by rw [v_swapped hrp, inv_rev hp]
  have c5 : f_upside [.dat (rowD (invP p))] wd = .ok (rowD (flipP (invP p))) wd := v_upside hip
  refine nx_seq (ρ1 := [x0, .drw, x2, .dat (rowD p), .dat (rowD q), x5, x6, x7, x8, x9, .un, .un, .un]) (w1 := wd) (by simp [v_turned hp, v_upside hp, v_swapped hp, c1, c2, c3, c4, c5, dNe_row_self, fCallK, permL]) ?_
  refine nx_seq (ρ1 := [x0, .drw, x2, .dat (rowD p), .dat (rowD q), .dat (rowD (besideL p q)), .dat (rowD (underL p q)), x7, x8, x9, .un, .un, .un]) (w1 := wd) (by simp [v_law_beside hp.len hq.len, v_law_under hp.len hq.len, setsE]) ?_
  have s2 : f__law_same [.dat (.lst [rowD (besideL p q), rowD (underL p q)]), .dat (.lst [rowD (besideL p q), rowD (underL p q)])] wd = .ok (.bl true) wd := same_rows (L := [besideL p q, underL p q]) (by
    intro x hx
    simp only [List.mem_cons, List.not_mem_nil, or_false] at hx
    rcases hx with rfl | rfl
    · rw [beside_len]; omega
    · rw [under_len]; omega) (by simp)
  have c6 : f_under [.dat (rowD (flipP p)), .dat (rowD (flipP q))] wd = .ok (rowD (flipP (besideL p q))) wd := by
    rw [v_under hfp hfq (by rw [flipP_len, flipP_len]; exact hpq), flip_beside hp hq]
  refine nx_seq (ρ1 := [x0, .drw, x2, .dat (rowD p), .dat (rowD q), .dat (rowD (besideL p q)), .dat (rowD (underL p q)), x7, x8, x9, .un, .un, .un]) (w1 := wd) (by simp [b2, datsOf, v_beside hp hq hpq, v_under hp hq hpq, s2, v_upside hp, v_upside hq, v_upside hbs, c6, dNe_row_self, fCallK, permL]) ?_
  have c7 : f_under [.dat (rowD q.reverse), .dat (rowD p.reverse)] wd = .ok (rowD (besideL p q).reverse) wd := by
    rw [v_under hrq hrp (by rw [List.length_reverse, List.length_reverse]; omega), rev_beside]
  have c8 : f_beside [.dat (rowD (invP p)), .dat (rowD (invP q))] wd = .ok (rowD (invP (besideL p q))) wd := by
    rw [v_beside hip hiq (by rw [invP_len, invP_len]; omega), inv_beside hp hq hpq]
  have c9 : f_under [.dat (rowD (invP q)), .dat (rowD (invP p))] wd = .ok (rowD (invP (underL p q))) wd := by
    rw [v_under hiq hip (by rw [invP_len, invP_len]; omega), inv_under hp hq hpq]
  refine nx_seq (ρ1 := [x0, .drw, x2, .dat (rowD p), .dat (rowD q), .dat (rowD (besideL p q)), .dat (rowD (underL p q)), x7, x8, x9, .un, .un, .un]) (w1 := wd) (by simp [v_turned hp, v_turned hq, v_turned hbs, c7, v_swapped hbs, v_swapped hp, v_swapped hq, c8, v_swapped hus, c9, dNe_row_self]) ?_
  -- the frame and its parts
  refine nx_seq (ρ1 := [x0, .drw, x2, .dat (rowD p), .dat (rowD q), .dat (rowD (besideL p q)), .dat (rowD (underL p q)), .dat (rowD fr), x8, x9, .un, .un, .un]) (w1 := we) (by simp [ee']) ?_
  have hfr := hf.len
  have eL : fLcW (fItems (fVar 7)) (kName 10) fYes (fCall f__law_dealt (aDrw 1 (aCons (fOp dAdd (fC (.int 1)) (fCall f__law_draw (aDrw 1 (aCons (fC (.int 6)) aNil)))) aNil))) [10] [x0, .drw, x2, .dat (rowD p), .dat (rowD q), .dat (rowD (besideL p q)), .dat (rowD (underL p q)), .dat (rowD fr), x8, x9, .un, .un, .un] we = .ok (qs.map rowD) wf := by
    have hi : fItems (fVar 7) [x0, .drw, x2, .dat (rowD p), .dat (rowD q), .dat (rowD (besideL p q)), .dat (rowD (underL p q)), .dat (rowD fr), x8, x9, .un, .un, .un] we = .ok (natD fr) we := rfl
    unfold fLcW
    rw [hi]
    show (if _ then _ else _) = _
    rw [if_pos ⟨by rw [natD_length]; exact le_big (by omega), rfl⟩]
    exact ef
  refine nx_seq (ρ1 := [x0, .drw, x2, .dat (rowD p), .dat (rowD q), .dat (rowD (besideL p q)), .dat (rowD (underL p q)), .dat (rowD fr), .dat (.tup (qs.map rowD)), x9, .un, .un, .un]) (w1 := wf) (by
    generalize qs.map rowD = A at eL
    simp [eL]) ?_
  have hos : offs fr qs fr.length ≤ 40 := by
    rw [offs_sum hf hqs]
    have := len_sum_le (k := 6) fun q hx => (hqr q hx).2.2
    have : 6 * qs.length ≤ 36 := by omega
    omega
  have hpo : PartsOk fr qs := ⟨hqs, fun q hx => ⟨(hqr q hx).1, (hqr q hx).2.1⟩, hos⟩
  have hpm : ∀ q ∈ qs, q.Perm (List.range q.length) := fun q hx => (hqr q hx).1.perm
  have hbr := blown_row hf hpm hos
  have e9 : f__law_blown [.dat (rowD fr), .dat (.tup (qs.map rowD))] wf = .ok (rowD (blownL fr qs)) wf := v_law_blown_of (fun j hj => part_at_t hj) rfl hf hqs hpm hos
  refine nx_seq (ρ1 := [x0, .drw, x2, .dat (rowD p), .dat (rowD q), .dat (rowD (besideL p q)), .dat (rowD (underL p q)), .dat (rowD fr), .dat (.tup (qs.map rowD)), .dat (rowD (blownL fr qs)), .un, .un, .un]) (w1 := wf) (by
    generalize qs.map rowD = A at e9
    simp [e9]) ?_
  -- backwards
  have hql2 : qs.length ≤ 40 := by omega
  have sD : f__law_same [.dat (rowD (blownL fr qs)), .dat (rowD (blownL fr qs))] wf = .ok (.bl true) wf := same_row (by have := hbr.len; omega)
  have g1 : fLcW (fItems (fUn dRev (fVar 8))) (kName 11) fYes (fCall f__law_turned (aCons (fVar 11) aNil)) [11] [x0, .drw, x2, .dat (rowD p), .dat (rowD q), .dat (rowD (besideL p q)), .dat (rowD (underL p q)), .dat (rowD fr), .dat (.tup (qs.map rowD)), .dat (rowD (blownL fr qs)), .un, .un, .un] wf = .ok ((qs.reverse.map List.reverse).map rowD) wf :=
    parts_map (g := List.reverse) (by
      show RR.ok (qs.map rowD).reverse wf = _
      rw [List.map_reverse]) (by rw [List.length_reverse]; omega) rfl fun q hx => by simp [wipeE, v_law_turned]
  have hb1 : f_blown [.dat (rowD fr.reverse), .dat (.tup ((qs.reverse.map List.reverse).map rowD))] wf = .ok (rowD (blownL fr qs).reverse) wf := by
    rw [v_blown (rev_row hf) (parts_ok (rev_row hf) (by rw [List.length_map, List.length_reverse, List.length_reverse, hqs]) (fun q hx => by
      obtain ⟨z, hz, rfl⟩ := List.mem_map.mp hx
      have := hqr z (List.mem_reverse.mp hz)
      exact ⟨rev_row this.1, by simpa using this.2.1⟩) (by rw [← rev_blown hf hqs, List.length_reverse]; exact hbr.len)), rev_blown hf hqs]
  refine nx_seq (ρ1 := [x0, .drw, x2, .dat (rowD p), .dat (rowD q), .dat (rowD (besideL p q)), .dat (rowD (underL p q)), .dat (rowD fr), .dat (.tup (qs.map rowD)), .dat (rowD (blownL fr qs)), .un, .un, .un]) (w1 := wf) (by
    have hb0 := v_blown (w := wf) hf hpo
    have ht1 := v_turned (w := wf) hf
    have ht2 := v_turned (w := wf) hbr
    generalize qs.map rowD = A at g1 hb0
    generalize (qs.reverse.map List.reverse).map rowD = B at g1 hb1
    have hC := dNe_row_self (blownL fr qs).reverse
    generalize rowD (blownL fr qs).reverse = C at hb1 ht2 hC
    simp [hb0, sD, g1, ht1, hb1, ht2, hC, fCallK, permL]) ?_
  -- upside, swapped
  have g2 : fLcW (fItems (fVar 8)) (kName 11) fYes (fCall f_upside (aCons (fVar 11) aNil)) [11] [x0, .drw, x2, .dat (rowD p), .dat (rowD q), .dat (rowD (besideL p q)), .dat (rowD (underL p q)), .dat (rowD fr), .dat (.tup (qs.map rowD)), .dat (rowD (blownL fr qs)), .un, .un, .un] wf = .ok ((qs.map flipP).map rowD) wf :=
    parts_map (g := flipP) rfl (by omega) rfl fun q hx => by simp [wipeE, v_upside (hqr q hx).1]
  have g3 : fLcW (fItems (fCall f__law_swapped (aCons (fVar 7) aNil))) (kName 12) fYes (fCall f_swapped (aCons (fOp dSubI (fVar 8) (fVar 12)) aNil)) [12] [x0, .drw, x2, .dat (rowD p), .dat (rowD q), .dat (rowD (besideL p q)), .dat (rowD (underL p q)), .dat (rowD fr), .dat (.tup (qs.map rowD)), .dat (rowD (blownL fr qs)), .un, .un, .un] wf = .ok (((invP fr).map fun j => invP (qs.getD j [])).map rowD) wf :=
    places_map (g := fun j => invP (qs.getD j [])) (by simp [v_law_swapped hf]) (by rw [invP_len]; omega) rfl fun x hx => by
      have hx2 : x < qs.length := by
        have := (invP_row hf).mem.mp hx
        rw [invP_len] at this; omega
      have k := part_at_t hx2
      have hr : IsRow (qs.getD x []) := by
        rw [List.getD_eq_getElem?_getD, List.getElem?_eq_getElem hx2]
        exact (hqr _ (List.getElem_mem hx2)).1
      have k2 := v_swapped (w := wf) hr
      generalize qs.map rowD = A at k
      generalize rowD (qs.getD x []) = B at k k2
      simp [wipeE, k, k2]
  have hb2 : f_blown [.dat (rowD (flipP fr)), .dat (.tup ((qs.map flipP).map rowD))] wf = .ok (rowD (flipP (blownL fr qs))) wf := by
    rw [v_blown (flip_row hf) (parts_ok (flip_row hf) (by rw [List.length_map, flipP_len, hqs]) (fun q hx => by
      obtain ⟨z, hz, rfl⟩ := List.mem_map.mp hx
      have := hqr z hz
      exact ⟨flip_row this.1, fun e => this.2.1 (List.length_eq_zero_iff.mp (by rw [← flipP_len, e]; rfl))⟩) (by rw [← flip_blown hf hqs fun q hx => (hqr q hx).1, flipP_len]; exact hbr.len)), flip_blown hf hqs fun q hx => (hqr q hx).1]
  have hb3 : f_blown [.dat (rowD (invP fr)), .dat (.tup (((invP fr).map fun j => invP (qs.getD j [])).map rowD))] wf = .ok (rowD (invP (blownL fr qs))) wf := by
    rw [v_blown (invP_row hf) (parts_ok (invP_row hf) (by rw [List.length_map]) (fun q hx => by
      obtain ⟨z, hz, rfl⟩ := List.mem_map.mp hx
      have hx2 : z < qs.length := by
        have := (invP_row hf).mem.mp hz
        rw [invP_len] at this; omega
      have := hqr (qs.getD z []) (by
        rw [List.getD_eq_getElem?_getD, List.getElem?_eq_getElem hx2]
        exact List.getElem_mem hx2)
      exact ⟨invP_row this.1, fun e => this.2.1 (List.length_eq_zero_iff.mp (by rw [← invP_len, e]; rfl))⟩) (by rw [← inv_blown hf hqs (fun q hx => (hqr q hx).1) hos, invP_len]; exact hbr.len)), inv_blown hf hqs (fun q hx => (hqr q hx).1) hos]
  refine nx_seq (ρ1 := [x0, .drw, x2, .dat (rowD p), .dat (rowD q), .dat (rowD (besideL p q)), .dat (rowD (underL p q)), .dat (rowD fr), .dat (.tup (qs.map rowD)), .dat (rowD (blownL fr qs)), .un, .un, .un]) (w1 := wf) (by
    have h1 := v_upside (w := wf) hbr
    have h2 := v_upside (w := wf) hf
    have h3 := v_swapped (w := wf) hbr
    have h4 := v_swapped (w := wf) hf
    have hC := dNe_row_self (flipP (blownL fr qs))
    have hE := dNe_row_self (invP (blownL fr qs))
    generalize qs.map rowD = A at g2 g3
    generalize (qs.map flipP).map rowD = B at g2 hb2
    generalize ((invP fr).map fun j => invP (qs.getD j [])).map rowD = B3 at g3 hb3
    generalize rowD (flipP (blownL fr qs)) = C at hb2 h1 hC
    generalize rowD (invP (blownL fr qs)) = D at hb3 h3 hE
    generalize rowD (blownL fr qs) = G at g2 g3 h1 h3
    simp [g2, g3, h1, h2, h3, h4, hb2, hb3, hC, hE]) ?_
  -- a frame of two, and what is refused
  have n1 : dNe (rowD fr) (.tup []) = some (.bl (decide (fr ≠ []))) := dNe_row fr []
  have h01 : IsRow [0, 1] := ⟨by decide, by decide⟩
  have h0 : IsRow [0] := ⟨by decide, by decide⟩
  have b1 : (1 : Nat) ≤ big := by decide
  by_cases h : fr = []
  · rw [decide_eq_false (by simpa using h)] at n1
    have k : f_blown [.dat (.tup [.int 0, .int 1]), .dat (.tup [.tup [.int 0], .tup [.int 0]])] wf = .ok (.tup [.int 0, .int 1]) wf :=
      v_blown (p := [0, 1]) (qs := [[0], [0]]) h01 ⟨rfl, by intro q hq; simp only [List.mem_cons, List.not_mem_nil, or_false, or_self] at hq; subst hq; exact ⟨h0, by simp⟩, by decide⟩
    have k2 : dNe (.tup [.int 0, .int 1]) (.tup [.int 0, .int 1]) = some (.bl false) := dNe_row_self [0, 1]
    generalize qs.map rowD = A
    simp [n1, b1, b2, k, k2, eg]
  · rw [decide_eq_true h] at n1
    have k : f_blown [.dat (.tup [.int 0, .int 1]), .dat (.tup [rowD fr, .tup [.int 0]])] wf = .ok (rowD (besideL fr [0])) wf := by
      have := v_blown (w := wf) (p := [0, 1]) (qs := [fr, [0]]) h01 ⟨rfl, by
        intro q hq
        simp only [List.mem_cons, List.not_mem_nil, or_false] at hq
        rcases hq with rfl | rfl
        · exact ⟨hf, h⟩
        · exact ⟨h0, by simp⟩, by
        rw [offs_sum h01 rfl]
        simp
        omega⟩
      rw [blown_beside] at this
      exact this
    have k2 : f__law_beside [.dat (rowD fr), .dat (.tup [.int 0])] wf = .ok (rowD (besideL fr [0])) wf := v_law_beside (q := [0]) hf.len (by simp)
    have k3 := dNe_row_self (besideL fr [0])
    have k4 : dAdd (rowD fr) (.tup []) = some (rowD fr) := by
      show (if _ then _ else _) = _
      rw [if_pos (by rw [natD_length]; exact le_big (by simp; omega)), List.append_nil]; rfl
    generalize besideL fr [0] = BB at k k2 k3
    generalize qs.map rowD = A
    simp [n1, b1, b2, k, k2, k3, k4, eg]
end law2

section law3
variable {w : DS}
theorem law_holds : ∀ ns : List Int, ns.length ≤ 63 → ∃ w', f_law [.dat (.scr ns), .drw] (beginW ns) = .ok (.bl true) w' := fun ns hns => by
  obtain ⟨n, hn, en⟩ : ∃ n : Nat, n ≤ 8 ∧ ∀ w, fOp dAdd (fC (.int 3)) (fCB dMin2 (aCons (fCB dLen (aCons (fVar 0) aNil)) (aCons (fC (.int 5)) aNil))) [.dat (.scr ns), .drw, .un, .un, .un, .un, .un, .un, .un, .un, .un, .un, .un] w = .ok (.int (n : Int)) w := by
    have hl : dLen [.scr ns] = some (.int (ns.length : Int)) := rfl
    refine ⟨3 + min ns.length 5, by omega, fun w => ?_⟩
    have : dMin2 [.int (ns.length : Int), .int 5] = some (.int ((min ns.length 5 : Nat) : Int)) := by
      show some (Dv.int _) = _
      congr 2
      omega
    simp [hl, this]
  have ho : okI (n : Int) := by unfold okI; omega
  obtain ⟨ρ', w1, e, c, x2, x3, x4, x5, x6, x7, x8, x9, hc, rfl, h1, h2⟩ := loopD_w (k := kName 2) (g := b_law_1) (fun rest ρ w' => ∃ (c : Nat) (x2 x3 x4 x5 x6 x7 x8 x9 : EV), rest.length + c = n ∧ ρ = [.dat (.scr ns), .drw, x2, x3, x4, x5, x6, x7, x8, x9, .un, .un, .un] ∧ 0 ≤ w'.turn ∧ w'.turn ≤ 600 * c) (fun d rest ρ w1 ⟨c, x2, x3, x4, x5, x6, x7, x8, x9, hc, hρ, h1, h2⟩ => by
    subst hρ
    rw [List.length_cons] at hc
    obtain ⟨y3, y4, y5, y6, y7, y8, y9, w2, e, ⟨a, b⟩⟩ := v_round (w := w1) (x0 := .dat (.scr ns)) (x2 := .dat d) (x3 := x3) (x4 := x4) (x5 := x5) (x6 := x6) (x7 := x7) (x8 := x8) (x9 := x9) h1 (by unfold most; omega)
    exact ⟨_, _, w2, rfl, e, c + 1, _, _, _, _, _, _, _, _, by omega, rfl, by omega, by omega⟩) (natD (List.range n)) [.dat (.scr ns), .drw, .un, .un, .un, .un, .un, .un, .un, .un, .un, .un, .un] (beginW ns) ⟨0, _, _, _, _, _, _, _, _, by rw [natD_length, List.length_range]; rfl, rfl, by show (0 : Int) ≤ 0; decide, by show (0 : Int) ≤ _; omega⟩
  refine ⟨w1, ?_⟩
  have ei : fIr1 (fOp dAdd (fC (.int 3)) (fCB dMin2 (aCons (fCB dLen (aCons (fVar 0) aNil)) (aCons (fC (.int 5)) aNil)))) [.dat (.scr ns), .drw, .un, .un, .un, .un, .un, .un, .un, .un, .un, .un, .un] (beginW ns) = .ok (natD (List.range n)) (beginW ns) := by
    rw [x_ir1, en]
    simp [ho, rgD_nat]
  have key : g_law [.dat (.scr ns), .drw, .un, .un, .un, .un, .un, .un, .un, .un, .un, .un, .un] (beginW ns) = .ok (.rt (.bl true)) w1 := by
    unfold g_law
    rw [x_seq, x_for, ei]
    simp only [RR.bind_ok, e]
    simp
  show semOf 13 g_law _ _ = _
  simp [semOf_eq, key]
end law3

section ending
theorem all_mk {l : PySem.W.OpenLaw} {w : World} {K : PySem.W.Frag} {h : Heap} {mg : Str → Option Value} {fa : Addr} (X : K.In h) (G : h.Ns mainGlobals mg) (hfa : mg "law" = some (.ref fa))
    {f0 : Addr} {od0 an0 : Option Addr} {sl0 : Array (Option Value)} {oc0 kV0 dc0 pm0 cd0 ct0 : Value} {f1 : Addr} {od1 an1 : Option Addr} {sl1 : Array (Option Value)} {oc1 kV1 dc1 pm1 cd1 ct1 : Value} {f2 : Addr} {od2 an2 : Option Addr} {sl2 : Array (Option Value)} {oc2 kV2 dc2 pm2 cd2 ct2 : Value} {f3 : Addr} {od3 an3 : Option Addr} {sl3 : Array (Option Value)} {oc3 kV3 dc3 pm3 cd3 ct3 : Value} {f4 : Addr} {od4 an4 : Option Addr} {sl4 : Array (Option Value)} {oc4 kV4 dc4 pm4 cd4 ct4 : Value} {f5 : Addr} {od5 an5 : Option Addr} {sl5 : Array (Option Value)} {oc5 kV5 dc5 pm5 cd5 ct5 : Value} {f6 : Addr} {od6 an6 : Option Addr} {sl6 : Array (Option Value)} {oc6 kV6 dc6 pm6 cd6 ct6 : Value} {f7 : Addr} {od7 an7 : Option Addr} {sl7 : Array (Option Value)} {oc7 kV7 dc7 pm7 cd7 ct7 : Value} {f8 : Addr} {od8 an8 : Option Addr} {sl8 : Array (Option Value)} {oc8 kV8 dc8 pm8 cd8 ct8 : Value} {f9 : Addr} {od9 an9 : Option Addr} {sl9 : Array (Option Value)} {oc9 kV9 dc9 pm9 cd9 ct9 : Value} {f10 : Addr} {od10 an10 : Option Addr} {sl10 : Array (Option Value)} {oc10 kV10 dc10 pm10 cd10 ct10 : Value} {f11 : Addr} {od11 an11 : Option Addr} {sl11 : Array (Option Value)} {oc11 kV11 dc11 pm11 cd11 ct11 : Value} {f12 : Addr} {od12 an12 : Option Addr} {sl12 : Array (Option Value)} {oc12 kV12 dc12 pm12 cd12 ct12 : Value} {f13 : Addr} {od13 an13 : Option Addr} {sl13 : Array (Option Value)} {oc13 kV13 dc13 pm13 cd13 ct13 : Value} {f14 : Addr} {od14 an14 : Option Addr} {sl14 : Array (Option Value)} {oc14 kV14 dc14 pm14 cd14 ct14 : Value} {f15 : Addr} {od15 an15 : Option Addr} {sl15 : Array (Option Value)} {oc15 kV15 dc15 pm15 cd15 ct15 : Value} {f16 : Addr} {od16 an16 : Option Addr} {sl16 : Array (Option Value)} {oc16 kV16 dc16 pm16 cd16 ct16 : Value} {f17 : Addr} {od17 an17 : Option Addr} {sl17 : Array (Option Value)} {oc17 kV17 dc17 pm17 cd17 ct17 : Value} {f18 : Addr} {od18 an18 : Option Addr} {sl18 : Array (Option Value)} {oc18 kV18 dc18 pm18 cd18 ct18 : Value} {f19 : Addr} {od19 an19 : Option Addr} {sl19 : Array (Option Value)} {oc19 kV19 dc19 pm19 cd19 ct19 : Value} {f20 : Addr} {od20 an20 : Option Addr} {sl20 : Array (Option Value)} {oc20 kV20 dc20 pm20 cd20 ct20 : Value} {f21 : Addr} {od21 an21 : Option Addr} {sl21 : Array (Option Value)} {oc21 kV21 dc21 pm21 cd21 ct21 : Value} {f22 : Addr} {od22 an22 : Option Addr} {sl22 : Array (Option Value)} {oc22 kV22 dc22 pm22 cd22 ct22 : Value} {f23 : Addr} {od23 an23 : Option Addr} {sl23 : Array (Option Value)} {oc23 kV23 dc23 pm23 cd23 ct23 : Value} {f24 : Addr} {od24 an24 : Option Addr} {sl24 : Array (Option Value)} {oc24 kV24 dc24 pm24 cd24 ct24 : Value} {f25 : Addr} {od25 an25 : Option Addr} {sl25 : Array (Option Value)} {oc25 kV25 dc25 pm25 cd25 ct25 : Value} {f26 : Addr} {od26 an26 : Option Addr} {sl26 : Array (Option Value)} {oc26 kV26 dc26 pm26 cd26 ct26 : Value} {f27 : Addr} {od27 an27 : Option Addr} {sl27 : Array (Option Value)} {oc27 kV27 dc27 pm27 cd27 ct27 : Value} {f28 : Addr} {od28 an28 : Option Addr} {sl28 : Array (Option Value)} {oc28 kV28 dc28 pm28 cd28 ct28 : Value} {f29 : Addr} {od29 an29 : Option Addr} {sl29 : Array (Option Value)} {oc29 kV29 dc29 pm29 cd29 ct29 : Value} {f30 : Addr} {od30 an30 : Option Addr} {sl30 : Array (Option Value)} {oc30 kV30 dc30 pm30 cd30 ct30 : Value} {f31 : Addr} {od31 an31 : Option Addr} {sl31 : Array (Option Value)} {oc31 kV31 dc31 pm31 cd31 ct31 : Value} {f32 : Addr} {od32 an32 : Option Addr} {sl32 : Array (Option Value)} {oc32 kV32 dc32 pm32 cd32 ct32 : Value} {f33 : Addr} {od33 an33 : Option Addr} {sl33 : Array (Option Value)} {oc33 kV33 dc33 pm33 cd33 ct33 : Value} {f34 : Addr} {od34 an34 : Option Addr} {sl34 : Array (Option Value)} {oc34 kV34 dc34 pm34 cd34 ct34 : Value} {od35 an35 : Option Addr} {sl35 : Array (Option Value)} {oc35 kV35 dc35 pm35 cd35 ct35 : Value} {f35 : Addr} {e31 t31 : Addr} {ec31 : Value} {eo31 : Option Addr} {ev31 : Array Value} {es31 : Array (Option Value)} {tMOST_ENTRIES : Tok} {A_BadRow : Addr} {A_TooMany : Addr} {A_BadParts : Addr} {A_RowError : Addr} {y_nm_TooMany y_q_TooMany : Str} {y_N_TooMany y_fI_TooMany y_cda_TooMany y_cc_TooMany : Addr} {y_bs_TooMany y_bm_TooMany y_sub_TooMany : List Value} {y_sn_TooMany : List Str} {y_ab_TooMany : Bool} {y_col_TooMany : Option Bool} {y_dd_TooMany y_od_TooMany y_cdd_TooMany y_cld_TooMany y_an_TooMany : Option Addr} {y_k0_TooMany y_k1_TooMany y_k2_TooMany y_k3_TooMany y_k5_TooMany : Option Value} {y_oc_TooMany y_ccl_TooMany y_cl_TooMany y_doc_TooMany y_pm_TooMany y_ct_TooMany : Value} {y_osl_TooMany y_ccs_TooMany y_csl_TooMany : Array (Option Value)} {y_vs_TooMany : Array Value} {y_qual_TooMany y_file_TooMany : Str} {y_tf_TooMany : Tok} {y_p1_TooMany y_p2_TooMany y_a_TooMany y_b_TooMany y_c_TooMany y_d_TooMany y_e_TooMany y_f_TooMany y_g_TooMany y_h_TooMany y_i_TooMany y_j_TooMany : Pos}
    (a0 : PySem.W.nsIn K mainGlobals "_law_begun" = some (some (.ref f0)))
    (l0 : K.lookup f0 = some ⟨oc0, od0, .func (PySem.W.fnOf "_law_begun" "_law_begun" (defArgs s_begun) (defBody s_begun) (defScope s_begun) .none kV0 dc0 pm0 an0 cd0 ct0), sl0⟩)
    (c0 : PySem.W.codeIn K cd0 "_law_begun" = true)
    (k0 : PySem.W.keepIn K (.ref f0) = true)
    (a1 : PySem.W.nsIn K mainGlobals "_law_blended" = some (some (.ref f1)))
    (l1 : K.lookup f1 = some ⟨oc1, od1, .func (PySem.W.fnOf "_law_blended" "_law_blended" (defArgs s_blended) (defBody s_blended) (defScope s_blended) .none kV1 dc1 pm1 an1 cd1 ct1), sl1⟩)
    (c1 : PySem.W.codeIn K cd1 "_law_blended" = true)
    (k1 : PySem.W.keepIn K (.ref f1) = true)
    (a2 : PySem.W.nsIn K mainGlobals "_law_draw" = some (some (.ref f2)))
    (l2 : K.lookup f2 = some ⟨oc2, od2, .func (PySem.W.fnOf "_law_draw" "_law_draw" (defArgs s_draw) (defBody s_draw) (defScope s_draw) .none kV2 dc2 pm2 an2 cd2 ct2), sl2⟩)
    (c2 : PySem.W.codeIn K cd2 "_law_draw" = true)
    (k2 : PySem.W.keepIn K (.ref f2) = true)
    (a3 : PySem.W.nsIn K mainGlobals "_law_shuffled" = some (some (.ref f3)))
    (l3 : K.lookup f3 = some ⟨oc3, od3, .func (PySem.W.fnOf "_law_shuffled" "_law_shuffled" (defArgs s__law_shuffled) (defBody s__law_shuffled) (defScope s__law_shuffled) .none kV3 dc3 pm3 an3 cd3 ct3), sl3⟩)
    (c3 : PySem.W.codeIn K cd3 "_law_shuffled" = true)
    (k3 : PySem.W.keepIn K (.ref f3) = true)
    (a4 : PySem.W.nsIn K mainGlobals "_law_dealt" = some (some (.ref f4)))
    (l4 : K.lookup f4 = some ⟨oc4, od4, .func (PySem.W.fnOf "_law_dealt" "_law_dealt" (defArgs s__law_dealt) (defBody s__law_dealt) (defScope s__law_dealt) .none kV4 dc4 pm4 an4 cd4 ct4), sl4⟩)
    (c4 : PySem.W.codeIn K cd4 "_law_dealt" = true)
    (k4 : PySem.W.keepIn K (.ref f4) = true)
    (a5 : PySem.W.nsIn K mainGlobals "_law_pick" = some (some (.ref f5)))
    (l5 : K.lookup f5 = some ⟨oc5, od5, .func (PySem.W.fnOf "_law_pick" "_law_pick" (defArgs s__law_pick) (defBody s__law_pick) (defScope s__law_pick) .none kV5 dc5 pm5 an5 cd5 ct5), sl5⟩)
    (c5 : PySem.W.codeIn K cd5 "_law_pick" = true)
    (k5 : PySem.W.keepIn K (.ref f5) = true)
    (a6 : PySem.W.nsIn K mainGlobals "_law_beside" = some (some (.ref f6)))
    (l6 : K.lookup f6 = some ⟨oc6, od6, .func (PySem.W.fnOf "_law_beside" "_law_beside" (defArgs s__law_beside) (defBody s__law_beside) (defScope s__law_beside) .none kV6 dc6 pm6 an6 cd6 ct6), sl6⟩)
    (c6 : PySem.W.codeIn K cd6 "_law_beside" = true)
    (k6 : PySem.W.keepIn K (.ref f6) = true)
    (a7 : PySem.W.nsIn K mainGlobals "_law_under" = some (some (.ref f7)))
    (l7 : K.lookup f7 = some ⟨oc7, od7, .func (PySem.W.fnOf "_law_under" "_law_under" (defArgs s__law_under) (defBody s__law_under) (defScope s__law_under) .none kV7 dc7 pm7 an7 cd7 ct7), sl7⟩)
    (c7 : PySem.W.codeIn K cd7 "_law_under" = true)
    (k7 : PySem.W.keepIn K (.ref f7) = true)
    (a8 : PySem.W.nsIn K mainGlobals "_law_blown" = some (some (.ref f8)))
    (l8 : K.lookup f8 = some ⟨oc8, od8, .func (PySem.W.fnOf "_law_blown" "_law_blown" (defArgs s__law_blown) (defBody s__law_blown) (defScope s__law_blown) .none kV8 dc8 pm8 an8 cd8 ct8), sl8⟩)
    (c8 : PySem.W.codeIn K cd8 "_law_blown" = true)
    (k8 : PySem.W.keepIn K (.ref f8) = true)
    (a9 : PySem.W.nsIn K mainGlobals "_law_row" = some (some (.ref f9)))
    (l9 : K.lookup f9 = some ⟨oc9, od9, .func (PySem.W.fnOf "_law_row" "_law_row" (defArgs s__law_row) (defBody s__law_row) (defScope s__law_row) .none kV9 dc9 pm9 an9 cd9 ct9), sl9⟩)
    (c9 : PySem.W.codeIn K cd9 "_law_row" = true)
    (k9 : PySem.W.keepIn K (.ref f9) = true)
    (a10 : PySem.W.nsIn K mainGlobals "_law_is_truth" = some (some (.ref f10)))
    (l10 : K.lookup f10 = some ⟨oc10, od10, .func (PySem.W.fnOf "_law_is_truth" "_law_is_truth" (defArgs s__law_is_truth) (defBody s__law_is_truth) (defScope s__law_is_truth) .none kV10 dc10 pm10 an10 cd10 ct10), sl10⟩)
    (c10 : PySem.W.codeIn K cd10 "_law_is_truth" = true)
    (k10 : PySem.W.keepIn K (.ref f10) = true)
    (a11 : PySem.W.nsIn K mainGlobals "_law_same" = some (some (.ref f11)))
    (l11 : K.lookup f11 = some ⟨oc11, od11, .func (PySem.W.fnOf "_law_same" "_law_same" (defArgs s__law_same) (defBody s__law_same) (defScope s__law_same) .none kV11 dc11 pm11 an11 cd11 ct11), sl11⟩)
    (c11 : PySem.W.codeIn K cd11 "_law_same" = true)
    (k11 : PySem.W.keepIn K (.ref f11) = true)
    (a12 : PySem.W.nsIn K mainGlobals "is_whole" = some (some (.ref f12)))
    (l12 : K.lookup f12 = some ⟨oc12, od12, .func (PySem.W.fnOf "is_whole" "is_whole" (defArgs s_is_whole) (defBody s_is_whole) (defScope s_is_whole) .none kV12 dc12 pm12 an12 cd12 ct12), sl12⟩)
    (c12 : PySem.W.codeIn K cd12 "is_whole" = true)
    (k12 : PySem.W.keepIn K (.ref f12) = true)
    (a13 : PySem.W.nsIn K mainGlobals "is_row" = some (some (.ref f13)))
    (l13 : K.lookup f13 = some ⟨oc13, od13, .func (PySem.W.fnOf "is_row" "is_row" (defArgs s_is_row) (defBody s_is_row) (defScope s_is_row) .none kV13 dc13 pm13 an13 cd13 ct13), sl13⟩)
    (c13 : PySem.W.codeIn K cd13 "is_row" = true)
    (k13 : PySem.W.keepIn K (.ref f13) = true)
    (a14 : PySem.W.nsIn K mainGlobals "need_row" = some (some (.ref f14)))
    (l14 : K.lookup f14 = some ⟨oc14, od14, .func (PySem.W.fnOf "need_row" "need_row" (defArgs s_need_row) (defBody s_need_row) (defScope s_need_row) .none kV14 dc14 pm14 an14 cd14 ct14), sl14⟩)
    (c14 : PySem.W.codeIn K cd14 "need_row" = true)
    (k14 : PySem.W.keepIn K (.ref f14) = true)
    (a15 : PySem.W.nsIn K mainGlobals "back" = some (some (.ref f15)))
    (l15 : K.lookup f15 = some ⟨oc15, od15, .func (PySem.W.fnOf "back" "back" (defArgs s_back) (defBody s_back) (defScope s_back) .none kV15 dc15 pm15 an15 cd15 ct15), sl15⟩)
    (c15 : PySem.W.codeIn K cd15 "back" = true)
    (k15 : PySem.W.keepIn K (.ref f15) = true)
    (a16 : PySem.W.nsIn K mainGlobals "turned" = some (some (.ref f16)))
    (l16 : K.lookup f16 = some ⟨oc16, od16, .func (PySem.W.fnOf "turned" "turned" (defArgs s_turned) (defBody s_turned) (defScope s_turned) .none kV16 dc16 pm16 an16 cd16 ct16), sl16⟩)
    (c16 : PySem.W.codeIn K cd16 "turned" = true)
    (k16 : PySem.W.keepIn K (.ref f16) = true)
    (a17 : PySem.W.nsIn K mainGlobals "flipped" = some (some (.ref f17)))
    (l17 : K.lookup f17 = some ⟨oc17, od17, .func (PySem.W.fnOf "flipped" "flipped" (defArgs s_flipped) (defBody s_flipped) (defScope s_flipped) .none kV17 dc17 pm17 an17 cd17 ct17), sl17⟩)
    (c17 : PySem.W.codeIn K cd17 "flipped" = true)
    (k17 : PySem.W.keepIn K (.ref f17) = true)
    (a18 : PySem.W.nsIn K mainGlobals "upside" = some (some (.ref f18)))
    (l18 : K.lookup f18 = some ⟨oc18, od18, .func (PySem.W.fnOf "upside" "upside" (defArgs s_upside) (defBody s_upside) (defScope s_upside) .none kV18 dc18 pm18 an18 cd18 ct18), sl18⟩)
    (c18 : PySem.W.codeIn K cd18 "upside" = true)
    (k18 : PySem.W.keepIn K (.ref f18) = true)
    (a19 : PySem.W.nsIn K mainGlobals "inverse" = some (some (.ref f19)))
    (l19 : K.lookup f19 = some ⟨oc19, od19, .func (PySem.W.fnOf "inverse" "inverse" (defArgs s_inverse) (defBody s_inverse) (defScope s_inverse) .none kV19 dc19 pm19 an19 cd19 ct19), sl19⟩)
    (c19 : PySem.W.codeIn K cd19 "inverse" = true)
    (k19 : PySem.W.keepIn K (.ref f19) = true)
    (a20 : PySem.W.nsIn K mainGlobals "swapped" = some (some (.ref f20)))
    (l20 : K.lookup f20 = some ⟨oc20, od20, .func (PySem.W.fnOf "swapped" "swapped" (defArgs s_swapped) (defBody s_swapped) (defScope s_swapped) .none kV20 dc20 pm20 an20 cd20 ct20), sl20⟩)
    (c20 : PySem.W.codeIn K cd20 "swapped" = true)
    (k20 : PySem.W.keepIn K (.ref f20) = true)
    (a21 : PySem.W.nsIn K mainGlobals "need_room" = some (some (.ref f21)))
    (l21 : K.lookup f21 = some ⟨oc21, od21, .func (PySem.W.fnOf "need_room" "need_room" (defArgs s_need_room) (defBody s_need_room) (defScope s_need_room) .none kV21 dc21 pm21 an21 cd21 ct21), sl21⟩)
    (c21 : PySem.W.codeIn K cd21 "need_room" = true)
    (k21 : PySem.W.keepIn K (.ref f21) = true)
    (a22 : PySem.W.nsIn K mainGlobals "skew_of" = some (some (.ref f22)))
    (l22 : K.lookup f22 = some ⟨oc22, od22, .func (PySem.W.fnOf "skew_of" "skew_of" (defArgs s_skew_of) (defBody s_skew_of) (defScope s_skew_of) .none kV22 dc22 pm22 an22 cd22 ct22), sl22⟩)
    (c22 : PySem.W.codeIn K cd22 "skew_of" = true)
    (k22 : PySem.W.keepIn K (.ref f22) = true)
    (a23 : PySem.W.nsIn K mainGlobals "under" = some (some (.ref f23)))
    (l23 : K.lookup f23 = some ⟨oc23, od23, .func (PySem.W.fnOf "under" "under" (defArgs s_under) (defBody s_under) (defScope s_under) .none kV23 dc23 pm23 an23 cd23 ct23), sl23⟩)
    (c23 : PySem.W.codeIn K cd23 "under" = true)
    (k23 : PySem.W.keepIn K (.ref f23) = true)
    (a24 : PySem.W.nsIn K mainGlobals "sum_of" = some (some (.ref f24)))
    (l24 : K.lookup f24 = some ⟨oc24, od24, .func (PySem.W.fnOf "sum_of" "sum_of" (defArgs s_sum_of) (defBody s_sum_of) (defScope s_sum_of) .none kV24 dc24 pm24 an24 cd24 ct24), sl24⟩)
    (c24 : PySem.W.codeIn K cd24 "sum_of" = true)
    (k24 : PySem.W.keepIn K (.ref f24) = true)
    (a25 : PySem.W.nsIn K mainGlobals "beside" = some (some (.ref f25)))
    (l25 : K.lookup f25 = some ⟨oc25, od25, .func (PySem.W.fnOf "beside" "beside" (defArgs s_beside) (defBody s_beside) (defScope s_beside) .none kV25 dc25 pm25 an25 cd25 ct25), sl25⟩)
    (c25 : PySem.W.codeIn K cd25 "beside" = true)
    (k25 : PySem.W.keepIn K (.ref f25) = true)
    (a26 : PySem.W.nsIn K mainGlobals "blown_up" = some (some (.ref f26)))
    (l26 : K.lookup f26 = some ⟨oc26, od26, .func (PySem.W.fnOf "blown_up" "blown_up" (defArgs s_blown_up) (defBody s_blown_up) (defScope s_blown_up) .none kV26 dc26 pm26 an26 cd26 ct26), sl26⟩)
    (c26 : PySem.W.codeIn K cd26 "blown_up" = true)
    (k26 : PySem.W.keepIn K (.ref f26) = true)
    (a27 : PySem.W.nsIn K mainGlobals "blown" = some (some (.ref f27)))
    (l27 : K.lookup f27 = some ⟨oc27, od27, .func (PySem.W.fnOf "blown" "blown" (defArgs s_blown) (defBody s_blown) (defScope s_blown) .none kV27 dc27 pm27 an27 cd27 ct27), sl27⟩)
    (c27 : PySem.W.codeIn K cd27 "blown" = true)
    (k27 : PySem.W.keepIn K (.ref f27) = true)
    (a28 : PySem.W.nsIn K mainGlobals "_law_odd" = some (some (.ref f28)))
    (l28 : K.lookup f28 = some ⟨oc28, od28, .func (PySem.W.fnOf "_law_odd" "_law_odd" (defArgs s__law_odd) (defBody s__law_odd) (defScope s__law_odd) .none kV28 dc28 pm28 an28 cd28 ct28), sl28⟩)
    (c28 : PySem.W.codeIn K cd28 "_law_odd" = true)
    (k28 : PySem.W.keepIn K (.ref f28) = true)
    (a29 : PySem.W.nsIn K mainGlobals "_law_caught" = some (some (.ref f29)))
    (l29 : K.lookup f29 = some ⟨oc29, od29, .func (PySem.W.fnOf "_law_caught" "_law_caught" (defArgs s__law_caught) (defBody s__law_caught) (defScope s__law_caught) .none kV29 dc29 pm29 an29 cd29 ct29), sl29⟩)
    (c29 : PySem.W.codeIn K cd29 "_law_caught" = true)
    (k29 : PySem.W.keepIn K (.ref f29) = true)
    (a30 : PySem.W.nsIn K mainGlobals "_law_is_refused" = some (some (.ref f30)))
    (l30 : K.lookup f30 = some ⟨oc30, od30, .func (PySem.W.fnOf "_law_is_refused" "_law_is_refused" (defArgs s__law_is_refused) (defBody s__law_is_refused) (defScope s__law_is_refused) .none kV30 dc30 pm30 an30 cd30 ct30), sl30⟩)
    (c30 : PySem.W.codeIn K cd30 "_law_is_refused" = true)
    (k30 : PySem.W.keepIn K (.ref f30) = true)
    (a31 : PySem.W.nsIn K mainGlobals "_law_refused" = some (some (.ref f31)))
    (l31 : K.lookup f31 = some ⟨oc31, od31, .func (PySem.W.fnOf "_law_refused" "_law_refused" (defArgs s__law_refused) (defBody s__law_refused) (defScope s__law_refused) .none kV31 dc31 pm31 an31 cd31 ct31), sl31⟩)
    (c31 : PySem.W.codeIn K cd31 "_law_refused" = true)
    (k31 : PySem.W.keepIn K (.ref f31) = true)
    (a32 : PySem.W.nsIn K mainGlobals "_law_turned" = some (some (.ref f32)))
    (l32 : K.lookup f32 = some ⟨oc32, od32, .func (PySem.W.fnOf "_law_turned" "_law_turned" (defArgs s__law_turned) (defBody s__law_turned) (defScope s__law_turned) .none kV32 dc32 pm32 an32 cd32 ct32), sl32⟩)
    (c32 : PySem.W.codeIn K cd32 "_law_turned" = true)
    (k32 : PySem.W.keepIn K (.ref f32) = true)
    (a33 : PySem.W.nsIn K mainGlobals "_law_upside" = some (some (.ref f33)))
    (l33 : K.lookup f33 = some ⟨oc33, od33, .func (PySem.W.fnOf "_law_upside" "_law_upside" (defArgs s__law_upside) (defBody s__law_upside) (defScope s__law_upside) .none kV33 dc33 pm33 an33 cd33 ct33), sl33⟩)
    (c33 : PySem.W.codeIn K cd33 "_law_upside" = true)
    (k33 : PySem.W.keepIn K (.ref f33) = true)
    (a34 : PySem.W.nsIn K mainGlobals "_law_swapped" = some (some (.ref f34)))
    (l34 : K.lookup f34 = some ⟨oc34, od34, .func (PySem.W.fnOf "_law_swapped" "_law_swapped" (defArgs s__law_swapped) (defBody s__law_swapped) (defScope s__law_swapped) .none kV34 dc34 pm34 an34 cd34 ct34), sl34⟩)
    (c34 : PySem.W.codeIn K cd34 "_law_swapped" = true)
    (k34 : PySem.W.keepIn K (.ref f34) = true)
    (a35 : PySem.W.nsIn K mainGlobals "law" = some (some (.ref f35)))
    (l35 : K.lookup f35 = some ⟨oc35, od35, .func (PySem.W.fnOf "law" "law" (defArgs s_law) (defBody s_law) (defScope s_law) .none kV35 dc35 pm35 an35 cd35 ct35), sl35⟩)
    (c35 : PySem.W.codeIn K cd35 "law" = true)
    (k35 : PySem.W.keepIn K (.ref f35) = true)
    (e31_ : cd31 = .ref e31)
    (o31_ : K.lookup e31 = some ⟨ec31, eo31, .fields ev31, es31⟩)
    (p31_ : (ev31[11]? : Option Value) = some (.ref t31))
    (q31_ : PySem.W.codeHdIn K e31 t31 = true)
    (n31_ : K.lookup t31 = none)
    (t31_ : h.get? t31 = some (PySem.W.tabObj #[]))
    (z_abs : PySem.W.nsIn K mainGlobals "abs" = some none)
    (z_all : PySem.W.nsIn K mainGlobals "all" = some none)
    (z_bool : PySem.W.nsIn K mainGlobals "bool" = some none)
    (z_dict : PySem.W.nsIn K mainGlobals "dict" = some none)
    (z_enumerate : PySem.W.nsIn K mainGlobals "enumerate" = some none)
    (z_int : PySem.W.nsIn K mainGlobals "int" = some none)
    (z_isinstance : PySem.W.nsIn K mainGlobals "isinstance" = some none)
    (z_len : PySem.W.nsIn K mainGlobals "len" = some none)
    (z_list : PySem.W.nsIn K mainGlobals "list" = some none)
    (z_min : PySem.W.nsIn K mainGlobals "min" = some none)
    (z_range : PySem.W.nsIn K mainGlobals "range" = some none)
    (z_reversed : PySem.W.nsIn K mainGlobals "reversed" = some none)
    (z_sorted : PySem.W.nsIn K mainGlobals "sorted" = some none)
    (z_str : PySem.W.nsIn K mainGlobals "str" = some none)
    (z_sum : PySem.W.nsIn K mainGlobals "sum" = some none)
    (z_tuple : PySem.W.nsIn K mainGlobals "tuple" = some none)
    (z_zip : PySem.W.nsIn K mainGlobals "zip" = some none)
    (g_MOST_ENTRIES : PySem.W.nsIn K mainGlobals "MOST_ENTRIES" = some (some (.int 40 tMOST_ENTRIES)))
    (A_BadRow_ : PySem.W.nsIn K mainGlobals "BadRow" = some (some (.ref A_BadRow)))
    (A_TooMany_ : PySem.W.nsIn K mainGlobals "TooMany" = some (some (.ref A_TooMany)))
    (A_BadParts_ : PySem.W.nsIn K mainGlobals "BadParts" = some (some (.ref A_BadParts)))
    (A_RowError_ : PySem.W.nsIn K mainGlobals "RowError" = some (some (.ref A_RowError)))
    (x_hn : PySem.W.specialIn K (.builtin "object.__class__") "__get__" = some (some (.builtin "getset_descriptor.__get__")))
    (x_ht : PySem.W.takesIn K (.builtin "object.__class__") = some true)
    (x_kp_BadRow : PySem.W.keepIn K (.ref A_BadRow) = true)
    (x_sb_BadRow : PySem.W.subIn K (.ref A_BadRow) (.type "BaseException") = some true)
    (x_ty_BadRow : PySem.W.typeIn K (.ref A_BadRow) = some (.type "type"))
    (x_hg_BadRow : PySem.W.findIn K (.ref A_BadRow) "__getattribute__" = some (some (.builtin "BaseException.__getattribute__")))
    (x_hk_BadRow : PySem.W.findIn K (.ref A_BadRow) "__getattr__" = some none)
    (x_hd_BadRow : PySem.W.hasDictIn K A_BadRow = true)
    (x_ha_BadRow : PySem.W.findIn K (.ref A_BadRow) "__class__" = some (some (.builtin "object.__class__")))
    (x_hm_BadRow : PySem.W.mroIn K A_BadRow (.type "object") = some true)
    (x_k_BadRow_TooMany : PySem.W.kitOne K (.ref A_BadRow) (.ref A_TooMany) = some false)
    (x_k_BadRow_BadParts : PySem.W.kitOne K (.ref A_BadRow) (.ref A_BadParts) = some false)
    (x_k_BadRow_BadRow : PySem.W.kitOne K (.ref A_BadRow) (.ref A_BadRow) = some true)
    (x_e_BadRow_RowError : PySem.W.exmOne K (.ref A_BadRow) (.ref A_RowError) = some true)
    (x_ex_BadRow : PySem.W.excIn K A_BadRow [.type "ValueError", .type "Exception", .type "BaseException", .type "object"] "ValueError.__new__" = true)
    (x_kp_TooMany : PySem.W.keepIn K (.ref A_TooMany) = true)
    (x_sb_TooMany : PySem.W.subIn K (.ref A_TooMany) (.type "BaseException") = some true)
    (x_ty_TooMany : PySem.W.typeIn K (.ref A_TooMany) = some (.type "type"))
    (x_hg_TooMany : PySem.W.findIn K (.ref A_TooMany) "__getattribute__" = some (some (.builtin "BaseException.__getattribute__")))
    (x_hk_TooMany : PySem.W.findIn K (.ref A_TooMany) "__getattr__" = some none)
    (x_hd_TooMany : PySem.W.hasDictIn K A_TooMany = true)
    (x_ha_TooMany : PySem.W.findIn K (.ref A_TooMany) "__class__" = some (some (.builtin "object.__class__")))
    (x_hm_TooMany : PySem.W.mroIn K A_TooMany (.type "object") = some true)
    (x_k_TooMany_TooMany : PySem.W.kitOne K (.ref A_TooMany) (.ref A_TooMany) = some true)
    (x_k_TooMany_BadParts : PySem.W.kitOne K (.ref A_TooMany) (.ref A_BadParts) = some false)
    (x_k_TooMany_BadRow : PySem.W.kitOne K (.ref A_TooMany) (.ref A_BadRow) = some false)
    (x_e_TooMany_RowError : PySem.W.exmOne K (.ref A_TooMany) (.ref A_RowError) = some true)
    (x_cl_TooMany : K.lookup A_TooMany = some (excClassObj y_nm_TooMany y_q_TooMany A_TooMany y_N_TooMany y_bs_TooMany y_bm_TooMany true y_sn_TooMany y_sub_TooMany y_ab_TooMany y_col_TooMany y_dd_TooMany y_k0_TooMany y_k1_TooMany y_k2_TooMany y_k3_TooMany y_k5_TooMany "ValueError.__new__"))
    (x_rv_TooMany : PySem.HandSPX.refsVE y_bm_TooMany = true)
    (x_al_TooMany : PySem.W.alongIn K "__init__" y_bm_TooMany = some (some (.builtin "ValueError.__init__")))
    (x_sa_TooMany : PySem.W.findIn K (.ref A_TooMany) "__setattr__" = some (some (.builtin "object.__setattr__")))
    (x_no_TooMany : PySem.W.findIn K (.ref A_TooMany) "most" = some none)
    (x_iC_TooMany : PySem.W.findIn K (.ref A_TooMany) "__init__" = some (some (.ref y_fI_TooMany)))
    (x_tC_TooMany : PySem.W.typeIn K (.ref y_fI_TooMany) = some (.type "function"))
    (x_ve_TooMany : PySem.W.subIn K (.ref A_TooMany) (.type "ValueError") = some true)
    (x_me_TooMany : PySem.W.mroIn K A_TooMany (.ref A_TooMany) = some true)
    (x_opq_TooMany : PySem.W.nsIn K cStatics "thirdparty.any" = some none)
    (x_sup_TooMany : PySem.W.nsIn K mainGlobals "super" = some none)
    (x_fn_TooMany : K.lookup y_fI_TooMany = some ⟨y_oc_TooMany, y_od_TooMany, .func (PySem.W.ksFn "__init__" y_qual_TooMany (iniA "most" y_p1_TooMany y_p2_TooMany) (iniB "most" ⟨y_a_TooMany, y_b_TooMany, y_c_TooMany, y_d_TooMany, y_e_TooMany, y_f_TooMany, y_g_TooMany, y_h_TooMany, y_i_TooMany, y_j_TooMany⟩) (iniS "most") .none .none y_doc_TooMany y_pm_TooMany y_an_TooMany (.ref y_cda_TooMany) y_ct_TooMany y_cc_TooMany), y_osl_TooMany⟩)
    (x_co_TooMany : PySem.W.codeIn K (.ref y_cda_TooMany) y_qual_TooMany = true)
    (x_cc_TooMany : K.lookup y_cc_TooMany = some ⟨y_cl_TooMany, y_cld_TooMany, .cell (some (.ref A_TooMany)), y_csl_TooMany⟩)
    (x_cd_TooMany : K.lookup y_cda_TooMany = some ⟨y_ccl_TooMany, y_cdd_TooMany, .fields y_vs_TooMany, y_ccs_TooMany⟩)
    (x_fl_TooMany : (y_vs_TooMany[2]? : Option Value) = some (.str y_file_TooMany y_tf_TooMany))
    (x_mf_TooMany : ((l.prog.main.file : Str) == y_file_TooMany) = true)
    (x_mo_TooMany : MeOk "most" ⟨y_a_TooMany, y_b_TooMany, y_c_TooMany, y_d_TooMany, y_e_TooMany, y_f_TooMany, y_g_TooMany, y_h_TooMany, y_i_TooMany, y_j_TooMany⟩)
    (x_tp_TooMany : (l.prog.main.scope.names.lookup ("super" : Str)).isSome = false)
    (x_kp_BadParts : PySem.W.keepIn K (.ref A_BadParts) = true)
    (x_sb_BadParts : PySem.W.subIn K (.ref A_BadParts) (.type "BaseException") = some true)
    (x_ty_BadParts : PySem.W.typeIn K (.ref A_BadParts) = some (.type "type"))
    (x_hg_BadParts : PySem.W.findIn K (.ref A_BadParts) "__getattribute__" = some (some (.builtin "BaseException.__getattribute__")))
    (x_hk_BadParts : PySem.W.findIn K (.ref A_BadParts) "__getattr__" = some none)
    (x_hd_BadParts : PySem.W.hasDictIn K A_BadParts = true)
    (x_ha_BadParts : PySem.W.findIn K (.ref A_BadParts) "__class__" = some (some (.builtin "object.__class__")))
    (x_hm_BadParts : PySem.W.mroIn K A_BadParts (.type "object") = some true)
    (x_k_BadParts_TooMany : PySem.W.kitOne K (.ref A_BadParts) (.ref A_TooMany) = some false)
    (x_k_BadParts_BadParts : PySem.W.kitOne K (.ref A_BadParts) (.ref A_BadParts) = some true)
    (x_k_BadParts_BadRow : PySem.W.kitOne K (.ref A_BadParts) (.ref A_BadRow) = some false)
    (x_e_BadParts_RowError : PySem.W.exmOne K (.ref A_BadParts) (.ref A_RowError) = some true)
    (x_ex_BadParts : PySem.W.excIn K A_BadParts [.type "ValueError", .type "Exception", .type "BaseException", .type "object"] "ValueError.__new__" = true)
    (x_non_TooMany : PySem.W.kitOne K (.type "NoneType") (.ref A_TooMany) = some false)
    (x_non_BadParts : PySem.W.kitOne K (.type "NoneType") (.ref A_BadParts) = some false)
    (x_non_BadRow : PySem.W.kitOne K (.type "NoneType") (.ref A_BadRow) = some false)
    (hlaw : ∀ ns : List Int, ns.length ≤ 63 → ∃ w', f_law [.dat (.scr ns), .drw] (beginW ns) = .ok (.bl true) w') :
    LamX.LawAtS l w K (L2.CX l.prog w) 9 63 "script" mg fa h := by
  have e := hfa.symm.trans (PySem.W.mg_of X G a35)
  cases e
  subst e31_
  have Z_abs := PySem.W.mg_none_of X G z_abs
  have Z_all := PySem.W.mg_none_of X G z_all
  have Z_bool := PySem.W.mg_none_of X G z_bool
  have Z_dict := PySem.W.mg_none_of X G z_dict
  have Z_enumerate := PySem.W.mg_none_of X G z_enumerate
  have Z_int := PySem.W.mg_none_of X G z_int
  have Z_isinstance := PySem.W.mg_none_of X G z_isinstance
  have Z_len := PySem.W.mg_none_of X G z_len
  have Z_list := PySem.W.mg_none_of X G z_list
  have Z_min := PySem.W.mg_none_of X G z_min
  have Z_range := PySem.W.mg_none_of X G z_range
  have Z_reversed := PySem.W.mg_none_of X G z_reversed
  have Z_sorted := PySem.W.mg_none_of X G z_sorted
  have Z_str := PySem.W.mg_none_of X G z_str
  have Z_sum := PySem.W.mg_none_of X G z_sum
  have Z_tuple := PySem.W.mg_none_of X G z_tuple
  have Z_zip := PySem.W.mg_none_of X G z_zip
  have G_MOST_ENTRIES : Glo K mg "MOST_ENTRIES" _ (.int 40) := glo_int (PySem.W.mg_of X G g_MOST_ENTRIES)
  have T_BadRow := PySem.W.mg_of X G A_BadRow_
  have E_BadRow : ExcC K A_BadRow := ⟨x_hg_BadRow, x_hk_BadRow, x_sb_BadRow, x_hd_BadRow, x_ha_BadRow, x_hn, x_ht, x_hm_BadRow⟩
  have K_BadRow : ExcCl K mg "BadRow" A_BadRow := ⟨A_BadRow_, T_BadRow, x_kp_BadRow, ⟨_, _, _, _, F.excBase_ValueError, x_ex_BadRow⟩, x_sb_BadRow, x_ty_BadRow⟩
  have T_TooMany := PySem.W.mg_of X G A_TooMany_
  have E_TooMany : ExcC K A_TooMany := ⟨x_hg_TooMany, x_hk_TooMany, x_sb_TooMany, x_hd_TooMany, x_ha_TooMany, x_hn, x_ht, x_hm_TooMany⟩
  have O_TooMany : OwnTxt l.prog K mg "TooMany" "most" A_TooMany y_fI_TooMany := ⟨A_TooMany_, T_TooMany, x_kp_TooMany, ⟨_, _, _, _, _, _, _, _, _, _, _, _, _, _, _, x_cl_TooMany, x_rv_TooMany, x_al_TooMany⟩, x_sa_TooMany, x_no_TooMany, x_iC_TooMany, x_tC_TooMany, x_sb_TooMany, x_ve_TooMany, x_ty_TooMany, x_me_TooMany, x_opq_TooMany, x_sup_TooMany, ⟨_, _, _, _, _, _, _, _, _, _, _, _, _, _, _, _, _, _, _, _, _, _, x_fn_TooMany, x_co_TooMany, x_cc_TooMany, x_cd_TooMany, x_fl_TooMany, x_mf_TooMany, x_mo_TooMany⟩, x_tp_TooMany⟩
  have L_most : FldTab K "most" ok_most := fldTab_one A_TooMany_ ⟨x_hg_TooMany, x_hk_TooMany, x_sb_TooMany, x_hd_TooMany⟩ x_no_TooMany
  have W_most := wok_most
  have T_BadParts := PySem.W.mg_of X G A_BadParts_
  have E_BadParts : ExcC K A_BadParts := ⟨x_hg_BadParts, x_hk_BadParts, x_sb_BadParts, x_hd_BadParts, x_ha_BadParts, x_hn, x_ht, x_hm_BadParts⟩
  have K_BadParts : ExcCl K mg "BadParts" A_BadParts := ⟨A_BadParts_, T_BadParts, x_kp_BadParts, ⟨_, _, _, _, F.excBase_ValueError, x_ex_BadParts⟩, x_sb_BadParts, x_ty_BadParts⟩
  have T_RowError := PySem.W.mg_of X G A_RowError_
  have I_TooMany : IsTab K (.ref A_TooMany) sub_TooMany := (isTab_cons A_BadRow_ E_BadRow x_k_BadRow_TooMany (isTab_cons A_TooMany_ E_TooMany x_k_TooMany_TooMany (isTab_cons A_BadParts_ E_BadParts x_k_BadParts_TooMany isTab_nil)))
  have N_TooMany := x_non_TooMany
  have I_BadParts : IsTab K (.ref A_BadParts) sub_BadParts := (isTab_cons A_BadRow_ E_BadRow x_k_BadRow_BadParts (isTab_cons A_TooMany_ E_TooMany x_k_TooMany_BadParts (isTab_cons A_BadParts_ E_BadParts x_k_BadParts_BadParts isTab_nil)))
  have N_BadParts := x_non_BadParts
  have I_BadRow : IsTab K (.ref A_BadRow) sub_BadRow := (isTab_cons A_BadRow_ E_BadRow x_k_BadRow_BadRow (isTab_cons A_TooMany_ E_TooMany x_k_TooMany_BadRow (isTab_cons A_BadParts_ E_BadParts x_k_BadParts_BadRow isTab_nil)))
  have N_BadRow := x_non_BadRow
  have H_RowError : KeepTab K (.ref A_RowError) okKeep := (keep_cons A_BadRow_ x_e_BadRow_RowError (keep_cons A_TooMany_ x_e_TooMany_RowError (keep_cons A_BadParts_ x_e_BadParts_RowError keep_nil)))
  refine ⟨PySem.W.fnOf "law" "law" (defArgs s_law) (defBody s_law) (defScope s_law) .none kV35 dc35 pm35 an35 cd35 ct35, [(e31, t31)], spLaw K [(t31, qn__law_refused)], (List.forall_mem_cons.mpr ⟨t31_, (fun _ h => nomatch h)⟩), (List.forall_mem_cons.mpr ⟨n31_, (fun _ h => nomatch h)⟩), (List.forall_mem_cons.mpr ⟨PySem.W.codeHd_of_K X q31_, (fun _ h => nomatch h)⟩), fun s v => .of_eq rfl, fun H a ns hl _ hP hS => ⟨a, ns, rfl, hS, hl, (List.forall_mem_cons.mpr ⟨hP (e31, t31) (by simp), (fun _ h => nomatch h)⟩), fun _ => rfl⟩, fun base _ _ TBs => ?_⟩
  have F0 := fun_mk (st := s_begun) l0 c0 k0
  have b0 := F0.binds (ps := ["script"]) fun _ _ _ _ _ _ us hl => match us, hl with | [_], _ => rfl
  have F1 := fun_mk (st := s_blended) l1 c1 k1
  have b1 := F1.binds (ps := ["state"]) fun _ _ _ _ _ _ us hl => match us, hl with | [_], _ => rfl
  have F2 := fun_mk (st := s_draw) l2 c2 k2
  have b2 := F2.binds (ps := ["state", "room"]) fun _ _ _ _ _ _ us hl => match us, hl with | [_, _], _ => rfl
  have F3 := fun_mk (st := s__law_shuffled) l3 c3 k3
  have b3 := F3.binds (ps := ["state", "some"]) fun _ _ _ _ _ _ us hl => match us, hl with | [_, _], _ => rfl
  have F4 := fun_mk (st := s__law_dealt) l4 c4 k4
  have b4 := F4.binds (ps := ["draws", "n"]) fun _ _ _ _ _ _ us hl => match us, hl with | [_, _], _ => rfl
  have F5 := fun_mk (st := s__law_pick) l5 c5 k5
  have b5 := F5.binds (ps := ["state", "some"]) fun _ _ _ _ _ _ us hl => match us, hl with | [_, _], _ => rfl
  have F6 := fun_mk (st := s__law_beside) l6 c6 k6
  have b6 := F6.binds (ps := ["one", "other"]) fun _ _ _ _ _ _ us hl => match us, hl with | [_, _], _ => rfl
  have F7 := fun_mk (st := s__law_under) l7 c7 k7
  have b7 := F7.binds (ps := ["one", "other"]) fun _ _ _ _ _ _ us hl => match us, hl with | [_, _], _ => rfl
  have F8 := fun_mk (st := s__law_blown) l8 c8 k8
  have b8 := F8.binds (ps := ["row", "parts"]) fun _ _ _ _ _ _ us hl => match us, hl with | [_, _], _ => rfl
  have F9 := fun_mk (st := s__law_row) l9 c9 k9
  have b9 := F9.binds (ps := ["draws", "most"]) fun _ _ _ _ _ _ us hl => match us, hl with | [_, _], _ => rfl
  have F10 := fun_mk (st := s__law_is_truth) l10 c10 k10
  have b10 := F10.binds (ps := ["found", "due"]) fun _ _ _ _ _ _ us hl => match us, hl with | [_, _], _ => rfl
  have F11 := fun_mk (st := s__law_same) l11 c11 k11
  have b11 := F11.binds (ps := ["found", "due"]) fun _ _ _ _ _ _ us hl => match us, hl with | [_, _], _ => rfl
  have F12 := fun_mk (st := s_is_whole) l12 c12 k12
  have b12 := F12.binds (ps := ["value"]) fun _ _ _ _ _ _ us hl => match us, hl with | [_], _ => rfl
  have F13 := fun_mk (st := s_is_row) l13 c13 k13
  have b13 := F13.binds (ps := ["value"]) fun _ _ _ _ _ _ us hl => match us, hl with | [_], _ => rfl
  have F14 := fun_mk (st := s_need_row) l14 c14 k14
  have b14 := F14.binds (ps := ["row"]) fun _ _ _ _ _ _ us hl => match us, hl with | [_], _ => rfl
  have F15 := fun_mk (st := s_back) l15 c15 k15
  have b15 := F15.binds (ps := ["row"]) fun _ _ _ _ _ _ us hl => match us, hl with | [_], _ => rfl
  have F16 := fun_mk (st := s_turned) l16 c16 k16
  have b16 := F16.binds (ps := ["row"]) fun _ _ _ _ _ _ us hl => match us, hl with | [_], _ => rfl
  have F17 := fun_mk (st := s_flipped) l17 c17 k17
  have b17 := F17.binds (ps := ["row"]) fun _ _ _ _ _ _ us hl => match us, hl with | [_], _ => rfl
  have F18 := fun_mk (st := s_upside) l18 c18 k18
  have b18 := F18.binds (ps := ["row"]) fun _ _ _ _ _ _ us hl => match us, hl with | [_], _ => rfl
  have F19 := fun_mk (st := s_inverse) l19 c19 k19
  have b19 := F19.binds (ps := ["row"]) fun _ _ _ _ _ _ us hl => match us, hl with | [_], _ => rfl
  have F20 := fun_mk (st := s_swapped) l20 c20 k20
  have b20 := F20.binds (ps := ["row"]) fun _ _ _ _ _ _ us hl => match us, hl with | [_], _ => rfl
  have F21 := fun_mk (st := s_need_room) l21 c21 k21
  have b21 := F21.binds (ps := ["many"]) fun _ _ _ _ _ _ us hl => match us, hl with | [_], _ => rfl
  have F22 := fun_mk (st := s_skew_of) l22 c22 k22
  have b22 := F22.binds (ps := ["one", "other"]) fun _ _ _ _ _ _ us hl => match us, hl with | [_, _], _ => rfl
  have F23 := fun_mk (st := s_under) l23 c23 k23
  have b23 := F23.binds (ps := ["one", "other"]) fun _ _ _ _ _ _ us hl => match us, hl with | [_, _], _ => rfl
  have F24 := fun_mk (st := s_sum_of) l24 c24 k24
  have b24 := F24.binds (ps := ["one", "other"]) fun _ _ _ _ _ _ us hl => match us, hl with | [_, _], _ => rfl
  have F25 := fun_mk (st := s_beside) l25 c25 k25
  have b25 := F25.binds (ps := ["one", "other"]) fun _ _ _ _ _ _ us hl => match us, hl with | [_, _], _ => rfl
  have F26 := fun_mk (st := s_blown_up) l26 c26 k26
  have b26 := F26.binds (ps := ["row", "parts"]) fun _ _ _ _ _ _ us hl => match us, hl with | [_, _], _ => rfl
  have F27 := fun_mk (st := s_blown) l27 c27 k27
  have b27 := F27.binds (ps := ["row", "parts"]) fun _ _ _ _ _ _ us hl => match us, hl with | [_, _], _ => rfl
  have F28 := fun_mk (st := s__law_odd) l28 c28 k28
  have b28 := F28.binds (ps := ["draws"]) fun _ _ _ _ _ _ us hl => match us, hl with | [_], _ => rfl
  have F29 := fun_mk (st := s__law_caught) l29 c29 k29
  have b29 := F29.binds (ps := ["action"]) fun _ _ _ _ _ _ us hl => match us, hl with | [_], _ => rfl
  have F30 := fun_mk (st := s__law_is_refused) l30 c30 k30
  have b30 := F30.binds (ps := ["ask", "due"]) fun _ _ _ _ _ _ us hl => match us, hl with | [_, _], _ => rfl
  have F31 := fun_mk (st := s__law_refused) l31 c31 k31
  have b31 := F31.binds (ps := ["draws", "row"]) fun _ _ _ _ _ _ us hl => match us, hl with | [_, _], _ => rfl
  have F32 := fun_mk (st := s__law_turned) l32 c32 k32
  have b32 := F32.binds (ps := ["row"]) fun _ _ _ _ _ _ us hl => match us, hl with | [_], _ => rfl
  have F33 := fun_mk (st := s__law_upside) l33 c33 k33
  have b33 := F33.binds (ps := ["row"]) fun _ _ _ _ _ _ us hl => match us, hl with | [_], _ => rfl
  have F34 := fun_mk (st := s__law_swapped) l34 c34 k34
  have b34 := F34.binds (ps := ["row"]) fun _ _ _ _ _ _ us hl => match us, hl with | [_], _ => rfl
  have F35 := fun_mk (st := s_law) l35 c35 k35
  have GB : FnOk l.prog w K mg base (L2.CX l.prog w) 1 f0 _ ["script"] (spBegun K) := ok_begun F0 Z_abs
  have GL : FnOk l.prog w K mg base (L2.CX l.prog w) 1 f1 _ ["state"] spBlended := ok_blended F1 Z_int
  have C__law_draw : Cal l.prog w K mg base "_law_draw" 2 2 f__law_draw := calD F2 (PySem.W.mg_of X G a2) b2 rfl (ok_draw F2 GL b1 (PySem.W.mg_of X G a1) k1 Z_int)
  have O__law_shuffled := ok__law_shuffled (P := l.prog) (w := w) (K := K) (mg := mg) (base := base) F3 C__law_draw Z_len Z_list
  have C__law_shuffled : Cal l.prog w K mg base "_law_shuffled" 3 2 f__law_shuffled := calD F3 (PySem.W.mg_of X G a3) b3 rfl O__law_shuffled
  have O__law_dealt := ok__law_dealt (P := l.prog) (w := w) (K := K) (mg := mg) (base := base) F4 C__law_shuffled Z_list Z_range Z_tuple
  have C__law_dealt : Cal l.prog w K mg base "_law_dealt" 4 2 f__law_dealt := calD F4 (PySem.W.mg_of X G a4) b4 rfl O__law_dealt
  have O__law_pick := ok__law_pick (P := l.prog) (w := w) (K := K) (mg := mg) (base := base) F5 C__law_draw Z_len
  have C__law_pick : Cal l.prog w K mg base "_law_pick" 3 2 f__law_pick := calD F5 (PySem.W.mg_of X G a5) b5 rfl O__law_pick
  have O__law_beside := ok__law_beside (P := l.prog) (w := w) (K := K) (mg := mg) (base := base) F6 Z_len Z_tuple
  have C__law_beside : Cal l.prog w K mg base "_law_beside" 1 2 f__law_beside := calD F6 (PySem.W.mg_of X G a6) b6 rfl O__law_beside
  have O__law_under := ok__law_under (P := l.prog) (w := w) (K := K) (mg := mg) (base := base) F7 Z_len Z_tuple
  have C__law_under : Cal l.prog w K mg base "_law_under" 1 2 f__law_under := calD F7 (PySem.W.mg_of X G a7) b7 rfl O__law_under
  have O__law_blown := ok__law_blown (P := l.prog) (w := w) (K := K) (mg := mg) (base := base) F8 Z_enumerate Z_len Z_sorted Z_tuple
  have C__law_blown : Cal l.prog w K mg base "_law_blown" 1 2 f__law_blown := calD F8 (PySem.W.mg_of X G a8) b8 rfl O__law_blown
  have O__law_row := ok__law_row (P := l.prog) (w := w) (K := K) (mg := mg) (base := base) F9 C__law_draw C__law_dealt C__law_beside C__law_under C__law_pick C__law_blown Z_len Z_list Z_range Z_tuple
  have C__law_row : Cal l.prog w K mg base "_law_row" 5 2 f__law_row := calD F9 (PySem.W.mg_of X G a9) b9 rfl O__law_row
  have O__law_is_truth := ok__law_is_truth (P := l.prog) (w := w) (K := K) (mg := mg) (base := base) F10
  have C__law_is_truth : Cal l.prog w K mg base "_law_is_truth" 1 2 f__law_is_truth := calD F10 (PySem.W.mg_of X G a10) b10 rfl O__law_is_truth
  have O__law_same := ok__law_same (P := l.prog) (w := w) (K := K) (mg := mg) (base := base) F11 C__law_is_truth Z_bool Z_dict Z_int Z_isinstance Z_len Z_list Z_str Z_tuple Z_zip
  have C__law_same : Cal l.prog w K mg base "_law_same" 2 2 f__law_same := calD F11 (PySem.W.mg_of X G a11) b11 rfl O__law_same
  have O_is_whole := ok_is_whole (P := l.prog) (w := w) (K := K) (mg := mg) (base := base) F12 Z_bool Z_int Z_isinstance
  have C_is_whole : Cal l.prog w K mg base "is_whole" 1 1 f_is_whole := calD F12 (PySem.W.mg_of X G a12) b12 rfl O_is_whole
  have O_is_row := ok_is_row (P := l.prog) (w := w) (K := K) (mg := mg) (base := base) F13 C_is_whole G_MOST_ENTRIES Z_all Z_isinstance Z_len Z_list Z_range Z_sorted Z_tuple
  have C_is_row : Cal l.prog w K mg base "is_row" 2 1 f_is_row := calD F13 (PySem.W.mg_of X G a13) b13 rfl O_is_row
  have O_need_row := ok_need_row (P := l.prog) (w := w) (K := K) (mg := mg) (base := base) F14 C_is_row K_BadRow
  have C_need_row : Cal l.prog w K mg base "need_row" 3 1 f_need_row := calD F14 (PySem.W.mg_of X G a14) b14 rfl O_need_row
  have O_back := ok_back (P := l.prog) (w := w) (K := K) (mg := mg) (base := base) F15 Z_reversed Z_tuple
  have C_back : Cal l.prog w K mg base "back" 1 1 f_back := calD F15 (PySem.W.mg_of X G a15) b15 rfl O_back
  have O_turned := ok_turned (P := l.prog) (w := w) (K := K) (mg := mg) (base := base) F16 C_need_row C_back
  have C_turned : Cal l.prog w K mg base "turned" 4 1 f_turned := calD F16 (PySem.W.mg_of X G a16) b16 rfl O_turned
  have O_flipped := ok_flipped (P := l.prog) (w := w) (K := K) (mg := mg) (base := base) F17 Z_len Z_tuple
  have C_flipped : Cal l.prog w K mg base "flipped" 1 1 f_flipped := calD F17 (PySem.W.mg_of X G a17) b17 rfl O_flipped
  have O_upside := ok_upside (P := l.prog) (w := w) (K := K) (mg := mg) (base := base) F18 C_need_row C_flipped
  have C_upside : Cal l.prog w K mg base "upside" 4 1 f_upside := calD F18 (PySem.W.mg_of X G a18) b18 rfl O_upside
  have Q_upside_0_row : CalK l.prog w K mg base "upside" 4 1 f_upside 0 ["row"] [0] := calK F18 (PySem.W.mg_of X G a18) rfl O_upside fun _ _ _ _ _ _ us ws h1 h2 => match us, ws, h1, h2 with | [], [_], _, _ => rfl
  have O_inverse := ok_inverse (P := l.prog) (w := w) (K := K) (mg := mg) (base := base) F19 Z_enumerate Z_len Z_tuple
  have C_inverse : Cal l.prog w K mg base "inverse" 1 1 f_inverse := calD F19 (PySem.W.mg_of X G a19) b19 rfl O_inverse
  have O_swapped := ok_swapped (P := l.prog) (w := w) (K := K) (mg := mg) (base := base) F20 C_need_row C_inverse
  have C_swapped : Cal l.prog w K mg base "swapped" 4 1 f_swapped := calD F20 (PySem.W.mg_of X G a20) b20 rfl O_swapped
  have Q_swapped_0_row : CalK l.prog w K mg base "swapped" 4 1 f_swapped 0 ["row"] [0] := calK F20 (PySem.W.mg_of X G a20) rfl O_swapped fun _ _ _ _ _ _ us ws h1 h2 => match us, ws, h1, h2 with | [], [_], _, _ => rfl
  have O_need_room := ok_need_room (P := l.prog) (w := w) (K := K) (mg := mg) (base := base) F21 G_MOST_ENTRIES O_TooMany W_most
  have C_need_room : Cal l.prog w K mg base "need_room" 1 1 f_need_room := calD F21 (PySem.W.mg_of X G a21) b21 rfl O_need_room
  have O_skew_of := ok_skew_of (P := l.prog) (w := w) (K := K) (mg := mg) (base := base) F22 Z_len Z_tuple
  have C_skew_of : Cal l.prog w K mg base "skew_of" 1 2 f_skew_of := calD F22 (PySem.W.mg_of X G a22) b22 rfl O_skew_of
  have O_under := ok_under (P := l.prog) (w := w) (K := K) (mg := mg) (base := base) F23 C_need_row C_need_room C_skew_of Z_len
  have C_under : Cal l.prog w K mg base "under" 4 2 f_under := calD F23 (PySem.W.mg_of X G a23) b23 rfl O_under
  have Q_under_0_other_one : CalK l.prog w K mg base "under" 4 2 f_under 0 ["other", "one"] [1, 0] := calK F23 (PySem.W.mg_of X G a23) rfl O_under fun _ _ _ _ _ _ us ws h1 h2 => match us, ws, h1, h2 with | [], [_, _], _, _ => rfl
  have O_sum_of := ok_sum_of (P := l.prog) (w := w) (K := K) (mg := mg) (base := base) F24 Z_len Z_tuple
  have C_sum_of : Cal l.prog w K mg base "sum_of" 1 2 f_sum_of := calD F24 (PySem.W.mg_of X G a24) b24 rfl O_sum_of
  have O_beside := ok_beside (P := l.prog) (w := w) (K := K) (mg := mg) (base := base) F25 C_need_row C_need_room C_sum_of Z_len
  have C_beside : Cal l.prog w K mg base "beside" 4 2 f_beside := calD F25 (PySem.W.mg_of X G a25) b25 rfl O_beside
  have O_blown_up := ok_blown_up (P := l.prog) (w := w) (K := K) (mg := mg) (base := base) F26 C_inverse Z_enumerate Z_len Z_tuple
  have C_blown_up : Cal l.prog w K mg base "blown_up" 2 2 f_blown_up := calD F26 (PySem.W.mg_of X G a26) b26 rfl O_blown_up
  have O_blown := ok_blown (P := l.prog) (w := w) (K := K) (mg := mg) (base := base) F27 C_need_row C_is_row C_need_room C_blown_up Z_all Z_isinstance Z_len Z_sum Z_tuple K_BadParts
  have C_blown : Cal l.prog w K mg base "blown" 4 2 f_blown := calD F27 (PySem.W.mg_of X G a27) b27 rfl O_blown
  have Q_blown_0_parts_row : CalK l.prog w K mg base "blown" 4 2 f_blown 0 ["parts", "row"] [1, 0] := calK F27 (PySem.W.mg_of X G a27) rfl O_blown fun _ _ _ _ _ _ us ws h1 h2 => match us, ws, h1, h2 with | [], [_, _], _, _ => rfl
  have O__law_odd := ok__law_odd (P := l.prog) (w := w) (K := K) (mg := mg) (base := base) F28 C__law_pick Z_range Z_tuple
  have C__law_odd : Cal l.prog w K mg base "_law_odd" 4 1 f__law_odd := calD F28 (PySem.W.mg_of X G a28) b28 rfl O__law_odd
  have C__law_caught : CalC l.prog w K mg base 5 "_law_caught" 6 1 f__law_caught := calC F29 (PySem.W.mg_of X G a29) b29 (ok__law_caught F29 T_RowError H_RowError)
  have C__law_is_refused : CalC l.prog w K mg base 5 "_law_is_refused" 7 2 f__law_is_refused := calC F30 (PySem.W.mg_of X G a30) b30 (ok__law_is_refused F30 C__law_caught Z_isinstance Z_range T_TooMany I_TooMany N_TooMany L_most T_BadParts I_BadParts N_BadParts T_BadRow I_BadRow N_BadRow)
  have C__law_refused : CalT l.prog w K mg base [(t31, qn__law_refused)] "_law_refused" 8 2 f__law_refused := calT F31 (PySem.W.mg_of X G a31) b31 rfl (ok__law_refused F31 rfl (by simp) (by simp) (TBs (e31, t31) (by simp)) C__law_pick C__law_odd C_turned C_upside C_swapped C_beside C_under C_blown C__law_is_refused Z_len Z_range Z_tuple)
  have O__law_turned := ok__law_turned (P := l.prog) (w := w) (K := K) (mg := mg) (base := base) F32 Z_tuple
  have C__law_turned : Cal l.prog w K mg base "_law_turned" 1 1 f__law_turned := calD F32 (PySem.W.mg_of X G a32) b32 rfl O__law_turned
  have O__law_upside := ok__law_upside (P := l.prog) (w := w) (K := K) (mg := mg) (base := base) F33 Z_len Z_tuple
  have C__law_upside : Cal l.prog w K mg base "_law_upside" 1 1 f__law_upside := calD F33 (PySem.W.mg_of X G a33) b33 rfl O__law_upside
  have O__law_swapped := ok__law_swapped (P := l.prog) (w := w) (K := K) (mg := mg) (base := base) F34 Z_enumerate Z_len Z_tuple
  have C__law_swapped : Cal l.prog w K mg base "_law_swapped" 1 1 f__law_swapped := calD F34 (PySem.W.mg_of X G a34) b34 rfl O__law_swapped
  exact ok_law (T := [(t31, qn__law_refused)]) F35 GB b0 (PySem.W.mg_of X G a0) k0 C__law_row C__law_pick C__law_same C__law_swapped C__law_upside C__law_turned C_swapped C_upside C_turned C__law_under C__law_beside C_under C_beside C__law_dealt C__law_draw C__law_blown C_blown C__law_refused Q_upside_0_row Q_swapped_0_row Q_under_0_other_one Q_blown_0_parts_row Z_len Z_min Z_range Z_tuple hlaw
theorem walk {l : PySem.W.OpenLaw} {q : Program} {loose : List Str} {XP : (Str → Option Value) → Heap → Prop} {YP : World → Heap → Prop} {d : DefRec} {K : Params → PySem.W.Frag} (hn : l.most = some 63) (hdf : d.params.defaults = [])
    (hY : ∀ (w : World) (h : Heap), YP w h → (K w.params).In h)
    (F : ∀ (w : World) (mg : Str → Option Value) (fa : Addr) (h : Heap), YP w h → (K w.params).In h → h.Ns mainGlobals mg → mg d.name = some (.ref fa) → LamX.LawAtS l w (K w.params) (L2.CX l.prog w) 9 63 "script" mg fa h) :
    PySem.W.WalkO q loose XP YP l.row.toRowW d [] (fun f vs => PySem.call f vs) :=
  LamX.walk_ofTs (n := 63) (k := 9) (x := "script") (CX := fun w => L2.CX l.prog w) hn (by decide) hdf ⟨rfl, by decide, by decide⟩ hY F fun _ _ _ _ _ z => by
    obtain ⟨_, _, _, _, _, _, _, _, _, _, _, _, z⟩ := z
    exact z.elim
end ending
end LW

open PySem PySem.W PyProof.Rows in
set_option maxRecDepth 100000 in
set_option maxHeartbeats 0 in
theorem PySem.Challenge.cw_withinrows_k01_whole_turns_and_rows_put_holds : PySem.Challenge.rw_withinrows_k01_whole_turns_and_rows_put.Holds := by
  w_on; o_law; k_head; (case hw => w_witness2)
  k_fill
  refine LW.walk (l := PySem.Challenge.rw_withinrows_k01_whole_turns_and_rows_put) rfl rfl (fun w h Y => PySem.W.km_in_of Y) ?F
  case F =>
    intro w mg fa h Y KX G hmg
    have hT8 := PySem.W.km_tabs_of Y
    refine' LW.all_mk KX G hmg ?a0 ?l0 ?c0 ?k0 ?a1 ?l1 ?c1 ?k1 ?a2 ?l2 ?c2 ?k2 ?a3 ?l3 ?c3 ?k3 ?a4 ?l4 ?c4 ?k4 ?a5 ?l5 ?c5 ?k5 ?a6 ?l6 ?c6 ?k6 ?a7 ?l7 ?c7 ?k7 ?a8 ?l8 ?c8 ?k8 ?a9 ?l9 ?c9 ?k9 ?a10 ?l10 ?c10 ?k10 ?a11 ?l11 ?c11 ?k11 ?a12 ?l12 ?c12 ?k12 ?a13 ?l13 ?c13 ?k13 ?a14 ?l14 ?c14 ?k14 ?a15 ?l15 ?c15 ?k15 ?a16 ?l16 ?c16 ?k16 ?a17 ?l17 ?c17 ?k17 ?a18 ?l18 ?c18 ?k18 ?a19 ?l19 ?c19 ?k19 ?a20 ?l20 ?c20 ?k20 ?a21 ?l21 ?c21 ?k21 ?a22 ?l22 ?c22 ?k22 ?a23 ?l23 ?c23 ?k23 ?a24 ?l24 ?c24 ?k24 ?a25 ?l25 ?c25 ?k25 ?a26 ?l26 ?c26 ?k26 ?a27 ?l27 ?c27 ?k27 ?a28 ?l28 ?c28 ?k28 ?a29 ?l29 ?c29 ?k29 ?a30 ?l30 ?c30 ?k30 ?a31 ?l31 ?c31 ?k31 ?a32 ?l32 ?c32 ?k32 ?a33 ?l33 ?c33 ?k33 ?a34 ?l34 ?c34 ?k34 ?a35 ?l35 ?c35 ?k35 ?e31_ ?o31_ ?p31_ ?q31_ ?n31_ ?t31_ ?z_abs ?z_all ?z_bool ?z_dict ?z_enumerate ?z_int ?z_isinstance ?z_len ?z_list ?z_min ?z_range ?z_reversed ?z_sorted ?z_str ?z_sum ?z_tuple ?z_zip ?g_MOST_ENTRIES ?A_BadRow_ ?A_TooMany_ ?A_BadParts_ ?A_RowError_ ?x_hn ?x_ht ?x_kp_BadRow ?x_sb_BadRow ?x_ty_BadRow ?x_hg_BadRow ?x_hk_BadRow ?x_hd_BadRow ?x_ha_BadRow ?x_hm_BadRow ?x_k_BadRow_TooMany ?x_k_BadRow_BadParts ?x_k_BadRow_BadRow ?x_e_BadRow_RowError ?x_ex_BadRow ?x_kp_TooMany ?x_sb_TooMany ?x_ty_TooMany ?x_hg_TooMany ?x_hk_TooMany ?x_hd_TooMany ?x_ha_TooMany ?x_hm_TooMany ?x_k_TooMany_TooMany ?x_k_TooMany_BadParts ?x_k_TooMany_BadRow ?x_e_TooMany_RowError ?x_cl_TooMany ?x_rv_TooMany ?x_al_TooMany ?x_sa_TooMany ?x_no_TooMany ?x_iC_TooMany ?x_tC_TooMany ?x_ve_TooMany ?x_me_TooMany ?x_opq_TooMany ?x_sup_TooMany ?x_fn_TooMany ?x_co_TooMany ?x_cc_TooMany ?x_cd_TooMany ?x_fl_TooMany ?x_mf_TooMany ?x_mo_TooMany ?x_tp_TooMany ?x_kp_BadParts ?x_sb_BadParts ?x_ty_BadParts ?x_hg_BadParts ?x_hk_BadParts ?x_hd_BadParts ?x_ha_BadParts ?x_hm_BadParts ?x_k_BadParts_TooMany ?x_k_BadParts_BadParts ?x_k_BadParts_BadRow ?x_e_BadParts_RowError ?x_ex_BadParts ?x_non_TooMany ?x_non_BadParts ?x_non_BadRow LW.law_holds
    (case a0 => k_is)
    (case l0 => k_is)
    (case c0 => k_is)
    (case k0 => k_is)
    (case a1 => k_is)
    (case l1 => k_is)
    (case c1 => k_is)
    (case k1 => k_is)
    (case a2 => k_is)
    (case l2 => k_is)
    (case c2 => k_is)
    (case k2 => k_is)
    (case a3 => k_is)
    (case l3 => k_is)
    (case c3 => k_is)
    (case k3 => k_is)
    (case a4 => k_is)
    (case l4 => k_is)
    (case c4 => k_is)
    (case k4 => k_is)
    (case a5 => k_is)
    (case l5 => k_is)
    (case c5 => k_is)
    (case k5 => k_is)
    (case a6 => k_is)
    (case l6 => k_is)
    (case c6 => k_is)
    (case k6 => k_is)
    (case a7 => k_is)
    (case l7 => k_is)
    (case c7 => k_is)
    (case k7 => k_is)
    (case a8 => k_is)
    (case l8 => k_is)
    (case c8 => k_is)
    (case k8 => k_is)
    (case a9 => k_is)
    (case l9 => k_is)
    (case c9 => k_is)
    (case k9 => k_is)
    (case a10 => k_is)
    (case l10 => k_is)
    (case c10 => k_is)
    (case k10 => k_is)
    (case a11 => k_is)
    (case l11 => k_is)
    (case c11 => k_is)
    (case k11 => k_is)
    (case a12 => k_is)
    (case l12 => k_is)
    (case c12 => k_is)
    (case k12 => k_is)
    (case a13 => k_is)
    (case l13 => k_is)
    (case c13 => k_is)
    (case k13 => k_is)
    (case a14 => k_is)
    (case l14 => k_is)
    (case c14 => k_is)
    (case k14 => k_is)
    (case a15 => k_is)
    (case l15 => k_is)
    (case c15 => k_is)
    (case k15 => k_is)
    (case a16 => k_is)
    (case l16 => k_is)
    (case c16 => k_is)
    (case k16 => k_is)
    (case a17 => k_is)
    (case l17 => k_is)
    (case c17 => k_is)
    (case k17 => k_is)
    (case a18 => k_is)
    (case l18 => k_is)
    (case c18 => k_is)
    (case k18 => k_is)
    (case a19 => k_is)
    (case l19 => k_is)
    (case c19 => k_is)
    (case k19 => k_is)
    (case a20 => k_is)
    (case l20 => k_is)
    (case c20 => k_is)
    (case k20 => k_is)
    (case a21 => k_is)
    (case l21 => k_is)
    (case c21 => k_is)
    (case k21 => k_is)
    (case a22 => k_is)
    (case l22 => k_is)
    (case c22 => k_is)
    (case k22 => k_is)
    (case a23 => k_is)
    (case l23 => k_is)
    (case c23 => k_is)
    (case k23 => k_is)
    (case a24 => k_is)
    (case l24 => k_is)
    (case c24 => k_is)
    (case k24 => k_is)
    (case a25 => k_is)
    (case l25 => k_is)
    (case c25 => k_is)
    (case k25 => k_is)
    (case a26 => k_is)
    (case l26 => k_is)
    (case c26 => k_is)
    (case k26 => k_is)
    (case a27 => k_is)
    (case l27 => k_is)
    (case c27 => k_is)
    (case k27 => k_is)
    (case a28 => k_is)
    (case l28 => k_is)
    (case c28 => k_is)
    (case k28 => k_is)
    (case a29 => k_is)
    (case l29 => k_is)
    (case c29 => k_is)
    (case k29 => k_is)
    (case a30 => k_is)
    (case l30 => k_is)
    (case c30 => k_is)
    (case k30 => k_is)
    (case a31 => k_is)
    (case l31 => k_is)
    (case c31 => k_is)
    (case k31 => k_is)
    (case a32 => k_is)
    (case l32 => k_is)
    (case c32 => k_is)
    (case k32 => k_is)
    (case a33 => k_is)
    (case l33 => k_is)
    (case c33 => k_is)
    (case k33 => k_is)
    (case a34 => k_is)
    (case l34 => k_is)
    (case c34 => k_is)
    (case k34 => k_is)
    (case a35 => k_is)
    (case l35 => k_is)
    (case c35 => k_is)
    (case k35 => k_is)
    (case e31_ => exact rfl)
    (case o31_ => k_is)
    (case p31_ => exact rfl)
    (case q31_ => kernel_rfl)
    (case n31_ => kernel_rfl)
    (case t31_ => exact hT8 _ (by k_mem))
    (case z_abs => k_is)
    (case z_all => k_is)
    (case z_bool => k_is)
    (case z_dict => k_is)
    (case z_enumerate => k_is)
    (case z_int => k_is)
    (case z_isinstance => k_is)
    (case z_len => k_is)
    (case z_list => k_is)
    (case z_min => k_is)
    (case z_range => k_is)
    (case z_reversed => k_is)
    (case z_sorted => k_is)
    (case z_str => k_is)
    (case z_sum => k_is)
    (case z_tuple => k_is)
    (case z_zip => k_is)
    (case g_MOST_ENTRIES => k_is)
    (case A_BadRow_ => k_is)
    (case A_TooMany_ => k_is)
    (case A_BadParts_ => k_is)
    (case A_RowError_ => k_is)
    (case x_hn => k_is)
    (case x_ht => k_is)
    (case x_kp_BadRow => k_is)
    (case x_sb_BadRow => k_is)
    (case x_ty_BadRow => k_is)
    (case x_hg_BadRow => k_is)
    (case x_hk_BadRow => k_is)
    (case x_hd_BadRow => k_is)
    (case x_ha_BadRow => k_is)
    (case x_hm_BadRow => k_is)
    (case x_k_BadRow_TooMany => kernel_rfl)
    (case x_k_BadRow_BadParts => kernel_rfl)
    (case x_k_BadRow_BadRow => kernel_rfl)
    (case x_e_BadRow_RowError => kernel_rfl)
    (case x_ex_BadRow => kernel_rfl)
    (case x_kp_TooMany => k_is)
    (case x_sb_TooMany => k_is)
    (case x_ty_TooMany => k_is)
    (case x_hg_TooMany => k_is)
    (case x_hk_TooMany => k_is)
    (case x_hd_TooMany => k_is)
    (case x_ha_TooMany => k_is)
    (case x_hm_TooMany => k_is)
    (case x_k_TooMany_TooMany => kernel_rfl)
    (case x_k_TooMany_BadParts => kernel_rfl)
    (case x_k_TooMany_BadRow => kernel_rfl)
    (case x_e_TooMany_RowError => kernel_rfl)
    (case x_cl_TooMany => k_is)
    (case x_rv_TooMany => kernel_rfl)
    (case x_al_TooMany => kernel_rfl)
    (case x_sa_TooMany => k_is)
    (case x_no_TooMany => k_is)
    (case x_iC_TooMany => k_is)
    (case x_tC_TooMany => k_is)
    (case x_ve_TooMany => k_is)
    (case x_me_TooMany => k_is)
    (case x_opq_TooMany => k_is)
    (case x_sup_TooMany => k_is)
    (case x_fn_TooMany => k_is)
    (case x_co_TooMany => k_is)
    (case x_cc_TooMany => k_is)
    (case x_cd_TooMany => k_is)
    (case x_fl_TooMany => exact rfl)
    (case x_mf_TooMany => kernel_rfl)
    (case x_mo_TooMany => exact fun _ _ _ _ _ => ⟨_, rfl⟩)
    (case x_tp_TooMany => kernel_rfl)
    (case x_kp_BadParts => k_is)
    (case x_sb_BadParts => k_is)
    (case x_ty_BadParts => k_is)
    (case x_hg_BadParts => k_is)
    (case x_hk_BadParts => k_is)
    (case x_hd_BadParts => k_is)
    (case x_ha_BadParts => k_is)
    (case x_hm_BadParts => k_is)
    (case x_k_BadParts_TooMany => kernel_rfl)
    (case x_k_BadParts_BadParts => kernel_rfl)
    (case x_k_BadParts_BadRow => kernel_rfl)
    (case x_e_BadParts_RowError => kernel_rfl)
    (case x_ex_BadParts => kernel_rfl)
    (case x_non_TooMany => kernel_rfl)
    (case x_non_BadParts => kernel_rfl)
    (case x_non_BadRow => kernel_rfl)
