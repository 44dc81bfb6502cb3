import PyProof.Rows.All
import Wide.All
import OpenK.AllK
import Wide.FinOn
import HandS.ForMost
import HandS.Star
import HandS.TupAny
import HandS.TupMul
import HandS.IsInst
import HandS.Wide
import HandS.Style
import HandS.TupLe
import HandS.Conv
import HandS.DictComp
import HandS.Deep
import KE.KDictLaws
import PyProof.NeKinds
import PyProof.ReprLen
import PyProof.Rows.RegStrFacts
import PySem.Challenge.RW_roundvalues_k12_rounds_judged
set_option Elab.async false
set_option linter.all false
set_option maxRecDepth 100000
set_option autoImplicit false
noncomputable section
/-! EL1: data trees as values, what is owned and what is frozen, readings as functions of an environment of data. -/
namespace EL
open PySem PySem.Spec PyProof.Rows L2

abbrev D := PyData
/-- the tuples of the module's own top that may stand in data (none of them is put into a dict as a key) -/
class KC where
  kc : D → Bool
variable [KC]
def kd : Key → D
  | .inl i => .int i
  | .inr x => .str x

abbrev Le (G G' : Hp) : Prop := ∀ a o, G a = some o → G' a = some o
theorem Le.rfl' {G : Hp} : Le G G := fun _ _ h => h
theorem Le.tr {G G' G'' : Hp} (h : Le G G') (k : Le G' G'') : Le G G'' := fun a o q => k a o (h a o q)
theorem Le.upd {G : Hp} {p : Addr} {o : HO} (h : G p = none) : Le G (upd G p o) := fun a u q => by
  rw [upd_ne (ne_of_none q h)]; exact q

theorem sqL_mono {K : PySem.W.Frag} {G G' : Hp} {a : Addr} {xs : List V} (l : Le G G') (h : SqL K G a xs) : SqL K G' a xs := by
  rcases h with (h | ⟨o, h⟩) | h
  · exact .inl (.inl (l _ _ h))
  · exact .inl (.inr ⟨o, l _ _ h⟩)
  · exact .inr h
theorem sqT_mono {K : PySem.W.Frag} {G G' : Hp} {a : Addr} {xs : List V} (l : Le G G') (h : SqT K G a xs) : SqT K G' a xs := by
  rcases h with (h | ⟨o, h⟩) | h
  · exact .inl (.inl (l _ _ h))
  · exact .inl (.inr ⟨o, l _ _ h⟩)
  · exact .inr h

mutual
/-- v is the data tree d, all of it in the frozen part G -/
inductive Rp (K : PySem.W.Frag) (G : Hp) : V → D → Prop
  | non : Rp K G .non .none
  | bl (b : Bool) : Rp K G (.bl b) (.bool b)
  | int (i : Int) : Rp K G (.int i) (.int i)
  | str (x : Str) : Rp K G (.str x) (.str x)
  | lst {a : Addr} {vs : List V} {ds : List D} (h : G a = some (.lst vs)) (r : RpA K G vs ds) : Rp K G (.ref a) (.list ds)
  | tup {a : Addr} {vs : List V} {ds : List D} (h : G a = some (.tup vs)) (r : RpA K G vs ds) : Rp K G (.ref a) (.tuple ds)
  | kon {a : Addr} {vs : List V} {ds : List D} (h : SqT K (fun _ => none) a vs) (r : RpA K G vs ds) (c : KC.kc (.tuple ds) = true) : Rp K G (.ref a) (.tuple ds)
  | dk {a : Addr} {kvs : List (Key × V)} {ds : List D} (h : G a = some (.dK kvs)) (r : RpA K G (kvs.map (·.2)) ds) : Rp K G (.ref a) (.dict ((kvs.map fun p => kd p.1).zip ds))
  | dt {a : Addr} {kvs : List (List Key × V)} {ds : List D} (h : G a = some (.dT kvs)) (r : RpA K G (kvs.map (·.2)) ds) : Rp K G (.ref a) (.dict ((kvs.map fun p => PyData.tuple (p.1.map kd)).zip ds))
inductive RpA (K : PySem.W.Frag) (G : Hp) : List V → List D → Prop
  | nil : RpA K G [] []
  | cons {v : V} {vs : List V} {d : D} {ds : List D} (h : Rp K G v d) (r : RpA K G vs ds) : RpA K G (v :: vs) (d :: ds)
end

section
variable {K : PySem.W.Frag} {G G' : Hp}
theorem Rp.mono (l : Le G G') {v : V} {d : D} (h : Rp K G v d) : Rp K G' v d :=
  Rp.rec (motive_1 := fun v d _ => Rp K G' v d) (motive_2 := fun vs ds _ => RpA K G' vs ds)
    .non .bl .int .str (fun h _ ih => .lst (l _ _ h) ih) (fun h _ ih => .tup (l _ _ h) ih) (fun h _ c ih => .kon h ih c) (fun h _ ih => .dk (l _ _ h) ih) (fun h _ ih => .dt (l _ _ h) ih)
    .nil (fun _ _ i1 i2 => .cons i1 i2) h
theorem sqT_top {a : Addr} {xs : List V} (h : SqT K (fun _ => none) a xs) : SqT K G a xs := sqT_mono (fun _ _ q => by cases q) h
theorem Rp.sqT {a : Addr} {ds : List D} (h : Rp K G (.ref a) (.tuple ds)) : ∃ vs, SqT K G a vs ∧ RpA K G vs ds := by
  cases h with
  | tup h r => exact ⟨_, .of h, r⟩
  | kon h r c => exact ⟨_, sqT_top h, r⟩
theorem Rp.isRef {v : V} {ds : List D} (h : Rp K G v (.tuple ds)) : ∃ a, v = .ref a := by
  cases h with
  | tup h r => exact ⟨_, rfl⟩
  | kon h r c => exact ⟨_, rfl⟩
theorem RpA.mono (l : Le G G') {vs : List V} {ds : List D} (h : RpA K G vs ds) : RpA K G' vs ds := by
  induction ds generalizing vs with
  | nil => cases h; exact .nil
  | cons d ds ih => cases h with | cons h1 h2 => exact .cons (h1.mono l) (ih h2)
theorem RpA.length : ∀ {vs : List V} {ds : List D}, RpA K G vs ds → vs.length = ds.length
  | [], _, h => by cases h; rfl
  | _ :: vs, _, h => by cases h with | cons _ h2 => simp [RpA.length h2]
theorem RpA.append {vs ws : List V} {ds es : List D} (h : RpA K G vs ds) (k : RpA K G ws es) : RpA K G (vs ++ ws) (ds ++ es) := by
  induction ds generalizing vs with
  | nil => cases h; exact k
  | cons d ds ih => cases h with | cons h1 h2 => exact .cons h1 (ih h2)
theorem RpA.get {vs : List V} {ds : List D} (h : RpA K G vs ds) {i : Nat} {d : D} (e : ds[i]? = some d) : ∃ v, vs[i]? = some v ∧ Rp K G v d := by
  induction ds generalizing vs i with
  | nil => simp at e
  | cons d' ds ih =>
    cases h with
    | cons h1 h2 =>
      cases i with
      | zero => simp at e; subst e; exact ⟨_, by simp, h1⟩
      | succ i => obtain ⟨v, q1, q2⟩ := ih h2 (i := i) (by simpa using e); exact ⟨v, by simpa using q1, q2⟩
theorem RpA.take {vs : List V} {ds : List D} (h : RpA K G vs ds) (n : Nat) : RpA K G (vs.take n) (ds.take n) := by
  induction ds generalizing vs n with
  | nil => cases h; simp; exact .nil
  | cons d ds ih => cases h with | cons h1 h2 => cases n with
    | zero => exact .nil
    | succ n => exact .cons h1 (ih h2 n)
theorem RpA.drop {vs : List V} {ds : List D} (h : RpA K G vs ds) (n : Nat) : RpA K G (vs.drop n) (ds.drop n) := by
  induction ds generalizing vs n with
  | nil => cases h; simp; exact .nil
  | cons d ds ih => cases h with | cons h1 h2 => cases n with
    | zero => exact .cons h1 h2
    | succ n => exact ih h2 n
theorem RpA.reverse {vs : List V} {ds : List D} (h : RpA K G vs ds) : RpA K G vs.reverse ds.reverse := by
  induction ds generalizing vs with
  | nil => cases h; exact .nil
  | cons d ds ih => cases h with | cons h1 h2 => simp only [List.reverse_cons]; exact (ih h2).append (.cons h1 .nil)
theorem RpA.set {vs : List V} {ds : List D} (h : RpA K G vs ds) {v : V} {d : D} (r : Rp K G v d) (n : Nat) : RpA K G (vs.set n v) (ds.set n d) := by
  induction ds generalizing vs n with
  | nil => cases h; exact .nil
  | cons d ds ih => cases h with | cons h1 h2 => cases n with
    | zero => exact .cons r h2
    | succ n => exact .cons h1 (ih h2 n)
theorem RpA.erase {vs : List V} {ds : List D} (h : RpA K G vs ds) (n : Nat) : RpA K G (vs.eraseIdx n) (ds.eraseIdx n) := by
  induction ds generalizing vs n with
  | nil => cases h; exact .nil
  | cons d ds ih => cases h with | cons h1 h2 => cases n with
    | zero => exact h2
    | succ n => exact .cons h1 (ih h2 n)
theorem RpA.ints : ∀ ns : List Int, RpA K G (ns.map V.int) (ns.map PyData.int)
  | [] => .nil
  | n :: ns => .cons (.int n) (RpA.ints ns)
end

/-- the law's source of draws: the cells left, what is left of the present one, the mixed number, the turn -/
structure Src where
  cells : List Int
  left : Int
  mixed : Int
  turn : Int

/-- what a slot holds: a frozen tree; a list, a dict of its own; the source -/
inductive Ent where
  | val (d : D) | ol (ds : List D) | od (b : Bool) (kvs : List (D × D)) | src

structure EE where
  r : List (Option Ent)
  S : Src
def EE.put (e : EE) (i : Nat) (x : Option Ent) : EE := ⟨e.r.set i x, e.S⟩

/-- a result: a frozen tree, a fresh list, a fresh dict -/
inductive Rs where
  | val (d : D) | fl (ds : List D) | fd (b : Bool) (kvs : List (D × D))
def Rs.d : Rs → D
  | .val d => d
  | .fl ds => .list ds
  | .fd b kvs => .dict kvs
def Rs.ent : Rs → Ent
  | .val d => .val d
  | .fl ds => .ol ds
  | .fd b kvs => .od b kvs
def Ent.d : Ent → Option D
  | .val d => some d
  | .ol ds => some (.list ds)
  | .od b kvs => some (.dict kvs)
  | .src => none

structure Cn where
  H0 : Hp
  G0 : Hp
  so : Option (Addr × Addr)

/-- the dict at p holds kvs -/
def OdOk (K : PySem.W.Frag) (G H : Hp) (p : Addr) (b : Bool) (kvs : List (D × D)) : Prop :=
  (b = false ∧ ∃ (l : List (Key × V)) (ds : List D), H p = some (.dK l) ∧ RpA K G (l.map (·.2)) ds ∧ kvs = (l.map fun q => kd q.1).zip ds) ∨
  (b = true ∧ ∃ (l : List (List Key × V)) (ds : List D), H p = some (.dT l) ∧ RpA K G (l.map (·.2)) ds ∧ kvs = (l.map fun q => PyData.tuple (q.1.map kd)).zip ds)

def SlotOk (K : PySem.W.Frag) (C : Cn) (G : Hp) (own : Nat → Option Addr) (H : Hp) (i : Nat) (v : V) : Ent → Prop
  | .val d => Rp K G v d
  | .ol ds => ∃ a vs, v = .ref a ∧ own i = some a ∧ H a = some (.lst vs) ∧ RpA K G vs ds
  | .od b kvs => ∃ a, v = .ref a ∧ own i = some a ∧ OdOk K G H a b kvs
  | .src => ∃ q, C.so = some q ∧ v = .ref q.1

def srcDict (c : Addr) (S : Src) : List (Key × V) := [(.inr "cells", .ref c), (.inr "left", .int S.left), (.inr "mixed", .int S.mixed), (.inr "turn", .int S.turn)]
structure SrcOk (H : Hp) (q : Addr × Addr) (S : Src) : Prop where
  d : H q.1 = some (.dK (srcDict q.2 S))
  c : H q.2 = some (.lst (S.cells.map V.int))

structure Rep (K : PySem.W.Frag) (C : Cn) (G : Hp) (own : Nat → Option Addr) (e : EE) (σ : L2.St) (H : Hp) : Prop where
  sub : Le G H
  ext : Le C.G0 G
  new : ∀ a, G a ≠ none → C.G0 a ≠ none ∨ C.H0 a = none
  frm : ∀ a o, C.H0 a = some o → (∀ q, C.so = some q → a ≠ q.1 ∧ a ≠ q.2) → H a = some o
  len : σ.length = e.r.length
  slot : ∀ i x, e.r[i]? = some (some x) → ∃ v, σ[i]? = some (some v) ∧ SlotOk K C G own H i v x
  ofr : ∀ i a, own i = some a → C.H0 a = none ∧ G a = none
  inj : ∀ i j a, own i = some a → own j = some a → i = j
  thr : ∀ i a, own i = some a → H a ≠ none
  src : ∀ q, C.so = some q → SrcOk H q e.S ∧ C.G0 q.1 = none ∧ C.G0 q.2 = none ∧ C.H0 q.1 ≠ none ∧ C.H0 q.2 ≠ none

def RsOk (K : PySem.W.Frag) (C : Cn) (G : Hp) (own : Nat → Option Addr) (H : Hp) (v : V) : Rs → Prop
  | .val d => Rp K G v d
  | .fl ds => ∃ p vs, v = .ref p ∧ H p = some (.lst vs) ∧ RpA K G vs ds ∧ G p = none ∧ C.H0 p = none ∧ ∀ i, own i ≠ some p
  | .fd b kvs => ∃ p, v = .ref p ∧ OdOk K G H p b kvs ∧ G p = none ∧ C.H0 p = none ∧ ∀ i, own i ≠ some p

/-- reads as the tree d, here and now -/
inductive Rr (K : PySem.W.Frag) (G H : Hp) : V → D → Prop
  | frz {v : V} {d : D} (h : Rp K G v d) : Rr K G H v d
  | lst {p : Addr} {vs : List V} {ds : List D} (h : H p = some (.lst vs)) (r : RpA K G vs ds) : Rr K G H (.ref p) (.list ds)
  | dic {p : Addr} {b : Bool} {kvs : List (D × D)} (h : OdOk K G H p b kvs) : Rr K G H (.ref p) (.dict kvs)
inductive RrA (K : PySem.W.Frag) (G H : Hp) : List V → List D → Prop
  | nil : RrA K G H [] []
  | cons {v : V} {vs : List V} {d : D} {ds : List D} (h : Rr K G H v d) (r : RrA K G H vs ds) : RrA K G H (v :: vs) (d :: ds)

/-- how an operation ends: nothing new, or one new object -/
inductive Grow (K : PySem.W.Frag) (G H : Hp) : V → Rs → Hp → Prop
  | same {v : V} {d : D} (h : Rp K G v d) : Grow K G H v (.val d) H
  | tup {p : Addr} {vs : List V} {ds : List D} (n : H p = none) (h : RpA K G vs ds) : Grow K G H (.ref p) (.val (.tuple ds)) (upd H p (.tup vs))
  | lst {p : Addr} {vs : List V} {ds : List D} (n : H p = none) (h : RpA K G vs ds) : Grow K G H (.ref p) (.fl ds) (upd H p (.lst vs))
  | dk {p : Addr} {l : List (Key × V)} {ds : List D} (n : H p = none) (h : RpA K G (l.map (·.2)) ds) : Grow K G H (.ref p) (.fd false ((l.map fun q => kd q.1).zip ds)) (upd H p (.dK l))
  | dt {p : Addr} {l : List (List Key × V)} {ds : List D} (n : H p = none) (h : RpA K G (l.map (·.2)) ds) : Grow K G H (.ref p) (.fd true ((l.map fun q => PyData.tuple (q.1.map kd)).zip ds)) (upd H p (.dT l))

section
variable {K : PySem.W.Frag} {C : Cn} {G H H' : Hp} {own : Nat → Option Addr} {e : EE} {σ : L2.St} {v : V} {r : Rs}

theorem OdOk.mono {G' : Hp} {p : Addr} {b : Bool} {kvs : List (D × D)} (l : Le G G') (e : H' p = H p) (h : OdOk K G H p b kvs) : OdOk K G' H' p b kvs := by
  rcases h with ⟨h0, l', ds, h1, h2, h3⟩ | ⟨h0, l', ds, h1, h2, h3⟩
  · exact .inl ⟨h0, l', ds, e.trans h1, h2.mono l, h3⟩
  · exact .inr ⟨h0, l', ds, e.trans h1, h2.mono l, h3⟩
theorem OdOk.there {p : Addr} {b : Bool} {kvs : List (D × D)} (h : OdOk K G H p b kvs) : H p ≠ none := by
  rcases h with ⟨h0, l', ds, h1, h2, h3⟩ | ⟨h0, l', ds, h1, h2, h3⟩ <;> rw [h1] <;> exact fun z => nomatch z
theorem ne_of_none' {a b : Addr} {o : HO} (n : H a = none) (h : H b = some o) : a ≠ b := fun z => by rw [z, h] at n; cases n
/-- a slot stays good where its own cell stays -/
theorem SlotOk.keep {G' : Hp} {own' : Nat → Option Addr} {i : Nat} {x : Ent} (l : Le G G') (ho : own' i = own i) (k : ∀ a, own i = some a → H' a = H a) (h : SlotOk K C G own H i v x) : SlotOk K C G' own' H' i v x := by
  cases x with
  | val d => exact Rp.mono l h
  | ol ds => obtain ⟨a, vs, h1, h2, h3, h4⟩ := h; exact ⟨a, vs, h1, ho.trans h2, (k a h2).trans h3, h4.mono l⟩
  | od b kvs => obtain ⟨a, h1, h2, h3⟩ := h; exact ⟨a, h1, ho.trans h2, h3.mono l (k a h2)⟩
  | src => exact h

/-- all stays but one new cell at p; G grows there or not -/
theorem Rep.alloc (R : Rep K C G own e σ H) {p : Addr} {o : HO} (n : H p = none) : Rep K C G own e σ (upd H p o) := by
  have np : ∀ {a u}, H a = some u → a ≠ p := fun h => ne_of_none h n
  have nq : ∀ q, C.so = some q → q.1 ≠ p ∧ q.2 ≠ p := fun q hq => ⟨np (R.src q hq).1.d, np (R.src q hq).1.c⟩
  refine ⟨fun a u h => ?_, R.ext, R.new, fun a u h k => ?_, R.len, fun i x h => ?_, R.ofr, R.inj, fun i a h => ?_, fun q hq => ?_⟩
  · rw [upd_ne (np (R.sub a u h))]; exact R.sub a u h
  · rw [upd_ne (np (R.frm a u h k))]; exact R.frm a u h k
  · obtain ⟨v, h1, h2⟩ := R.slot i x h
    refine ⟨v, h1, ?_⟩
    cases x with
    | val d => exact h2
    | ol ds => obtain ⟨a, vs, q1, q2, q3, q4⟩ := h2; exact ⟨a, vs, q1, q2, by rw [upd_ne (np q3)]; exact q3, q4⟩
    | od b kvs =>
      obtain ⟨a, q1, q2, q3⟩ := h2
      refine ⟨a, q1, q2, q3.mono Le.rfl' ?_⟩
      cases z : H a with
      | none => exact absurd z q3.there
      | some u => rw [upd_ne (np z)]; exact z
    | src => exact h2
  · have z := R.thr i a h
    cases y : H a with
    | none => exact absurd y z
    | some u => rw [upd_ne (np y), y]; exact fun z => nomatch z
  · obtain ⟨⟨h1, h2⟩, h3⟩ := R.src q hq
    exact ⟨⟨by rw [upd_ne (nq q hq).1]; exact h1, by rw [upd_ne (nq q hq).2]; exact h2⟩, h3⟩
/-- a cell that nobody has becomes frozen -/
theorem Rep.ice (R : Rep K C G own e σ H) {p : Addr} {o : HO} (h : H p = some o) (g : G p = none) (h0 : C.H0 p = none) (no : ∀ i, own i ≠ some p) : Rep K C (upd G p o) own e σ H := by
  have l : Le G (upd G p o) := Le.upd g
  refine ⟨fun a u q => ?_, R.ext.tr l, fun a q => ?_, R.frm, R.len, fun i x q => ?_, fun i a q => ?_, R.inj, R.thr, R.src⟩
  · by_cases z : a = p
    · subst z; rw [upd_same] at q; cases q; exact h
    · rw [upd_ne z] at q; exact R.sub a u q
  · by_cases z : a = p
    · subst z; exact .inr h0
    · rw [upd_ne z] at q; exact R.new a q
  · obtain ⟨v, h1, h2⟩ := R.slot i x q
    exact ⟨v, h1, h2.keep l rfl fun _ _ => rfl⟩
  · have z : a ≠ p := fun z => no i (z ▸ q)
    rw [upd_ne z]; exact R.ofr i a q
theorem Rep.notOwn (R : Rep K C G own e σ H) {p : Addr} (n : H p = none) : ∀ i, own i ≠ some p := fun i h => R.thr i p h n
theorem Rep.gnone (R : Rep K C G own e σ H) {p : Addr} (n : H p = none) : G p = none := by
  cases z : G p with
  | none => rfl
  | some u => rw [R.sub p u z] at n; cases n
/-- a free cell was free at the entry, or it is the source's -/
theorem Rep.h0none (R : Rep K C G own e σ H) {p : Addr} (n : H p = none) : C.H0 p = none := by
  cases z : C.H0 p with
  | none => rfl
  | some u =>
    rw [R.frm p u z fun q hq => ⟨ne_of_none' n (R.src q hq).1.d, ne_of_none' n (R.src q hq).1.c⟩] at n
    cases n
/-- an operation's end -/
theorem Rep.grow (R : Rep K C G own e σ H) (g : Grow K G H v r H') : ∃ G', Le G G' ∧ Rep K C G' own e σ H' ∧ RsOk K C G' own H' v r := by
  cases g with
  | same h => exact ⟨G, Le.rfl', R, h⟩
  | @tup p vs ds n h =>
    have l := Le.upd (o := .tup vs) (R.gnone n)
    exact ⟨upd G p (.tup vs), l, (R.alloc n).ice upd_same (R.gnone n) (R.h0none n) (R.notOwn n), .tup upd_same (h.mono l)⟩
  | @lst p vs ds n h => exact ⟨G, Le.rfl', R.alloc n, p, vs, rfl, upd_same, h, R.gnone n, R.h0none n, R.notOwn n⟩
  | @dk p l ds n h => exact ⟨G, Le.rfl', R.alloc n, p, rfl, .inl ⟨rfl, l, ds, upd_same, h, rfl⟩, R.gnone n, R.h0none n, R.notOwn n⟩
  | @dt p l ds n h => exact ⟨G, Le.rfl', R.alloc n, p, rfl, .inr ⟨rfl, l, ds, upd_same, h, rfl⟩, R.gnone n, R.h0none n, R.notOwn n⟩
theorem OdOk.rp {p : Addr} {b : Bool} {kvs : List (D × D)} {u : HO} (e : H p = some u) (h : OdOk K G H p b kvs) (g : G p = none) : Rp K (upd G p u) (.ref p) (.dict kvs) := by
  rcases h with ⟨_, l, ds, h1, h2, rfl⟩ | ⟨_, l, ds, h1, h2, rfl⟩
  · rw [h1] at e; cases e; exact .dk upd_same (h2.mono (Le.upd g))
  · rw [h1] at e; cases e; exact .dt upd_same (h2.mono (Le.upd g))
/-- a result is frozen -/
theorem Rep.frz (R : Rep K C G own e σ H) (h : RsOk K C G own H v r) : ∃ G', Le G G' ∧ Rep K C G' own e σ H ∧ Rp K G' v r.d := by
  cases r with
  | val d => exact ⟨G, Le.rfl', R, h⟩
  | fl ds =>
    obtain ⟨p, vs, rfl, h1, h2, h3, h4, h5⟩ := h
    exact ⟨upd G p (.lst vs), Le.upd h3, R.ice h1 h3 h4 h5, .lst upd_same (h2.mono (Le.upd h3))⟩
  | fd b kvs =>
    obtain ⟨p, rfl, h1, h3, h4, h5⟩ := h
    cases z : H p with
    | none => exact absurd z h1.there
    | some u => exact ⟨upd G p u, Le.upd h3, R.ice z h3 h4 h5, h1.rp z h3⟩
/-- a slot is forgotten, or what it owns is handed on -/
theorem Rep.forget (R : Rep K C G own e σ H) (i : Nat) : Rep K C G (fun j => if j = i then none else own j) (e.put i none) σ H := by
  refine ⟨R.sub, R.ext, R.new, R.frm, by simp [EE.put, R.len], fun j x h => ?_, fun j a h => ?_, fun j k a h1 h2 => ?_, fun j a h => ?_, R.src⟩
  · by_cases z : j = i
    · subst z
      by_cases y : j < e.r.length
      · simp [EE.put, y] at h
      · simp [EE.put] at h
        rw [List.getElem?_eq_none (by simp; omega)] at h
        cases h
    · have h' : e.r[j]? = some (some x) := by
        have : (e.r.set i none)[j]? = e.r[j]? := List.getElem?_set_ne (Ne.symm z)
        rw [← this]; exact h
      obtain ⟨v, h1, h2⟩ := R.slot j x h'
      exact ⟨v, h1, h2.keep Le.rfl' (by simp [z]) fun _ _ => rfl⟩
  · by_cases z : j = i
    · simp [z] at h
    · simp [z] at h; exact R.ofr j a h
  · by_cases z : j = i
    · simp [z] at h1
    · by_cases y : k = i
      · simp [y] at h2
      · simp [z] at h1; simp [y] at h2; exact R.inj j k a h1 h2
  · by_cases z : j = i
    · simp [z] at h
    · simp [z] at h; exact R.thr j a h
/-- what a slot owns, as a result -/
theorem Rep.hand (R : Rep K C G own e σ H) {i : Nat} {x : Ent} (h : e.r[i]? = some (some x)) (r : Rs) (hr : x = r.ent) :
    ∃ v own', σ[i]? = some (some v) ∧ Rep K C G own' (e.put i none) σ H ∧ RsOk K C G own' H v r := by
  obtain ⟨v, h1, h2⟩ := R.slot i x h
  refine ⟨v, _, h1, R.forget i, ?_⟩
  subst hr
  have no : ∀ a, own i = some a → ∀ j, (if j = i then none else own j) ≠ some a := fun a q j k => by
    by_cases z : j = i
    · simp [z] at k
    · simp [z] at k; exact z (R.inj j i a k q)
  cases r with
  | val d => exact h2
  | fl ds =>
    obtain ⟨a, vs, q1, q2, q3, q4⟩ := h2
    exact ⟨a, vs, q1, q3, q4, (R.ofr i a q2).2, (R.ofr i a q2).1, no a q2⟩
  | fd b kvs =>
    obtain ⟨a, q1, q2, q3⟩ := h2
    exact ⟨a, q1, q3, (R.ofr i a q2).2, (R.ofr i a q2).1, no a q2⟩
/-- a result goes to a slot -/
theorem Rep.store (R : Rep K C G own e σ H) (h : RsOk K C G own H v r) {i : Nat} (hi : i < e.r.length) :
    ∃ own', Rep K C G own' (e.put i (some r.ent)) (σ.set i (some v)) H ∧ ∀ k a, own' k = some a → own k = some a ∨ (v = .ref a ∧ ∀ d, r ≠ .val d) := by
  have F := R.forget i
  generalize ho : (fun j => if j = i then none else own j) = own0 at F
  have o0 : own0 i = none := by rw [← ho]; simp
  have oj : ∀ j, j ≠ i → own0 j = own j := fun j z => by rw [← ho]; simp [z]
  have hs : i < σ.length := by rw [R.len]; exact hi
  -- the new owner
  have key : ∀ w : Option Addr, (∀ a, w = some a → C.H0 a = none ∧ G a = none ∧ H a ≠ none ∧ ∀ j, own j ≠ some a) → SlotOk K C G (fun j => if j = i then w else own0 j) H i v r.ent →
      Rep K C G (fun j => if j = i then w else own0 j) (e.put i (some r.ent)) (σ.set i (some v)) H := by
    intro w hw hk
    refine ⟨R.sub, R.ext, R.new, R.frm, by simp [EE.put, R.len], fun j x q => ?_, fun j a q => ?_, fun j k a q1 q2 => ?_, fun j a q => ?_, R.src⟩
    · by_cases z : j = i
      · subst z
        have : x = r.ent := by simp [EE.put, hi] at q; exact q.symm
        subst this
        exact ⟨v, by simp [hs], hk⟩
      · have q' : (e.put i none).r[j]? = some (some x) := by
          show (e.r.set i none)[j]? = _
          rw [List.getElem?_set_ne (Ne.symm z)]
          have : (e.r.set i (some r.ent))[j]? = some (some x) := q
          rwa [List.getElem?_set_ne (Ne.symm z)] at this
        obtain ⟨u, h1, h2⟩ := F.slot j x q'
        exact ⟨u, by rw [List.getElem?_set_ne (Ne.symm z)]; exact h1, h2.keep Le.rfl' (by simp [z]) fun _ _ => rfl⟩
    · by_cases z : j = i
      · simp [z] at q; exact ⟨(hw a q).1, (hw a q).2.1⟩
      · simp [z] at q; exact F.ofr j a q
    · by_cases z : j = i
      · by_cases y : k = i
        · exact z.trans y.symm
        · simp [z] at q1; simp [y] at q2; rw [oj k y] at q2; exact absurd q2 ((hw a q1).2.2.2 k)
      · by_cases y : k = i
        · simp [y] at q2; simp [z] at q1; rw [oj j z] at q1; exact absurd q1 ((hw a q2).2.2.2 j)
        · simp [z] at q1; simp [y] at q2; exact F.inj j k a q1 q2
    · by_cases z : j = i
      · simp [z] at q; exact (hw a q).2.2.1
      · simp [z] at q; exact F.thr j a q
  have pr : ∀ w : Option Addr, (∀ a, w = some a → v = .ref a ∧ ∀ d, r ≠ .val d) → ∀ k a, (if k = i then w else own0 k) = some a → own k = some a ∨ (v = .ref a ∧ ∀ d, r ≠ .val d) := fun w hw k a q => by
    by_cases z : k = i
    · rw [if_pos z] at q; exact .inr (hw a q)
    · rw [if_neg z, oj k z] at q; exact .inl q
  cases r with
  | val d => exact ⟨_, key none (fun a q => by cases q) h, pr none fun a q => by cases q⟩
  | fl ds =>
    obtain ⟨p, vs, rfl, h1, h2, h3, h4, h5⟩ := h
    refine ⟨_, key (some p) (fun a q => ?_) ⟨p, vs, rfl, by simp, h1, h2⟩, pr (some p) fun a q => ?_⟩
    · cases q; exact ⟨h4, h3, (by rw [h1]; exact (fun z => nomatch z)), h5⟩
    · cases q; exact ⟨rfl, fun d => (fun z => nomatch z)⟩
  | fd b kvs =>
    obtain ⟨p, rfl, h1, h3, h4, h5⟩ := h
    refine ⟨_, key (some p) (fun a q => ?_) ⟨p, rfl, by simp, h1⟩, pr (some p) fun a q => ?_⟩
    · cases q; exact ⟨h4, h3, h1.there, h5⟩
    · cases q; exact ⟨rfl, fun d => (fun z => nomatch z)⟩
/-- the cell that slot i owns is changed -/
theorem Rep.write (R : Rep K C G own e σ H) {i : Nat} {a : Addr} (ho : own i = some a) {u : HO} {x : Ent} (hi : i < e.r.length) {w : V} (hw : σ[i]? = some (some w)) (hx : SlotOk K C G own (upd H a u) i w x) : Rep K C G own (e.put i (some x)) σ (upd H a u) := by
  obtain ⟨a0, ag⟩ := R.ofr i a ho
  have ne : ∀ b o, G b = some o → b ≠ a := fun b o q z => by rw [z, ag] at q; cases q
  refine ⟨fun b o q => ?_, R.ext, R.new, fun b o q k => ?_, by simp [EE.put, R.len], fun j y q => ?_, R.ofr, R.inj, fun j b q => ?_, fun q hq => ?_⟩
  · rw [upd_ne (ne b o q)]; exact R.sub b o q
  · rw [upd_ne (fun z => by rw [z, a0] at q; cases q)]; exact R.frm b o q k
  · by_cases z : j = i
    · subst z
      have : y = x := by simp [EE.put, hi] at q; exact q.symm
      subst this
      exact ⟨w, hw, hx⟩
    · have q' : e.r[j]? = some (some y) := by
        have : (e.r.set i (some x))[j]? = some (some y) := q
        rwa [List.getElem?_set_ne (Ne.symm z)] at this
      obtain ⟨v, h1, h2⟩ := R.slot j y q'
      exact ⟨v, h1, h2.keep Le.rfl' rfl fun b hb => upd_ne fun k => z (R.inj j i a (k ▸ hb) ho)⟩
  · by_cases z : b = a
    · rw [z, upd_same]; exact fun z => nomatch z
    · rw [upd_ne z]; exact R.thr j b q
  · obtain ⟨⟨h1, h2⟩, h3, h4, h5, h6⟩ := R.src q hq
    exact ⟨⟨by rw [upd_ne (fun z => h5 (by rw [z]; exact a0))]; exact h1, by rw [upd_ne (fun z => h6 (by rw [z]; exact a0))]; exact h2⟩, h3, h4, h5, h6⟩
end
end EL
/-! EL2: the judgements of the data layer and its structural rules. -/
namespace EL
open PySem PySem.Spec PyProof.Rows L2
/-- a decided bound that nothing computes with -/
theorem hide_ex (p : Prop) [Decidable p] : ∃ b : Bool, b = decide p := ⟨_, rfl⟩
def hide (p : Prop) [Decidable p] : Bool := Classical.choose (hide_ex p)
theorem hide_eq (p : Prop) [Decidable p] : hide p = decide p := Classical.choose_spec (hide_ex p)
theorem unhide {p : Prop} [Decidable p] (h : hide p = true) : p := of_decide_eq_true ((hide_eq p).symm.trans h)
theorem hid {p : Prop} [Decidable p] (h : p) : hide p = true := (hide_eq p).trans (decide_eq_true h)
def small (n : Nat) : Bool := hide (n ≤ 16777216)
theorem small_le {n : Nat} (h : n ≤ 16777216) : small n = true := hid h
variable [KC]

abbrev FE := EE → Option (Rs × EE)
abbrev FT := EE → Option (Bool × EE)
abbrev Th := EE → Option D
abbrev FO := EE → Option (Th × EE)
abbrev FOs := EE → Option ((EE → Option (List D)) × EE)
abbrev FA := EE → Option (List D × EE)
abbrev FG := D → EE → Option EE
inductive Fl where
  | nx | rt (r : Rs) | bk | ct
abbrev FS := EE → Option (Fl × EE)

def tE (K : PySem.W.Frag) (F : FE) : TE := fun σ H Q => ∃ C G own e r e', Rep K C G own e σ H ∧ F e = some (r, e') ∧
  ∀ v G' own' H', Le G G' → Rep K C G' own' e' σ H' → RsOk K C G' own' H' v r → Q v H'
def tTst (K : PySem.W.Frag) (F : FT) : TT := fun σ H Q => ∃ C G own e b e', Rep K C G own e σ H ∧ F e = some (b, e') ∧
  ∀ G' own' H', Le G G' → Rep K C G' own' e' σ H' → Q b H'
def Good (K : PySem.W.Frag) (C : Cn) (σ : L2.St) (G : Hp) (v : V) (t : Th) : Prop :=
  ∀ G2 own2 e2 H2 d, Le G G2 → Rep K C G2 own2 e2 σ H2 → t e2 = some d → Rr K G2 H2 v d
def tO (K : PySem.W.Frag) (F : FO) : TE := fun σ H Q => ∃ C G own e t e', Rep K C G own e σ H ∧ F e = some (t, e') ∧
  ∀ v G' own' H', Le G G' → Rep K C G' own' e' σ H' → Good K C σ G' v t → Q v H'
def GoodA (K : PySem.W.Frag) (C : Cn) (σ : L2.St) (G : Hp) (vs : List V) (t : EE → Option (List D)) : Prop :=
  ∀ G2 own2 e2 H2 ds, Le G G2 → Rep K C G2 own2 e2 σ H2 → t e2 = some ds → RrA K G2 H2 vs ds
def tOs (K : PySem.W.Frag) (F : FOs) : TA := fun σ H Q => ∃ C G own e t e', Rep K C G own e σ H ∧ F e = some (t, e') ∧
  ∀ vs G' own' H', Le G G' → Rep K C G' own' e' σ H' → GoodA K C σ G' vs t → Q vs H'
def tA (K : PySem.W.Frag) (F : FA) : TA := fun σ H Q => ∃ C G own e ds e', Rep K C G own e σ H ∧ F e = some (ds, e') ∧
  ∀ vs G' own' H', Le G G' → Rep K C G' own' e' σ H' → RpA K G' vs ds → Q vs H'
def tG (K : PySem.W.Frag) (F : FG) : TG := fun v σ H Q => ∃ C G own e d e', Rep K C G own e σ H ∧ Rp K G v d ∧ F d e = some e' ∧
  ∀ σ' G' own' H', Le G G' → Rep K C G' own' e' σ' H' → Q σ' H'
def FlOk (K : PySem.W.Frag) (C : Cn) (G : Hp) (e' : EE) (D : Ends) : Fl → Prop
  | .nx => ∀ σ' G' own' H', Le G G' → Rep K C G' own' e' σ' H' → D.nx σ' H'
  | .rt r => ∀ v σ' G' own' H', Le G G' → Rep K C G' own' e' σ' H' → RsOk K C G' own' H' v r → D.rt v H'
  | .bk => ∀ σ' G' own' H', Le G G' → Rep K C G' own' e' σ' H' → D.bk σ' H'
  | .ct => ∀ σ' G' own' H', Le G G' → Rep K C G' own' e' σ' H' → D.ct σ' H'
def tS (K : PySem.W.Frag) (F : FS) : TS := fun D σ H => ∃ C G own e fl e', Rep K C G own e σ H ∧ F e = some (fl, e') ∧ FlOk K C G e' D fl

abbrev ED (X : Cx) (e : Expr) (F : FE) := PE X e (tE X.K F)
abbrev OE (X : Cx) (e : Expr) (F : FO) := PE X e (tO X.K F)
abbrev TD (X : Cx) (e : Expr) (F : FT) := PT X e (tTst X.K F)
abbrev SD (X : Cx) (s : Stmt) (F : FS) := PS X s (tS X.K F)
abbrev BD (X : Cx) (s : List Stmt) (F : FS) := PSs X s (tS X.K F)

theorem bind_some_of {α β : Type} {x : Option α} {f : α → Option β} {b : β} (h : x.bind f = some b) : ∃ a, x = some a ∧ f a = some b := by
  cases x with
  | none => cases h
  | some a => exact ⟨a, rfl, h⟩

section
variable {X : Cx} {e : Expr}
theorem peImp {t t' : TE} (h : PE X e t) (w : ∀ σ H Q, t' σ H Q → t σ H Q) : PE X e t' := ⟨fun a b c d k I q => h.run a b c d k I (w c d k q)⟩
theorem ptImp {t t' : TT} (h : PT X e t) (w : ∀ σ H Q, t' σ H Q → t σ H Q) : PT X e t' := ⟨fun a b c d k I q => h.run a b c d k I (w c d k q)⟩
theorem pwImp {t t' : TT} (h : PW X e t) (w : ∀ σ H Q, t' σ H Q → t σ H Q) : PW X e t' := ⟨fun z a b c d k I q => h.run z a b c d k I (w c d k q)⟩
theorem paImp {es : List Expr} {t t' : TA} (h : PA X es t) (w : ∀ σ H Q, t' σ H Q → t σ H Q) : PA X es t' := ⟨fun z a b c d k I q => h.run z a b c d k I (w c d k q)⟩
theorem psImp {s : Stmt} {t t' : TS} (h : PS X s t) (w : ∀ D σ H, t' D σ H → t D σ H) : PS X s t' := ⟨fun a b c d k I q => h.run a b c d k I (w k c d q)⟩
theorem pssImp {s : List Stmt} {t t' : TS} (h : PSs X s t) (w : ∀ D σ H, t' D σ H → t D σ H) : PSs X s t' := ⟨fun a b c d k I q => h.run a b c d k I (w k c d q)⟩
theorem pgImp {t t' : TG} (h : PG X e t) (w : ∀ v σ H Q, t' v σ H Q → t v σ H Q) : PG X e t' := ⟨fun a b c d v u k I r q => h.run a b c d v u k I r (w v c d k q)⟩
end

/-! ### names and constants -/
def fVar (i : Nat) : FE := fun e => match e.r[i]? with
  | some (some (.val d)) => some (.val d, e)
  | some (some (.ol ds)) => some (.val (.list ds), e.put i (some (.val (.list ds))))
  | some (some (.od b kvs)) => some (.val (.dict kvs), e.put i (some (.val (.dict kvs))))
  | _ => none
def rd (i : Nat) (e : EE) : Option D := match e.r[i]? with
  | some (some x) => x.d
  | _ => none
def fC (d : D) : FE := fun e => some (.val d, e)

section
variable {K : PySem.W.Frag} {C : Cn} {G H : Hp} {own : Nat → Option Addr} {e : EE} {σ : L2.St}
theorem ltOf {α : Type} {l : List α} {i : Nat} {x : α} (h : l[i]? = some x) : i < l.length := by
  cases Nat.lt_or_ge i l.length with
  | inl q => exact q
  | inr q => rw [List.getElem?_eq_none q] at h; cases h
/-- what a slot owns is frozen where it stands -/
theorem Rep.iceVar (R : Rep K C G own e σ H) {i : Nat} {x : Ent} (h : e.r[i]? = some (some x)) (r : Rs) (hr : x = r.ent) :
    ∃ v G' own', σ[i]? = some (some v) ∧ Le G G' ∧ Rep K C G' own' (e.put i (some (.val r.d))) σ H ∧ Rp K G' v r.d := by
  obtain ⟨v, own1, h1, R1, k1⟩ := R.hand h r hr
  obtain ⟨G', l, R2, k2⟩ := R1.frz k1
  obtain ⟨own3, R3, _⟩ := R2.store (r := .val r.d) k2 (i := i) (by have := ltOf h; simp [EE.put]; exact this)
  refine ⟨v, G', own3, h1, l, ?_, k2⟩
  have e1 : (e.put i none).put i (some (Rs.val r.d).ent) = e.put i (some (.val r.d)) := by simp [EE.put, Rs.ent]
  have e2 : σ.set i (some v) = σ := by
    apply List.ext_getElem?
    intro j
    by_cases z : j = i
    · subst z; have := ltOf h1; simp [this, h1]; exact ((List.getElem?_eq_some_iff.mp h1).2).symm
    · rw [List.getElem?_set_ne (Ne.symm z)]
  rw [e1, e2] at R3
  exact R3
/-- what is read at a name -/
theorem Rep.read (R : Rep K C G own e σ H) {i : Nat} {d : D} (h : rd i e = some d) : ∃ v, σ[i]? = some (some v) ∧ Rr K G H v d := by
  unfold rd at h
  split at h
  · rename_i x hx
    obtain ⟨v, h1, h2⟩ := R.slot i x hx
    refine ⟨v, h1, ?_⟩
    cases x with
    | val d' => cases h; exact .frz h2
    | ol ds => cases h; obtain ⟨a, vs, rfl, _, q3, q4⟩ := h2; exact .lst q3 q4
    | od b kvs => cases h; obtain ⟨a, rfl, _, q3⟩ := h2; exact .dic q3
    | src => cases h
  · cases h
end

section
variable {X : Cx}
theorem ed_var {i : Nat} {e : Expr} (h : PE X e (tVar i)) : ED X e (fVar i) := by
  refine peImp h fun σ H Q w => ?_
  obtain ⟨C, G, own, ev, r, e', R, hf, k⟩ := w
  unfold fVar at hf
  split at hf
  · rename_i d hx
    cases hf
    obtain ⟨v, h1, h2⟩ := R.slot i _ hx
    exact ⟨v, h1, k v G own H Le.rfl' R h2⟩
  · rename_i ds hx
    cases hf
    obtain ⟨v, G', own', h1, l, R', h2⟩ := R.iceVar hx (.fl ds) rfl
    exact ⟨v, h1, k v G' own' H l R' h2⟩
  · rename_i ds hx
    cases hf
    obtain ⟨v, G', own', h1, l, R', h2⟩ := R.iceVar hx (.fd _ ds) rfl
    exact ⟨v, h1, k v G' own' H l R' h2⟩
  · cases hf
/-- a value that hangs on nothing -/
theorem ed_c {e : Expr} {v : V} {d : D} (h : PE X e (tC v)) (r : ∀ G, Rp X.K G v d) : ED X e (fC d) := by
  refine peImp h fun σ H Q w => ?_
  obtain ⟨C, G, own, ev, r', e', R, hf, k⟩ := w
  cases hf
  exact k v G own H Le.rfl' R (r G)
theorem ed_int {i j pos} : ED X (.Constant (.int i) j pos) (fC (.int i)) := ed_c pe_int fun _ => .int i
theorem ed_bl {b j pos} : ED X (.Constant (.bool b) j pos) (fC (.bool b)) := ed_c pe_bl fun _ => .bl b
theorem ed_non {j pos} : ED X (.Constant .none j pos) (fC .none) := ed_c pe_non fun _ => .non
theorem ed_str {x j pos} : ED X (.Constant (.str x) j pos) (fC (.str x)) := ed_c pe_str fun _ => .str x
theorem rp_top {K : PySem.W.Frag} {v : V} {d : D} (h : Rp K (fun _ => none) v d) (G : Hp) : Rp K G v d := h.mono fun _ _ q => by cases q
theorem ed_glob {x : Str} {v : V} {u : Value} {d : D} {pos : Pos} (hg : Gl X x) (hm : X.mg x = some u) (r : RelV v u) (h : Rp X.K (fun _ => none) v d) (hd : (x == ("__debug__" : Str)) = false := by decide) : ED X (.Name x pos) (fC d) :=
  ed_c (pe_glob hg hm r hd) (rp_top h)

/-! ### operands -/
def oVal (F : FE) : FO := fun e => (F e).bind fun p => some (fun _ => some p.1.d, p.2)
def oVar (i : Nat) : FO := fun e => (rd i e).bind fun _ => some (rd i, e)
theorem oe_val {e : Expr} {F : FE} (h : ED X e F) : OE X e (oVal F) := by
  refine peImp h fun σ H Q w => ?_
  obtain ⟨C, G, own, ev, t, e', R, hf, k⟩ := w
  obtain ⟨⟨r, e1⟩, h1, h2⟩ := bind_some_of hf
  cases h2
  refine ⟨C, G, own, ev, r, e1, R, h1, fun v G' own' H' l R' ok => ?_⟩
  obtain ⟨G2, l2, R2, p⟩ := R'.frz ok
  refine k v G2 own' H' (l.tr l2) R2 fun G3 own3 e3 H3 d l3 R3 q => ?_
  cases q
  exact .frz (p.mono l3)
theorem oe_var {i : Nat} {e : Expr} (h : PE X e (tVar i)) : OE X e (oVar i) := by
  refine peImp h fun σ H Q w => ?_
  obtain ⟨C, G, own, ev, t, e', R, hf, k⟩ := w
  obtain ⟨d, h1, h2⟩ := bind_some_of hf
  cases h2
  obtain ⟨v, q1, q2⟩ := R.read h1
  refine ⟨v, q1, k v G own H Le.rfl' R fun G3 own3 e3 H3 d' l3 R3 q => ?_⟩
  obtain ⟨v', y1, y2⟩ := R3.read q
  rw [q1] at y1; cases y1
  exact y2
def oNil : FOs := fun e => some (fun _ => some [], e)
def oCons (A : FO) (B : FOs) : FOs := fun e => (A e).bind fun p => (B p.2).bind fun q => some (fun z => (p.1 z).bind fun d => (q.1 z).bind fun ds => some (d :: ds), q.2)
theorem os_nil : PA X [] (tOs X.K oNil) := by
  refine paImp pa_nil fun σ H Q w => ?_
  obtain ⟨C, G, own, ev, t, e', R, hf, k⟩ := w
  cases hf
  exact k [] G own H Le.rfl' R fun G3 own3 e3 H3 d' l3 R3 q => by cases q; exact .nil
theorem os_cons {e : Expr} {es : List Expr} {A : FO} {B : FOs} (ha : OE X e A) (hb : PA X es (tOs X.K B)) (hs : starEach (e :: es) X.env = (false, eval e X.env) :: starEach es X.env := by rfl) : PA X (e :: es) (tOs X.K (oCons A B)) := by
  refine paImp (pa_cons ha hb hs) fun σ H Q w => ?_
  obtain ⟨C, G, own, ev, t, e', R, hf, k⟩ := w
  obtain ⟨⟨t1, e1⟩, h1, h2⟩ := bind_some_of hf
  obtain ⟨⟨t2, e2⟩, h3, h4⟩ := bind_some_of h2
  cases h4
  refine ⟨C, G, own, ev, t1, e1, R, h1, fun v G1 own1 H1 l1 R1 g1 => ⟨C, G1, own1, e1, t2, e2, R1, h3, fun vs G2 own2 H2 l2 R2 g2 => k (v :: vs) G2 own2 H2 (l1.tr l2) R2 fun G3 own3 e3 H3 d l3 R3 q => ?_⟩⟩
  obtain ⟨d1, q1, q2⟩ := bind_some_of q
  obtain ⟨d2, q3, q4⟩ := bind_some_of q2
  cases q4
  exact .cons (g1 _ _ _ _ _ (l2.tr l3) R3 q1) (g2 _ _ _ _ _ l3 R3 q3)
/-- arguments that are kept: frozen -/
def aNil : FA := fun e => some ([], e)
def aCons (F : FE) (B : FA) : FA := fun e => (F e).bind fun p => (B p.2).bind fun q => some (p.1.d :: q.1, q.2)
theorem as_nil : PA X [] (tA X.K aNil) := by
  refine paImp pa_nil fun σ H Q w => ?_
  obtain ⟨C, G, own, ev, t, e', R, hf, k⟩ := w
  cases hf
  exact k [] G own H Le.rfl' R .nil
theorem as_cons {e : Expr} {es : List Expr} {A : FE} {B : FA} (ha : ED X e A) (hb : PA X es (tA X.K B)) (hs : starEach (e :: es) X.env = (false, eval e X.env) :: starEach es X.env := by rfl) : PA X (e :: es) (tA X.K (aCons A B)) := by
  refine paImp (pa_cons ha hb hs) fun σ H Q w => ?_
  obtain ⟨C, G, own, ev, t, e', R, hf, k⟩ := w
  obtain ⟨⟨t1, e1⟩, h1, h2⟩ := bind_some_of hf
  obtain ⟨⟨t2, e2⟩, h3, h4⟩ := bind_some_of h2
  cases h4
  refine ⟨C, G, own, ev, t1, e1, R, h1, fun v G1 own1 H1 l1 R1 ok => ?_⟩
  obtain ⟨Gi, li, Ri, p⟩ := R1.frz ok
  exact ⟨C, Gi, own1, e1, t2, e2, Ri, h3, fun vs G2 own2 H2 l2 R2 g2 => k (v :: vs) G2 own2 H2 (l1.tr (li.tr l2)) R2 (.cons (p.mono l2) g2)⟩
/-- the items of a walked thing: a list, a tuple -/
def seqD : D → Option (List D)
  | .list ds => some ds
  | .tuple ds => some ds
  | _ => none
theorem Rr.seq {K : PySem.W.Frag} {G H : Hp} {v : V} {d : D} {ds : List D} (l : Le G H) (h : Rr K G H v d) (s : seqD d = some ds) : ∃ p vs, v = .ref p ∧ (SqT K H p vs ∨ SqL K H p vs) ∧ RpA K G vs ds := by
  cases h with
  | frz h =>
    cases h with
    | lst h r => cases s; exact ⟨_, _, rfl, .inr (.of (l _ _ h)), r⟩
    | tup h r => cases s; exact ⟨_, _, rfl, .inl (.of (l _ _ h)), r⟩
    | kon h r c => cases s; exact ⟨_, _, rfl, .inl (sqT_top h), r⟩
    | _ => cases s
  | lst h r => cases s; exact ⟨_, _, rfl, .inr (.of h), r⟩
  | dic h => cases s
def aStar (A : FO) (B : FA) : FA := fun e => (A e).bind fun p => (p.1 p.2).bind fun d => (seqD d).bind fun ds => (B p.2).bind fun q => some (ds ++ q.1, q.2)
theorem as_star {e : Expr} {es : List Expr} {p : Pos} {A : FO} {B : FA} (ha : OE X e A) (hb : PA X es (tA X.K B)) (hs : starEach (.Starred e p :: es) X.env = (true, eval e X.env) :: starEach es X.env := by rfl) : PA X (.Starred e p :: es) (tA X.K (aStar A B)) := by
  refine paImp (StX.pa_star ha hb hs) fun σ H Q w => ?_
  obtain ⟨C, G, own, ev, t, e', R, hf, k⟩ := w
  obtain ⟨⟨t1, e1⟩, h1, h2⟩ := bind_some_of hf
  obtain ⟨d, h5, h6⟩ := bind_some_of h2
  obtain ⟨ds, h7, h8⟩ := bind_some_of h6
  obtain ⟨⟨t2, e2⟩, h3, h4⟩ := bind_some_of h8
  cases h4
  refine ⟨C, G, own, ev, t1, e1, R, h1, fun v G1 own1 H1 l1 R1 g1 => ?_⟩
  obtain ⟨q, vs, rfl, s, ra⟩ := (g1 _ _ _ _ _ Le.rfl' R1 h5).seq R1.sub h7
  exact ⟨q, vs, rfl, s, C, G1, own1, e1, t2, e2, R1, h3, fun ws G2 own2 H2 l2 R2 g2 => k (vs ++ ws) G2 own2 H2 (l1.tr l2) R2 ((ra.mono l2).append g2)⟩

/-! ### operators -/
def OpD (X : Cx) (f : Value → Value → Sem Value) (g : D → D → Option Rs) : Prop :=
  OpR X f fun x y H Q => ∃ G dx dy r, Le G H ∧ Rr X.K G H x dx ∧ Rr X.K G H y dy ∧ g dx dy = some r ∧ ∀ v H', Grow X.K G H v r H' → Q v H'
def UnD (X : Cx) (f : Value → Sem Value) (g : D → Option Rs) : Prop :=
  UnR X f fun x H Q => ∃ G dx r, Le G H ∧ Rr X.K G H x dx ∧ g dx = some r ∧ ∀ v H', Grow X.K G H v r H' → Q v H'
def CallD (X : Cx) (f : Value) (g : List D → Option Rs) : Prop :=
  CallR X f fun vs H Q => ∃ G ds r, Le G H ∧ RrA X.K G H vs ds ∧ g ds = some r ∧ ∀ v H', Grow X.K G H v r H' → Q v H'
def eBin (g : D → D → Option Rs) (A B : FO) : FE := fun e => (A e).bind fun p => (B p.2).bind fun q => (p.1 q.2).bind fun x => (q.1 q.2).bind fun y => (g x y).bind fun r => some (r, q.2)
def eUn (g : D → Option Rs) (A : FO) : FE := fun e => (A e).bind fun p => (p.1 p.2).bind fun x => (g x).bind fun r => some (r, p.2)
def eB (g : List D → Option Rs) (A : FOs) : FE := fun e => (A e).bind fun p => (p.1 p.2).bind fun x => (g x).bind fun r => some (r, p.2)
theorem bin_imp {K : PySem.W.Frag} {g : D → D → Option Rs} {A B : FO} {σ : L2.St} {H : Hp} {Q : VK} (w : tE K (eBin g A B) σ H Q) :
    tOp (fun x y H Q => ∃ G dx dy r, Le G H ∧ Rr K G H x dx ∧ Rr K G H y dy ∧ g dx dy = some r ∧ ∀ v H', Grow K G H v r H' → Q v H') (tO K A) (tO K B) σ H Q := by
  obtain ⟨C, G, own, ev, r, e', R, hf, k⟩ := w
  obtain ⟨⟨t1, e1⟩, h1, h2⟩ := bind_some_of hf
  obtain ⟨⟨t2, e2⟩, h3, h4⟩ := bind_some_of h2
  obtain ⟨x, h5, h6⟩ := bind_some_of h4
  obtain ⟨y, h7, h8⟩ := bind_some_of h6
  obtain ⟨r', h9, hx⟩ := bind_some_of h8
  cases hx
  refine ⟨C, G, own, ev, t1, e1, R, h1, fun v G1 own1 H1 l1 R1 g1 => ⟨C, G1, own1, e1, t2, e2, R1, h3, fun u G2 own2 H2 l2 R2 g2 => ?_⟩⟩
  refine ⟨G2, x, y, r, R2.sub, g1 _ _ _ _ _ l2 R2 h5, g2 _ _ _ _ _ Le.rfl' R2 h7, h9, fun z H3 gr => ?_⟩
  obtain ⟨G3, l3, R3, ok⟩ := R2.grow gr
  exact k z G3 own2 H3 (l1.tr (l2.tr l3)) R3 ok
theorem ed_bin {a b : Expr} {op : Operator} {pos : Pos} {A B : FO} {g : D → D → Option Rs} (ho : OpD X (binaryOp op) g) (ha : OE X a A) (hb : OE X b B) : ED X (.BinOp a op b pos) (eBin g A B) :=
  peImp (pe_op ho ha hb) fun _ _ _ w => bin_imp w
theorem ed_cmp {a b : Expr} {op : CmpOp} {pos : Pos} {A B : FO} {g : D → D → Option Rs} (ho : OpD X (compareOp op) g) (ha : OE X a A) (hb : OE X b B) (hm : behindInMarks op b = false) : ED X (.Compare a [op] [b] pos) (eBin g A B) :=
  peImp (pe_cmpR ho ha hb hm) fun _ _ _ w => bin_imp w
theorem ed_ix {a b : Expr} {pos : Pos} {A B : FO} {g : D → D → Option Rs} {r : R2} (hr : ∀ (ta tb : TE), PE X a ta → PE X b tb → PE X (.Subscript a b pos) (tOp r ta tb))
    (hi : ∀ x y H Q, (∃ G dx dy r', Le G H ∧ Rr X.K G H x dx ∧ Rr X.K G H y dy ∧ g dx dy = some r' ∧ ∀ v H', Grow X.K G H v r' H' → Q v H') → r x y H Q) (ha : OE X a A) (hb : OE X b B) : ED X (.Subscript a b pos) (eBin g A B) := by
  refine peImp (hr _ _ ha hb) fun σ H Q w => ?_
  have z := bin_imp w
  obtain ⟨C, G, own, ev, t, e', R, hf, k⟩ := z
  refine ⟨C, G, own, ev, t, e', R, hf, fun v G' own' H' l R' g => ?_⟩
  obtain ⟨C, G, own, ev, t, e', R, hf, k⟩ := k v G' own' H' l R' g
  exact ⟨C, G, own, ev, t, e', R, hf, fun v G' own' H' l R' g => hi _ _ _ _ (k v G' own' H' l R' g)⟩
theorem ed_un {a : Expr} {op : UnaryOp} {pos : Pos} {A : FO} {g : D → Option Rs} (ho : UnD X (unaryOp op) g) (ha : OE X a A) : ED X (.UnaryOp op a pos) (eUn g A) := by
  refine peImp (pe_un ho ha) fun σ H Q w => ?_
  obtain ⟨C, G, own, ev, r, e', R, hf, k⟩ := w
  obtain ⟨⟨t1, e1⟩, h1, h2⟩ := bind_some_of hf
  obtain ⟨x, h5, h6⟩ := bind_some_of h2
  obtain ⟨r', h9, hx⟩ := bind_some_of h6
  cases hx
  refine ⟨C, G, own, ev, t1, e1, R, h1, fun v G1 own1 H1 l1 R1 g1 => ?_⟩
  refine ⟨G1, x, r, R1.sub, g1 _ _ _ _ _ Le.rfl' R1 h5, h9, fun z H3 gr => ?_⟩
  obtain ⟨G3, l3, R3, ok⟩ := R1.grow gr
  exact k z G3 own1 H3 (l1.tr l3) R3 ok
theorem call_imp {K : PySem.W.Frag} {g : List D → Option Rs} {A : FOs} {σ : L2.St} {H : Hp} {Q : VK} (w : tE K (eB g A) σ H Q) :
    tCB (fun vs H Q => ∃ G ds r, Le G H ∧ RrA K G H vs ds ∧ g ds = some r ∧ ∀ v H', Grow K G H v r H' → Q v H') (tOs K A) σ H Q := by
  obtain ⟨C, G, own, ev, r, e', R, hf, k⟩ := w
  obtain ⟨⟨t1, e1⟩, h1, h2⟩ := bind_some_of hf
  obtain ⟨x, h5, h6⟩ := bind_some_of h2
  obtain ⟨r', h9, hx⟩ := bind_some_of h6
  cases hx
  refine ⟨C, G, own, ev, t1, e1, R, h1, fun vs G1 own1 H1 l1 R1 g1 => ?_⟩
  refine ⟨G1, x, r, R1.sub, g1 _ _ _ _ _ Le.rfl' R1 h5, h9, fun z H3 gr => ?_⟩
  obtain ⟨G3, l3, R3, ok⟩ := R1.grow gr
  exact k z G3 own1 H3 (l1.tr l3) R3 ok
theorem ed_callB {x : Str} {p pos : Pos} {e : Expr} {es : List Expr} {A : FOs} {id : String} {g : List D → Option Rs} (hc : CallD X (.builtin id) g) (hg : Gl X x) (hm : X.mg x = none) (hv : bootBuiltins x = some (.builtin id)) (ha : PA X (e :: es) (tOs X.K A))
    (hn : x ≠ "__name__" := by decide) (hdb : (x == ("__debug__" : Str)) = false := by decide) (he : starEach (e :: es) X.env = (false, eval e X.env) :: starEach es X.env := by rfl) (hpl : (backTo pos (starEach es X.env)).any (·.1) = false := by rfl) :
    ED X (.Call (.Name x p) (e :: es) [] pos) (eB g A) := peImp (pe_callB hc hg hm hv ha hn hdb he hpl) fun _ _ _ w => call_imp w
theorem ed_callTy {x : Str} {p pos : Pos} {e : Expr} {es : List Expr} {A : FOs} {id : String} {g : List D → Option Rs} (hc : CallD X (.type id) g) (hg : Gl X x) (hm : X.mg x = none) (hv : bootBuiltins x = some (.type id)) (ha : PA X (e :: es) (tOs X.K A))
    (hn : x ≠ "__name__" := by decide) (hdb : (x == ("__debug__" : Str)) = false := by decide) (he : starEach (e :: es) X.env = (false, eval e X.env) :: starEach es X.env := by rfl) (hpl : (backTo pos (starEach es X.env)).any (·.1) = false := by rfl) :
    ED X (.Call (.Name x p) (e :: es) [] pos) (eB g A) := peImp (pe_callTy hc hg hm hv ha hn hdb he hpl) fun _ _ _ w => call_imp w

/-! ### displays -/
def eTup (A : FA) : FE := fun e => (A e).bind fun p => if small p.1.length = true then some (.val (.tuple p.1), p.2) else none
def eLst (A : FA) : FE := fun e => (A e).bind fun p => if small p.1.length = true then some (.fl p.1, p.2) else none
theorem line_of {n : Nat} (h : small n = true) : n ≤ sizeLine := by rw [sizeLine_eq]; exact unhide h
theorem ed_tup {es : List Expr} {x1} {pos : Pos} {A : FA} (h : PA X es (tA X.K A)) : ED X (.Tuple es x1 pos) (eTup A) := by
  refine peImp (pe_tup h) fun σ H Q w => ?_
  obtain ⟨C, G, own, ev, r, e', R, hf, k⟩ := w
  obtain ⟨⟨ds, e1⟩, h1, h2⟩ := bind_some_of hf
  split at h2
  · rename_i hz
    cases h2
    refine ⟨C, G, own, ev, ds, e1, R, h1, fun vs G1 own1 H1 l1 R1 ra => ⟨by rw [ra.length]; exact line_of hz, fun p hp => ?_⟩⟩
    obtain ⟨G3, l3, R3, ok⟩ := R1.grow (.tup hp ra)
    exact k _ G3 own1 _ (l1.tr l3) R3 ok
  · cases h2
theorem ed_lst {es : List Expr} {pos : Pos} {A : FA} (h : PA X es (tA X.K A)) : ED X (.List es pos) (eLst A) := by
  refine peImp (pe_lst h) fun σ H Q w => ?_
  obtain ⟨C, G, own, ev, r, e', R, hf, k⟩ := w
  obtain ⟨⟨ds, e1⟩, h1, h2⟩ := bind_some_of hf
  split at h2
  · rename_i hz
    cases h2
    refine ⟨C, G, own, ev, ds, e1, R, h1, fun vs G1 own1 H1 l1 R1 ra => ⟨by rw [ra.length]; exact line_of hz, fun p hp => ?_⟩⟩
    obtain ⟨G3, l3, R3, ok⟩ := R1.grow (.lst hp ra)
    exact k _ G3 own1 _ (l1.tr l3) R3 ok
  · cases h2

/-! ### tests -/
def tOf (F : FE) : FT := fun e => (F e).bind fun p => match p.1 with
  | .val (.bool b) => some (b, p.2)
  | _ => none
theorem tOf_some {F : FE} {e e' : EE} {b : Bool} (h : tOf F e = some (b, e')) : F e = some (.val (.bool b), e') := by
  obtain ⟨⟨r, e1⟩, h1, h2⟩ := bind_some_of h
  rw [h1]
  split at h2
  · rename_i c hc
    cases h2
    rw [show r = .val (.bool b) from hc]
  · cases h2
theorem tof_imp {K : PySem.W.Frag} {F : FE} {σ : L2.St} {H : Hp} {Q : Bool → Hp → Prop} (w : tTst K (tOf F) σ H Q) : tE K F σ H fun x H' => ∃ k, x = .bl k ∧ Q k H' := by
  obtain ⟨C, G, own, ev, b, e', R, hf, k⟩ := w
  refine ⟨C, G, own, ev, _, e', R, tOf_some hf, fun v G' own' H' l R' ok => ?_⟩
  have ok : Rp K G' v (.bool b) := ok
  cases ok
  exact ⟨b, rfl, k G' own' H' l R'⟩
theorem td_val {e : Expr} {F : FE} (h : ED X e F) (he : ∀ whole, isTrue e X.env whole = (do let v ← whole; standAt e.pos; holding [v] (truthy v)) := by intro _; rfl) : TD X e (tOf F) :=
  ptImp (pt_val h he) fun _ _ _ w => tof_imp w
theorem td_cmp {a b : Expr} {op : CmpOp} {pos : Pos} {A B : FO} {g : D → D → Option Rs} (ho : OpD X (compareOp op) g) (ha : OE X a A) (hb : OE X b B) (hm : behindInMarks op b = false) : TD X (.Compare a [op] [b] pos) (tOf (eBin g A B)) :=
  ptImp (pt_cmpR ho ha hb hm) fun _ _ _ w => bin_imp (tof_imp w)
def tAnd (A B : FT) : FT := fun e => (A e).bind fun p => if p.1 = true then B p.2 else some (false, p.2)
def tOr (A B : FT) : FT := fun e => (A e).bind fun p => if p.1 = true then some (true, p.2) else B p.2
def tNot (A : FT) : FT := fun e => (A e).bind fun p => some (!p.1, p.2)
theorem td_not {a : Expr} {pos : Pos} {A : FT} (h : TD X a A) : TD X (.UnaryOp .Not a pos) (tNot A) := by
  refine ptImp (pt_not h) fun σ H Q w => ?_
  obtain ⟨C, G, own, ev, b, e', R, hf, k⟩ := w
  obtain ⟨⟨c, e1⟩, h1, h2⟩ := bind_some_of hf
  cases h2
  exact ⟨C, G, own, ev, c, e1, R, h1, k⟩
abbrev WD (X : Cx) (e : Expr) (F : FT) := PW X e (tTst X.K F)
theorem wd_and {a b : Expr} {rest : List Expr} {pos : Pos} {A B : FT} (ha : TD X a A) (hb : WD X (.BoolOp .And (b :: rest) pos) B) : WD X (.BoolOp .And (a :: b :: rest) pos) (tAnd A B) := by
  refine pwImp (pw_and ha hb) fun σ H Q w => ?_
  obtain ⟨C, G, own, ev, c, e', R, hf, k⟩ := w
  obtain ⟨⟨d, e1⟩, h1, h2⟩ := bind_some_of hf
  refine ⟨C, G, own, ev, d, e1, R, h1, fun G1 own1 H1 l1 R1 => ?_⟩
  cases d with
  | true => exact iteT ⟨C, G1, own1, e1, c, e', R1, h2, fun G2 own2 H2 l2 R2 => k G2 own2 H2 (l1.tr l2) R2⟩
  | false => cases h2; exact iteF (k G1 own1 H1 l1 R1)
theorem wd_or {a b : Expr} {rest : List Expr} {pos : Pos} {A B : FT} (ha : TD X a A) (hb : WD X (.BoolOp .Or (b :: rest) pos) B) : WD X (.BoolOp .Or (a :: b :: rest) pos) (tOr A B) := by
  refine pwImp (pw_or ha hb) fun σ H Q w => ?_
  obtain ⟨C, G, own, ev, c, e', R, hf, k⟩ := w
  obtain ⟨⟨d, e1⟩, h1, h2⟩ := bind_some_of hf
  refine ⟨C, G, own, ev, d, e1, R, h1, fun G1 own1 H1 l1 R1 => ?_⟩
  cases d with
  | false => exact iteF ⟨C, G1, own1, e1, c, e', R1, h2, fun G2 own2 H2 l2 R2 => k G2 own2 H2 (l1.tr l2) R2⟩
  | true => cases h2; exact iteT (k G1 own1 H1 l1 R1)
theorem wd_and1 {a : Expr} {pos : Pos} {A : FT} (h : TD X a A) : WD X (.BoolOp .And [a] pos) A := pw_and1 h
theorem wd_or1 {a : Expr} {pos : Pos} {A : FT} (h : TD X a A) : WD X (.BoolOp .Or [a] pos) A := pw_or1 h
/-- and, or of truth values as values -/
def eAnd (A B : FE) : FE := fun e => (A e).bind fun p => match p.1 with
  | .val (.bool true) => B p.2
  | .val (.bool false) => some (.val (.bool false), p.2)
  | _ => none
def eOr (A B : FE) : FE := fun e => (A e).bind fun p => match p.1 with
  | .val (.bool false) => B p.2
  | .val (.bool true) => some (.val (.bool true), p.2)
  | _ => none
def eNot (A : FE) : FE := fun e => (A e).bind fun p => match p.1 with
  | .val (.bool b) => some (.val (.bool !b), p.2)
  | _ => none
theorem ed_one {a : Expr} {op} {pos : Pos} {A : FE} (h : ED X a A) : ED X (.BoolOp op [a] pos) A := pe_one h
theorem ed_and {a b : Expr} {rest : List Expr} {pos : Pos} {A B : FE} (ha : ED X a A) (hb : ED X (.BoolOp .And (b :: rest) pos) B) : ED X (.BoolOp .And (a :: b :: rest) pos) (eAnd A B) := by
  refine peImp (pe_and ha hb) fun σ H Q w => ?_
  obtain ⟨C, G, own, ev, r, e', R, hf, k⟩ := w
  obtain ⟨⟨d, e1⟩, h1, h2⟩ := bind_some_of hf
  refine ⟨C, G, own, ev, d, e1, R, h1, fun v G1 own1 H1 l1 R1 ok => ?_⟩
  dsimp only at h2
  split at h2
  · have ok : Rp X.K G1 v (.bool true) := ok
    cases ok
    exact ⟨true, rfl, iteT ⟨C, G1, own1, e1, r, e', R1, h2, fun v2 G2 own2 H2 l2 R2 => k v2 G2 own2 H2 (l1.tr l2) R2⟩⟩
  · cases h2
    have ok : Rp X.K G1 v (.bool false) := ok
    cases ok
    exact ⟨false, rfl, iteF (k _ G1 own1 H1 l1 R1 (Rp.bl false))⟩
  · cases h2
theorem ed_or {a b : Expr} {rest : List Expr} {pos : Pos} {A B : FE} (ha : ED X a A) (hb : ED X (.BoolOp .Or (b :: rest) pos) B) : ED X (.BoolOp .Or (a :: b :: rest) pos) (eOr A B) := by
  refine peImp (pe_or ha hb) fun σ H Q w => ?_
  obtain ⟨C, G, own, ev, r, e', R, hf, k⟩ := w
  obtain ⟨⟨d, e1⟩, h1, h2⟩ := bind_some_of hf
  refine ⟨C, G, own, ev, d, e1, R, h1, fun v G1 own1 H1 l1 R1 ok => ?_⟩
  dsimp only at h2
  split at h2
  · have ok : Rp X.K G1 v (.bool false) := ok
    cases ok
    exact ⟨false, rfl, iteF ⟨C, G1, own1, e1, r, e', R1, h2, fun v2 G2 own2 H2 l2 R2 => k v2 G2 own2 H2 (l1.tr l2) R2⟩⟩
  · cases h2
    have ok : Rp X.K G1 v (.bool true) := ok
    cases ok
    exact ⟨true, rfl, iteT (k _ G1 own1 H1 l1 R1 (Rp.bl true))⟩
  · cases h2
theorem ed_not {a : Expr} {pos : Pos} {A : FE} (ha : ED X a A) : ED X (.UnaryOp .Not a pos) (eNot A) := by
  refine peImp (pe_not ha) fun σ H Q w => ?_
  obtain ⟨C, G, own, ev, r, e', R, hf, k⟩ := w
  obtain ⟨⟨d, e1⟩, h1, h2⟩ := bind_some_of hf
  refine ⟨C, G, own, ev, d, e1, R, h1, fun v G1 own1 H1 l1 R1 ok => ?_⟩
  dsimp only at h2
  split at h2
  · rename_i b
    cases h2
    have ok : Rp X.K G1 v (.bool b) := ok
    cases ok
    exact ⟨b, rfl, k _ G1 own1 H1 l1 R1 (Rp.bl (!b))⟩
  · cases h2
def eIf (T : FT) (A B : FE) : FE := fun e => (T e).bind fun p => if p.1 = true then A p.2 else B p.2
theorem ed_if {c a b : Expr} {pos : Pos} {T : FT} {A B : FE} (hc : TD X c T) (ha : ED X a A) (hb : ED X b B) : ED X (.IfExp c a b pos) (eIf T A B) := by
  refine peImp (pe_ifExp hc ha hb) fun σ H Q w => ?_
  obtain ⟨C, G, own, ev, r, e', R, hf, k⟩ := w
  obtain ⟨⟨d, e1⟩, h1, h2⟩ := bind_some_of hf
  refine ⟨C, G, own, ev, d, e1, R, h1, fun G1 own1 H1 l1 R1 => ?_⟩
  cases d with
  | true => exact iteT ⟨C, G1, own1, e1, r, e', R1, h2, fun v2 G2 own2 H2 l2 R2 => k v2 G2 own2 H2 (l1.tr l2) R2⟩
  | false => exact iteF ⟨C, G1, own1, e1, r, e', R1, h2, fun v2 G2 own2 H2 l2 R2 => k v2 G2 own2 H2 (l1.tr l2) R2⟩
end
end EL
/-! EL3: statements, targets, loops. -/
namespace EL
open PySem PySem.Spec PyProof.Rows L2
variable [KC]

section
variable {K : PySem.W.Frag} {C : Cn} {G G' H : Hp} {own : Nat → Option Addr} {e e' : EE} {σ : L2.St} {D : Ends} {v : V} {r : Rs}
theorem FlOk.le (l : Le G G') {fl : Fl} (h : FlOk K C G e' D fl) : FlOk K C G' e' D fl := by
  cases fl with
  | nx => exact fun σ' G2 own2 H2 l2 R2 => h σ' G2 own2 H2 (l.tr l2) R2
  | rt r => exact fun v σ' G2 own2 H2 l2 R2 => h v σ' G2 own2 H2 (l.tr l2) R2
  | bk => exact fun σ' G2 own2 H2 l2 R2 => h σ' G2 own2 H2 (l.tr l2) R2
  | ct => exact fun σ' G2 own2 H2 l2 R2 => h σ' G2 own2 H2 (l.tr l2) R2
theorem RsOk.le {C' : Cn} {own' : Nat → Option Addr} {H' : Hp} (l : Le G G') (h : RsOk K C G own H v r)
    (k : ∀ p u, v = .ref p → G p = none → C.H0 p = none → (∀ i, own i ≠ some p) → H p = some u → H' p = some u ∧ G' p = none ∧ C'.H0 p = none ∧ ∀ i, own' i ≠ some p) : RsOk K C' G' own' H' v r := by
  cases r with
  | val d => exact Rp.mono l h
  | fl ds =>
    obtain ⟨p, vs, rfl, h1, h2, h3, h4, h5⟩ := h
    obtain ⟨q1, q2, q3, q4⟩ := k p _ rfl h3 h4 h5 h1
    exact ⟨p, vs, rfl, q1, h2.mono l, q2, q3, q4⟩
  | fd b kvs =>
    obtain ⟨p, rfl, h1, h3, h4, h5⟩ := h
    cases z : H p with
    | none => exact absurd z h1.there
    | some u =>
      obtain ⟨q1, q2, q3, q4⟩ := k p _ rfl h3 h4 h5 z
      exact ⟨p, rfl, h1.mono l (q1.trans z.symm), q2, q3, q4⟩
/-- a result is kept aside while another thing is run -/
theorem Rep.aside (R : Rep K C G own e σ H) (h : RsOk K C G own H v r) : ∃ C', C'.so = C.so ∧ (∀ a, C.H0 a ≠ none → C'.H0 a ≠ none) ∧ (∀ p, v = .ref p → (∀ d, r ≠ .val d) → C'.H0 p ≠ none) ∧ Rep K C' G own e σ H ∧
    ∀ G' own' e' σ' H', Le G G' → Rep K C' G' own' e' σ' H' → Rep K C G' own' e' σ' H' ∧ RsOk K C G' own' H' v r := by
  have cellCase : ∀ p u, v = .ref p → H p = some u → G p = none → C.H0 p = none → (∀ i, own i ≠ some p) → (∀ q, C.so = some q → p ≠ q.1 ∧ p ≠ q.2) →
      (∀ G' own' H', Le G G' → H' p = some u → G' p = none → (∀ i, own' i ≠ some p) → RsOk K C G' own' H' v r) →
      ∃ C', C'.so = C.so ∧ (∀ a, C.H0 a ≠ none → C'.H0 a ≠ none) ∧ (∀ p, v = .ref p → (∀ d, r ≠ .val d) → C'.H0 p ≠ none) ∧ Rep K C' G own e σ H ∧ ∀ G' own' e' σ' H', Le G G' → Rep K C' G' own' e' σ' H' → Rep K C G' own' e' σ' H' ∧ RsOk K C G' own' H' v r := by
    intro p u hv hu hg h0 ho hs back
    have g0 : C.G0 p = none := by
      cases z : C.G0 p with
      | none => rfl
      | some o => rw [R.ext p o z] at hg; cases hg
    refine ⟨⟨upd C.H0 p u, C.G0, C.so⟩, rfl, fun a ha => ?_, fun q hq _ => ?_, ⟨R.sub, R.ext, fun a ha => ?_, fun a o q k => ?_, R.len, R.slot, fun i a q => ?_, R.inj, R.thr, fun q hq => ?_⟩, fun G' own' e' σ' H' l R' => ?_⟩
    · show upd C.H0 p u a ≠ none
      by_cases z : a = p
      · rw [z, upd_same]; exact (fun z => nomatch z)
      · rw [upd_ne z]; exact ha
    · rw [hv] at hq; cases hq; show upd C.H0 p u p ≠ none; rw [upd_same]; exact (fun z => nomatch z)
    · rcases R.new a ha with z | z
      · exact .inl z
      · refine .inr ?_
        have y : a ≠ p := fun y => ha (by rw [y]; exact hg)
        show upd C.H0 p u a = none
        rw [upd_ne y]; exact z
    · have q : upd C.H0 p u a = some o := q
      by_cases z : a = p
      · subst z; rw [upd_same] at q; cases q; exact hu
      · rw [upd_ne z] at q; exact R.frm a o q k
    · refine ⟨?_, (R.ofr i a q).2⟩
      have y : a ≠ p := fun y => ho i (by rw [← y]; exact q)
      show upd C.H0 p u a = none
      rw [upd_ne y]; exact (R.ofr i a q).1
    · obtain ⟨s1, s2, s3, s4, s5⟩ := R.src q hq
      have n := hs q hq
      exact ⟨s1, s2, s3, by show upd C.H0 p u q.1 ≠ none; rw [upd_ne (Ne.symm n.1)]; exact s4, by show upd C.H0 p u q.2 ≠ none; rw [upd_ne (Ne.symm n.2)]; exact s5⟩
    · have hp : H' p = some u := R'.frm p u upd_same hs
      have gp : G' p = none := by
        cases z : G' p with
        | none => rfl
        | some o =>
          rcases R'.new p (by rw [z]; exact (fun z => nomatch z)) with y | y
          · exact absurd g0 y
          · have y : upd C.H0 p u p = none := y
            rw [upd_same] at y; cases y
      have op : ∀ i, own' i ≠ some p := fun i z => by
        have y : upd C.H0 p u p = none := (R'.ofr i p z).1
        rw [upd_same] at y; cases y
      refine ⟨⟨R'.sub, R'.ext, fun a ha => ?_, fun a o q k => ?_, R'.len, R'.slot, fun i a q => ?_, R'.inj, R'.thr, fun q hq => ?_⟩, back G' own' H' l hp gp op⟩
      · rcases R'.new a ha with z | z
        · exact .inl z
        · have z : upd C.H0 p u a = none := z
          have y : a ≠ p := fun y => ha (by rw [y]; exact gp)
          rw [upd_ne y] at z; exact .inr z
      · refine R'.frm a o ?_ k
        show upd C.H0 p u a = some o
        rw [upd_ne (fun y => by rw [y, h0] at q; cases q)]; exact q
      · refine ⟨?_, (R'.ofr i a q).2⟩
        have y : upd C.H0 p u a = none := (R'.ofr i a q).1
        have z : a ≠ p := fun z => op i (by rw [← z]; exact q)
        rw [upd_ne z] at y; exact y
      · obtain ⟨s1, s2, s3, s4, s5⟩ := R'.src q hq
        have n := hs q hq
        have s4 : upd C.H0 p u q.1 ≠ none := s4
        have s5 : upd C.H0 p u q.2 ≠ none := s5
        rw [upd_ne (Ne.symm n.1)] at s4
        rw [upd_ne (Ne.symm n.2)] at s5
        exact ⟨s1, s2, s3, s4, s5⟩
  have ns : ∀ p, C.H0 p = none → ∀ q, C.so = some q → p ≠ q.1 ∧ p ≠ q.2 := fun p h0 q hq => ⟨fun z => (R.src q hq).2.2.2.1 (z ▸ h0), fun z => (R.src q hq).2.2.2.2 (z ▸ h0)⟩
  cases r with
  | val d => exact ⟨C, rfl, fun _ h => h, fun _ _ n => absurd rfl (n d), R, fun G' own' e' σ' H' l R' => ⟨R', Rp.mono l h⟩⟩
  | fl ds =>
    obtain ⟨p, vs, rfl, h1, h2, h3, h4, h5⟩ := h
    exact cellCase p _ rfl h1 h3 h4 h5 (ns p h4) fun G' own' H' l y1 y2 y3 => ⟨p, vs, rfl, y1, h2.mono l, y2, h4, y3⟩
  | fd b kvs =>
    obtain ⟨p, rfl, h1, h3, h4, h5⟩ := h
    cases z : H p with
    | none => exact absurd z h1.there
    | some u => exact cellCase p u rfl z h3 h4 h5 (ns p h4) fun G' own' H' l y1 y2 y3 => ⟨p, rfl, h1.mono l (y1.trans z.symm), y2, h4, y3⟩
end

/-! ### small statements -/
def sNx : FS := fun e => some (.nx, e)
def sBk : FS := fun e => some (.bk, e)
def sCt : FS := fun e => some (.ct, e)
def bCons (A B : FS) : FS := fun e => (A e).bind fun p => match p.1 with
  | .nx => B p.2
  | .rt r => some (.rt r, p.2)
  | .bk => some (.bk, p.2)
  | .ct => some (.ct, p.2)
def sSet (i : Nat) (F : FE) : FS := fun e => (F e).bind fun p => if i < p.2.r.length then some (.nx, p.2.put i (some p.1.ent)) else none
def sRet (F : FE) : FS := fun e => (F e).bind fun p => some (.rt p.1, p.2)
def sRetN : FS := fun e => some (.rt (.val .none), e)
def sDrop (F : FE) : FS := fun e => (F e).bind fun p => some (.nx, p.2)
def sIf (T : FT) (A B : FS) : FS := fun e => (T e).bind fun p => if p.1 = true then A p.2 else B p.2
/-- return x, x a name: what it owns goes out -/
def sRetV (i : Nat) : FS := fun e => match e.r[i]? with
  | some (some (.val d)) => some (.rt (.val d), e.put i none)
  | some (some (.ol ds)) => some (.rt (.fl ds), e.put i none)
  | some (some (.od b kvs)) => some (.rt (.fd b kvs), e.put i none)
  | _ => none

section
variable {X : Cx} {s : Stmt} {ss : List Stmt} {x : Expr} {pos : Pos} {A B : FS}
theorem bd_nil : BD X [] sNx := by
  refine pssImp pss_nil fun D σ H w => ?_
  obtain ⟨C, G, own, ev, fl, e', R, hf, k⟩ := w
  cases hf
  exact k σ G own H Le.rfl' R
theorem bd_one (h : SD X s A) : BD X [s] A := pss_one h
theorem bd_cons (ha : SD X s A) (hb : BD X ss B) : BD X (s :: ss) (bCons A B) := by
  refine pssImp (pss_cons ha hb) fun D σ H w => ?_
  obtain ⟨C, G, own, ev, fl, e', R, hf, k⟩ := w
  obtain ⟨⟨f1, e1⟩, h1, h2⟩ := bind_some_of hf
  refine ⟨C, G, own, ev, f1, e1, R, h1, ?_⟩
  cases f1 with
  | nx => exact fun σ' G' own' H' l R' => ⟨C, G', own', e1, fl, e', R', h2, k.le l⟩
  | rt r => cases h2; exact k
  | bk => cases h2; exact k
  | ct => cases h2; exact k
theorem sd_pass : SD X (.Pass pos) sNx := by
  refine psImp ps_pass fun D σ H w => ?_
  obtain ⟨C, G, own, ev, fl, e', R, hf, k⟩ := w
  cases hf
  exact k σ G own H Le.rfl' R
theorem sd_break : SD X (.Break pos) sBk := by
  refine psImp ps_break fun D σ H w => ?_
  obtain ⟨C, G, own, ev, fl, e', R, hf, k⟩ := w
  cases hf
  exact k σ G own H Le.rfl' R
theorem sd_continue : SD X (.Continue pos) sCt := by
  refine psImp ps_continue fun D σ H w => ?_
  obtain ⟨C, G, own, ev, fl, e', R, hf, k⟩ := w
  cases hf
  exact k σ G own H Le.rfl' R
/-- a result goes to a name -/
theorem set_imp {K : PySem.W.Frag} {i : Nat} {F : FE} {D : Ends} {σ : L2.St} {H : Hp} (w : tS K (sSet i F) D σ H) : tAsg (tE K F) (gName i) D σ H := by
  obtain ⟨C, G, own, ev, fl, e', R, hf, k⟩ := w
  obtain ⟨⟨r, e1⟩, h1, h2⟩ := bind_some_of hf
  dsimp only at h2
  split at h2
  · rename_i hi
    cases h2
    refine ⟨C, G, own, ev, r, e1, R, h1, fun v G' own' H' l R' ok => ?_⟩
    obtain ⟨own2, R2, _⟩ := R'.store ok hi
    exact k _ G' own2 H' l R2
  · cases h2
theorem sd_set {i : Nat} {y : Str} {e : Expr} {F : FE} {pos' : Pos} (hN : X.N.Nodup) (hi : X.N[i]? = some y) (hx : Loc X.env.scope y) (he : ED X e F) (hs : swapsWith e (some (.Name y pos')) pos.line X.env = pure false := by rfl)
    (hf : X.fn y = true ∨ X.env.scope.names.lookup y = some .local := by first | exact .inl rfl | exact .inr rfl | assumption) : SD X (.Assign [.Name y pos'] e pos) (sSet i F) :=
  psImp (ps_set hN hi hx he hs hf) fun _ _ _ w => set_imp w
theorem sd_ret {F : FE} (h : ED X x F) : SD X (.Return (some x) pos) (sRet F) := by
  refine psImp (ps_ret h) fun D σ H w => ?_
  obtain ⟨C, G, own, ev, fl, e', R, hf, k⟩ := w
  obtain ⟨⟨r, e1⟩, h1, h2⟩ := bind_some_of hf
  cases h2
  exact ⟨C, G, own, ev, r, e1, R, h1, fun v G' own' H' l R' ok => k v σ G' own' H' l R' ok⟩
theorem sd_retN : SD X (.Return none pos) sRetN := by
  refine psImp ps_retN fun D σ H w => ?_
  obtain ⟨C, G, own, ev, fl, e', R, hf, k⟩ := w
  cases hf
  exact k .non σ G own H Le.rfl' R Rp.non
theorem sd_retV {i : Nat} (h : PE X x (tVar i)) : SD X (.Return (some x) pos) (sRetV i) := by
  refine psImp (ps_ret h) fun D σ H w => ?_
  obtain ⟨C, G, own, ev, fl, e', R, hf, k⟩ := w
  have key : ∀ (y : Ent) (r : Rs), ev.r[i]? = some (some y) → y = r.ent → FlOk X.K C G (ev.put i none) D (.rt r) → tRet (tVar i) D σ H := fun y r hy hr k => by
    obtain ⟨v, own', h1, R', ok⟩ := R.hand hy r hr
    exact ⟨v, h1, k v σ G own' H Le.rfl' R' ok⟩
  unfold sRetV at hf
  split at hf
  · rename_i hx; cases hf; exact key _ (.val _) hx rfl k
  · rename_i hx; cases hf; exact key _ (.fl _) hx rfl k
  · rename_i hx; cases hf; exact key _ (.fd _ _) hx rfl k
  · cases hf
theorem sd_expr {F : FE} (h : ED X x F) (hs : swapsWith x none pos.line X.env = pure false := by rfl) : SD X (.Expr x pos) (sDrop F) := by
  refine psImp (ps_expr h hs) fun D σ H w => ?_
  obtain ⟨C, G, own, ev, fl, e', R, hf, k⟩ := w
  obtain ⟨⟨r, e1⟩, h1, h2⟩ := bind_some_of hf
  cases h2
  exact ⟨C, G, own, ev, r, e1, R, h1, fun v G' own' H' l R' ok => k σ G' own' H' l R'⟩
theorem sd_if {c : Expr} {a b : List Stmt} {T : FT} (hc : TD X c T) (ha : BD X a A) (hb : BD X b B) : SD X (.If c a b pos) (sIf T A B) := by
  refine psImp (ps_if hc ha hb) fun D σ H w => ?_
  obtain ⟨C, G, own, ev, fl, e', R, hf, k⟩ := w
  obtain ⟨⟨d, e1⟩, h1, h2⟩ := bind_some_of hf
  refine ⟨C, G, own, ev, d, e1, R, h1, fun G1 own1 H1 l1 R1 => ?_⟩
  cases d with
  | true => exact iteT ⟨C, G1, own1, e1, fl, e', R1, h2, k.le l1⟩
  | false => exact iteF ⟨C, G1, own1, e1, fl, e', R1, h2, k.le l1⟩
/-- what the proof never comes to -/
def sNo : FS := fun _ => none
theorem sd_no : SD X s sNo := psImp ps_never fun _ _ _ w => by obtain ⟨C, G, own, ev, fl, e', R, hf, k⟩ := w; cases hf
theorem bd_no : BD X ss sNo := pssImp pss_never fun _ _ _ w => by obtain ⟨C, G, own, ev, fl, e', R, hf, k⟩ := w; cases hf
end

/-! ### targets -/
def gN (i : Nat) : FG := fun d e => if i < e.r.length then some (e.put i (some (.val d))) else none
abbrev FGs := List D → EE → Option EE
def gsNil : FGs := fun ds e => match ds with
  | [] => some e
  | _ => none
def gsCons (g : FG) (h : FGs) : FGs := fun ds e => match ds with
  | d :: ds => (g d e).bind (h ds)
  | [] => none
def gT (n : Nat) (h : FGs) : FG := fun d e => match d with
  | .tuple ds => if ds.length = n then h ds e else none
  | _ => none
def tGs (K : PySem.W.Frag) (F : FGs) : TGs := fun vs σ H Q => ∃ C G own e ds e', Rep K C G own e σ H ∧ RpA K G vs ds ∧ F ds e = some e' ∧
  ∀ σ' G' own' H', Le G G' → Rep K C G' own' e' σ' H' → Q σ' H'
abbrev GD (X : Cx) (e : Expr) (F : FG) := PG X e (tG X.K F)
section
variable {X : Cx} {pos : Pos}
theorem gd_name {i : Nat} {x : Str} (hN : X.N.Nodup) (hi : X.N[i]? = some x) (hx : Loc X.env.scope x) (hf : X.fn x = true ∨ X.env.scope.names.lookup x = some .local := by first | exact .inl rfl | exact .inr rfl | assumption) : GD X (.Name x pos) (gN i) := by
  refine pgImp (pg_name hN hi hx hf) fun v σ H Q w => ?_
  obtain ⟨C, G, own, e, d, e', R, r, hf, k⟩ := w
  unfold gN at hf
  split at hf
  · rename_i h; cases hf
    obtain ⟨own2, R2, _⟩ := R.store (r := .val d) r h
    exact k _ G own2 H Le.rfl' R2
  · cases hf
theorem gds_nil : PGs X [] (tGs X.K gsNil) := by
  refine ⟨fun pins s σ H vs us Q I r w => ?_⟩
  obtain ⟨C, G, own, e, ds, e', R, ra, hf, k⟩ := w
  unfold gsNil at hf
  split at hf
  · cases hf
    cases ra
    exact pgs_nil.run pins s σ H [] us Q I r ⟨rfl, k σ G own H Le.rfl' R⟩
  · cases hf
theorem gds_cons {e : Expr} {es : List Expr} {g : FG} {h : FGs} (h1 : GD X e g) (h2 : PGs X es (tGs X.K h))
    (hs : (assignEach (e :: es) X.env).map (·.2) = assign e X.env :: (assignEach es X.env).map (·.2) := by rfl) : PGs X (e :: es) (tGs X.K (gsCons g h)) := by
  refine ⟨fun pins s σ H vs us Q I r w => ?_⟩
  obtain ⟨C, G, own, ev, ds, e', R, ra, hf, k⟩ := w
  unfold gsCons at hf
  split at hf
  · rename_i d ds'
    obtain ⟨e1, q1, q2⟩ := bind_some_of hf
    cases ra with
    | cons r1 r2 =>
      exact (pgs_cons h1 h2 hs).run pins s σ H _ us Q I r ⟨_, _, rfl, C, G, own, ev, d, e1, R, r1, q1, fun σ' G' own' H' l R' => ⟨C, G', own', e1, ds', e', R', r2.mono l, q2, fun σ2 G2 own2 H2 l2 R2 => k σ2 G2 own2 H2 (l.tr l2) R2⟩⟩
  · cases hf
theorem gd_tup {es : List Expr} {k : Nat} {h : FGs} {n : Nat} (hc : X.calm = true) (hh : PGs X es (tGs X.K h))
    (hn : (assignEach es X.env).length = n := by rfl) (hst : (assignEach es X.env).findIdx? (·.1) = none := by rfl) : GD X (.Tuple es k pos) (gT n h) := by
  refine pgImp (pg_tup hc hh hn hst) fun v σ H Q w => ?_
  obtain ⟨C, G, own, e, d, e', R, r, hf, k⟩ := w
  unfold gT at hf
  split at hf
  · rename_i ds
    split at hf
    · rename_i hl
      obtain ⟨a, rfl⟩ := r.isRef
      obtain ⟨vs, hs, ra⟩ := r.sqT
      exact ⟨_, _, rfl, sqT_mono R.sub hs, by rw [ra.length]; exact hl, C, G, own, e, ds, e', R, ra, hf, k⟩
    · cases hf
  · cases hf
/-- target = value, the value frozen -/
def sAsg (F : FE) (g : FG) : FS := fun e => (F e).bind fun p => (g p.1.d p.2).bind fun e' => some (.nx, e')
theorem sd_asg {tg e : Expr} {F : FE} {g : FG} (he : ED X e F) (hg : GD X tg g) (hs : swapsWithSole [tg] e pos.line X.env = pure false := by rfl) (hw : swappedStores [tg] e X.env = pure none := by rfl)
    (h1 : (assignEach [tg] X.env).map (·.2) = [assign tg X.env] := by rfl) : SD X (.Assign [tg] e pos) (sAsg F g) := by
  refine psImp (ps_asg he hg hs hw h1) fun D σ H w => ?_
  obtain ⟨C, G, own, ev, fl, e', R, hf, k⟩ := w
  obtain ⟨⟨r, e1⟩, q1, q2⟩ := bind_some_of hf
  obtain ⟨e2, q3, q4⟩ := bind_some_of q2
  cases q4
  refine ⟨C, G, own, ev, r, e1, R, q1, fun v G1 own1 H1 l1 R1 ok => ?_⟩
  obtain ⟨G2, l2, R2, p⟩ := R1.frz ok
  exact ⟨C, G2, own1, e1, r.d, e', R2, p, q3, fun σ' G' own' H' l R' => k σ' G' own' H' (l1.tr (l2.tr l)) R'⟩
end

/-! ### loops -/
structure ItOk (K : PySem.W.Frag) (G : Hp) (J : It) (ds : List D) : Prop where
  go : ∀ G2 H2 (i : Nat) d, Le G G2 → Le G2 H2 → ds[i]? = some d → J.go i H2 ∧ ∀ x H3, J.yld i H2 x H3 → Grow K G2 H2 x (.val d) H3
  stop : ∀ G2 H2, Le G G2 → Le G2 H2 → J.stop ds.length H2
def tI (K : PySem.W.Frag) (I : FA) : TI := fun σ H R => ∃ C G own e ds e', Rep K C G own e σ H ∧ I e = some (ds, e') ∧
  ∀ J G' own' H', Le G G' → Rep K C G' own' e' σ H' → ItOk K G' J ds → R J H'
abbrev ID (X : Cx) (tg iter : Expr) (I : FA) := PI X tg iter (tI X.K I)
def forL (g : FG) (B : FS) : List D → EE → Option (Fl × EE)
  | [], e => some (.nx, e)
  | d :: ds, e => (g d e).bind fun e1 => (B e1).bind fun p => match p.1 with
    | .nx => forL g B ds p.2
    | .ct => forL g B ds p.2
    | .bk => some (.nx, p.2)
    | .rt r => some (.rt r, p.2)
def sFor (I : FA) (g : FG) (B : FS) : FS := fun e => (I e).bind fun p => forL g B p.1 p.2
def whL (T : FT) (B : FS) : Nat → EE → Option (Fl × EE)
  | 0, _ => none
  | n + 1, e => (T e).bind fun p => if p.1 = true then (B p.2).bind fun q => match q.1 with
    | .nx => whL T B n q.2
    | .ct => whL T B n q.2
    | .bk => some (.nx, q.2)
    | .rt r => some (.rt r, q.2) else some (.nx, p.2)
/-- a while: some number of turns is enough -/
def sWh (T : FT) (B : FS) (n : EE → Nat) : FS := fun e => whL T B (n e) e
section
variable {X : Cx} {tg iter : Expr} {pos : Pos}
theorem sd_for {body : List Stmt} {I : FA} {g : FG} {B : FS} (hp : PassesOwn (model X.prog X.w) X.A X.env X.xe) (hc : X.calm = true) (hi : ID X tg iter I) (hg : GD X tg g) (hb : BD X body B)
    (hs : ∀ x, foldedSetIterable iter X.env x = pure x := by intro _; rfl) : SD X (.For tg iter body [] pos) (sFor I g B) := by
  refine psImp (ps_for hp hc hi hg hb hs) fun D σ H w => ?_
  obtain ⟨C, G, own, ev, fl, e', R, hf, k⟩ := w
  obtain ⟨⟨ds, e1⟩, h1, h2⟩ := bind_some_of hf
  refine ⟨C, G, own, ev, ds, e1, R, h1, fun J G1 own1 H1 l1 R1 it => ?_⟩
  have k1 := k.le l1
  refine ⟨fun i m σ2 H2 => m = ds.length - i ∧ i ≤ ds.length ∧ ∃ G2 own2 e2, Le G1 G2 ∧ Rep X.K C G2 own2 e2 σ2 H2 ∧ forL g B (ds.drop i) e2 = some (fl, e'), ⟨ds.length, by simp, Nat.zero_le _, G1, own1, e1, Le.rfl', R1, by simpa using h2⟩, ?_⟩
  rintro i m σ2 H2 ⟨rfl, hi, G2, own2, e2, l2, R2, hq⟩
  by_cases hlt : i < ds.length
  · obtain ⟨d, hd⟩ : ∃ d, ds[i]? = some d := ⟨ds[i], by simp [hlt]⟩
    have hdr : ds.drop i = d :: ds.drop (i + 1) := by
      rw [List.drop_eq_getElem_cons hlt]
      have : ds[i] = d := by rw [List.getElem?_eq_getElem hlt] at hd; exact Option.some.inj hd
      rw [this]
    rw [hdr] at hq
    obtain ⟨e3, q3, q4⟩ := bind_some_of hq
    obtain ⟨⟨f4, e4⟩, q5, q6⟩ := bind_some_of q4
    obtain ⟨go, yl⟩ := it.go G2 H2 i d l2 R2.sub hd
    refine .inr ⟨go, fun σ' H' => ∃ G3 own3 e3', Le G1 G3 ∧ Rep X.K C G3 own3 e3' σ' H' ∧ forL g B (ds.drop (i + 1)) e3' = some (fl, e'), fun σ' H' ⟨G3, own3, e3', y1, y2, y3⟩ => ⟨ds.length - (i + 1), by omega, rfl, hlt, G3, own3, e3', y1, y2, y3⟩, fun x H3 hy => ?_⟩
    obtain ⟨G3, l3, R3, ok⟩ := R2.grow (yl x H3 hy)
    refine ⟨C, G3, own2, e2, d, e3, R3, ok, q3, fun σ4 G4 own4 H4 l4 R4 => ⟨C, G4, own4, e3, f4, e4, R4, q5, ?_⟩⟩
    have lx : Le G1 G4 := l2.tr (l3.tr l4)
    cases f4 with
    | nx => exact fun σ5 G5 own5 H5 l5 R5 => ⟨G5, own5, e4, lx.tr l5, R5, q6⟩
    | ct => exact fun σ5 G5 own5 H5 l5 R5 => ⟨G5, own5, e4, lx.tr l5, R5, q6⟩
    | bk => cases q6; exact fun σ5 G5 own5 H5 l5 R5 => k1 σ5 G5 own5 H5 (lx.tr l5) R5
    | rt r => cases q6; exact fun v σ5 G5 own5 H5 l5 R5 ok => k1 v σ5 G5 own5 H5 (lx.tr l5) R5 ok
  · have e : i = ds.length := by omega
    subst e
    rw [List.drop_length] at hq
    cases hq
    exact .inl ⟨it.stop G2 H2 l2 R2.sub, k1 σ2 G2 own2 H2 l2 R2⟩
theorem sd_wh {c : Expr} {body : List Stmt} {T : FT} {B : FS} {n : EE → Nat} (hp : PassesOwn (model X.prog X.w) X.A X.env X.xe) (hc : TD X c T) (hb : BD X body B) : SD X (.While c body [] pos) (sWh T B n) := by
  refine psImp (ps_while hp hc hb) fun D σ H w => ?_
  obtain ⟨C, G, own, ev, fl, e', R, hf, k⟩ := w
  refine ⟨fun m σ2 H2 => ∃ G2 own2 e2, Le G G2 ∧ Rep X.K C G2 own2 e2 σ2 H2 ∧ whL T B m e2 = some (fl, e'), ⟨n ev, G, own, ev, Le.rfl', R, hf⟩, ?_⟩
  rintro m σ2 H2 ⟨G2, own2, e2, l2, R2, hq⟩
  cases m with
  | zero => cases hq
  | succ m =>
    obtain ⟨⟨b, e3⟩, q1, q2⟩ := bind_some_of hq
    refine ⟨C, G2, own2, e2, b, e3, R2, q1, fun G3 own3 H3 l3 R3 => ?_⟩
    cases b with
    | false =>
      cases q2
      exact iteF (k σ2 G3 own3 H3 (l2.tr l3) R3)
    | true =>
      obtain ⟨⟨f4, e4⟩, q3, q4⟩ := bind_some_of q2
      refine iteT ⟨fun σ' H' => ∃ G3 own3 e3', Le G G3 ∧ Rep X.K C G3 own3 e3' σ' H' ∧ whL T B m e3' = some (fl, e'), fun σ' H' h => ⟨m, Nat.lt_succ_self m, h⟩, C, G3, own3, e3, f4, e4, R3, q3, ?_⟩
      have lx : Le G G3 := l2.tr l3
      cases f4 with
      | nx => exact fun σ5 G5 own5 H5 l5 R5 => ⟨G5, own5, e4, lx.tr l5, R5, q4⟩
      | ct => exact fun σ5 G5 own5 H5 l5 R5 => ⟨G5, own5, e4, lx.tr l5, R5, q4⟩
      | bk => cases q4; exact fun σ5 G5 own5 H5 l5 R5 => k σ5 G5 own5 H5 (lx.tr l5) R5
      | rt r => cases q4; exact fun v σ5 G5 own5 H5 l5 R5 ok => k v σ5 G5 own5 H5 (lx.tr l5) R5 ok
/-- a list, a tuple walked: frozen -/
def iSeq (F : FE) : FA := fun e => (F e).bind fun p => (seqD p.1.d).bind fun ds => some (ds, p.2)
theorem it_list {K : PySem.W.Frag} {G : Hp} {a : Addr} {vs : List V} {ds : List D} (h : SqL K G a vs) (r : RpA K G vs ds) : ItOk K G (Itl K a) ds where
  go := fun G2 H2 i d l1 l2 hd => by
    obtain ⟨v, hv, rv⟩ := r.get hd
    refine ⟨⟨vs, v, sqL_mono (l1.tr l2) h, hv⟩, fun x H3 hy => ?_⟩
    obtain ⟨rfl, y⟩ := hy
    have := y vs (sqL_mono (l1.tr l2) h)
    rw [hv] at this; cases this
    exact .same (rv.mono l1)
  stop := fun G2 H2 l1 l2 => ⟨vs, sqL_mono (l1.tr l2) h, by rw [r.length]; exact Nat.le_refl _⟩
theorem it_tuple {K : PySem.W.Frag} {G : Hp} {a : Addr} {vs : List V} {ds : List D} (h : SqT K G a vs) (r : RpA K G vs ds) : ItOk K G (Itt K a) ds where
  go := fun G2 H2 i d l1 l2 hd => by
    obtain ⟨v, hv, rv⟩ := r.get hd
    refine ⟨⟨vs, v, sqT_mono (l1.tr l2) h, hv⟩, fun x H3 hy => ?_⟩
    obtain ⟨rfl, y⟩ := hy
    have := y vs (sqT_mono (l1.tr l2) h)
    rw [hv] at this; cases this
    exact .same (rv.mono l1)
  stop := fun G2 H2 l1 l2 => ⟨vs, sqT_mono (l1.tr l2) h, by rw [r.length]; exact Nat.le_refl _⟩
theorem id_seq {F : FE} (h : ED X iter F) : ID X tg iter (iSeq F) := by
  refine ⟨fun pins s σ H Q I w => ?_⟩
  obtain ⟨C, G, own, ev, ds, e', R, hf, k⟩ := w
  obtain ⟨⟨r, e1⟩, q1, q2⟩ := bind_some_of hf
  obtain ⟨ds', q3, q4⟩ := bind_some_of q2
  cases q4
  cases y : r.d with
  | list xs =>
    refine (pi_list h).run pins s σ H Q I ⟨C, G, own, ev, r, e1, R, q1, fun v G1 own1 H1 l1 R1 ok => ?_⟩
    obtain ⟨G2, l2, R2, p⟩ := R1.frz ok
    rw [y] at p
    dsimp only at q3
    rw [y] at q3
    cases q3
    cases p with
    | lst hs ra => exact ⟨_, rfl, ⟨_, .of (R2.sub _ _ hs)⟩, k _ G2 own1 H1 (l1.tr l2) R2 (it_list (.of hs) ra)⟩
  | tuple xs =>
    refine (pi_tup h).run pins s σ H Q I ⟨C, G, own, ev, r, e1, R, q1, fun v G1 own1 H1 l1 R1 ok => ?_⟩
    obtain ⟨G2, l2, R2, p⟩ := R1.frz ok
    rw [y] at p
    dsimp only at q3
    rw [y] at q3
    cases q3
    obtain ⟨a, rfl⟩ := p.isRef
    obtain ⟨vs, hs, ra⟩ := p.sqT
    exact ⟨_, rfl, ⟨_, sqT_mono R2.sub hs⟩, k _ G2 own1 H1 (l1.tr l2) R2 (it_tuple hs ra)⟩
  | _ => dsimp only at q3; rw [y] at q3; cases q3
/-- range(n), range(a, b) -/
def rgL (lo : Int) (n : Nat) : List D := (List.range n).map fun (k : Nat) => .int (lo + (k : Int))
def inW (i : Int) : Bool := hide (-(2 ^ 62) ≤ i ∧ i < 2 ^ 62)
def iRg1 (A : FOs) : FA := fun e => (A e).bind fun p => (p.1 p.2).bind fun ds => match ds with
  | [.int j] => if inW j = true then some (rgL 0 j.toNat, p.2) else none
  | _ => none
def iRg2 (A : FOs) : FA := fun e => (A e).bind fun p => (p.1 p.2).bind fun ds => match ds with
  | [.int i, .int j] => if (inW i && inW j) = true then some (rgL i (j - i).toNat, p.2) else none
  | _ => none
theorem it_range {K : PySem.W.Frag} {G : Hp} (lo : Int) (n : Nat) : ItOk K G (Itr lo n) (rgL lo n) where
  go := fun G2 H2 i d l1 l2 hd => by
    have hi : i < n := by have := ltOf hd; simpa [rgL] using this
    have e : d = .int (lo + i) := by
      have : (rgL lo n)[i]? = some (.int (lo + i)) := by simp [rgL, hi]
      rw [this] at hd; exact (Option.some.inj hd).symm
    subst e
    refine ⟨hi, fun x H3 hy => ?_⟩
    obtain ⟨rfl, rfl⟩ := hy
    exact .same (.int _)
  stop := fun G2 H2 l1 l2 => by show n ≤ (rgL lo n).length; simp [rgL]
theorem RrA.int1 {K : PySem.W.Frag} {G H : Hp} {vs : List V} {j : Int} (h : RrA K G H vs [.int j]) : vs = [.int j] := by
  cases h with
  | cons h1 h2 =>
    cases h2
    cases h1 with
    | frz h => cases h; rfl
theorem RrA.int2 {K : PySem.W.Frag} {G H : Hp} {vs : List V} {i j : Int} (h : RrA K G H vs [.int i, .int j]) : vs = [.int i, .int j] := by
  cases h with
  | cons h1 h2 =>
    rw [h2.int1]
    cases h1 with
    | frz h => cases h; rfl
theorem id_rg1 {a : Expr} {A : FOs} {p pos : Pos} (hg : Gl X "range") (hm : X.mg "range" = none) (ha : PA X [a] (tOs X.K A)) (hs : starEach [a] X.env = [(false, eval a X.env)] := by rfl) : ID X tg (.Call (.Name "range" p) [a] [] pos) (iRg1 A) := by
  refine ⟨fun pins s σ H Q I w => ?_⟩
  obtain ⟨C, G, own, ev, ds, e', R, hf, k⟩ := w
  obtain ⟨⟨t, e1⟩, q1, q2⟩ := bind_some_of hf
  obtain ⟨xs, q3, q4⟩ := bind_some_of q2
  refine (pi_range1 hg hm ha hs).run pins s σ H Q I ⟨C, G, own, ev, t, e1, R, q1, fun vs G1 own1 H1 l1 R1 g => ?_⟩
  have ra := g _ _ _ _ _ Le.rfl' R1 q3
  split at q4
  · rename_i j
    split at q4
    · rename_i hj
      cases q4
      obtain ⟨b1, b2⟩ := unhide hj
      exact ⟨j, ra.int1, b1, b2, k _ G1 own1 H1 l1 R1 (it_range 0 _)⟩
    · cases q4
  · cases q4
theorem id_rg2 {a b : Expr} {A : FOs} {p pos : Pos} (hg : Gl X "range") (hm : X.mg "range" = none) (ha : PA X [a, b] (tOs X.K A)) (hs : starEach [a, b] X.env = [(false, eval a X.env), (false, eval b X.env)] := by rfl) (hs2 : starEach [b] X.env = [(false, eval b X.env)] := by rfl) :
    ID X tg (.Call (.Name "range" p) [a, b] [] pos) (iRg2 A) := by
  refine ⟨fun pins s σ H Q I w => ?_⟩
  obtain ⟨C, G, own, ev, ds, e', R, hf, k⟩ := w
  obtain ⟨⟨t, e1⟩, q1, q2⟩ := bind_some_of hf
  obtain ⟨xs, q3, q4⟩ := bind_some_of q2
  refine (pi_range2 hg hm ha hs hs2).run pins s σ H Q I ⟨C, G, own, ev, t, e1, R, q1, fun vs G1 own1 H1 l1 R1 g => ?_⟩
  have ra := g _ _ _ _ _ Le.rfl' R1 q3
  split at q4
  · rename_i i j
    split at q4
    · rename_i hj
      cases q4
      rw [Bool.and_eq_true] at hj
      obtain ⟨b1, b2⟩ := unhide hj.1
      obtain ⟨b3, b4⟩ := unhide hj.2
      exact ⟨i, j, ra.int2, ⟨b1, b2, b3, b4⟩, k _ G1 own1 H1 l1 R1 (it_range i _)⟩
    · cases q4
  · cases q4
end
end EL
/-! EL4: comprehensions, defs and their calls. -/
namespace EL
open PySem PySem.Spec PyProof.Rows L2
variable [KC]

/-! ### slots wiped and given back -/
def wipeE (e : EE) : List Nat → EE
  | [] => e
  | v :: vs => (wipeE e vs).put v none
def keepV : Option (Option Ent) → Option Ent
  | some (some (.val d)) => some (.val d)
  | _ => none
def restE (e0 : EE) : EE → List Nat → EE
  | e2, [] => e2
  | e2, v :: vs => restE e0 (e2.put v (if vs.contains v then none else keepV e0.r[v]?)) vs
section
variable {K : PySem.W.Frag} {C : Cn} {G G' H : Hp} {own : Nat → Option Addr} {e e' : EE} {σ : L2.St} {v : V} {r : Rs}
theorem Rep.wipe1 (R : Rep K C G own e σ H) (i : Nat) : Rep K C G (fun j => if j = i then none else own j) (e.put i none) (σ.set i none) H := by
  have F := R.forget i
  refine ⟨F.sub, F.ext, F.new, F.frm, by simp [EE.put, R.len], fun j x h => ?_, F.ofr, F.inj, F.thr, F.src⟩
  obtain ⟨v, h1, h2⟩ := F.slot j x h
  by_cases z : j = i
  · subst z
    exfalso
    have : (e.r.set j none)[j]? = some (some x) := h
    by_cases y : j < e.r.length
    · simp [y] at this
    · rw [List.getElem?_eq_none (by simp; omega)] at this; cases this
  · exact ⟨v, by rw [List.getElem?_set_ne (Ne.symm z)]; exact h1, h2⟩
theorem Rep.wipeAll (R : Rep K C G own e σ H) : ∀ vs : List Nat, ∃ own', Rep K C G own' (wipeE e vs) (wipe σ vs) H ∧ ∀ i a, own' i = some a → own i = some a
  | [] => ⟨own, R, fun _ _ h => h⟩
  | v :: vs => by
    obtain ⟨own', R', k⟩ := R.wipeAll vs
    refine ⟨_, R'.wipe1 v, fun i a h => ?_⟩
    by_cases z : i = v
    · simp [z] at h
    · simp [z] at h; exact k i a h
theorem Rep.back1 {i : Nat} (R : Rep K C G own e (σ.set i none) H) {x : Option Ent} (hx : x = none ∨ ∃ d v, x = some (.val d) ∧ σ[i]? = some (some v) ∧ Rp K G v d) : Rep K C G (fun j => if j = i then none else own j) (e.put i x) σ H := by
  have F := R.forget i
  refine ⟨F.sub, F.ext, F.new, F.frm, by simpa [EE.put] using R.len, fun j y h => ?_, F.ofr, F.inj, F.thr, F.src⟩
  have h : (e.r.set i x)[j]? = some (some y) := h
  by_cases z : j = i
  · subst z
    by_cases q : j < e.r.length
    · simp [q] at h
      rcases hx with hx | ⟨d, v, hx, hv, rp⟩
      · rw [hx] at h; cases h
      · rw [hx] at h; cases h; exact ⟨v, hv, rp⟩
    · rw [List.getElem?_eq_none (by simp; omega)] at h; cases h
  · rw [List.getElem?_set_ne (Ne.symm z)] at h
    obtain ⟨v, h1, h2⟩ := F.slot j y (by show (e.r.set i none)[j]? = _; rw [List.getElem?_set_ne (Ne.symm z)]; exact h)
    exact ⟨v, by rw [List.getElem?_set_ne (Ne.symm z)] at h1; exact h1, h2⟩
theorem Rep.backAll {e0 : EE} {G0 : Hp} {own0 : Nat → Option Addr} {H0 : Hp} (R0 : Rep K C G0 own0 e0 σ H0) (l : Le G0 G) : ∀ (vs : List Nat) (e2 : EE) (own2 : Nat → Option Addr), Rep K C G own2 e2 (wipe σ vs) H →
    ∃ own', Rep K C G own' (restE e0 e2 vs) σ H ∧ ∀ i a, own' i = some a → own2 i = some a
  | [], e2, own2, R => ⟨own2, R, fun _ _ h => h⟩
  | v :: vs, e2, own2, R => by
    have key : (if vs.contains v then none else keepV e0.r[v]?) = none ∨ ∃ d u, (if vs.contains v then none else keepV e0.r[v]?) = some (.val d) ∧ (wipe σ vs)[v]? = some (some u) ∧ Rp K G u d := by
      by_cases z : vs.contains v = true
      · exact .inl (by rw [if_pos z])
      · rw [if_neg z]
        have nz : v ∉ vs := fun y => z (by simpa using y)
        rw [wipe_out nz]
        unfold keepV
        split
        · rename_i d hd
          obtain ⟨u, h1, h2⟩ := R0.slot v _ hd
          exact .inr ⟨d, u, rfl, h1, Rp.mono l h2⟩
        · exact .inl rfl
    have R1 := Rep.back1 (σ := wipe σ vs) R key
    obtain ⟨own', R', k⟩ := Rep.backAll R0 l vs _ _ R1
    refine ⟨own', R', fun i a h => ?_⟩
    have q := k i a h
    by_cases z : i = v
    · simp [z] at q
    · simp [z] at q; exact q
theorem wipe_idem (σ : L2.St) : ∀ vs : List Nat, wipe (wipe σ vs) vs = wipe σ vs := by
  intro vs
  apply List.ext_getElem?
  intro i
  by_cases h : i ∈ vs
  · have key : ∀ (τ : L2.St) (vs : List Nat), i ∈ vs → (wipe τ vs)[i]? = if i < τ.length then some none else none := by
      intro τ vs
      induction vs with
      | nil => intro h; cases h
      | cons v vs ih =>
        intro h
        unfold wipe
        by_cases z : v = i
        · subst z
          by_cases y : v < τ.length
          · simp [wipe_length, y]
          · simp [wipe_length, y]
        · rw [List.getElem?_set_ne z]
          exact ih ((List.mem_cons.mp h).resolve_left (fun q => z q.symm))
    rw [key _ _ h, key _ _ h, wipe_length]
  · rw [wipe_out h]
theorem wipe_set (σ : L2.St) {i : Nat} {x : Option V} : ∀ {vs : List Nat}, i ∈ vs → wipe (σ.set i x) vs = wipe σ vs
  | v :: vs, h => by
    unfold wipe
    by_cases z : i = v
    · subst z
      have : ∀ vs : List Nat, (wipe (σ.set i x) vs).set i none = (wipe σ vs).set i none := by
        intro vs
        induction vs with
        | nil => simp [wipe]
        | cons w ws ih =>
          unfold wipe
          by_cases y : w = i
          · subst y; simp [ih]
          · rw [List.set_comm _ _ y, ih, List.set_comm _ _ (Ne.symm y)]
      exact this vs
    · rw [wipe_set σ ((List.mem_cons.mp h).resolve_left z)]
/-- a cell that nobody has is changed -/
theorem Rep.poke (R : Rep K C G own e σ H) {p : Addr} {o : HO} (g : G p = none) (h0 : C.H0 p = none) (no : ∀ i, own i ≠ some p) : Rep K C G own e σ (upd H p o) := by
  have ns : ∀ q, C.so = some q → p ≠ q.1 ∧ p ≠ q.2 := fun q hq => ⟨fun z => (R.src q hq).2.2.2.1 (z ▸ h0), fun z => (R.src q hq).2.2.2.2 (z ▸ h0)⟩
  refine ⟨fun a u h => ?_, R.ext, R.new, fun a u h k => ?_, R.len, fun i x h => ?_, R.ofr, R.inj, fun i a h => ?_, fun q hq => ?_⟩
  · rw [upd_ne (fun z => by rw [z, g] at h; cases h)]; exact R.sub a u h
  · rw [upd_ne (fun z => by rw [z, h0] at h; cases h)]; exact R.frm a u h k
  · obtain ⟨v, h1, h2⟩ := R.slot i x h
    exact ⟨v, h1, h2.keep Le.rfl' rfl fun a ha => upd_ne fun z => no i (z ▸ ha)⟩
  · have y : a ≠ p := fun z => no i (by rw [← z]; exact h)
    rw [upd_ne y]; exact R.thr i a h
  · obtain ⟨⟨h1, h2⟩, h3⟩ := R.src q hq
    exact ⟨⟨by rw [upd_ne (Ne.symm (ns q hq).1)]; exact h1, by rw [upd_ne (Ne.symm (ns q hq).2)]; exact h2⟩, h3⟩
end

/-! ### targets, with the slots that they may change -/
def tGv (K : PySem.W.Frag) (F : FG) (vs : List Nat) : TG := fun v σ H Q => ∃ C G own e d e', Rep K C G own e σ H ∧ Rp K G v d ∧ F d e = some e' ∧
  ∀ σ' G' own' H', wipe σ' vs = wipe σ vs → Le G G' → Rep K C G' own' e' σ' H' → Q σ' H'
def tGsv (K : PySem.W.Frag) (F : FGs) (us : List Nat) : TGs := fun vs σ H Q => ∃ C G own e ds e', Rep K C G own e σ H ∧ RpA K G vs ds ∧ F ds e = some e' ∧
  ∀ σ' G' own' H', wipe σ' us = wipe σ us → Le G G' → Rep K C G' own' e' σ' H' → Q σ' H'
abbrev GV (X : Cx) (e : Expr) (F : FG) (vs : List Nat) := PG X e (tGv X.K F vs)
section
variable {X : Cx} {pos : Pos} {us : List Nat}
theorem gv_name {i : Nat} {x : Str} (hN : X.N.Nodup) (hi : X.N[i]? = some x) (hx : Loc X.env.scope x) (hu : i ∈ us) (hf : X.fn x = true ∨ X.env.scope.names.lookup x = some .local := by first | exact .inl rfl | exact .inr rfl | assumption) : GV X (.Name x pos) (gN i) us := by
  refine pgImp (pg_name hN hi hx hf) fun v σ H Q w => ?_
  obtain ⟨C, G, own, e, d, e', R, r, hf, k⟩ := w
  unfold gN at hf
  split at hf
  · rename_i h; cases hf
    obtain ⟨own2, R2, _⟩ := R.store (r := .val d) r h
    exact k _ G own2 H (wipe_set σ hu) Le.rfl' R2
  · cases hf
theorem gvs_nil : PGs X [] (tGsv X.K gsNil us) := by
  refine ⟨fun pins s σ H vs us Q I r w => ?_⟩
  obtain ⟨C, G, own, e, ds, e', R, ra, hf, k⟩ := w
  unfold gsNil at hf
  split at hf
  · cases hf
    cases ra
    exact pgs_nil.run pins s σ H [] us Q I r ⟨rfl, k σ G own H rfl Le.rfl' R⟩
  · cases hf
theorem gvs_cons {e : Expr} {es : List Expr} {g : FG} {h : FGs} (h1 : GV X e g us) (h2 : PGs X es (tGsv X.K h us))
    (hs : (assignEach (e :: es) X.env).map (·.2) = assign e X.env :: (assignEach es X.env).map (·.2) := by rfl) : PGs X (e :: es) (tGsv X.K (gsCons g h) us) := by
  refine ⟨fun pins s σ H vs us' Q I r w => ?_⟩
  obtain ⟨C, G, own, ev, ds, e', R, ra, hf, k⟩ := w
  unfold gsCons at hf
  split at hf
  · rename_i d ds'
    obtain ⟨e1, q1, q2⟩ := bind_some_of hf
    cases ra with
    | cons r1 r2 =>
      exact (pgs_cons h1 h2 hs).run pins s σ H _ us' Q I r ⟨_, _, rfl, C, G, own, ev, d, e1, R, r1, q1, fun σ' G' own' H' y1 l R' => ⟨C, G', own', e1, ds', e', R', r2.mono l, q2, fun σ2 G2 own2 H2 y2 l2 R2 => k σ2 G2 own2 H2 (y2.trans y1) (l.tr l2) R2⟩⟩
  · cases hf
theorem gv_tup {es : List Expr} {k : Nat} {h : FGs} {n : Nat} (hc : X.calm = true) (hh : PGs X es (tGsv X.K h us))
    (hn : (assignEach es X.env).length = n := by rfl) (hst : (assignEach es X.env).findIdx? (·.1) = none := by rfl) : GV X (.Tuple es k pos) (gT n h) us := by
  refine pgImp (pg_tup hc hh hn hst) fun v σ H Q w => ?_
  obtain ⟨C, G, own, e, d, e', R, r, hf, k⟩ := w
  unfold gT at hf
  split at hf
  · rename_i ds
    split at hf
    · rename_i hl
      obtain ⟨a, rfl⟩ := r.isRef
      obtain ⟨vs, hs, ra⟩ := r.sqT
      exact ⟨_, _, rfl, sqT_mono R.sub hs, by rw [ra.length]; exact hl, C, G, own, e, ds, e', R, ra, hf, k⟩
    · cases hf
  · cases hf
end

/-! ### list comprehensions -/
def compL (vs : List Nat) (g : FG) (t : FT) (F : FE) : List D → EE → Option (List D × EE)
  | [], e => some ([], e)
  | d :: ds, e => (g d e).bind fun e1 => (t e1).bind fun p => if p.1 = true then (F p.2).bind fun q => (compL vs g t F ds (wipeE q.2 vs)).bind fun z => some (q.1.d :: z.1, z.2) else compL vs g t F ds (wipeE p.2 vs)
def eComp (vs : List Nat) (I : FA) (g : FG) (t : FT) (F : FE) : FE := fun e => (I e).bind fun p => (compL vs g t F p.1 (wipeE p.2 vs)).bind fun z => if small z.1.length = true then some (.fl z.1, restE p.2 z.2 vs) else none
def tYs : FT := fun e => some (true, e)
section
variable {X : Cx}
theorem lc_imp {K : PySem.W.Frag} {vs : List Nat} {I : FA} {g : FG} {t : FT} {F : FE} {σ : L2.St} {H : Hp} {Q : VK} (w : tE K (eComp vs I g t F) σ H Q) : tLc (tI K I) (tGv K g vs) (tTst K t) (tE K F) vs σ H Q := by
  obtain ⟨C, G, own, ev, r, e', R, hf, k⟩ := w
  obtain ⟨⟨ds, e1⟩, q1, q2⟩ := bind_some_of hf
  obtain ⟨⟨out, e2⟩, q3, q4⟩ := bind_some_of q2
  dsimp only at q3 q4
  split at q4
  · rename_i hz
    cases q4
    refine ⟨C, G, own, ev, ds, e1, R, q1, fun J G1 own1 H1 l1 R1 it A hA => ?_⟩
    obtain ⟨ownw, Rw, kw⟩ := R1.wipeAll vs
    refine ⟨fun i m H2 => m = ds.length - i ∧ i ≤ ds.length ∧ ∃ G2 own2 e3 acc rest, Le G1 G2 ∧ Rep K C G2 own2 e3 (wipe σ vs) H2 ∧ RsOk K C G2 own2 H2 (.ref A) (.fl acc) ∧ compL vs g t F (ds.drop i) e3 = some (rest, e2) ∧ acc ++ rest = out,
      ⟨ds.length, by simp, Nat.zero_le _, G1, ownw, wipeE e1 vs, [], out, Le.rfl', Rw.alloc hA, ⟨A, [], rfl, upd_same, .nil, R1.gnone hA, R1.h0none hA, Rw.notOwn hA⟩, by simpa using q3, rfl⟩, ?_⟩
    rintro i m H2 ⟨rfl, hi, G2, own2, e3, acc, rest, l2, R2, ok2, hq, he⟩
    by_cases hlt : i < ds.length
    · obtain ⟨d, hd⟩ : ∃ d, ds[i]? = some d := ⟨ds[i], by simp [hlt]⟩
      have hdr : ds.drop i = d :: ds.drop (i + 1) := by
        rw [List.drop_eq_getElem_cons hlt]
        have : ds[i] = d := by rw [List.getElem?_eq_getElem hlt] at hd; exact Option.some.inj hd
        rw [this]
      rw [hdr] at hq
      obtain ⟨e4, y1, y2⟩ := bind_some_of hq
      obtain ⟨⟨b, e5⟩, y3, y4⟩ := bind_some_of y2
      obtain ⟨C', _, _, _, R2', back⟩ := R2.aside ok2
      obtain ⟨go, yl⟩ := it.go G2 H2 i d l2 R2.sub hd
      refine .inr ⟨go, fun H' => ∃ G3 own3 e3' acc' rest', Le G1 G3 ∧ Rep K C G3 own3 e3' (wipe σ vs) H' ∧ RsOk K C G3 own3 H' (.ref A) (.fl acc') ∧ compL vs g t F (ds.drop (i + 1)) e3' = some (rest', e2) ∧ acc' ++ rest' = out,
        fun H' ⟨G3, own3, e3', acc', rest', z1, z2, z3, z4, z5⟩ => ⟨ds.length - (i + 1), by omega, rfl, hlt, G3, own3, e3', acc', rest', z1, z2, z3, z4, z5⟩, fun x H3 hy => ?_⟩
      obtain ⟨G3, l3, R3, ok⟩ := R2'.grow (yl x H3 hy)
      refine ⟨C', G3, own2, e3, d, e4, R3, ok, y1, fun σ4 G4 own4 H4 w4 l4 R4 => ⟨by rw [w4]; exact wipe_idem σ vs, C', G4, own4, e4, b, e5, R4, y3, fun G5 own5 H5 l5 R5 => ?_⟩⟩
      have hw : wipe σ4 vs = wipe σ vs := by rw [w4]; exact wipe_idem σ vs
      cases b with
      | false =>
        dsimp only at y4
        rw [if_neg Bool.false_ne_true] at y4
        have lx : Le G2 G5 := l3.tr (l4.tr l5)
        obtain ⟨R5c, ok5⟩ := back G5 own5 e5 σ4 H5 lx R5
        obtain ⟨own6, R6, k6⟩ := R5c.wipeAll vs
        rw [hw] at R6
        refine iteF ⟨G5, own6, wipeE e5 vs, acc, rest, l2.tr lx, R6, ok5.le Le.rfl' fun p u hp hg h0 ho hu => ⟨hu, hg, h0, fun j z => ho j (k6 j p z)⟩, y4, he⟩
      | true =>
        dsimp only at y4
        rw [if_pos rfl] at y4
        obtain ⟨⟨re, e6⟩, y5, y6⟩ := bind_some_of y4
        obtain ⟨⟨rest', e7⟩, y7, y8⟩ := bind_some_of y6
        cases y8
        refine iteT ⟨C', G5, own5, e5, re, e6, R5, y5, fun y G6 own6 H6 l6 R6 ok6 => ?_⟩
        obtain ⟨G7, l7, R7, p7⟩ := R6.frz ok6
        have lx : Le G2 G7 := l3.tr (l4.tr (l5.tr (l6.tr l7)))
        obtain ⟨R7c, ok7⟩ := back G7 own6 e6 σ4 H6 lx R7
        obtain ⟨p, ws, hp, h1, h2, h3, h4, h5⟩ := ok7
        cases hp
        have hln : acc.length + 1 ≤ 16777216 := by
          have : out.length ≤ 16777216 := unhide hz
          rw [← he] at this
          simp only [List.length_append, List.length_cons] at this
          omega
        refine ⟨ws, h1, by rw [h2.length, sizeLine_eq]; omega, ?_⟩
        obtain ⟨own8, R8, k8⟩ := (R7c.poke (o := .lst (ws ++ [y])) h3 h4 h5).wipeAll vs
        rw [hw] at R8
        exact ⟨G7, own8, wipeE e6 vs, acc ++ [re.d], rest', l2.tr lx, R8, ⟨A, ws ++ [y], rfl, upd_same, h2.append (.cons p7 .nil), h3, h4, fun j z => h5 j (k8 j A z)⟩, y7, by simpa using he⟩
    · have e : i = ds.length := by omega
      subst e
      rw [List.drop_length] at hq
      cases hq
      rw [List.append_nil] at he
      subst he
      obtain ⟨own9, R9, k9⟩ := Rep.backAll R1 l2 vs e2 own2 R2
      exact .inl ⟨it.stop G2 H2 l2 R2.sub, k _ G2 own9 H2 (l1.tr l2) R9 (ok2.le Le.rfl' fun p u hp hg h0 ho hu => ⟨hu, hg, h0, fun j z => ho j (k9 j p z)⟩)⟩
  · cases q4
theorem pts_yes : PTs X [] (tTst X.K tYs) := by
  refine ⟨fun pins s σ H Q I w => ?_⟩
  obtain ⟨C, G, own, ev, b, e', R, hf, k⟩ := w
  cases hf
  exact pts_nil.run pins s σ H Q I (k G own H Le.rfl' R)
theorem ed_lc {elt tg iter : Expr} {ifs : List Expr} {scope : Scope} {own : List (Str × Nat)} {pos : Pos} {I : FA} {g : FG} {t : FT} {F : FE} (hc : X.calm = true) (hN : X.N.Nodup) (hi : ID X tg iter I) (ok : BlkOk X.N X.env.scope scope own)
    (hg : ∀ (s : Shared) (H : Hp) (C : Addr) (cl : List (Str × Addr)) (fp : List Addr), GV (X.blk s H scope (compEnvC scope cl C X.env) fp) tg g (own.map (·.2)))
    (ht : ∀ (s : Shared) (H : Hp) (C : Addr) (cl : List (Str × Addr)) (fp : List Addr), PTs (X.blk s H scope (compEnvC scope cl C X.env) fp) ifs (tTst X.K t))
    (he : ∀ (s : Shared) (H : Hp) (C : Addr) (cl : List (Str × Addr)) (fp : List Addr), ED (X.blk s H scope (compEnvC scope cl C X.env) fp) elt F)
    (hs : ∀ x, foldedSetIterable iter X.env x = pure x := by intro _; rfl) : ED X (.ListComp elt [⟨tg, iter, ifs, 0⟩] scope pos) (eComp (own.map (·.2)) I g t F) :=
  peImp (pe_lc hc hN hi ok hg ht he hs) fun _ _ _ w => lc_imp w
/-- name = [..], the name a local -/
theorem sd_setLc {i : Nat} {y : Str} {py : Pos} {elt tg iter : Expr} {ifs : List Expr} {scope : Scope} {own : List (Str × Nat)} {pos spos : Pos} {I : FA} {g : FG} {t : FT} {F : FE} (hc : X.calm = true) (hN : X.N.Nodup) (hy : X.N[i]? = some y) (hyl : X.env.scope.names.lookup y = some .local)
    (hsw : swapsWith (.ListComp elt [⟨tg, iter, ifs, 0⟩] scope pos) (some (.Name y py)) spos.line X.env = pure true) (hi : ID X tg iter I) (ok : BlkOk X.N X.env.scope scope own)
    (hg : ∀ (s : Shared) (H : Hp) (C : Addr) (cl : List (Str × Addr)) (fp : List Addr), GV (X.blk s H scope (compEnvC scope cl C X.env) fp) tg g (own.map (·.2)))
    (ht : ∀ (s : Shared) (H : Hp) (C : Addr) (cl : List (Str × Addr)) (fp : List Addr), PTs (X.blk s H scope (compEnvC scope cl C X.env) fp) ifs (tTst X.K t))
    (he : ∀ (s : Shared) (H : Hp) (C : Addr) (cl : List (Str × Addr)) (fp : List Addr), ED (X.blk s H scope (compEnvC scope cl C X.env) fp) elt F)
    (hs : ∀ x, foldedSetIterable iter X.env x = pure x := by intro _; rfl) : SD X (.Assign [.Name y py] (.ListComp elt [⟨tg, iter, ifs, 0⟩] scope pos) spos) (sSet i (eComp (own.map (·.2)) I g t F)) :=
  psImp (ps_setLc hc hN hy hyl hsw hi ok hg ht he hs) fun D σ H w => lc_imp (set_imp w)
end

/-! ### defs -/
def RsNew (K : PySem.W.Frag) (G' H H' : Hp) (v : V) : Rs → Prop
  | .val d => Rp K G' v d
  | .fl ds => ∃ p vs, v = .ref p ∧ H' p = some (.lst vs) ∧ RpA K G' vs ds ∧ G' p = none ∧ H p = none
  | .fd b kvs => ∃ p, v = .ref p ∧ OdOk K G' H' p b kvs ∧ G' p = none ∧ H p = none
abbrev NewG (G G' H : Hp) : Prop := ∀ a, G' a ≠ none → G a ≠ none ∨ H a = none
def spD (K : PySem.W.Frag) (φ : List D → Option Rs) : Sp := fun vs H Q _ => ∃ G ds r, Le G H ∧ RpA K G vs ds ∧ φ ds = some r ∧
  ∀ v G' H', Le G G' → Le G' H' → NewG G G' H → Le H H' → RsNew K G' H H' v r → Q v H'
def spS (K : PySem.W.Frag) (φ : List D → Src → Option (Rs × Src)) : Sp := fun vs H Q _ => ∃ q us S G ds r S', vs = .ref q.1 :: us ∧ SrcOk H q S ∧ G q.1 = none ∧ G q.2 = none ∧ Le G H ∧ RpA K G us ds ∧ φ ds S = some (r, S') ∧
  ∀ v G' H', Le G G' → Le G' H' → NewG G G' H → (∀ a o, H a = some o → a ≠ q.1 → a ≠ q.2 → H' a = some o) → SrcOk H' q S' → RsNew K G' H H' v r → Q v H'
def args (ds : List D) : List (Option Ent) := ds.map fun d => some (.val d)
def out : Fl → Option Rs
  | .nx => some (.val .none)
  | .rt r => some r
  | _ => none
def S0 : Src := ⟨[], 0, 0, 0⟩
def runD (np nl : Nat) (B : FS) : List D → Option Rs := fun ds => if ds.length = np then (B ⟨args ds ++ List.replicate (nl - np) none, S0⟩).bind fun p => out p.1 else none
def runS (np nl : Nat) (B : FS) : List D → Src → Option (Rs × Src) := fun ds S => if ds.length + 1 = np then (B ⟨some .src :: (args ds ++ List.replicate (nl - np) none), S⟩).bind fun p => (out p.1).bind fun r => some (r, p.2.S) else none

/-! ### a def's promise where no guard stands around -/
structure FnG (P : Program) (w : World) (K : PySem.W.Frag) (mg : Str → Option Value) (base : Heap) (k : Nat) (f : Addr) (fd : FuncData) (ps : List Str) (sp : Sp) : Prop where
  len : ∀ vs H Q E, sp vs H Q E → vs.length = ps.length
  run : ∀ (A : Around) (o : List Env) (s : Shared) (H : Hp) (a : Args) (us : List Value) (vs : List V) (Q : VK) (E : XK), A.guards = some [] → Room k A → Env0 P w K mg base A o s H →
    BindsTo s fd a (ps.zip us) → Vals vs us → sp vs H Q E → codeAny (model P w) A (.call (.ref f) a) (CR CX0 o P w H s Q E) s
section
variable {P : Program} {w : World} {K : PySem.W.Frag} {mg : Str → Option Value} {base : Heap}
theorem FnG.mono {j k : Nat} {f : Addr} {fd : FuncData} {ps : List Str} {sp : Sp} (F : FnG P w K mg base j f fd ps sp) (h : j ≤ k) : FnG P w K mg base k f fd ps sp :=
  ⟨F.len, fun A o s H a us vs Q E g hr => F.run A o s H a us vs Q E g (hr.mono h)⟩
theorem fnG_of {x qual : Str} {st : Stmt} {f : Addr} {fd : FuncData} {N ps : List Str} {k : Nat} {sp : Sp} (F : Fun K x qual st f fd) (S : FnScope N ps (defScope st)) (len : ∀ vs H Q E, sp vs H Q E → vs.length = ps.length)
    (hb : ∀ (cdv : Value) (A : Around) (o : List Env) (s : Shared) (H : Hp) (vs : List V) (Q : VK) (E : XK), A.guards = some [] → Room k (A.deeper (envOfC qual (defScope st) s.heap.objs.size f cdv)) → sp vs H Q E →
      ∃ t, PSs (cxOf CX0 P w K mg base N qual (defScope st) f cdv A o s H E).nox (defBody st) t ∧ t { nx := fun _ H' => Q .non H', rt := Q } (L2.start N vs) H) : FnG P w K mg base (k + 1) f fd ps sp := by
  obtain ⟨oc, od, kV, doc, pm, an, cdv, ct, osl, rfl, lk, hcd⟩ := F.ex
  refine ⟨len, fun A o s H a us vs Q E g hr e0 hbd r hsp => ?_⟩
  have ln := len _ _ _ _ hsp
  have KX : K.In s.heap := e0.mod.kin.keeps (fun b u q => (e0.bs b u q).1)
  have lim := e0.mod.nolimit.keeps (fun b u q => (e0.bs b u q).1)
  have kinds : ∀ y ∈ ps.zip us, (defScope st).names.lookup y.1 = some .local ∨ ((defScope st).names.lookup y.1 = some .cell ∧ ((cellsFrom (s.heap.objs.size + 1) (defScope st).names []).lookup y.1).isSome = true) := by
    rintro ⟨n, v⟩ hy
    rcases S.par n (List.of_mem_zip hy).1 with z | z
    · exact .inl z
    · exact .inr ⟨z, PySem.W.cellsFrom_some _ _ _ (.inl z)⟩
  refine codeAny_call_function hr.depth (KX _ _ lk) rfl S.co S.gen rfl (PySem.W.codeRec_of KX hcd) (hbd _ _ _ _ (wpAny_newFunctionEnv_cells S.kind kinds fun env he s1 x => ?_))
  subst he
  obtain ⟨t, ht, hq⟩ := hb cdv A o s H vs Q E g (hr.deeper _) hsp
  have I := inv_start (CX := CX0) (E := E) S hr.hd e0 ln r x
  refine ⟨lim.keeps x.toInCall.keep, codeAny_func (wpAny_mono (ht.nox.run [] s1 (L2.start N vs) H _ I hq) (fun fl s' hs => ?_) (fun _ _ hs => hs))⟩
  cases fl with
  | ret u => obtain ⟨v, σ', H', J, rv, q⟩ := hs; exact ⟨v, H', J.os, J.bare, J.base, J.hok, rv, q⟩
  | next => obtain ⟨σ', H', J, q⟩ := hs; exact ⟨V.non, H', J.os, J.bare, J.base, J.hok, rfl, q⟩
  | brk => obtain ⟨_, _, _, q⟩ := hs; exact q.elim
  | cont => obtain ⟨_, _, _, q⟩ := hs; exact q.elim
end
section
variable {X : Cx} {k : Nat} {f : Addr} {fd : FuncData} {ps : List Str} {sp : Sp} {x : Str} {p pos : Pos} {e : Expr} {es : List Expr} {t : TA}
theorem runG {pins : List (Addr × Obj)} {σ : L2.St} {H : Hp} {s : Shared} {Q : VK} {us : List Value} {vs : List V} (F : FnG X.prog X.w X.K X.mg X.base k f fd ps sp) (gd : X.A.guards = some []) (hr : Room k X.A) (hb : Binds X.K fd ps [])
    (I : Inv X pins σ H s) (r : Vals vs us) (h : sp vs H Q E0) : wpAny (model X.prog X.w) X.A (call (.ref f) us) (EP X pins σ Q) X.xe s := by
  have hl : (us ++ []).length = ps.length := by rw [List.append_nil, ← r.length]; exact F.len _ _ _ _ h
  have hb' := hb s us I.kIn hl
  rw [List.append_nil] at hb'
  refine wpAny_call (codeAny_mono (F.run X.A X.stack s H ⟨us, []⟩ us vs Q E0 gd hr I.env0 hb' r h) fun r s' hq => ?_)
  cases r with
  | error e => exact (show False from hq).elim
  | ok fl => cases fl with
    | ret u => exact I.after hq
    | next => exact (show False from hq).elim
    | brk => exact (show False from hq).elim
    | cont => exact (show False from hq).elim
theorem pe_callG (F : FnG X.prog X.w X.K X.mg X.base k f fd ps sp) (gd : X.A.guards = some []) (hr : Room k X.A) (hg : Gl X x) (hm : X.mg x = some (.ref f)) (hk : PySem.W.keepIn X.K (.ref f) = true) (hb : Binds X.K fd ps [])
    (ha : PA X (e :: es) t) (hdb : (x == ("__debug__" : Str)) = false := by decide) (he : starEach (e :: es) X.env = (false, eval e X.env) :: starEach es X.env := by rfl) (hpl : (backTo pos (starEach es X.env)).any (·.1) = false := by rfl) :
    PE X (.Call (.Name x p) (e :: es) [] pos) (fun σ H Q => t σ H fun vs H1 => sp vs H1 Q E0) :=
  ⟨fun pins s σ H Q I h => wpAny_Call_Name_kw (ld_glob I hg hm (PySem.W.callWith_K (h₀ := X.base) I.ok.mod.kin hk (thn (ha.run pos pins s σ H _ I h) fun us s1 ⟨vs, H1, I1, r, q⟩ => ⟨I1.kIn, runG F gd hr hb I1 r q⟩) he hpl) hdb)⟩
theorem pe_callG0 (F : FnG X.prog X.w X.K X.mg X.base k f fd ps sp) (gd : X.A.guards = some []) (hr : Room k X.A) (hg : Gl X x) (hm : X.mg x = some (.ref f)) (hk : PySem.W.keepIn X.K (.ref f) = true) (hb : Binds X.K fd ps [])
    (hdb : (x == ("__debug__" : Str)) = false := by decide) : PE X (.Call (.Name x p) [] [] pos) (fun σ H Q => sp [] H Q E0) :=
  ⟨fun pins s σ H Q I h => wpAny_Call_Name_kw (ld_glob I hg hm (PySem.W.callWith_K0 I.kIn hk (runG (us := []) F gd hr hb I .nil h)) hdb)⟩
end

section
variable {P : Program} {w : World} {K : PySem.W.Frag} {mg : Str → Option Value} {base : Heap}
theorem args_slot {K : PySem.W.Frag} {G : Hp} {vs : List V} {ds : List D} (ra : RpA K G vs ds) (n : Nat) (i : Nat) (x : Ent) (h : (args ds ++ List.replicate n none)[i]? = some (some x)) :
    ∃ v d, (vs.map some ++ List.replicate n none)[i]? = some (some v) ∧ x = .val d ∧ Rp K G v d := by
  by_cases z : i < ds.length
  · have hl : (args ds).length = ds.length := by simp [args]
    rw [List.getElem?_append_left (by rw [hl]; exact z)] at h
    have : (args ds)[i]? = some (some (.val ds[i])) := by simp [args, z]
    rw [this] at h; cases h
    obtain ⟨v, h1, h2⟩ := ra.get (i := i) (d := ds[i]) (by simp [z])
    exact ⟨v, ds[i], by rw [List.getElem?_append_left (by rw [List.length_map, ra.length]; exact z)]; simp [h1], rfl, h2⟩
  · rw [List.getElem?_append_right (by simp [args]; omega)] at h
    rw [List.getElem?_replicate] at h
    split at h <;> cases h
theorem back_new {C : Cn} {G' H' : Hp} {own : Nat → Option Addr} {H : Hp} {v : V} {r : Rs} (hc : C.H0 = H) (ok : RsOk K C G' own H' v r) : RsNew K G' H H' v r := by
  subst hc
  cases r with
  | val d => exact ok
  | fl ds => obtain ⟨p, vs, h1, h2, h3, h4, h5, _⟩ := ok; exact ⟨p, vs, h1, h2, h3, h4, h5⟩
  | fd b kvs => obtain ⟨p, h1, h2, h4, h5, _⟩ := ok; exact ⟨p, h1, h2, h4, h5⟩
/-- what a body's end gives -/
theorem flow_end {C : Cn} {G : Hp} {e' : EE} {fl : Fl} {r : Rs} (hr : out fl = some r) {Q : VK}
    (k : ∀ v G' own' σ' H', Le G G' → Rep K C G' own' e' σ' H' → RsOk K C G' own' H' v r → Q v H') : FlOk K C G e' { nx := fun _ H' => Q .non H', rt := Q } fl := by
  cases fl with
  | nx =>
    cases hr
    exact fun σ' G' own' H' l R => k .non G' own' σ' H' l R Rp.non
  | rt r' =>
    cases hr
    exact fun v σ' G' own' H' l R ok => k v G' own' σ' H' l R ok
  | bk => cases hr
  | ct => cases hr
theorem fn_D {x qual : Str} {st : Stmt} {f : Addr} {fd : FuncData} {N ps : List Str} {k : Nat} {B : FS} (F : Fun K x qual st f fd) (S : FnScope N ps (defScope st))
    (hb : ∀ (cdv : Value) (A : Around) (outer : List Env) (s : Shared) (H : Hp) (E : XK), A.guards = some [] → Room k (A.deeper (envOfC qual (defScope st) s.heap.objs.size f cdv)) → BD (cxOf CX0 P w K mg base N qual (defScope st) f cdv A outer s H E).nox (defBody st) B) :
    FnG P w K mg base (k + 1) f fd ps (spD K (runD ps.length N.length B)) := by
  have pre : ∀ vs H Q E, spD K (runD ps.length N.length B) vs H Q E → vs.length = ps.length := by
    rintro vs H Q E ⟨G, ds, r, _, ra, hr, _⟩
    rw [ra.length]
    unfold runD at hr
    split at hr
    · assumption
    · cases hr
  refine fnG_of F S pre fun cdv A outer s H vs Q E gd hr h => ?_
  have hl := pre vs H Q E h
  obtain ⟨G, ds, r, hs, ra, hf, kk⟩ := h
  refine ⟨_, hb cdv A outer s H E gd hr, ?_⟩
  unfold runD at hf
  rw [if_pos (by rw [← ra.length]; exact hl)] at hf
  obtain ⟨⟨fl, e'⟩, q1, q2⟩ := bind_some_of hf
  have R : Rep K ⟨H, G, none⟩ G (fun _ => none) ⟨args ds ++ List.replicate (N.length - ps.length) none, S0⟩ (L2.start N vs) H := by
    refine ⟨hs, Le.rfl', fun a ha => .inl ha, fun a o h _ => h, ?_, fun i x h => ?_, (fun i a h => by cases h), (fun i j a h => by cases h), (fun i a h => by cases h), (fun q h => by cases h)⟩
    · have := ra.length; unfold L2.start; simp [args]; omega
    · obtain ⟨v, d, h1, rfl, h2⟩ := args_slot ra _ i x h
      refine ⟨v, ?_, h2⟩
      unfold L2.start; rw [hl]; exact h1
  refine ⟨⟨H, G, none⟩, G, _, _, fl, e', R, q1, flow_end q2 fun v G' own' σ' H' l R' ok => ?_⟩
  exact kk v G' H' l R'.sub (fun a ha => R'.new a ha) (fun a o h => R'.frm a o h fun q hq => by cases hq) (back_new rfl ok)
theorem fn_S {x qual : Str} {st : Stmt} {f : Addr} {fd : FuncData} {N ps : List Str} {k : Nat} {B : FS} (F : Fun K x qual st f fd) (S : FnScope N ps (defScope st))
    (hb : ∀ (cdv : Value) (A : Around) (outer : List Env) (s : Shared) (H : Hp) (E : XK), A.guards = some [] → Room k (A.deeper (envOfC qual (defScope st) s.heap.objs.size f cdv)) → BD (cxOf CX0 P w K mg base N qual (defScope st) f cdv A outer s H E).nox (defBody st) B) :
    FnG P w K mg base (k + 1) f fd ps (spS K (runS ps.length N.length B)) := by
  have pre : ∀ vs H Q E, spS K (runS ps.length N.length B) vs H Q E → vs.length = ps.length := by
    rintro vs H Q E ⟨q, us, S, G, ds, r, S', rfl, _, _, _, _, ra, hr, _⟩
    rw [List.length_cons, ra.length]
    unfold runS at hr
    split at hr
    · assumption
    · cases hr
  refine fnG_of F S pre fun cdv A outer s H vs Q E gd hr h => ?_
  have hl := pre vs H Q E h
  obtain ⟨q, us, S, G, ds, r, S', rfl, hq, g1, g2, hs, ra, hf, kk⟩ := h
  refine ⟨_, hb cdv A outer s H E gd hr, ?_⟩
  have hl' : ds.length + 1 = ps.length := by rw [← ra.length, ← hl]; rfl
  unfold runS at hf
  rw [if_pos hl'] at hf
  obtain ⟨⟨fl, e'⟩, q1, q2⟩ := bind_some_of hf
  obtain ⟨r', q3, q4⟩ := bind_some_of q2
  cases q4
  have n1 : H q.1 ≠ none := by rw [hq.d]; exact (fun z => nomatch z)
  have n2 : H q.2 ≠ none := by rw [hq.c]; exact (fun z => nomatch z)
  have R : Rep K ⟨H, G, some q⟩ G (fun _ => none) ⟨some .src :: (args ds ++ List.replicate (N.length - ps.length) none), S⟩ (L2.start N (.ref q.1 :: us)) H := by
    refine ⟨hs, Le.rfl', fun a ha => .inl ha, fun a o h _ => h, ?_, fun i x h => ?_, (fun i a h => by cases h), (fun i j a h => by cases h), (fun i a h => by cases h), (fun q' h => by cases h; exact ⟨hq, g1, g2, n1, n2⟩)⟩
    · unfold L2.start; simp [args, ra.length]; omega
    · cases i with
      | zero => cases h; exact ⟨.ref q.1, by simp [L2.start], q, rfl, rfl⟩
      | succ i =>
        obtain ⟨v, d, h1, rfl, h2⟩ := args_slot ra _ i x (by simpa using h)
        refine ⟨v, ?_, h2⟩
        unfold L2.start; rw [hl]; simpa using h1
  refine ⟨⟨H, G, some q⟩, G, _, _, fl, e', R, q1, flow_end q3 fun v G' own' σ' H' l R' ok => ?_⟩
  exact kk v G' H' l R'.sub (fun a ha => R'.new a ha) (fun a o h z1 z2 => R'.frm a o h fun q' hq' => by cases hq'; exact ⟨z1, z2⟩) (R'.src q rfl).1 (back_new rfl ok)
end

/-! ### calls of defs -/
def eCall (φ : List D → Option Rs) (A : FA) : FE := fun e => (A e).bind fun p => (φ p.1).bind fun r => some (r, p.2)
def eCallS (i : Nat) (φ : List D → Src → Option (Rs × Src)) (A : FA) : FE := fun e => match e.r[i]? with
  | some (some .src) => (A e).bind fun p => (φ p.1 p.2.S).bind fun q => some (q.1, ⟨p.2.r, q.2⟩)
  | _ => none
section
variable {K : PySem.W.Frag} {C : Cn} {G G' H H' : Hp} {own : Nat → Option Addr} {e : EE} {σ : L2.St} {v : V} {r : Rs}
theorem Rep.after (R : Rep K C G own e σ H) (l : Le G G') (l2 : Le G' H') (n : NewG G G' H) (k : Le H H') (h : RsNew K G' H H' v r) : Rep K C G' own e σ H' ∧ RsOk K C G' own H' v r := by
  have own' : ∀ i a, own i = some a → H' a = H a := fun i a q => by
    cases z : H a with
    | none => exact absurd z (R.thr i a q)
    | some u => exact k a u z
  refine ⟨⟨l2, R.ext.tr l, fun a ha => ?_, fun a o q z => k a o (R.frm a o q z), R.len, fun i x q => ?_, fun i a q => ⟨(R.ofr i a q).1, ?_⟩, R.inj, fun i a q => ?_, fun q hq => ?_⟩, ?_⟩
  · rcases n a ha with z | z
    · exact R.new a z
    · exact .inr (R.h0none z)
  · obtain ⟨v, h1, h2⟩ := R.slot i x q
    exact ⟨v, h1, h2.keep l rfl fun a ha => own' i a ha⟩
  · cases z : G' a with
    | none => rfl
    | some u =>
      rcases n a (by rw [z]; exact (fun z => nomatch z)) with y | y
      · exact absurd (R.ofr i a q).2 y
      · exact absurd y (R.thr i a q)
  · rw [own' i a q]; exact R.thr i a q
  · obtain ⟨⟨h1, h2⟩, h3⟩ := R.src q hq
    exact ⟨⟨k _ _ h1, k _ _ h2⟩, h3⟩
  · cases r with
    | val d => exact h
    | fl ds => obtain ⟨p, vs, h1, h2, h3, h4, h5⟩ := h; exact ⟨p, vs, h1, h2, h3, h4, R.h0none h5, R.notOwn h5⟩
    | fd b kvs => obtain ⟨p, h1, h2, h4, h5⟩ := h; exact ⟨p, h1, h2, h4, R.h0none h5, R.notOwn h5⟩
theorem Rep.afterS {q : Addr × Addr} {S' : Src} (R : Rep K C G own e σ H) (hq : C.so = some q) (l : Le G G') (l2 : Le G' H') (n : NewG G G' H) (k : ∀ a o, H a = some o → a ≠ q.1 → a ≠ q.2 → H' a = some o) (s : SrcOk H' q S') (h : RsNew K G' H H' v r) :
    Rep K C G' own ⟨e.r, S'⟩ σ H' ∧ RsOk K C G' own H' v r := by
  have nq : ∀ i a, own i = some a → a ≠ q.1 ∧ a ≠ q.2 := fun i a z => ⟨fun y => (R.src q hq).2.2.2.1 (y ▸ (R.ofr i a z).1), fun y => (R.src q hq).2.2.2.2 (y ▸ (R.ofr i a z).1)⟩
  have own' : ∀ i a, own i = some a → H' a = H a := fun i a y => by
    cases z : H a with
    | none => exact absurd z (R.thr i a y)
    | some u => exact k a u z (nq i a y).1 (nq i a y).2
  refine ⟨⟨l2, R.ext.tr l, fun a ha => ?_, fun a o y z => k a o (R.frm a o y z) (z q hq).1 (z q hq).2, R.len, fun i x y => ?_, fun i a y => ⟨(R.ofr i a y).1, ?_⟩, R.inj, fun i a y => ?_, fun q' hq' => ?_⟩, ?_⟩
  · rcases n a ha with z | z
    · exact R.new a z
    · exact .inr (R.h0none z)
  · obtain ⟨v, h1, h2⟩ := R.slot i x y
    exact ⟨v, h1, h2.keep l rfl fun a ha => own' i a ha⟩
  · cases z : G' a with
    | none => rfl
    | some u =>
      rcases n a (by rw [z]; exact (fun z => nomatch z)) with x | x
      · exact absurd (R.ofr i a y).2 x
      · exact absurd x (R.thr i a y)
  · rw [own' i a y]; exact R.thr i a y
  · rw [hq] at hq'; cases hq'
    exact ⟨s, (R.src q hq).2⟩
  · cases r with
    | val d => exact h
    | fl ds => obtain ⟨p, vs, h1, h2, h3, h4, h5⟩ := h; exact ⟨p, vs, h1, h2, h3, h4, R.h0none h5, R.notOwn h5⟩
    | fd b kvs => obtain ⟨p, h1, h2, h4, h5⟩ := h; exact ⟨p, h1, h2, h4, R.h0none h5, R.notOwn h5⟩
end
section
variable {X : Cx} {k : Nat} {f : Addr} {fd : FuncData} {ps : List Str} {x : Str} {p pos : Pos} {e : Expr} {es : List Expr}
theorem ed_call {φ : List D → Option Rs} {A : FA} (F : FnG X.prog X.w X.K X.mg X.base k f fd ps (spD X.K φ)) (gd : X.A.guards = some []) (hr : Room k X.A) (hg : Gl X x) (hm : X.mg x = some (.ref f)) (hk : PySem.W.keepIn X.K (.ref f) = true) (hb : Binds X.K fd ps [])
    (ha : PA X (e :: es) (tA X.K A)) (hdb : (x == ("__debug__" : Str)) = false := by decide) (he : starEach (e :: es) X.env = (false, eval e X.env) :: starEach es X.env := by rfl) (hpl : (backTo pos (starEach es X.env)).any (·.1) = false := by rfl) :
    ED X (.Call (.Name x p) (e :: es) [] pos) (eCall φ A) := by
  refine peImp (pe_callG F gd hr hg hm hk hb ha hdb he hpl) fun σ H Q w => ?_
  obtain ⟨C, G, own, ev, r, e', R, hf, k⟩ := w
  obtain ⟨⟨ds, e1⟩, h1, h2⟩ := bind_some_of hf
  obtain ⟨r', h3, h4⟩ := bind_some_of h2
  cases h4
  refine ⟨C, G, own, ev, ds, e1, R, h1, fun vs G1 own1 H1 l1 R1 ra => ?_⟩
  refine ⟨G1, ds, r, R1.sub, ra, h3, fun v G' H' l l2 n kk rn => ?_⟩
  obtain ⟨R', ok⟩ := R1.after l l2 n kk rn
  exact k v G' own1 H' (l1.tr l) R' ok
theorem ed_call0 {φ : List D → Option Rs} (F : FnG X.prog X.w X.K X.mg X.base k f fd ps (spD X.K φ)) (gd : X.A.guards = some []) (hr : Room k X.A) (hg : Gl X x) (hm : X.mg x = some (.ref f)) (hk : PySem.W.keepIn X.K (.ref f) = true) (hb : Binds X.K fd ps [])
    (hdb : (x == ("__debug__" : Str)) = false := by decide) : ED X (.Call (.Name x p) [] [] pos) (eCall φ aNil) := by
  refine peImp (pe_callG0 F gd hr hg hm hk hb hdb) fun σ H Q w => ?_
  obtain ⟨C, G, own, ev, r, e', R, hf, k⟩ := w
  obtain ⟨⟨ds, e1⟩, h1, h2⟩ := bind_some_of hf
  obtain ⟨r', h3, h4⟩ := bind_some_of h2
  cases h1; cases h4
  refine ⟨G, [], r, R.sub, .nil, h3, fun v G' H' l l2 n kk rn => ?_⟩
  obtain ⟨R', ok⟩ := R.after l l2 n kk rn
  exact k v G' own H' l R' ok
theorem ed_callS {i : Nat} {φ : List D → Src → Option (Rs × Src)} {A : FA} (F : FnG X.prog X.w X.K X.mg X.base k f fd ps (spS X.K φ)) (gd : X.A.guards = some []) (hr : Room k X.A) (hg : Gl X x) (hm : X.mg x = some (.ref f)) (hk : PySem.W.keepIn X.K (.ref f) = true) (hb : Binds X.K fd ps [])
    (h0 : PE X e (tVar i)) (ha : PA X es (tA X.K A)) (hdb : (x == ("__debug__" : Str)) = false := by decide) (he : starEach (e :: es) X.env = (false, eval e X.env) :: starEach es X.env := by rfl) (hpl : (backTo pos (starEach es X.env)).any (·.1) = false := by rfl) :
    ED X (.Call (.Name x p) (e :: es) [] pos) (eCallS i φ A) := by
  refine peImp (pe_callG F gd hr hg hm hk hb (pa_cons h0 ha he) hdb he hpl) fun σ H Q w => ?_
  obtain ⟨C, G, own, ev, r, e', R, hf, k⟩ := w
  unfold eCallS at hf
  split at hf
  · rename_i hi
    obtain ⟨⟨ds, e1⟩, h1, h2⟩ := bind_some_of hf
    obtain ⟨⟨r', S'⟩, h3, h4⟩ := bind_some_of h2
    cases h4
    obtain ⟨v0, y1, q, hq, rfl⟩ := R.slot i _ hi
    refine ⟨_, y1, C, G, own, ev, ds, e1, R, h1, fun vs G1 own1 H1 l1 R1 ra => ?_⟩
    obtain ⟨s1, s2, s3, s4, s5⟩ := R1.src q hq
    have gn : ∀ a, C.G0 a = none → C.H0 a ≠ none → G1 a = none := fun a z1 z2 => by
      cases z : G1 a with
      | none => rfl
      | some u =>
        rcases R1.new a (by rw [z]; exact (fun z => nomatch z)) with y | y
        · exact absurd z1 y
        · exact absurd y z2
    refine ⟨q, vs, e1.S, G1, ds, r', S', rfl, s1, gn _ s2 s4, gn _ s3 s5, R1.sub, ra, h3, fun v G' H' l l2 n kk so rn => ?_⟩
    obtain ⟨R', ok⟩ := R1.afterS hq l l2 n kk so rn
    exact k v G' own1 H' (l1.tr l) R' ok
  · cases hf
end
end EL
/-! EL5: operators, indices, slices, plain built-ins, methods of lists. -/
namespace EL
open PySem PySem.Spec PyProof.Rows L2
variable [KC]

section
variable {K : PySem.W.Frag} {G H : Hp} {v : V} {d : D}
theorem Rr.int {i : Int} (h : Rr K G H v (.int i)) : v = .int i := by cases h with | frz h => cases h; rfl
theorem Rr.bl {b : Bool} (h : Rr K G H v (.bool b)) : v = .bl b := by cases h with | frz h => cases h; rfl
theorem Rr.str {x : Str} (h : Rr K G H v (.str x)) : v = .str x := by cases h with | frz h => cases h; rfl
theorem Rr.non (h : Rr K G H v .none) : v = .non := by cases h with | frz h => cases h; rfl
theorem Rr.list {ds : List D} (l : Le G H) (h : Rr K G H v (.list ds)) : ∃ p vs, v = .ref p ∧ H p = some (.lst vs) ∧ RpA K G vs ds := by
  cases h with
  | frz h => cases h with | lst h r => exact ⟨_, _, rfl, l _ _ h, r⟩
  | lst h r => exact ⟨_, _, rfl, h, r⟩
theorem Rr.tup {ds : List D} (l : Le G H) (h : Rr K G H v (.tuple ds)) : ∃ p vs, v = .ref p ∧ SqT K H p vs ∧ RpA K G vs ds := by
  cases h with
  | frz h =>
    obtain ⟨a, rfl⟩ := h.isRef
    obtain ⟨vs, hs, ra⟩ := h.sqT
    exact ⟨_, _, rfl, sqT_mono l hs, ra⟩
theorem Rr.tupRp {ds : List D} (h : Rr K G H v (.tuple ds)) : Rp K G v (.tuple ds) := by cases h with | frz h => exact h
theorem RrA.one {vs : List V} (h : RrA K G H vs [d]) : ∃ x, vs = [x] ∧ Rr K G H x d := by
  cases h with | cons h1 h2 => cases h2; exact ⟨_, rfl, h1⟩
theorem RrA.two {vs : List V} {d' : D} (h : RrA K G H vs [d, d']) : ∃ x y, vs = [x, y] ∧ Rr K G H x d ∧ Rr K G H y d' := by
  cases h with | cons h1 h2 => obtain ⟨y, rfl, h3⟩ := h2.one; exact ⟨_, _, rfl, h1, h3⟩
theorem RpA.nilIff {vs : List V} {ds : List D} (h : RpA K G vs ds) : vs = [] ↔ ds = [] := by
  cases h with
  | nil => simp
  | cons _ _ => simp
theorem RpA.rep {vs : List V} {ds : List D} (h : RpA K G vs ds) : ∀ k : Nat, RpA K G (List.replicate k vs).flatten (List.replicate k ds).flatten
  | 0 => .nil
  | k + 1 => by
    rw [List.replicate_succ, List.replicate_succ, List.flatten_cons, List.flatten_cons]
    exact h.append (h.rep k)
theorem RpA.toInts {vs : List V} : ∀ {ns : List Int}, RpA K G vs (ns.map PyData.int) → vs = ns.map V.int
  | [], h => by cases h; rfl
  | n :: ns, h => by
    cases h with
    | cons h1 h2 => cases h1; rw [List.map_cons, h2.toInts]
theorem RpA.toBls {vs : List V} : ∀ {ns : List Bool}, RpA K G vs (ns.map PyData.bool) → vs = ns.map V.bl
  | [], h => by cases h; rfl
  | n :: ns, h => by
    cases h with
    | cons h1 h2 => cases h1; rw [List.map_cons, h2.toBls]
end

/-! ### arithmetic -/
def gAdd : D → D → Option Rs
  | .int i, .int j => some (.val (.int (i + j)))
  | .str a, .str b => if small (a.length + b.length) = true then some (.val (.str (a ++ b))) else none
  | .tuple a, .tuple b => if small (a.length + b.length) = true then some (.val (.tuple (a ++ b))) else none
  | .list a, .list b => if small (a.length + b.length) = true then some (.fl (a ++ b)) else none
  | _, _ => none
def gSub : D → D → Option Rs
  | .int i, .int j => some (.val (.int (i - j)))
  | _, _ => none
def mulOk (i j : Int) : Bool := hide ((-(2 ^ 64) < i ∧ i < 2 ^ 64) ∨ (-(2 ^ 64) < j ∧ j < 2 ^ 64))
def gMul : D → D → Option Rs
  | .int i, .int j => if mulOk i j = true then some (.val (.int (i * j))) else none
  | .list a, .int k => if (inW k && small (a.length * k.toNat)) = true then some (.fl (List.replicate k.toNat a).flatten) else none
  | _, _ => none
def divOk (j : Int) : Bool := hide (j ≠ 0 ∧ j.natAbs < 1073741824)
def gDiv : D → D → Option Rs
  | .int i, .int j => if divOk j = true then some (.val (.int (i.fdiv j))) else none
  | _, _ => none
def gMod : D → D → Option Rs
  | .int i, .int j => if decide (j ≠ 0) = true then some (.val (.int (i.fmod j))) else none
  | _, _ => none
def powOk (i j : Int) : Bool := hide (0 ≤ j ∧ j ≤ 1000000 ∧ i.natAbs < 2 ^ 64)
def gPow : D → D → Option Rs
  | .int i, .int j => if powOk i j = true then some (.val (.int (i ^ j.toNat))) else none
  | _, _ => none
def gNeg : D → Option Rs
  | .int i => some (.val (.int (-i)))
  | _ => none

theorem okM {i j : Int} (h : mulOk i j = true) : CMul i j := by
  have z := unhide h
  exact z
theorem okD {i j : Int} (h : divOk j = true) : CDivN i j := by
  have z := unhide h
  exact z
theorem okP {i j : Int} (h : powOk i j = true) : CPow i j := by
  have z := unhide h
  exact z
section
variable {X : Cx}
theorem o_add : OpD X (binaryOp .Add) gAdd := by
  intro pins s σ H x y v u Q I rx ry h
  obtain ⟨G, dx, dy, r, sub, hx, hy, hg, k⟩ := h
  unfold gAdd at hg
  split at hg
  · cases hg; cases hx.int; cases hy.int
    exact op_add pins s σ H _ _ v u Q I rx ry ⟨_, _, rfl, rfl, k _ _ (.same (.int _))⟩
  · split at hg
    · rename_i hz; cases hg; cases hx.str; cases hy.str
      exact op_add_str pins s σ H _ _ v u Q I rx ry ⟨_, _, rfl, rfl, line_of hz, k _ _ (.same (.str _))⟩
    · cases hg
  · split at hg
    · rename_i a b hz; cases hg
      obtain ⟨p, vs, rfl, h1, h2⟩ := hx.tup sub
      obtain ⟨q, ws, rfl, h3, h4⟩ := hy.tup sub
      refine op_catA pins s σ H _ _ v u Q I rx ry ⟨p, q, vs, ws, rfl, rfl, h1, h3, by rw [h2.length, h4.length]; exact line_of hz, fun z => ?_, fun _ z => ?_, fun _ _ l hl => k _ _ (.tup hl (h2.append h4))⟩
      · have := h2.nilIff.mp z; subst this
        exact k _ _ (.same (by simpa using hy.tupRp))
      · have := h4.nilIff.mp z; subst this
        exact k _ _ (.same (by simpa using hx.tupRp))
    · cases hg
  · split at hg
    · rename_i a b hz; cases hg
      obtain ⟨p, vs, rfl, h1, h2⟩ := hx.list sub
      obtain ⟨q, ws, rfl, h3, h4⟩ := hy.list sub
      exact op_cat pins s σ H _ _ v u Q I rx ry ⟨p, q, vs, ws, rfl, rfl, h1, h3, by rw [h2.length, h4.length]; exact line_of hz, fun l hl => k _ _ (.lst hl (h2.append h4))⟩
    · cases hg
  · cases hg
theorem o_sub : OpD X (binaryOp .Sub) gSub := by
  intro pins s σ H x y v u Q I rx ry h
  obtain ⟨G, dx, dy, r, sub, hx, hy, hg, k⟩ := h
  unfold gSub at hg
  split at hg
  · cases hg; cases hx.int; cases hy.int
    exact op_sub pins s σ H _ _ v u Q I rx ry ⟨_, _, rfl, rfl, k _ _ (.same (.int _))⟩
  · cases hg
theorem o_mul : OpD X (binaryOp .Mult) gMul := by
  intro pins s σ H x y v u Q I rx ry h
  obtain ⟨G, dx, dy, r, sub, hx, hy, hg, k⟩ := h
  unfold gMul at hg
  split at hg
  · split at hg
    · rename_i hz; cases hg; cases hx.int; cases hy.int
      exact op_mul pins s σ H _ _ v u Q I rx ry ⟨_, _, rfl, rfl, okM hz, k _ _ (.same (.int _))⟩
    · cases hg
  · split at hg
    · rename_i hz; cases hg; cases hy.int
      rw [Bool.and_eq_true] at hz
      obtain ⟨p, vs, rfl, h1, h2⟩ := hx.list sub
      obtain ⟨b1, b2⟩ := unhide hz.1
      exact op_rep pins s σ H _ _ v u Q I rx ry ⟨p, _, vs, rfl, rfl, h1, by omega, by omega, by rw [h2.length]; exact line_of hz.2, fun l hl => k _ _ (.lst hl (h2.rep _))⟩
    · cases hg
  · cases hg
theorem o_div : OpD X (binaryOp .FloorDiv) gDiv := by
  intro pins s σ H x y v u Q I rx ry h
  obtain ⟨G, dx, dy, r, sub, hx, hy, hg, k⟩ := h
  unfold gDiv at hg
  split at hg
  · split at hg
    · rename_i hz; cases hg; cases hx.int; cases hy.int
      exact op_fdivN pins s σ H _ _ v u Q I rx ry ⟨_, _, rfl, rfl, okD hz, k _ _ (.same (.int _))⟩
    · cases hg
  · cases hg
theorem o_mod : OpD X (binaryOp .Mod) gMod := by
  intro pins s σ H x y v u Q I rx ry h
  obtain ⟨G, dx, dy, r, sub, hx, hy, hg, k⟩ := h
  unfold gMod at hg
  split at hg
  · split at hg
    · rename_i hz; cases hg; cases hx.int; cases hy.int
      exact op_modN pins s σ H _ _ v u Q I rx ry ⟨_, _, rfl, rfl, of_decide_eq_true hz, k _ _ (.same (.int _))⟩
    · cases hg
  · cases hg
theorem o_pow : OpD X (binaryOp .Pow) gPow := by
  intro pins s σ H x y v u Q I rx ry h
  obtain ⟨G, dx, dy, r, sub, hx, hy, hg, k⟩ := h
  unfold gPow at hg
  split at hg
  · split at hg
    · rename_i hz; cases hg; cases hx.int; cases hy.int
      exact op_pow pins s σ H _ _ v u Q I rx ry ⟨_, _, rfl, rfl, okP hz, k _ _ (.same (.int _))⟩
    · cases hg
  · cases hg
theorem u_neg : UnD X (unaryOp .USub) gNeg := by
  intro pins s σ H x v Q I rx h
  obtain ⟨G, dx, r, sub, hx, hg, k⟩ := h
  unfold gNeg at hg
  split at hg
  · cases hg; cases hx.int
    exact un_neg pins s σ H _ v Q I rx ⟨_, rfl, k _ _ (.same (.int _))⟩
  · cases hg
end

/-! ### comparisons -/
def gLt : D → D → Option Rs
  | .int i, .int j => some (.val (.bool (decide (i < j))))
  | _, _ => none
def gLe : D → D → Option Rs
  | .int i, .int j => some (.val (.bool (decide (i ≤ j))))
  | _, _ => none
def gGt : D → D → Option Rs
  | .int i, .int j => some (.val (.bool (decide (j < i))))
  | _, _ => none
def gGe : D → D → Option Rs
  | .int i, .int j => some (.val (.bool (decide (j ≤ i))))
  | _, _ => none
def gEq (x y : D) : Option Rs := if (SeqAt.shaped x && SeqAt.shaped y) = true then some (.val (.bool (PyData.eqv x y))) else none
def gNe (x y : D) : Option Rs := if (SeqAt.shaped x && SeqAt.shaped y) = true then some (.val (.bool (!PyData.eqv x y))) else none
def isNB : D → Bool
  | .none => true
  | _ => false
def gIsN : D → D → Option Rs
  | x, .none => some (.val (.bool (isNB x)))
  | .bool a, .bool b => some (.val (.bool (decide (a = b))))
  | _, _ => none
def gNotN : D → D → Option Rs
  | x, .none => some (.val (.bool (!isNB x)))
  | .bool a, .bool b => some (.val (.bool (!decide (a = b))))
  | _, _ => none
section
variable {K : PySem.W.Frag} {G H : Hp}
mutual
theorem Rp.dp (l : Le G H) : ∀ (d : D) (v : V), d.canLay0 = true → Rp K G v d → Dp K H v d
  | .none, _, _, h => by cases h; exact .non
  | .bool b, _, _, h => by cases h; exact .bl b
  | .int i, _, _, h => by cases h; exact .int i
  | .str x, _, _, h => by cases h; exact .str x
  | .list ds, _, c, h => by
    cases h with
    | lst h r => exact .lst (.of (l _ _ h)) (Rp.dpAll l ds _ (by simpa [PyData.canLay0] using c) r)
  | .tuple ds, _, c, h => by
    obtain ⟨a, rfl⟩ := h.isRef
    obtain ⟨vs, hs, r⟩ := h.sqT
    exact .tup (sqT_mono l hs) (Rp.dpAll l ds _ (by simpa [PyData.canLay0] using c) r)
  | .dict _, _, c, _ => by simp [PyData.canLay0] at c
theorem Rp.dpAll (l : Le G H) : ∀ (ds : List D) (vs : List V), PyData.canLayAll0 ds = true → RpA K G vs ds → DpAll K H vs ds
  | [], _, _, h => by cases h; exact .nil
  | d :: ds, _, c, h => by
    have c' : d.canLay0 = true ∧ PyData.canLayAll0 ds = true := by simpa [PyData.canLayAll0] using c
    cases h with
    | cons h1 h2 => exact .cons (Rp.dp l d _ c'.1 h1) (Rp.dpAll l ds _ c'.2 h2)
end
theorem Rr.dp (l : Le G H) {d : D} {v : V} (s : SeqAt.shaped d = true) (h : Rr K G H v d) : Dp K H v d := by
  have c := SeqAt.canLay_of_shaped s
  cases h with
  | frz h => exact h.dp l _ _ c
  | lst h r => exact .lst (.of h) (Rp.dpAll l _ _ (by simpa [PyData.canLay0] using c) r)
  | dic h => simp [PyData.canLay0] at c
end
section
variable {X : Cx}
theorem o_eq (hu : X.A.units + 64 < cLine) : OpD X (compareOp .Eq) gEq := by
  intro pins s σ H x y v u Q I rx ry h
  obtain ⟨G, dx, dy, r, sub, hx, hy, hg, k⟩ := h
  unfold gEq at hg
  split at hg
  · rename_i hz; cases hg
    rw [Bool.and_eq_true] at hz
    exact op_eqD hu pins s σ H _ _ v u Q I rx ry ⟨dx, dy, hx.dp sub hz.1, hy.dp sub hz.2, hz.1, hz.2, k _ _ (.same (.bl _))⟩
  · cases hg
theorem o_ne (hu : X.A.units + 64 < cLine) : OpD X (compareOp .NotEq) gNe := by
  intro pins s σ H x y v u Q I rx ry h
  obtain ⟨G, dx, dy, r, sub, hx, hy, hg, k⟩ := h
  unfold gNe at hg
  split at hg
  · rename_i hz; cases hg
    rw [Bool.and_eq_true] at hz
    exact op_neD hu pins s σ H _ _ v u Q I rx ry ⟨dx, dy, hx.dp sub hz.1, hy.dp sub hz.2, hz.1, hz.2, k _ _ (.same (.bl _))⟩
  · cases hg
theorem o_lt : OpD X (compareOp .Lt) gLt := by
  intro pins s σ H x y v u Q I rx ry h
  obtain ⟨G, dx, dy, r, sub, hx, hy, hg, k⟩ := h
  unfold gLt at hg
  split at hg
  · cases hg; cases hx.int; cases hy.int
    exact op_lt pins s σ H _ _ v u Q I rx ry ⟨_, _, rfl, rfl, k _ _ (.same (.bl _))⟩
  · cases hg
theorem o_le : OpD X (compareOp .LtE) gLe := by
  intro pins s σ H x y v u Q I rx ry h
  obtain ⟨G, dx, dy, r, sub, hx, hy, hg, k⟩ := h
  unfold gLe at hg
  split at hg
  · cases hg; cases hx.int; cases hy.int
    exact op_le pins s σ H _ _ v u Q I rx ry ⟨_, _, rfl, rfl, k _ _ (.same (.bl _))⟩
  · cases hg
theorem o_gt : OpD X (compareOp .Gt) gGt := by
  intro pins s σ H x y v u Q I rx ry h
  obtain ⟨G, dx, dy, r, sub, hx, hy, hg, k⟩ := h
  unfold gGt at hg
  split at hg
  · cases hg; cases hx.int; cases hy.int
    exact op_gt pins s σ H _ _ v u Q I rx ry ⟨_, _, rfl, rfl, k _ _ (.same (.bl _))⟩
  · cases hg
theorem o_ge : OpD X (compareOp .GtE) gGe := by
  intro pins s σ H x y v u Q I rx ry h
  obtain ⟨G, dx, dy, r, sub, hx, hy, hg, k⟩ := h
  unfold gGe at hg
  split at hg
  · cases hg; cases hx.int; cases hy.int
    exact op_ge pins s σ H _ _ v u Q I rx ry ⟨_, _, rfl, rfl, k _ _ (.same (.bl _))⟩
  · cases hg
theorem Rr.isNon {K : PySem.W.Frag} {G H : Hp} {v : V} {d : D} (h : Rr K G H v d) : decide (v = .non) = isNB d := by
  cases h with
  | frz h => cases h <;> simp [isNB]
  | lst h r => simp [isNB]
  | dic h => simp [isNB]
theorem o_is : OpD X (compareOp .Is) gIsN := by
  intro pins s σ H x y v u Q I rx ry h
  obtain ⟨G, dx, dy, r, sub, hx, hy, hg, k⟩ := h
  unfold gIsN at hg
  split at hg
  · cases hg; cases hy.non
    exact op_isN pins s σ H _ _ v u Q I rx ry ⟨rfl, by rw [hx.isNon]; exact k _ _ (.same (.bl _))⟩
  · cases hg; cases hx.bl; cases hy.bl
    exact op_is_bl pins s σ H _ _ v u Q I rx ry ⟨_, _, rfl, rfl, k _ _ (.same (.bl _))⟩
  · cases hg
theorem o_isnot : OpD X (compareOp .IsNot) gNotN := by
  intro pins s σ H x y v u Q I rx ry h
  obtain ⟨G, dx, dy, r, sub, hx, hy, hg, k⟩ := h
  unfold gNotN at hg
  split at hg
  · cases hg; cases hy.non
    refine op_notN pins s σ H _ _ v u Q I rx ry ⟨rfl, ?_⟩
    rw [hx.isNon]
    exact k _ _ (.same (.bl _))
  · cases hg; cases hx.bl; cases hy.bl
    exact op_isnot_bl pins s σ H _ _ v u Q I rx ry ⟨_, _, rfl, rfl, k _ _ (.same (.bl _))⟩
  · cases hg
end

/-! ### indices and slices -/
def gIx : D → D → Option Rs
  | .list ds, .int i => (atI ds i).bind fun d => some (.val d)
  | .tuple ds, .int i => (atI ds i).bind fun d => some (.val d)
  | .str z, .int i => if small z.length = true then (atI z.cps.toList i).bind fun c => some (.val (.str ⟨#[c]⟩)) else none
  | _, _ => none
theorem RpA.atI {K : PySem.W.Frag} {G : Hp} {vs : List V} {ds : List D} (h : RpA K G vs ds) {i : Int} {d : D} (e : L2.atI ds i = some d) : ∃ v, L2.atI vs i = some v ∧ Rp K G v d := by
  unfold L2.atI at e ⊢
  rw [h.length]
  obtain ⟨j, h1, h2⟩ := bind_some_of e
  rw [h1]
  exact h.get h2
section
variable {X : Cx}
theorem ed_sub {a b : Expr} {pos : Pos} {A B : FO} (ha : OE X a A) (hb : OE X b B) (hs : PlainIx b) : ED X (.Subscript a b pos) (eBin gIx A B) := by
  refine ed_ix (r := rIx X.K) (fun ta tb h1 h2 => pe_ix ix_seq h1 h2 hs) (fun x y H Q h => ?_) ha hb
  obtain ⟨G, dx, dy, r, sub, hx, hy, hg, k⟩ := h
  unfold gIx at hg
  split at hg
  · obtain ⟨d, q1, q2⟩ := bind_some_of hg
    cases q2; cases hy.int
    obtain ⟨p, vs, rfl, h1, h2⟩ := hx.list sub
    obtain ⟨w, q3, q4⟩ := h2.atI q1
    exact .inl ⟨p, vs, _, w, rfl, rfl, .of h1, q3, k _ _ (.same q4)⟩
  · obtain ⟨d, q1, q2⟩ := bind_some_of hg
    cases q2; cases hy.int
    obtain ⟨p, vs, rfl, h1, h2⟩ := hx.tup sub
    obtain ⟨w, q3, q4⟩ := h2.atI q1
    exact .inr (.inl ⟨p, vs, _, w, rfl, rfl, h1, q3, k _ _ (.same q4)⟩)
  · split at hg
    · rename_i hz
      obtain ⟨c, q1, q2⟩ := bind_some_of hg
      cases q2; cases hy.int; cases hx.str
      exact .inr (.inr ⟨_, _, c, rfl, rfl, line_of hz, q1, k _ _ (.same (.str _))⟩)
    · cases hg
  · cases hg
end
abbrev FP := EE → Option (Option Int × EE)
def tP (K : PySem.W.Frag) (F : FP) : TO := fun σ H Q => ∃ C G own e l e', Rep K C G own e σ H ∧ F e = some (l, e') ∧ ∀ G' own' H', Le G G' → Rep K C G' own' e' σ H' → Q l H'
def pNo : FP := fun e => some (none, e)
def pIn (F : FE) : FP := fun e => (F e).bind fun p => match p.1 with
  | .val (.int i) => some (some i, p.2)
  | _ => none
def cutD (ds : List D) (lo hi : Option Int) : List D := (ds.drop (HT.sIx ds.length 0 lo)).take (HT.sIx ds.length ds.length hi - HT.sIx ds.length 0 lo)
def gSl : D → Option Int → Option Int → Option Rs
  | .list ds, lo, hi => some (.fl (cutD ds lo hi))
  | .tuple ds, lo, hi => some (.val (.tuple (cutD ds lo hi)))
  | _, _, _ => none
def eSl (A : FO) (L U : FP) : FE := fun e => (A e).bind fun p => (L p.2).bind fun l => (U l.2).bind fun u => (p.1 u.2).bind fun d => (gSl d l.1 u.1).bind fun r => some (r, u.2)
theorem RpA.cut {K : PySem.W.Frag} {G : Hp} {vs : List V} {ds : List D} (h : RpA K G vs ds) (lo hi : Option Int) : RpA K G (cutV vs lo hi) (cutD ds lo hi) := by
  unfold cutV cutD
  rw [h.length]
  exact (h.drop _).take _
section
variable {X : Cx}
theorem pp_no : PO X none (tP X.K pNo) := by
  refine ⟨fun pins s σ H Q I w => ?_⟩
  obtain ⟨C, G, own, ev, l, e', R, hf, k⟩ := w
  cases hf
  exact po_none.run pins s σ H Q I (k G own H Le.rfl' R)
theorem pp_in {e : Expr} {F : FE} (h : ED X e F) : PO X (some e) (tP X.K (pIn F)) := by
  refine ⟨fun pins s σ H Q I w => ?_⟩
  obtain ⟨C, G, own, ev, l, e', R, hf, k⟩ := w
  obtain ⟨⟨r, e1⟩, h1, h2⟩ := bind_some_of hf
  dsimp only at h2
  split at h2
  · cases h2
    refine (po_some h).run pins s σ H Q I ⟨C, G, own, ev, _, _, R, h1, fun v G1 own1 H1 l1 R1 ok => ?_⟩
    rename_i i
    have ok : Rp X.K G1 v (.int i) := ok
    cases ok
    exact ⟨i, rfl, k G1 own1 H1 l1 R1⟩
  · cases h2
theorem sl_any {X : Cx} : SlR X (fun x lo hi H Q => ∃ G d r, Le G H ∧ Rr X.K G H x d ∧ gSl d lo hi = some r ∧ ∀ v H', Grow X.K G H v r H' → Q v H') := by
  intro pins s σ H x v vl vu lo hi sl Q I rx hs pl pu h
  obtain ⟨G, d, r, sub, hx, hg, k⟩ := h
  unfold gSl at hg
  split at hg
  · cases hg
    obtain ⟨p, vs, rfl, h1, h2⟩ := hx.list sub
    exact sl_list pins s σ H _ v vl vu lo hi sl Q I rx hs pl pu ⟨p, vs, rfl, .of h1, fun l hl => k _ _ (.lst hl (h2.cut lo hi))⟩
  · cases hg
    obtain ⟨p, vs, rfl, h1, h2⟩ := hx.tup sub
    refine sl_tupA pins s σ H _ v vl vu lo hi sl Q I rx hs pl pu ⟨p, vs, rfl, h1, fun w => ?_, fun _ l hl => k _ _ (.tup hl (h2.cut lo hi))⟩
    refine k _ _ (.same ?_)
    rename_i ds
    have e : cutD ds lo hi = ds := by
      unfold cutD
      rw [← h2.length, w.1, w.2, List.drop_zero, Nat.sub_zero, h2.length, List.take_length]
    rw [e]
    exact hx.tupRp
  · cases hg
theorem ed_slice {e : Expr} {lo hi : Option Expr} {p2 pos : Pos} {A : FO} {L U : FP} (he : OE X e A) (hl : PO X lo (tP X.K L)) (hu : PO X hi (tP X.K U)) : ED X (.Subscript e (.Slice lo hi none p2) pos) (eSl A L U) := by
  refine peImp (pe_slice sl_any he hl hu) fun σ H Q w => ?_
  obtain ⟨C, G, own, ev, r, e', R, hf, k⟩ := w
  obtain ⟨⟨t1, e1⟩, h1, h2⟩ := bind_some_of hf
  obtain ⟨⟨l, e2⟩, h3, h4⟩ := bind_some_of h2
  obtain ⟨⟨u, e3⟩, h5, h6⟩ := bind_some_of h4
  obtain ⟨d, h7, h8⟩ := bind_some_of h6
  obtain ⟨r', h9, hx⟩ := bind_some_of h8
  cases hx
  refine ⟨C, G, own, ev, t1, e1, R, h1, fun v G1 own1 H1 l1 R1 g1 => ⟨C, G1, own1, e1, l, e2, R1, h3, fun G2 own2 H2 l2 R2 => ⟨C, G2, own2, e2, u, e3, R2, h5, fun G3 own3 H3 l3 R3 => ?_⟩⟩⟩
  refine ⟨G3, d, r, R3.sub, g1 _ _ _ _ _ (l2.tr l3) R3 h7, h9, fun z H4 gr => ?_⟩
  obtain ⟨G4, l4, R4, ok⟩ := R3.grow gr
  exact k z G4 own3 H4 (l1.tr (l2.tr (l3.tr l4))) R4 ok
end

/-! ### built-ins -/
def gLen : List D → Option Rs
  | [.list ds] => some (.val (.int ds.length))
  | [.tuple ds] => some (.val (.int ds.length))
  | [.str z] => if small z.length = true then some (.val (.int z.length)) else none
  | _ => none
def gAbs : List D → Option Rs
  | [.int i] => some (.val (.int (if i < 0 then -i else i)))
  | _ => none
def gInt : List D → Option Rs
  | [.int i] => some (.val (.int i))
  | [.bool b] => some (.val (.int (if b then 1 else 0)))
  | _ => none
def gTuple : List D → Option Rs
  | [.list ds] => some (.val (.tuple ds))
  | [.tuple ds] => some (.val (.tuple ds))
  | _ => none
def gList : List D → Option Rs
  | [.list ds] => some (.fl ds)
  | [.tuple ds] => some (.fl ds)
  | _ => none
def gMax : List D → Option Rs
  | [.int i, .int j] => some (.val (.int (if j > i then j else i)))
  | _ => none
def gMin : List D → Option Rs
  | [.int i, .int j] => some (.val (.int (if j < i then j else i)))
  | _ => none
def blsD : List D → Option (List Bool)
  | [] => some []
  | .bool b :: ds => (blsD ds).bind fun bs => some (b :: bs)
  | _ => none
def intsD : List D → Option (List Int)
  | [] => some []
  | .int b :: ds => (intsD ds).bind fun bs => some (b :: bs)
  | _ => none
theorem blsD_of : ∀ {ds : List D} {bs : List Bool}, blsD ds = some bs → ds = bs.map PyData.bool
  | [], bs, h => by cases h; rfl
  | d :: ds, bs, h => by
    cases d <;> try (simp [blsD] at h; done)
    obtain ⟨cs, h1, h2⟩ := bind_some_of (by simpa only [blsD] using h)
    cases h2
    rw [blsD_of h1]; rfl
theorem intsD_of : ∀ {ds : List D} {bs : List Int}, intsD ds = some bs → ds = bs.map PyData.int
  | [], bs, h => by cases h; rfl
  | d :: ds, bs, h => by
    cases d <;> try (simp [intsD] at h; done)
    obtain ⟨cs, h1, h2⟩ := bind_some_of (by simpa only [intsD] using h)
    cases h2
    rw [intsD_of h1]; rfl
def gAll : List D → Option Rs
  | [.list ds] => (blsD ds).bind fun bs => some (.val (.bool (bs.all id)))
  | _ => none
def gAny : List D → Option Rs
  | [.list ds] => (blsD ds).bind fun bs => some (.val (.bool (bs.any id)))
  | _ => none
def gSumL : List D → Option Rs
  | [.list ds] => (intsD ds).bind fun bs => some (.val (.int bs.sum))
  | _ => none
section
variable {X : Cx}
theorem c_len : CallD X (.builtin "len") gLen := by
  intro pins s σ H xs us Q I rs h
  obtain ⟨G, ds, r, sub, hx, hg, k⟩ := h
  unfold gLen at hg
  split at hg
  · cases hg
    obtain ⟨x, rfl, h⟩ := hx.one
    obtain ⟨p, vs, rfl, h1, h2⟩ := h.list sub
    refine call_len_seq pins s σ H _ us Q I rs ⟨p, vs, rfl, .inl (.of h1), ?_⟩
    rw [h2.length]; exact k _ _ (.same (.int _))
  · cases hg
    obtain ⟨x, rfl, h⟩ := hx.one
    obtain ⟨p, vs, rfl, h1, h2⟩ := h.tup sub
    refine call_len_seq pins s σ H _ us Q I rs ⟨p, vs, rfl, .inr h1, ?_⟩
    rw [h2.length]; exact k _ _ (.same (.int _))
  · split at hg
    · rename_i hz; cases hg
      obtain ⟨x, rfl, h⟩ := hx.one
      cases h.str
      exact call_len_str pins s σ H _ us Q I rs ⟨_, rfl, line_of hz, k _ _ (.same (.int _))⟩
    · cases hg
  · cases hg
theorem c_abs : CallD X (.builtin "abs") gAbs := by
  intro pins s σ H xs us Q I rs h
  obtain ⟨G, ds, r, sub, hx, hg, k⟩ := h
  unfold gAbs at hg
  split at hg
  · cases hg
    obtain ⟨x, rfl, h⟩ := hx.one
    cases h.int
    exact call_abs pins s σ H _ us Q I rs ⟨_, rfl, k _ _ (.same (.int _))⟩
  · cases hg
theorem c_int : CallD X (.type "int") gInt := by
  intro pins s σ H xs us Q I rs h
  obtain ⟨G, ds, r, sub, hx, hg, k⟩ := h
  unfold gInt at hg
  split at hg
  · cases hg
    obtain ⟨x, rfl, h⟩ := hx.one
    cases h.int
    exact call_int1 pins s σ H _ us Q I rs (.inl ⟨_, rfl, k _ _ (.same (.int _))⟩)
  · cases hg
    obtain ⟨x, rfl, h⟩ := hx.one
    cases h.bl
    exact call_int1 pins s σ H _ us Q I rs (.inr ⟨_, rfl, k _ _ (.same (.int _))⟩)
  · cases hg
theorem c_tuple : CallD X (.type "tuple") gTuple := by
  intro pins s σ H xs us Q I rs h
  obtain ⟨G, ds, r, sub, hx, hg, k⟩ := h
  unfold gTuple at hg
  split at hg
  · cases hg
    obtain ⟨x, rfl, h⟩ := hx.one
    obtain ⟨p, vs, rfl, h1, h2⟩ := h.list sub
    exact call_tuple_of pins s σ H _ us Q I rs ⟨p, vs, rfl, .inl ⟨.of h1, fun l hl => k _ _ (.tup hl h2)⟩⟩
  · cases hg
    obtain ⟨x, rfl, h⟩ := hx.one
    obtain ⟨p, vs, rfl, h1, h2⟩ := h.tup sub
    exact call_tuple_of pins s σ H _ us Q I rs ⟨p, vs, rfl, .inr ⟨h1, k _ _ (.same h.tupRp)⟩⟩
  · cases hg
theorem c_list : CallD X (.type "list") gList := by
  intro pins s σ H xs us Q I rs h
  obtain ⟨G, ds, r, sub, hx, hg, k⟩ := h
  unfold gList at hg
  split at hg
  · cases hg
    obtain ⟨x, rfl, h⟩ := hx.one
    obtain ⟨p, vs, rfl, h1, h2⟩ := h.list sub
    exact call_list_of pins s σ H _ us Q I rs ⟨p, vs, rfl, .inl (.of h1), fun l hl => k _ _ (.lst hl h2)⟩
  · cases hg
    obtain ⟨x, rfl, h⟩ := hx.one
    obtain ⟨p, vs, rfl, h1, h2⟩ := h.tup sub
    exact call_list_of pins s σ H _ us Q I rs ⟨p, vs, rfl, .inr h1, fun l hl => k _ _ (.lst hl h2)⟩
  · cases hg
theorem c_max (hc : X.calm = true) : CallD X (.builtin "max") gMax := by
  intro pins s σ H xs us Q I rs h
  obtain ⟨G, ds, r, sub, hx, hg, k⟩ := h
  unfold gMax at hg
  split at hg
  · cases hg
    obtain ⟨x, y, rfl, h1, h2⟩ := hx.two
    cases h1.int; cases h2.int
    exact call_max2 hc pins s σ H _ us Q I rs ⟨_, _, rfl, k _ _ (.same (.int _))⟩
  · cases hg
theorem c_min (hc : X.calm = true) : CallD X (.builtin "min") gMin := by
  intro pins s σ H xs us Q I rs h
  obtain ⟨G, ds, r, sub, hx, hg, k⟩ := h
  unfold gMin at hg
  split at hg
  · cases hg
    obtain ⟨x, y, rfl, h1, h2⟩ := hx.two
    cases h1.int; cases h2.int
    exact call_min2 hc pins s σ H _ us Q I rs ⟨_, _, rfl, k _ _ (.same (.int _))⟩
  · cases hg
theorem c_all (hc : X.calm = true) : CallD X (.builtin "all") gAll := by
  intro pins s σ H xs us Q I rs h
  obtain ⟨G, ds, r, sub, hx, hg, k⟩ := h
  unfold gAll at hg
  split at hg
  · obtain ⟨bs, q1, q2⟩ := bind_some_of hg
    cases q2
    obtain ⟨x, rfl, h⟩ := hx.one
    obtain ⟨p, vs, rfl, h1, h2⟩ := h.list sub
    rw [blsD_of q1] at h2
    cases h2.toBls
    exact cr_all hc pins s σ H _ us Q I rs ⟨p, bs, rfl, .of h1, k _ _ (.same (.bl _))⟩
  · cases hg
theorem c_any (hc : X.calm = true) : CallD X (.builtin "any") gAny := by
  intro pins s σ H xs us Q I rs h
  obtain ⟨G, ds, r, sub, hx, hg, k⟩ := h
  unfold gAny at hg
  split at hg
  · obtain ⟨bs, q1, q2⟩ := bind_some_of hg
    cases q2
    obtain ⟨x, rfl, h⟩ := hx.one
    obtain ⟨p, vs, rfl, h1, h2⟩ := h.list sub
    rw [blsD_of q1] at h2
    cases h2.toBls
    exact cr_any hc pins s σ H _ us Q I rs ⟨p, bs, rfl, .of h1, k _ _ (.same (.bl _))⟩
  · cases hg
theorem c_sumL (hc : X.calm = true) : CallD X (.builtin "sum") gSumL := by
  intro pins s σ H xs us Q I rs h
  obtain ⟨G, ds, r, sub, hx, hg, k⟩ := h
  unfold gSumL at hg
  split at hg
  · obtain ⟨bs, q1, q2⟩ := bind_some_of hg
    cases q2
    obtain ⟨x, rfl, h⟩ := hx.one
    obtain ⟨p, vs, rfl, h1, h2⟩ := h.list sub
    rw [intsD_of q1] at h2
    cases h2.toInts
    exact cr_sum hc pins s σ H _ us Q I rs ⟨p, bs, rfl, .of h1, k _ _ (.same (.int _))⟩
  · cases hg
end

/-! ### isinstance -/
def tyD : D → String
  | .none => "NoneType"
  | .bool _ => "bool"
  | .int _ => "int"
  | .str _ => "str"
  | .list _ => "list"
  | .tuple _ => "tuple"
  | .dict _ => "dict"
/-- one of the seven, asked for one of these -/
def instB (T t : String) : Bool := T == t || (T == "int" && t == "bool")
def instT (T : String) : Bool := ["bool", "int", "str", "list", "tuple", "dict"].contains T
def eInst (A : FO) (T : String) : FE := fun e => (A e).bind fun p => (p.1 p.2).bind fun d => if instT T = true then some (.val (.bool (instB T (tyD d))), p.2) else none
section
variable {X : Cx} {K : PySem.W.Frag} {G H : Hp}
theorem Rr.ty {v : V} {d : D} (l : Le G H) (h : Rr K G H v d) : TyX K H v (.type (tyD d)) := by
  cases h with
  | frz h =>
    cases h with
    | non => exact .base .non
    | bl b => exact .base (.bl b)
    | int i => exact .base (.int i)
    | str x => exact .base (.str x)
    | lst h r => exact .base (.lst (l _ _ h))
    | tup h r => exact .base (.tup (l _ _ h))
    | kon h r c =>
      rcases h with (h | ⟨o, h⟩) | ⟨o, its, n, hk, hc, _⟩
      · cases h
      · cases h
      · exact .kTuple hk hc
    | dk h r => exact .base (.dK (l _ _ h))
    | dt h r => exact .base (.dT (l _ _ h))
  | lst h r => exact .base (.lst h)
  | dic h =>
    rcases h with ⟨_, _, _, h, _⟩ | ⟨_, _, _, h, _⟩
    · exact .base (.dK h)
    · exact .base (.dT h)
theorem kit_all : (["bool", "int", "str", "list", "tuple", "dict"].all fun T => ["NoneType", "bool", "int", "str", "list", "tuple", "dict"].all fun t => (instB T t == true || instB T t == false)) = true := by decide
end
end EL
/-! EL6: isinstance, repr. -/
namespace EL
open PySem PySem.Spec PyProof.Rows L2
variable [KC]

def kTab : List (String × String) := (["bool", "int", "str", "list", "tuple", "dict"].map fun T => ["NoneType", "bool", "int", "str", "list", "tuple", "dict"].map fun t => (T, t)).flatten
theorem kTab_ok : (kTab.all fun q => kitB q.2 q.1 == some (instB q.1 q.2)) = true := by decide +kernel
theorem tyD_in (d : D) : tyD d ∈ ["NoneType", "bool", "int", "str", "list", "tuple", "dict"] := by cases d <;> simp [tyD]
theorem kit_inst {K : PySem.W.Frag} {T : String} (h : instT T = true) (d : D) : PySem.W.kitOne K (.type (tyD d)) (.type T) = some (instB T (tyD d)) := by
  refine kit_ty ?_
  have m : (T, tyD d) ∈ kTab := by
    unfold kTab
    rw [List.mem_flatten]
    refine ⟨_, List.mem_map.mpr ⟨T, by simpa [instT] using h, rfl⟩, List.mem_map.mpr ⟨_, tyD_in d, rfl⟩⟩
  have := List.all_eq_true.mp kTab_ok _ m
  simpa using this
section
variable {X : Cx}
theorem ed_inst {x T : Str} {p pos q : Pos} {e : Expr} {A : FO} {t : String} (hg : Gl X x) (hm : X.mg x = none) (hv : bootBuiltins x = some (.builtin "isinstance")) (hgT : Gl X T) (hmT : X.mg T = none) (hvT : bootBuiltins T = some (.type t)) (ha : OE X e A)
    (hn : x ≠ "__name__" := by decide) (hdb : (x == ("__debug__" : Str)) = false := by decide) (hnT : T ≠ "__name__" := by decide) (hdT : (T == ("__debug__" : Str)) = false := by decide)
    (he : starEach (e :: [.Name T q]) X.env = (false, eval e X.env) :: starEach [.Name T q] X.env := by rfl) (hs : starEach (.Name T q :: []) X.env = (false, eval (.Name T q) X.env) :: starEach [] X.env := by rfl)
    (hpl : (backTo pos (starEach [.Name T q] X.env)).any (·.1) = false := by rfl) : ED X (.Call (.Name x p) [e, .Name T q] [] pos) (eInst A t) := by
  refine peImp (pe_callB call_isi hg hm hv (pa_cons ha (pa_cons (pe_bltn (v := .ty t) hgT hmT hvT rfl hnT hdT) pa_nil hs) he) hn hdb he hpl) fun σ H Q w => ?_
  obtain ⟨C, G, own, ev, r, e', R, hf, k⟩ := w
  obtain ⟨⟨t1, e1⟩, h1, h2⟩ := bind_some_of hf
  obtain ⟨d, h3, h4⟩ := bind_some_of h2
  split at h4
  · rename_i hT
    cases h4
    refine ⟨C, G, own, ev, t1, e1, R, h1, fun v G1 own1 H1 l1 R1 g1 => ?_⟩
    refine ⟨v, .ty t, _, _, _, rfl, .ty t, (g1 _ _ _ _ _ Le.rfl' R1 h3).ty R1.sub, kit_inst hT d, k _ G1 own1 H1 l1 R1 (Rp.bl _)⟩
  · cases h4
end

/-! ### repr -/
section
variable {X : Cx} {pins : List (Addr × Obj)} {σ : L2.St} {H : Hp} {s : Shared}
theorem key_reads {P : Program} {w : World} {h : Heap} {k : Key} {v : Value} (e : (mixKind P w).is k v = true) : Reads h v (kd k) [] := by
  rcases keyIs_shape (show keyIs k v = true from e) with ⟨i, t, rfl, rfl⟩ | ⟨x, t, rfl, rfl⟩
  · exact .int i t
  · exact .str x t
theorem keys_reads {P : Program} {w : World} {h : Heap} {es : List DictEntry} {vs : List (Key × Value)} (pr : PySem.Pairs (mixKind P w) es vs) : ReadsAll h (es.map (·.key)) (vs.map fun q => kd q.1) [] := by
  induction pr with
  | nil => exact .nil
  | cons h1 h2 _ ih => exact ReadsAll.cons (as := []) (bs := []) (key_reads h1) ih
theorem kv_keys {κ : Type} {kvs : List (κ × V)} {vs : List (κ × Value)} (r : KV kvs vs) : vs.map (·.1) = kvs.map (·.1) := by
  unfold KV at r
  induction r with
  | nil => rfl
  | cons h _ ih => simp only [List.map_cons, ih, h.1]
theorem kv_vals {κ : Type} {kvs : List (κ × V)} {vs : List (κ × Value)} (r : KV kvs vs) : Vals (kvs.map (·.2)) (vs.map (·.2)) := by
  unfold KV at r
  induction r with
  | nil => exact .nil
  | cons h _ ih => exact .cons h.2 ih
theorem pairs_vals {P : Program} {w : World} {es : List DictEntry} {vs : List (Key × Value)} (pr : PySem.Pairs (mixKind P w) es vs) : es.map (·.val) = vs.map (·.2) := by
  induction pr with
  | nil => rfl
  | cons h1 h2 _ ih => simp only [List.map_cons, ih, h2]
theorem zip_fst {α β : Type} : ∀ {l : List α} {m : List β}, l.length = m.length → (l.zip m).map (·.1) = l
  | [], [], _ => rfl
  | a :: l, b :: m, h => by simp [zip_fst (l := l) (m := m) (by simpa using h)]
theorem zip_snd {α β : Type} : ∀ {l : List α} {m : List β}, l.length = m.length → (l.zip m).map (·.2) = m
  | [], [], _ => rfl
  | a :: l, b :: m, h => by simp [zip_snd (l := l) (m := m) (by simpa using h)]
theorem kds_reads {h : Heap} : ∀ {ks : List Key} {us : List Value}, Vals (ks.map kV) us → ReadsAll h us (ks.map kd) []
  | [], _, .nil => .nil
  | .inl i :: ks, _, .cons r t => by obtain ⟨tk, rfl⟩ := r; exact ReadsAll.cons (as := []) (bs := []) (.int i tk) (kds_reads t)
  | .inr x :: ks, _, .cons r t => by obtain ⟨tk, rfl⟩ := r; exact ReadsAll.cons (as := []) (bs := []) (.str x tk) (kds_reads t)
theorem dt_keys_reads (I : L2.Inv X pins σ H s) {kvs : List (List Key × V)} : ∀ {xs : List (List Key × Addr × Value)},
    Paired (fun (p : List Key × V) (q : List Key × Addr × Value) => p.1 = q.1 ∧ H q.2.1 = some (.tup (p.1.map kV)) ∧ RelV p.2 q.2.2) kvs xs →
    ReadsAll s.heap (xs.map fun q => Value.ref q.2.1) (kvs.map fun q => PyData.tuple (q.1.map kd)) [] ∧ Vals (kvs.map (·.2)) (xs.map fun q => q.2.2) := by
  intro xs r
  induction r with
  | nil => exact ⟨.nil, .nil⟩
  | cons h _ ih =>
    obtain ⟨h1, h2, h3⟩ := h
    obtain ⟨its, rv, ⟨o, ho, hc, n, hd⟩, _⟩ := I.tuple (SqT.of h2)
    exact ⟨ReadsAll.cons (as := []) (bs := []) (Reads.tuple ho hc hd (kds_reads rv)) ih.1, .cons h3 ih.2⟩
theorem Rp.reads (I : L2.Inv X pins σ H s) {v : V} {d : D} (h : Rp X.K H v d) : ∀ u, RelV v u → ∃ as, Reads s.heap u d as ∧ ∀ a ∈ as, H a ≠ none := by
  refine Rp.rec (motive_1 := fun v d _ => ∀ u, RelV v u → ∃ as, Reads s.heap u d as ∧ ∀ a ∈ as, H a ≠ none) (motive_2 := fun vs ds _ => ∀ us, Vals vs us → ∃ as, ReadsAll s.heap us ds as ∧ ∀ a ∈ as, H a ≠ none) ?_ ?_ ?_ ?_ ?_ ?_ ?_ ?_ ?_ ?_ ?_ h
  · intro u r; cases r; exact ⟨_, Reads.none, fun a h => by cases h⟩
  · intro b u r; cases r; exact ⟨_, Reads.bool b, fun a h => by cases h⟩
  · intro i u r; obtain ⟨t, rfl⟩ := r; exact ⟨_, Reads.int i t, fun a h => by cases h⟩
  · intro x u r; obtain ⟨t, rfl⟩ := r; exact ⟨_, Reads.str x t, fun a h => by cases h⟩
  · intro a vs ds hs _ ih u r
    cases r
    obtain ⟨_, its, n, rv, e⟩ := (show ObjOk X.prog X.w H s.heap a (.lst vs) from I.hok a _ hs)
    obtain ⟨as, h1, h2⟩ := ih its rv
    refine ⟨_, Reads.list e rfl rfl h1, fun b hb => ?_⟩
    rcases List.mem_cons.mp hb with rfl | hb
    · rw [hs]; exact (fun z => nomatch z)
    · exact h2 b hb
  · intro a vs ds hs _ ih u r
    cases r
    obtain ⟨its, rv, ⟨o, ho, hc, n, hd⟩, _⟩ := I.tuple (SqT.of hs)
    obtain ⟨as, h1, h2⟩ := ih its rv
    exact ⟨_, Reads.tuple ho hc hd h1, h2⟩
  · intro a vs ds hs _ _ ih u r
    cases r
    obtain ⟨its, rv, ⟨o, ho, hc, n, hd⟩, _⟩ := I.tuple (sqT_top hs)
    obtain ⟨as, h1, h2⟩ := ih its rv
    exact ⟨_, Reads.tuple ho hc hd h1, h2⟩
  · intro a kvs ds hs ra ih u r
    cases r
    obtain ⟨_, hS, vs, rel, o, es, ep, e, ex, d, _, pr, _⟩ := (show ObjOk X.prog X.w H s.heap a (.dK kvs) from I.hok a _ hs)
    have ln := ra.length
    rw [List.length_map] at ln
    obtain ⟨as, h1, h2⟩ := ih _ (kv_vals rel)
    refine ⟨_, Reads.dict e ex.1 d (as := []) (bs := as) ?_ ?_, fun b hb => ?_⟩
    · rw [zip_fst (by simpa using ln)]
      have := keys_reads (h := s.heap) pr
      have kk : (vs.map fun q => kd q.1) = kvs.map fun q => kd q.1 := by
        have z := congrArg (List.map kd) (kv_keys rel)
        rw [List.map_map, List.map_map] at z; exact z
      rwa [kk] at this
    · rw [zip_snd (by simpa using ln), pairs_vals pr]; exact h1
    · rcases List.mem_cons.mp hb with rfl | hb
      · rw [hs]; exact (fun z => nomatch z)
      · exact h2 b (by simpa using hb)
  · intro a kvs ds hs ra ih u r
    cases r
    obtain ⟨_, hS, xs, rel, o, es, ep, e, ex, d, he, _⟩ := (show ObjOk X.prog X.w H s.heap a (.dT kvs) from I.hok a _ hs)
    have ln := ra.length
    rw [List.length_map] at ln
    obtain ⟨k1, k2⟩ := dt_keys_reads I rel
    obtain ⟨as, h1, h2⟩ := ih _ k2
    refine ⟨_, Reads.dict e ex.1 d (as := []) (bs := as) ?_ ?_, fun b hb => ?_⟩
    · rw [zip_fst (by simpa using ln), he, List.map_map]; exact k1
    · rw [zip_snd (by simpa using ln), he, List.map_map]; exact h1
    · rcases List.mem_cons.mp hb with rfl | hb
      · rw [hs]; exact (fun z => nomatch z)
      · exact h2 b (by simpa using hb)
  · intro us r; cases r; exact ⟨_, ReadsAll.nil, fun a h => by cases h⟩
  · intro v vs d ds _ _ i1 i2 us r
    cases r with
    | cons r1 r2 =>
      obtain ⟨as, h1, h2⟩ := i1 _ r1
      obtain ⟨bs, h3, h4⟩ := i2 _ r2
      exact ⟨_, ReadsAll.cons h1 h3, fun a ha => (List.mem_append.mp ha).elim (h2 a) (h4 a)⟩
end
section
variable {K : PySem.W.Frag} {G H : Hp}
/-- what reads as a tree is a frozen tree over the whole heap -/
theorem Rr.whole {v : V} {d : D} (l : Le G H) (h : Rr K G H v d) : Rp K H v d := by
  cases h with
  | frz h => exact h.mono l
  | lst h r => exact .lst h (r.mono l)
  | dic h =>
    rcases h with ⟨_, l', ds, h1, h2, rfl⟩ | ⟨_, l', ds, h1, h2, rfl⟩
    · exact .dk h1 (h2.mono l)
    · exact .dt h1 (h2.mono l)
end
def rpOk (d : D) : Bool := d.showable && hide (d.depth ≤ 180) && small d.shown.length
def gRepr : List D → Option Rs
  | [d] => if rpOk d = true then some (.val (.str d.shown)) else none
  | _ => none
section
variable {X : Cx}
theorem c_repr (gd : X.A.guards = some []) (hr : Room 1 X.A) (sys : ∃ o, X.base.get? sysModules = some o) : CallD X (.builtin "repr") gRepr := by
  intro pins s σ H xs us Q I rs h
  obtain ⟨G, ds, r, sub, hx, hg, k⟩ := h
  unfold gRepr at hg
  split at hg
  · rename_i d
    split at hg
    · rename_i hz
      cases hg
      obtain ⟨x, rfl, h⟩ := hx.one
      obtain ⟨u, rfl, ru⟩ := vals1 rs
      have hw := h.whole sub
      obtain ⟨as, h1, h2⟩ := hw.reads I u ru
      simp only [rpOk, Bool.and_eq_true] at hz
      obtain ⟨⟨z1, z2⟩, z3⟩ := hz
      have z2 := unhide z2
      have hsz : d.shown.length ≤ sizeLine := line_of z3
      have fin : ∀ h' t tk, (∀ b o, s.heap.get? b = some o → h'.get? b = some o) → EP X pins σ Q (.str d.shown t) { s with heap := h', toks := tk } := fun h' t tk kk =>
        ⟨.str d.shown, H, I.kept kk, ⟨t, rfl⟩, k _ _ (.same (.str _))⟩
      have un := hr.un
      have nsys : sysModules ∉ as := fun z => by
        obtain ⟨o, ho⟩ := sys
        exact h2 _ z (I.bs _ o ho).2
      cases d with
      | none => cases h1; exact PySem.P.repr_of_none (fin s.heap _ _ fun _ _ q => q)
      | bool b => cases h1; exact PySem.P.repr_of_bool (fin s.heap _ _ fun _ _ q => q)
      | int i => cases h1; exact PySem.P.repr_of_int (of_decide_eq_true z1) (fin s.heap _ _ fun _ _ q => q)
      | str y => cases h1; exact PySem.P.repr_of_str (fin s.heap _ _ fun _ _ q => q) hsz
      | list ys =>
        cases h1 with
        | list e1 e2 e3 e4 => exact repr_of_reads' (Reads.list e1 e2 e3 e4) z1 (fun _ => nsys) gd (by omega) (fun _ _ q => q) fin hsz
      | tuple ys =>
        cases h1 with
        | tuple e1 e2 e3 e4 => exact repr_of_reads' (Reads.tuple e1 e2 e3 e4) z1 (fun _ => nsys) gd (by omega) (fun _ _ q => q) fin hsz
      | dict ys =>
        cases h1 with
        | dict e1 e2 e3 e4 e5 => exact repr_of_reads' (Reads.dict e1 e2 e3 e4 e5) z1 (fun _ => nsys) gd (by omega) (fun _ _ q => q) fin hsz
    · cases hg
  · cases hg
end
end EL
/-! EL7: what changes a list or a dict of one's own; in; list(range(..)); several names at once. -/
namespace EL
open PySem PySem.Spec PyProof.Rows L2
variable [KC]

/-! ### lists of one's own -/
section
variable {K : PySem.W.Frag} {C : Cn} {G H : Hp} {own : Nat → Option Addr} {e : EE} {σ : L2.St}
theorem Rep.lst (R : Rep K C G own e σ H) {i : Nat} {ds : List D} (h : e.r[i]? = some (some (.ol ds))) :
    ∃ a vs, σ[i]? = some (some (.ref a)) ∧ H a = some (.lst vs) ∧ RpA K G vs ds ∧ ∀ vs' ds', RpA K G vs' ds' → Rep K C G own (e.put i (some (.ol ds'))) σ (upd H a (.lst vs')) := by
  obtain ⟨v, h1, a, vs, rfl, h2, h3, h4⟩ := R.slot i _ h
  exact ⟨a, vs, h1, h3, h4, fun vs' ds' ra => R.write h2 (ltOf h) h1 ⟨a, vs', rfl, h2, upd_same, ra⟩⟩
end
def lstAt (i : Nat) (e : EE) : Option (List D) := match e.r[i]? with
  | some (some (.ol ds)) => some ds
  | _ => none
theorem lstAt_some {i : Nat} {e : EE} {ds : List D} (h : lstAt i e = some ds) : e.r[i]? = some (some (.ol ds)) := by
  unfold lstAt at h
  split at h
  · rename_i q; cases h; exact q
  · cases h
def mAppend (i : Nat) (F : FE) : FE := fun e => (lstAt i e).bind fun _ => (F e).bind fun p => (lstAt i p.2).bind fun ds =>
  if hide (ds.length < 16777216) = true then some (.val .none, p.2.put i (some (.ol (ds ++ [p.1.d])))) else none
def mExtend (i : Nat) (A : FO) : FE := fun e => (lstAt i e).bind fun _ => (A e).bind fun p => (lstAt i p.2).bind fun ds => (p.1 p.2).bind fun d => match d with
  | .list xs => if small (ds.length + xs.length) = true then some (.val .none, p.2.put i (some (.ol (ds ++ xs)))) else none
  | _ => none
def mPop (i : Nat) : FE := fun e => (lstAt i e).bind fun ds => (ds[ds.length - 1]?).bind fun d => some (.val d, e.put i (some (.ol ds.dropLast)))
def mPopAt (i : Nat) (F : FE) : FE := fun e => (lstAt i e).bind fun _ => (F e).bind fun p => (lstAt i p.2).bind fun ds => match p.1 with
  | .val (.int k) => if inW k = true then (seqIndex? k ds.length).bind fun j => (ds[j]?).bind fun d => some (.val d, p.2.put i (some (.ol (ds.eraseIdx j)))) else none
  | _ => none
/-- x[k] = .. -/
def gSubL (i : Nat) (F : FE) : FG := fun d e => (lstAt i e).bind fun _ => (F e).bind fun p => (lstAt i p.2).bind fun ds => match p.1 with
  | .val (.int k) => (ixN ds.length k).bind fun j => some (p.2.put i (some (.ol (ds.set j d))))
  | _ => none
section
variable {X : Cx} {o e : Expr} {es : List Expr} {name : Str} {apos cpos : Pos}
theorem RpA.dropLast {K : PySem.W.Frag} {G : Hp} {vs : List V} {ds : List D} (h : RpA K G vs ds) : RpA K G vs.dropLast ds.dropLast := by
  rw [List.dropLast_eq_take, List.dropLast_eq_take, h.length]
  exact h.take _
theorem ed_append {i : Nat} {F : FE} (ho : PE X o (tVar i)) (he : ED X e F)
    (hbase : attributeBase o "append" X.env (eval o X.env) = eval o X.env := by rfl)
    (hfew : ((backTo cpos (starEach (e :: []) X.env)).all (fun x => !x.1) && (backToKw cpos (keywordEach [] X.env)).all (fun x => x.1.isSome) && decide ((e :: []).length + ([] : List Keyword).length + (if ([] : List Keyword).isEmpty then 0 else 1) < 30)) = true := by rfl)
    (hline : (apos.endLine == cpos.line) = true := by rfl) (hs : starEach (e :: []) X.env = (false, eval e X.env) :: starEach [] X.env := by rfl) : ED X (.Call (.Attribute o "append" apos) [e] [] cpos) (mAppend i F) := by
  refine peImp (pe_bm PySem.F.plainAttrs_list PySem.F.slot_list_append PySem.F.type_list_append mt_append ho (pa_cons he pa_nil hs) hbase hfew hline hs rfl) fun σ H Q w => ?_
  obtain ⟨C, G, own, ev, r, e', R, hf, k⟩ := w
  obtain ⟨ds0, q1, q2⟩ := bind_some_of hf
  obtain ⟨⟨r1, e1⟩, q3, q4⟩ := bind_some_of q2
  obtain ⟨ds, q5, q6⟩ := bind_some_of q4
  dsimp only at q6
  split at q6
  · rename_i hz
    cases q6
    obtain ⟨a, vs0, h1, h2, h3, _⟩ := R.lst (lstAt_some q1)
    refine ⟨_, h1, .inl ⟨rfl, _, .of h2⟩, C, G, own, ev, r1, e1, R, q3, fun y G1 own1 H1 l1 R1 ok => ?_⟩
    obtain ⟨G2, l2, R2, p⟩ := R1.frz ok
    obtain ⟨a', vs, g1, g2, g3, wr⟩ := R2.lst (lstAt_some q5)
    rw [h1] at g1; cases g1
    refine ⟨a, vs, y, rfl, rfl, g2, by rw [g3.length, sizeLine_eq]; exact unhide hz, ?_⟩
    exact k _ G2 own1 _ (l1.tr l2) (wr _ _ (g3.append (.cons p .nil))) Rp.non
  · cases q6
theorem ed_extend {i : Nat} {A : FO} (ho : PE X o (tVar i)) (he : OE X e A)
    (hbase : attributeBase o "extend" X.env (eval o X.env) = eval o X.env := by rfl)
    (hfew : ((backTo cpos (starEach (e :: []) X.env)).all (fun x => !x.1) && (backToKw cpos (keywordEach [] X.env)).all (fun x => x.1.isSome) && decide ((e :: []).length + ([] : List Keyword).length + (if ([] : List Keyword).isEmpty then 0 else 1) < 30)) = true := by rfl)
    (hline : (apos.endLine == cpos.line) = true := by rfl) (hs : starEach (e :: []) X.env = (false, eval e X.env) :: starEach [] X.env := by rfl) : ED X (.Call (.Attribute o "extend" apos) [e] [] cpos) (mExtend i A) := by
  refine peImp (pe_bm PySem.F.plainAttrs_list PySem.F.slot_list_extend PySem.F.type_list_extend mt_extend ho (pa_cons he pa_nil hs) hbase hfew hline hs rfl) fun σ H Q w => ?_
  obtain ⟨C, G, own, ev, r, e', R, hf, k⟩ := w
  obtain ⟨ds0, q1, q2⟩ := bind_some_of hf
  obtain ⟨⟨t, e1⟩, q3, q4⟩ := bind_some_of q2
  obtain ⟨ds, q5, q6⟩ := bind_some_of q4
  obtain ⟨d, q7, q8⟩ := bind_some_of q6
  split at q8
  · rename_i xs
    split at q8
    · rename_i hz
      cases q8
      obtain ⟨a, vs0, h1, h2, h3, _⟩ := R.lst (lstAt_some q1)
      refine ⟨_, h1, .inl ⟨rfl, _, .of h2⟩, C, G, own, ev, t, e1, R, q3, fun y G1 own1 H1 l1 R1 g => ?_⟩
      obtain ⟨b, ws, rfl, hb, rb⟩ := (g _ _ _ _ _ Le.rfl' R1 q7).list R1.sub
      obtain ⟨a', vs, g1, g2, g3, wr⟩ := R1.lst (lstAt_some q5)
      rw [h1] at g1; cases g1
      refine ⟨a, b, vs, ws, rfl, rfl, g2, hb, by rw [g3.length, rb.length]; exact line_of hz, ?_⟩
      exact k _ G1 own1 _ l1 (wr _ _ (g3.append rb)) Rp.non
    · cases q8
  · cases q8
theorem ed_pop {i : Nat} (ho : PE X o (tVar i)) (hbase : attributeBase o "pop" X.env (eval o X.env) = eval o X.env := by rfl) (hline : (apos.endLine == cpos.line) = true := by rfl) : ED X (.Call (.Attribute o "pop" apos) [] [] cpos) (mPop i) := by
  refine peImp (pe_bm0 PySem.F.plainAttrs_list PySem.F.slot_list_pop PySem.F.type_list_pop mt_pop ho hbase hline) fun σ H Q w => ?_
  obtain ⟨C, G, own, ev, r, e', R, hf, k⟩ := w
  obtain ⟨ds, q1, q2⟩ := bind_some_of hf
  obtain ⟨d, q3, q4⟩ := bind_some_of q2
  cases q4
  obtain ⟨a, vs, h1, h2, h3, wr⟩ := R.lst (lstAt_some q1)
  obtain ⟨v, g1, g2⟩ := h3.get q3
  exact ⟨_, h1, .inl ⟨rfl, _, .of h2⟩, a, vs, v, rfl, rfl, h2, by rw [h3.length]; exact g1, k v G own _ Le.rfl' (wr _ _ h3.dropLast) g2⟩
theorem ed_popAt {i : Nat} {F : FE} (ho : PE X o (tVar i)) (he : ED X e F)
    (hbase : attributeBase o "pop" X.env (eval o X.env) = eval o X.env := by rfl)
    (hfew : ((backTo cpos (starEach (e :: []) X.env)).all (fun x => !x.1) && (backToKw cpos (keywordEach [] X.env)).all (fun x => x.1.isSome) && decide ((e :: []).length + ([] : List Keyword).length + (if ([] : List Keyword).isEmpty then 0 else 1) < 30)) = true := by rfl)
    (hline : (apos.endLine == cpos.line) = true := by rfl) (hs : starEach (e :: []) X.env = (false, eval e X.env) :: starEach [] X.env := by rfl) : ED X (.Call (.Attribute o "pop" apos) [e] [] cpos) (mPopAt i F) := by
  refine peImp (pe_bm PySem.F.plainAttrs_list PySem.F.slot_list_pop PySem.F.type_list_pop mt_popAt ho (pa_cons he pa_nil hs) hbase hfew hline hs rfl) fun σ H Q w => ?_
  obtain ⟨C, G, own, ev, r, e', R, hf, k⟩ := w
  obtain ⟨ds0, q1, q2⟩ := bind_some_of hf
  obtain ⟨⟨r1, e1⟩, q3, q4⟩ := bind_some_of q2
  obtain ⟨ds, q5, q6⟩ := bind_some_of q4
  dsimp only at q6
  split at q6
  · rename_i n
    split at q6
    · rename_i hz
      obtain ⟨j, q7, q8⟩ := bind_some_of q6
      obtain ⟨d, q9, q10⟩ := bind_some_of q8
      cases q10
      obtain ⟨a, vs0, h1, h2, h3, _⟩ := R.lst (lstAt_some q1)
      refine ⟨_, h1, .inl ⟨rfl, _, .of h2⟩, C, G, own, ev, _, e1, R, q3, fun y G1 own1 H1 l1 R1 ok => ?_⟩
      have ok : Rp X.K G1 y (.int n) := ok
      cases ok
      obtain ⟨a', vs, g1, g2, g3, wr⟩ := R1.lst (lstAt_some q5)
      rw [h1] at g1; cases g1
      obtain ⟨v, y1, y2⟩ := g3.get q9
      obtain ⟨b1, b2⟩ := unhide hz
      exact ⟨a, vs, n, j, v, rfl, rfl, g2, by omega, by omega, by rw [g3.length]; exact q7, y1, k v G1 own1 _ l1 (wr _ _ (g3.erase j)) y2⟩
    · cases q6
  · cases q6
theorem gd_subL {i : Nat} {F : FE} {ix : Expr} {pos : Pos} (ho : PE X o (tVar i)) (hi : ED X ix F)
    (ha : ∀ v, assign (.Subscript o ix pos) X.env v = (do
      let ov ← holding [v] (eval o X.env)
      let iv ← holding [v, ov] (eval ix X.env)
      standAt pos
      holding [v, ov, iv] (setItem ov iv v)
      release [v, ov, iv] []) := by intro _; rfl) : GD X (.Subscript o ix pos) (gSubL i F) := by
  refine pgImp (pg_sub ho hi set_list ha) fun v σ H Q w => ?_
  obtain ⟨C, G, own, ev, d, e', R, rp, hf, k⟩ := w
  obtain ⟨ds0, q1, q2⟩ := bind_some_of hf
  obtain ⟨⟨r1, e1⟩, q3, q4⟩ := bind_some_of q2
  obtain ⟨ds, q5, q6⟩ := bind_some_of q4
  dsimp only at q6
  split at q6
  · rename_i n
    obtain ⟨j, q7, q8⟩ := bind_some_of q6
    cases q8
    obtain ⟨a, vs0, h1, h2, h3, _⟩ := R.lst (lstAt_some q1)
    refine ⟨_, h1, C, G, own, ev, _, e1, R, q3, fun y G1 own1 H1 l1 R1 ok => ?_⟩
    have ok : Rp X.K G1 y (.int n) := ok
    cases ok
    obtain ⟨a', vs, g1, g2, g3, wr⟩ := R1.lst (lstAt_some q5)
    rw [h1] at g1; cases g1
    exact ⟨a, vs, n, j, rfl, rfl, g2, by rw [g3.length]; exact q7, k σ G1 own1 _ l1 (wr _ _ (g3.set (rp.mono l1) j))⟩
  · cases q6
end

/-! ### dicts: keys and how they are found -/
theorem eqv_kd (a b : Key) : PyData.eqv (kd a) (kd b) = decide (a = b) := by
  rcases a with a | a <;> rcases b with b | b
  · simp only [kd, PyData.eqv]; rw [Bool.eq_iff_iff]; simp
  · simp [kd, PyData.eqv]
  · simp [kd, PyData.eqv]
  · simp only [kd, PyData.eqv]; rw [Bool.eq_iff_iff]; simp
theorem eqv_kds : ∀ a b : List Key, PyData.eqvAll (a.map kd) (b.map kd) = decide (a = b)
  | [], [] => rfl
  | [], b :: bs => by simp [PyData.eqvAll]
  | a :: as, [] => by simp [PyData.eqvAll]
  | a :: as, b :: bs => by
    simp only [List.map_cons, PyData.eqvAll, eqv_kd, eqv_kds as bs]
    rw [Bool.eq_iff_iff]; simp
def tkd (a : List Key) : D := .tuple (a.map kd)
theorem eqv_tkd (a b : List Key) : PyData.eqv (tkd a) (tkd b) = decide (a = b) := by
  simp only [tkd, PyData.eqv]; exact eqv_kds a b
def dLook (kvs : List (D × D)) (k : D) : Option D := (kvs.find? fun q => PyData.eqv q.1 k).map (·.2)
def dPut (kvs : List (D × D)) (k v : D) : List (D × D) := if (kvs.any fun q => PyData.eqv q.1 k) = true then kvs.map (fun q => if PyData.eqv q.1 k = true then (q.1, v) else q) else kvs ++ [(k, v)]
def keyOf : D → Option Key
  | .int i => some (.inl i)
  | .str x => some (.inr x)
  | _ => none
theorem keyOf_some {d : D} {k : Key} (h : keyOf d = some k) : d = kd k := by
  cases d <;> first | (cases h; rfl) | cases h
def keysOf : List D → Option (List Key)
  | [] => some []
  | d :: ds => (keyOf d).bind fun k => (keysOf ds).bind fun ks => some (k :: ks)
theorem keysOf_some : ∀ {ds : List D} {ks : List Key}, keysOf ds = some ks → ds = ks.map kd
  | [], ks, h => by cases h; rfl
  | d :: ds, ks, h => by
    obtain ⟨k, h1, h2⟩ := bind_some_of h
    obtain ⟨ks', h3, h4⟩ := bind_some_of h2
    cases h4
    rw [keyOf_some h1, keysOf_some h3]; rfl
section
variable {κ : Type} [DecidableEq κ] {ek : κ → D} {K : PySem.W.Frag} {G : Hp}
theorem look_ok (ei : ∀ a b, PyData.eqv (ek a) (ek b) = decide (a = b)) : ∀ {l : List (κ × V)} {ds : List D}, RpA K G (l.map (·.2)) ds → ∀ k,
    (∀ d, dLook ((l.map fun q => ek q.1).zip ds) (ek k) = some d → ∃ v, valV l k = some v ∧ Rp K G v d) ∧ (dLook ((l.map fun q => ek q.1).zip ds) (ek k) = none → valV l k = none)
  | [], ds, h, k => ⟨fun d q => by simp [dLook] at q, fun _ => rfl⟩
  | (a, v) :: l, ds, h, k => by
    cases h with
    | @cons _ _ d ds' h1 h2 =>
      have ih := look_ok ei h2 k
      by_cases z : a = k
      · subst z
        have e : dLook ((((a, v) :: l).map fun q => ek q.1).zip (d :: ds')) (ek a) = some d := by simp [dLook, ei]
        refine ⟨fun d' q => ?_, fun q => ?_⟩
        · rw [e] at q; cases q; exact ⟨v, by simp [valV], h1⟩
        · rw [e] at q; cases q
      · have e : dLook ((((a, v) :: l).map fun q => ek q.1).zip (d :: ds')) (ek k) = dLook ((l.map fun q => ek q.1).zip ds') (ek k) := by simp [dLook, ei, z]
        have e2 : valV ((a, v) :: l) k = valV l k := by simp [valV, z]
        rw [e, e2]; exact ih
theorem any_ok (ei : ∀ a b, PyData.eqv (ek a) (ek b) = decide (a = b)) : ∀ {l : List (κ × V)} {ds : List D}, RpA K G (l.map (·.2)) ds → ∀ k,
    (((l.map fun q => ek q.1).zip ds).any fun q => PyData.eqv q.1 (ek k)) = l.any fun kv => decide (kv.1 = k)
  | [], ds, h, k => rfl
  | (a, v) :: l, ds, h, k => by
    cases h with
    | @cons _ _ d ds' h1 h2 => simp only [List.map_cons, List.zip_cons_cons, List.any_cons, ei, any_ok ei h2 k]
theorem map_ok (ei : ∀ a b, PyData.eqv (ek a) (ek b) = decide (a = b)) : ∀ {l : List (κ × V)} {ds : List D}, RpA K G (l.map (·.2)) ds → ∀ (k : κ) (v : V) (d : D), Rp K G v d →
    ∃ ds', RpA K G ((l.map (fun kv => if kv.1 = k then (kv.1, v) else kv)).map (·.2)) ds' ∧ ((l.map fun q => ek q.1).zip ds).map (fun q => if PyData.eqv q.1 (ek k) = true then (q.1, d) else q) = ((l.map (fun kv => if kv.1 = k then (kv.1, v) else kv)).map fun q => ek q.1).zip ds'
  | [], ds, h, k, v, d, r => ⟨[], .nil, by simp⟩
  | (a, u) :: l, ds, h, k, v, d, r => by
    cases h with
    | @cons _ _ d0 ds' h1 h2 =>
      obtain ⟨es, q1, q2⟩ := map_ok ei h2 k v d r
      by_cases z : a = k
      · subst z
        refine ⟨d :: es, ?_, ?_⟩
        · simp only [List.map_cons, if_true]; exact .cons r q1
        · simp only [List.map_cons, List.zip_cons_cons, ei, decide_true, if_true, q2]
      · refine ⟨d0 :: es, ?_, ?_⟩
        · simp only [List.map_cons, if_neg z]; exact .cons h1 q1
        · simp only [List.map_cons, List.zip_cons_cons, ei, decide_eq_false z, if_neg z, q2]; simp
theorem put_ok (ei : ∀ a b, PyData.eqv (ek a) (ek b) = decide (a = b)) {l : List (κ × V)} {ds : List D} (h : RpA K G (l.map (·.2)) ds) (k : κ) {v : V} {d : D} (r : Rp K G v d) :
    ∃ ds', RpA K G ((putK l k v).map (·.2)) ds' ∧ dPut ((l.map fun q => ek q.1).zip ds) (ek k) d = ((putK l k v).map fun q => ek q.1).zip ds' := by
  unfold dPut putK
  rw [any_ok ei h k]
  split
  · exact map_ok ei h k v d r
  · refine ⟨ds ++ [d], by rw [List.map_append]; exact h.append (.cons r .nil), ?_⟩
    have ln : (l.map fun q => ek q.1).length = ds.length := by have := h.length; simpa using this
    rw [List.map_append, List.zip_append ln]; rfl
end
/-- what is found in a dict: an entry's value, or nothing -/
def DLk (K : PySem.W.Frag) (G H : Hp) (a : Addr) (y : V) (o : Option D) : Prop := ∃ r, DGet H a y r ∧ match o, r with
  | some d, some v => Rp K G v d
  | none, none => True
  | _, _ => False
/-- a key that may be looked up, put in -/
inductive IsKey (K : PySem.W.Frag) (G : Hp) : V → D → Prop
  | k {k : Key} : IsKey K G (kV k) (kd k)
  | t {b : Addr} {ks : List Key} (h : G b = some (.tup (ks.map kV))) : IsKey K G (.ref b) (tkd ks)
/-- keys of the one sort, keys of the other -/
def tupKey : D → Bool
  | .tuple _ => true
  | _ => false
def okKey : D → Bool
  | .int _ => true
  | .str _ => true
  | .tuple ds => (keysOf ds).isSome && !KC.kc (.tuple ds)
  | _ => false
section
variable {K : PySem.W.Frag} {G H : Hp}
theorem RpA.keys {vs : List V} {ks : List Key} (h : RpA K G vs (ks.map kd)) : vs = ks.map kV := by
  induction ks generalizing vs with
  | nil => cases h; rfl
  | cons k ks ih =>
    cases h with
    | cons h1 h2 =>
      rw [List.map_cons, ← ih h2]
      rcases k with k | k
      · have h1 : Rp K G _ (.int k) := h1
        cases h1; rfl
      · have h1 : Rp K G _ (.str k) := h1
        cases h1; rfl
theorem Rp.key {v : V} {d : D} (c : okKey d = true) (h : Rp K G v d) : IsKey K G v d := by
  cases h with
  | int i => exact .k (k := .inl i)
  | str x => exact .k (k := .inr x)
  | @tup a vs ds h r =>
    simp only [okKey, Bool.and_eq_true] at c
    obtain ⟨ks, hk⟩ := Option.isSome_iff_exists.mp c.1
    have := keysOf_some hk
    subst this
    rw [r.keys] at h
    exact .t h
  | kon h r q => simp only [okKey, Bool.and_eq_true, Bool.not_eq_true'] at c; rw [q] at c; exact absurd c.2 (by decide)
  | _ => simp [okKey] at c
theorem DLk.of (l : Le G H) {p : Addr} {y : V} {b : Bool} {kvs : List (D × D)} {k : D} (hd : OdOk K G H p b kvs) (hk : IsKey K G y k) (hs : tupKey k = b) : DLk K G H p y (dLook kvs k) := by
  rcases hd with ⟨rfl, l', ds, h1, h2, rfl⟩ | ⟨rfl, l', ds, h1, h2, rfl⟩
  · cases hk with
    | @k k =>
      have lk := look_ok eqv_kd h2 k
      cases e : dLook ((l'.map fun q => kd q.1).zip ds) (kd k) with
      | none => exact ⟨none, by rw [← lk.2 e]; exact DGet.k h1, trivial⟩
      | some d => obtain ⟨v, q1, q2⟩ := lk.1 d e; exact ⟨some v, by rw [← q1]; exact DGet.k h1, q2⟩
    | t h => simp [tupKey, tkd] at hs
  · cases hk with
    | @k k => rcases k with k | k <;> simp [tupKey, kd] at hs
    | @t b ks h =>
      have lk := look_ok eqv_tkd h2 ks
      cases e : dLook ((l'.map fun q => tkd q.1).zip ds) (tkd ks) with
      | none => exact ⟨none, by rw [← lk.2 e]; exact DGet.t h1 (l _ _ h), by rw [show dLook ((l'.map fun q => PyData.tuple (q.1.map kd)).zip ds) (tkd ks) = none from e]; trivial⟩
      | some d => obtain ⟨v, q1, q2⟩ := lk.1 d e; exact ⟨some v, by rw [← q1]; exact DGet.t h1 (l _ _ h), by rw [show dLook ((l'.map fun q => PyData.tuple (q.1.map kd)).zip ds) (tkd ks) = some d from e]; exact q2⟩
/-- the sort of a frozen dict's keys, by its first one -/
def sortOf (kvs : List (D × D)) : Option Bool := match kvs with
  | [] => none
  | q :: _ => some (tupKey q.1)
theorem Rr.sort {v : V} {kvs : List (D × D)} (l : Le G H) (h : Rr K G H v (.dict kvs)) {b : Bool} (hb : sortOf kvs = some b) : ∃ p, v = .ref p ∧ OdOk K G H p b kvs := by
  have key : ∀ {p : Addr} {b' : Bool}, OdOk K G H p b' kvs → OdOk K G H p b kvs := fun {p b'} h => by
    rcases h with ⟨rfl, l', ds, h1, h2, rfl⟩ | ⟨rfl, l', ds, h1, h2, rfl⟩
    · cases l' with
      | nil => cases hb
      | cons q l' => cases ds with
        | nil => cases h2
        | cons d ds =>
          have : b = false := by rcases q with ⟨q | q, _⟩ <;> (cases hb; rfl)
          subst this
          exact .inl ⟨rfl, q :: l', d :: ds, h1, h2, rfl⟩
    · cases l' with
      | nil => cases hb
      | cons q l' => cases ds with
        | nil => cases h2
        | cons d ds =>
          have : b = true := by cases hb; rfl
          subst this
          exact .inr ⟨rfl, q :: l', d :: ds, h1, h2, rfl⟩
  generalize hd : PyData.dict kvs = d at h
  cases h with
  | frz h =>
    cases h with
    | @dk a l' ds h r => cases hd; exact ⟨a, rfl, key (.inl ⟨rfl, l', ds, l _ _ h, r, rfl⟩)⟩
    | @dt a l' ds h r => cases hd; exact ⟨a, rfl, key (.inr ⟨rfl, l', ds, l _ _ h, r, rfl⟩)⟩
    | _ => cases hd
  | lst h r => cases hd
  | dic h => cases hd; exact ⟨_, rfl, key h⟩
end
end EL
/-! EL8: == of texts, in, list(range(..)), several names at once, dicts of one's own. -/
namespace EL
open PySem PySem.Spec PyProof.Rows L2
variable [KC]

/-! ### == and != once more: texts need no look at their signs -/
def qEq : D → D → Option Rs
  | .str a, .str b => some (.val (.bool (decide (a = b))))
  | x, y => gEq x y
def qNe : D → D → Option Rs
  | .str a, .str b => some (.val (.bool (!decide (a = b))))
  | x, y => gNe x y
section
variable {X : Cx}
theorem q_eq (hu : X.A.units + 64 < cLine) : OpD X (compareOp .Eq) qEq := by
  intro pins s σ H x y v u Q I rx ry h
  obtain ⟨G, dx, dy, r, sub, hx, hy, hg, k⟩ := h
  unfold qEq at hg
  split at hg
  · cases hg; cases hx.str; cases hy.str
    refine op_eq pins s σ H _ _ v u Q I rx ry ⟨rfl, ?_⟩
    rw [dec_str, Bool.beq_eq_decide_eq]; exact k _ _ (.same (.bl _))
  · exact o_eq hu pins s σ H x y v u Q I rx ry ⟨G, dx, dy, r, sub, hx, hy, hg, k⟩
theorem q_ne (hu : X.A.units + 64 < cLine) : OpD X (compareOp .NotEq) qNe := by
  intro pins s σ H x y v u Q I rx ry h
  obtain ⟨G, dx, dy, r, sub, hx, hy, hg, k⟩ := h
  unfold qNe at hg
  split at hg
  · cases hg; cases hx.str; cases hy.str
    refine op_ne pins s σ H _ _ v u Q I rx ry ⟨rfl, ?_⟩
    rw [dec_str, Bool.beq_eq_decide_eq]; exact k _ _ (.same (.bl _))
  · exact o_ne hu pins s σ H x y v u Q I rx ry ⟨G, dx, dy, r, sub, hx, hy, hg, k⟩

/-! ### in a list, a tuple -/
def flatD : D → Bool
  | .none => true
  | .bool _ => true
  | .int _ => true
  | .str _ => true
  | _ => false
theorem Rp.flat {K : PySem.W.Frag} {G : Hp} {v : V} {d : D} (h : Rp K G v d) (f : flatD d = true) : flatV v = true := by cases h <;> first | rfl | cases f
theorem eqV_D {K : PySem.W.Frag} {G : Hp} {v w : V} {d e : D} (h : Rp K G v d) (g : Rp K G w e) (f : flatD d = true) (f' : flatD e = true) : eqV v w = PyData.eqv d e := by
  cases d with
  | list _ => cases f
  | tuple _ => cases f
  | dict _ => cases f
  | none => cases h; cases e <;> first | (cases g; simp [eqV, PyData.eqv]; done) | exact absurd f' Bool.false_ne_true
  | bool _ => cases h; cases e <;> first | (cases g; simp [eqV, PyData.eqv]; done) | exact absurd f' Bool.false_ne_true
  | int _ => cases h; cases e <;> first | (cases g; simp [eqV, PyData.eqv]; done) | exact absurd f' Bool.false_ne_true
  | str _ => cases h; cases e <;> first | (cases g; simp [eqV, PyData.eqv]; done) | exact absurd f' Bool.false_ne_true
def gIn : D → D → Option Rs
  | d, .list ds => if (flatD d && ds.all flatD) = true then some (.val (.bool (ds.any fun z => PyData.eqv z d))) else if (SeqAt.shaped d && SeqAt.shaped (.list ds)) = true then some (.val (.bool (ds.any fun z => PyData.eqv z d))) else none
  | d, .tuple ds => if (flatD d && ds.all flatD) = true then some (.val (.bool (ds.any fun z => PyData.eqv z d))) else none
  | _, _ => none
def gNin : D → D → Option Rs
  | d, .list ds => if (flatD d && ds.all flatD) = true then some (.val (.bool (!ds.any fun z => PyData.eqv z d))) else if (SeqAt.shaped d && SeqAt.shaped (.list ds)) = true then some (.val (.bool (!ds.any fun z => PyData.eqv z d))) else none
  | d, .tuple ds => if (flatD d && ds.all flatD) = true then some (.val (.bool (!ds.any fun z => PyData.eqv z d))) else none
  | _, _ => none
theorem RpA.flats {K : PySem.W.Frag} {G : Hp} {vs : List V} {ds : List D} (h : RpA K G vs ds) (f : ds.all flatD = true) : vs.all flatV = true := by
  induction ds generalizing vs with
  | nil => cases h; rfl
  | cons d ds ih =>
    cases h with
    | cons h1 h2 =>
      rw [List.all_cons, Bool.and_eq_true] at f ⊢
      exact ⟨h1.flat f.1, ih h2 f.2⟩
theorem RpA.inD {K : PySem.W.Frag} {G : Hp} {w : V} {e : D} (g : Rp K G w e) (f' : flatD e = true) {vs : List V} {ds : List D} (h : RpA K G vs ds) (f : ds.all flatD = true) : inV w vs = ds.any fun z => PyData.eqv z e := by
  induction ds generalizing vs with
  | nil => cases h; rfl
  | cons d ds ih =>
    cases h with
    | cons h1 h2 =>
      rw [List.all_cons, Bool.and_eq_true] at f
      have := ih h2 f.2
      unfold inV at this ⊢
      rw [List.any_cons, List.any_cons, this, eqV_D h1 g f.1 f']
theorem Rr.flatRp {K : PySem.W.Frag} {G H : Hp} {v : V} {d : D} (h : Rr K G H v d) (f : flatD d = true) : Rp K G v d := by
  cases h with
  | frz h => exact h
  | lst h r => cases f
  | dic h => cases f
theorem o_in (hu : X.A.units + 65 < cLine) : OpD X (compareOp .In) gIn := by
  intro pins s σ H x y v u Q I rx ry h
  obtain ⟨G, dx, dy, r, sub, hx, hy, hg, k⟩ := h
  unfold gIn at hg
  split at hg
  · split at hg
    · rename_i d ds hz; cases hg
      rw [Bool.and_eq_true] at hz
      obtain ⟨p, vs, rfl, h1, h2⟩ := hy.list sub
      have hf := hx.flatRp hz.1
      refine op_in_seq pins s σ H _ _ v u Q I rx ry ⟨p, vs, rfl, .inl (.of h1), hf.flat hz.1, h2.flats hz.2, ?_⟩
      rw [if_neg Bool.false_ne_true, h2.inD hf hz.1 hz.2]
      exact k _ _ (.same (.bl _))
    · split at hg
      · rename_i hz; cases hg
        rw [Bool.and_eq_true] at hz
        exact op_inD hu pins s σ H _ _ v u Q I rx ry ⟨_, _, hx.dp sub hz.1, hy.dp sub hz.2, hz.1, hz.2, k _ _ (.same (.bl _))⟩
      · cases hg
  · split at hg
    · rename_i d ds hz; cases hg
      rw [Bool.and_eq_true] at hz
      obtain ⟨p, vs, rfl, h1, h2⟩ := hy.tup sub
      have hf := hx.flatRp hz.1
      refine op_in_seq pins s σ H _ _ v u Q I rx ry ⟨p, vs, rfl, .inr h1, hf.flat hz.1, h2.flats hz.2, ?_⟩
      rw [if_neg Bool.false_ne_true, h2.inD hf hz.1 hz.2]
      exact k _ _ (.same (.bl _))
    · cases hg
  · cases hg
theorem o_nin (hu : X.A.units + 65 < cLine) : OpD X (compareOp .NotIn) gNin := by
  intro pins s σ H x y v u Q I rx ry h
  obtain ⟨G, dx, dy, r, sub, hx, hy, hg, k⟩ := h
  unfold gNin at hg
  split at hg
  · split at hg
    · rename_i d ds hz; cases hg
      rw [Bool.and_eq_true] at hz
      obtain ⟨p, vs, rfl, h1, h2⟩ := hy.list sub
      have hf := hx.flatRp hz.1
      refine op_notIn_seq pins s σ H _ _ v u Q I rx ry ⟨p, vs, rfl, .inl (.of h1), hf.flat hz.1, h2.flats hz.2, ?_⟩
      rw [if_pos rfl, h2.inD hf hz.1 hz.2]
      exact k _ _ (.same (.bl _))
    · split at hg
      · rename_i hz; cases hg
        rw [Bool.and_eq_true] at hz
        exact op_notInD hu pins s σ H _ _ v u Q I rx ry ⟨_, _, hx.dp sub hz.1, hy.dp sub hz.2, hz.1, hz.2, k _ _ (.same (.bl _))⟩
      · cases hg
  · split at hg
    · rename_i d ds hz; cases hg
      rw [Bool.and_eq_true] at hz
      obtain ⟨p, vs, rfl, h1, h2⟩ := hy.tup sub
      have hf := hx.flatRp hz.1
      refine op_notIn_seq pins s σ H _ _ v u Q I rx ry ⟨p, vs, rfl, .inr h1, hf.flat hz.1, h2.flats hz.2, ?_⟩
      rw [if_pos rfl, h2.inD hf hz.1 hz.2]
      exact k _ _ (.same (.bl _))
    · cases hg
  · cases hg
end

/-! ### several names at once -/
def NotIn (a : Addr) : List V → List Rs → Prop
  | v :: vs, r :: rs => (v = .ref a → ∃ d, r = .val d) ∧ NotIn a vs rs
  | _, _ => True
def RsA (K : PySem.W.Frag) (C : Cn) (G : Hp) (own : Nat → Option Addr) (H : Hp) : List V → List Rs → Prop
  | [], [] => True
  | v :: vs, r :: rs => RsOk K C G own H v r ∧ (∀ a, v = .ref a → (∀ d, r ≠ .val d) → NotIn a vs rs) ∧ RsA K C G own H vs rs
  | _, _ => False
abbrev FR := EE → Option (List Rs × EE)
def tR (K : PySem.W.Frag) (F : FR) : TA := fun σ H Q => ∃ C G own e rs e', Rep K C G own e σ H ∧ F e = some (rs, e') ∧ ∀ vs G' own' H', Le G G' → Rep K C G' own' e' σ H' → RsA K C G' own' H' vs rs → Q vs H'
def rNil : FR := fun e => some ([], e)
def rCons (F : FE) (B : FR) : FR := fun e => (F e).bind fun p => (B p.2).bind fun q => some (p.1 :: q.1, q.2)
section
variable {K : PySem.W.Frag} {C C' : Cn} {G H : Hp} {own : Nat → Option Addr} {e : EE} {σ : L2.St}
theorem RsA.weak (h0 : ∀ a, C.H0 a ≠ none → C'.H0 a ≠ none) : ∀ {vs : List V} {rs : List Rs}, RsA K C' G own H vs rs → RsA K C G own H vs rs
  | [], [], _ => trivial
  | v :: vs, r :: rs, ⟨h1, h2, h3⟩ => by
    refine ⟨h1.le Le.rfl' fun p u _ g c o hu => ⟨hu, g, ?_, o⟩, h2, RsA.weak h0 h3⟩
    cases z : C.H0 p with
    | none => rfl
    | some w => exact absurd c (h0 p (by rw [z]; exact (fun z => nomatch z)))
  | [], _ :: _, h => h.elim
  | _ :: _, [], h => h.elim
theorem RsA.apart {a : Addr} (ha : C.H0 a ≠ none) : ∀ {vs : List V} {rs : List Rs}, RsA K C G own H vs rs → NotIn a vs rs
  | [], [], _ => trivial
  | v :: vs, r :: rs, ⟨h1, h2, h3⟩ => by
    refine ⟨fun z => ?_, RsA.apart ha h3⟩
    cases r with
    | val d => exact ⟨d, rfl⟩
    | fl ds => obtain ⟨p, ws, q1, _, _, _, q2, _⟩ := h1; rw [z] at q1; cases q1; exact absurd q2 ha
    | fd b kvs => obtain ⟨p, q1, _, _, q2, _⟩ := h1; rw [z] at q1; cases q1; exact absurd q2 ha
  | [], _ :: _, h => h.elim
  | _ :: _, [], h => h.elim
theorem RsA.length : ∀ {vs : List V} {rs : List Rs}, RsA K C G own H vs rs → vs.length = rs.length
  | [], [], _ => rfl
  | v :: vs, r :: rs, ⟨_, _, h3⟩ => by simp [RsA.length h3]
  | [], _ :: _, h => h.elim
  | _ :: _, [], h => h.elim
end
section
variable {X : Cx}
theorem rs_nil : PA X [] (tR X.K rNil) := by
  refine paImp pa_nil fun σ H Q w => ?_
  obtain ⟨C, G, own, ev, t, e', R, hf, k⟩ := w
  cases hf
  exact k [] G own H Le.rfl' R trivial
theorem rs_cons {e : Expr} {es : List Expr} {A : FE} {B : FR} (ha : ED X e A) (hb : PA X es (tR X.K B)) (hs : starEach (e :: es) X.env = (false, eval e X.env) :: starEach es X.env := by rfl) : PA X (e :: es) (tR X.K (rCons A B)) := by
  refine paImp (pa_cons ha hb hs) fun σ H Q w => ?_
  obtain ⟨C, G, own, ev, t, e', R, hf, k⟩ := w
  obtain ⟨⟨r1, e1⟩, h1, h2⟩ := bind_some_of hf
  obtain ⟨⟨rs, e2⟩, h3, h4⟩ := bind_some_of h2
  cases h4
  refine ⟨C, G, own, ev, r1, e1, R, h1, fun v G1 own1 H1 l1 R1 ok => ?_⟩
  obtain ⟨C', so, h0, hp, R1', back⟩ := R1.aside ok
  refine ⟨C', G1, own1, e1, rs, e2, R1', h3, fun vs G2 own2 H2 l2 R2 rsa => ?_⟩
  obtain ⟨R2c, ok2⟩ := back G2 own2 e2 σ H2 l2 R2
  exact k (v :: vs) G2 own2 H2 (l1.tr l2) R2c ⟨ok2, fun a za zr => rsa.apart (hp a za zr), rsa.weak h0⟩
end
/-- a result goes to a slot; what else is in hand stays in hand -/
theorem Rep.store2 {K : PySem.W.Frag} {C : Cn} {G H : Hp} {own : Nat → Option Addr} {e : EE} {σ : L2.St} {v : V} {r : Rs} (R : Rep K C G own e σ H) {vs : List V} {rs : List Rs} (h : RsA K C G own H (v :: vs) (r :: rs)) {i : Nat} (hi : i < e.r.length) :
    ∃ own', Rep K C G own' (e.put i (some r.ent)) (σ.set i (some v)) H ∧ RsA K C G own' H vs rs := by
  obtain ⟨h1, h2, h3⟩ := h
  have key : ∀ own' : Nat → Option Addr, (∀ k a, own' k = some a → own k = some a ∨ (v = .ref a ∧ ∀ d, r ≠ .val d)) → RsA K C G own' H vs rs := by
    intro own' ho
    have aux : ∀ {vs : List V} {rs : List Rs}, (∀ a, v = .ref a → (∀ d, r ≠ .val d) → NotIn a vs rs) → RsA K C G own H vs rs → RsA K C G own' H vs rs := by
      intro vs
      induction vs with
      | nil => intro rs _ h; cases rs with
        | nil => trivial
        | cons _ _ => exact h.elim
      | cons w vs ih =>
        intro rs hn h
        cases rs with
        | nil => exact h.elim
        | cons q rs =>
          obtain ⟨g1, g2, g3⟩ := h
          refine ⟨?_, g2, ih (fun a za zr => (hn a za zr).2) g3⟩
          cases q with
          | val d => exact g1
          | fl ds =>
            obtain ⟨p, us, rfl, y1, y2, y3, y4, y5⟩ := g1
            refine ⟨p, us, rfl, y1, y2, y3, y4, fun k z => ?_⟩
            rcases ho k p z with z | ⟨z1, z2⟩
            · exact y5 k z
            · obtain ⟨d, hd⟩ := (hn p z1 z2).1 rfl; cases hd
          | fd b kvs =>
            obtain ⟨p, rfl, y1, y3, y4, y5⟩ := g1
            refine ⟨p, rfl, y1, y3, y4, fun k z => ?_⟩
            rcases ho k p z with z | ⟨z1, z2⟩
            · exact y5 k z
            · obtain ⟨d, hd⟩ := (hn p z1 z2).1 rfl; cases hd
    exact aux h2 h3
  obtain ⟨own', R', ho⟩ := R.store h1 hi
  exact ⟨own', R', key own' ho⟩
def storeL : List Nat → List Rs → EE → Option EE
  | [], [], e => some e
  | i :: is, r :: rs, e => if i < e.r.length then storeL is rs (e.put i (some r.ent)) else none
  | _, _, _ => none
def setL (σ : L2.St) : List Nat → List V → L2.St
  | i :: is, v :: vs => setL (σ.set i (some v)) is vs
  | _, _ => σ
theorem storeL_len : ∀ {is : List Nat} {rs : List Rs} {e e' : EE}, storeL is rs e = some e' → rs.length = is.length := by
  intro is
  induction is with
  | nil => intro rs e e' h; cases rs with
    | nil => rfl
    | cons _ _ => cases h
  | cons i is ih => intro rs e e' h; cases rs with
    | nil => cases h
    | cons r rs =>
      unfold storeL at h
      split at h
      · simp [ih h]
      · cases h
theorem Rep.storeAll {K : PySem.W.Frag} {C : Cn} {G H : Hp} : ∀ {is : List Nat} {vs : List V} {rs : List Rs} {own : Nat → Option Addr} {e e' : EE} {σ : L2.St}, Rep K C G own e σ H → RsA K C G own H vs rs → storeL is rs e = some e' →
    ∃ own', Rep K C G own' e' (setL σ is vs) H := by
  intro is
  induction is with
  | nil =>
    intro vs rs own e e' σ R ra h
    cases rs with
    | nil => cases h; cases vs with
      | nil => exact ⟨own, R⟩
      | cons _ _ => exact ra.elim
    | cons _ _ => cases h
  | cons i is ih =>
    intro vs rs own e e' σ R ra h
    cases rs with
    | nil => cases h
    | cons r rs =>
      cases vs with
      | nil => exact ra.elim
      | cons v vs =>
        unfold storeL at h
        split at h
        · rename_i hi
          obtain ⟨own', R', ra'⟩ := R.store2 ra hi
          exact ih R' ra' h
        · cases h
/-- a, b, .. = x, y, .. -/
def sPar (is : List Nat) (B : FR) : FS := fun e => (B e).bind fun p => (storeL is p.1 p.2).bind fun e' => some (.nx, e')
section
variable {X : Cx}
theorem sd_par {i j : Nat} {x y : Str} {a b : Expr} {B : FR} {px py pt pos : Pos} {kt k2 pt2} (hc : X.calm = true) (hN : X.N.Nodup) (hi : X.N[i]? = some x) (hj : X.N[j]? = some y) (hij : i ≠ j)
    (hx : X.env.scope.names.lookup x = some .local) (hy : X.env.scope.names.lookup y = some .local) (ha : PA X [a, b] (tR X.K B))
    (hw : swappedStores [.Tuple [.Name x px, .Name y py] kt pt] (.Tuple [a, b] k2 pt2) X.env = pure (some [x, y]))
    (hs : swapsWithSole [.Tuple [.Name x px, .Name y py] kt pt] (.Tuple [a, b] k2 pt2) pos.line X.env = pure false := by rfl) : SD X (.Assign [.Tuple [.Name x px, .Name y py] kt pt] (.Tuple [a, b] k2 pt2) pos) (sPar [i, j] B) := by
  refine psImp (ps_par hc hN hi hj hij hx hy ha hw hs) fun D σ H w => ?_
  obtain ⟨C, G, own, ev, fl, e', R, hf, k⟩ := w
  obtain ⟨⟨rs, e1⟩, h1, h2⟩ := bind_some_of hf
  obtain ⟨e2, h3, h4⟩ := bind_some_of h2
  cases h4
  refine ⟨C, G, own, ev, rs, e1, R, h1, fun vs G1 own1 H1 l1 R1 ra => ?_⟩
  obtain ⟨own2, R2⟩ := R1.storeAll ra h3
  have lv : vs.length = 2 := ra.length.trans (storeL_len h3)
  match vs, lv, R2 with
  | [v, w], _, R2 => exact ⟨v, w, rfl, k _ G1 own2 H1 l1 R2⟩
theorem sd_par3 {i j l : Nat} {x y z : Str} {a b c : Expr} {B : FR} {px py pz pt pos : Pos} {kt k2 pt2} (hc : X.calm = true) (hN : X.N.Nodup) (hi : X.N[i]? = some x) (hj : X.N[j]? = some y) (hl : X.N[l]? = some z) (hij : i ≠ j) (hil : i ≠ l) (hjl : j ≠ l)
    (hx : X.env.scope.names.lookup x = some .local) (hy : X.env.scope.names.lookup y = some .local) (hz : X.env.scope.names.lookup z = some .local) (ha : PA X [a, b, c] (tR X.K B))
    (hw : swappedStores [.Tuple [.Name x px, .Name y py, .Name z pz] kt pt] (.Tuple [a, b, c] k2 pt2) X.env = pure (some [x, y, z]))
    (hs : swapsWithSole [.Tuple [.Name x px, .Name y py, .Name z pz] kt pt] (.Tuple [a, b, c] k2 pt2) pos.line X.env = pure false := by rfl) : SD X (.Assign [.Tuple [.Name x px, .Name y py, .Name z pz] kt pt] (.Tuple [a, b, c] k2 pt2) pos) (sPar [i, j, l] B) := by
  refine psImp (ps_par3 hc hN hi hj hl hij hil hjl hx hy hz ha hw hs) fun D σ H w => ?_
  obtain ⟨C, G, own, ev, fl, e', R, hf, k⟩ := w
  obtain ⟨⟨rs, e1⟩, h1, h2⟩ := bind_some_of hf
  obtain ⟨e2, h3, h4⟩ := bind_some_of h2
  cases h4
  refine ⟨C, G, own, ev, rs, e1, R, h1, fun vs G1 own1 H1 l1 R1 ra => ?_⟩
  obtain ⟨own2, R2⟩ := R1.storeAll ra h3
  have lv : vs.length = 3 := ra.length.trans (storeL_len h3)
  match vs, lv, R2 with
  | [u, v, w], _, R2 => exact ⟨u, v, w, rfl, k _ G1 own2 H1 l1 R2⟩
/-- names only, from the left -/
def gNames : List Nat → TGs
  | [] => gNil
  | i :: is => gCons (gName i) (gNames is)
theorem gNames_set {is : List Nat} {vs : List V} {σ : L2.St} {H : Hp} {Q : L2.St → Hp → Prop} (hl : vs.length = is.length) (h : Q (setL σ is vs) H) : gNames is vs σ H Q := by
  induction is generalizing vs σ with
  | nil => cases vs with
    | nil => exact ⟨rfl, h⟩
    | cons _ _ => cases hl
  | cons i is ih => cases vs with
    | nil => cases hl
    | cons v vs => exact ⟨v, vs, rfl, ih (by simpa using hl) h⟩
theorem gs_nil : PGs X [] (gNames []) := pgs_nil
theorem gs_cons {i : Nat} {is : List Nat} {x : Str} {p : Pos} {es : List Expr} (hN : X.N.Nodup) (hi : X.N[i]? = some x) (hx : Loc X.env.scope x) (h : PGs X es (gNames is)) (hf : X.fn x = true ∨ X.env.scope.names.lookup x = some .local := by first | exact .inl rfl | exact .inr rfl | assumption)
    (hs : (assignEach (.Name x p :: es) X.env).map (·.2) = assign (.Name x p) X.env :: (assignEach es X.env).map (·.2) := by rfl) : PGs X (.Name x p :: es) (gNames (i :: is)) := pgs_cons (pg_name hN hi hx hf) h hs
/-- where the names are not all plain locals: the pair is made, and taken apart -/
theorem sd_parG {is : List Nat} {ts es : List Expr} {B : FR} {kt k2} {pt pt2 pos : Pos} (hc : X.calm = true) (hg : PGs X ts (gNames is)) (ha : PA X es (tR X.K B)) (hz : small is.length = true)
    (hn : (assignEach ts X.env).length = is.length := by rfl) (hst : (assignEach ts X.env).findIdx? (·.1) = none := by rfl)
    (hs : swapsWithSole [.Tuple ts kt pt] (.Tuple es k2 pt2) pos.line X.env = pure false := by rfl) (hw : swappedStores [.Tuple ts kt pt] (.Tuple es k2 pt2) X.env = pure none := by rfl)
    (h1 : (assignEach [.Tuple ts kt pt] X.env).map (·.2) = [assign (.Tuple ts kt pt) X.env] := by rfl) : SD X (.Assign [.Tuple ts kt pt] (.Tuple es k2 pt2) pos) (sPar is B) := by
  refine psImp (ps_asg (pe_tup ha) (pg_tup hc hg hn hst) hs hw h1) fun D σ H w => ?_
  obtain ⟨C, G, own, ev, fl, e', R, hf, k⟩ := w
  obtain ⟨⟨rs, e1⟩, h2, h3⟩ := bind_some_of hf
  obtain ⟨e2, h4, h5⟩ := bind_some_of h3
  cases h5
  refine ⟨C, G, own, ev, rs, e1, R, h2, fun vs G1 own1 H1 l1 R1 ra => ?_⟩
  have lv : vs.length = is.length := ra.length.trans (storeL_len h4)
  refine ⟨by rw [lv]; exact line_of hz, fun p hp => ⟨p, vs, rfl, .of upd_same, lv, gNames_set lv ?_⟩⟩
  obtain ⟨own2, R2⟩ := R1.storeAll ra h4
  exact k _ G1 own2 _ l1 (R2.alloc hp)
end
end EL
/-! EL9: [::-1], list(range(..)), dicts: new, in, put, get, update, comprehensions. -/
namespace EL
open PySem PySem.Spec PyProof.Rows L2
variable [KC]

/-! ### [::-1] -/
section
variable {prog : Program} {w : World} {A : Around} {E : Value → Shared → Prop} {s : Shared}
theorem applied_back {sl : Addr} {va vb vc : Value} {n : Nat} {Q : Int × Int × Nat → Shared → Prop} (hs : s.heap.IsSliceOf sl va vb vc) (pa : IsPart va none) (pb : IsPart vb none) (pc : IsPart vc (some (-1)))
    (h : Q ((n : Int) - 1, -1, n) s) : wpAny (model prog w) A (Builtin.Slice.sliceApplied (.ref sl) (pure (n : Int))) Q E s := by
  obtain ⟨os, hos, hcs, hds⟩ := id hs
  unfold Builtin.Slice.sliceApplied Builtin.Slice.sliceFields
  refine wpAny_bind (wpAny_bind (wpAny_field hos hds (x := va) rfl (wpAny_bind (wpAny_field hos hds (x := vb) rfl (wpAny_bind (wpAny_field hos hds (x := vc) rfl (wpAny_pure ?_)))))))
  refine wpAny_bind (HT.slicePart_ pc ?_)
  show wpAny _ _ (if ((-1 : Int) == 0) = true then _ else _) _ _ s
  rw [if_neg (by decide)]
  refine wpAny_bind (HT.slicePart_ pa (wpAny_bind (HT.slicePart_ pb (wpAny_bind (wpAny_pure ?_)))))
  have e1 : Builtin.Slice.sliceAdjust none none (-1) (n : Int) = ((n : Int) - 1, -1) := rfl
  have e2 : Builtin.Slice.slicePlaces ((n : Int) - 1) (-1) (-1) = n := by
    unfold Builtin.Slice.slicePlaces
    rw [if_neg (by decide)]
    by_cases z : (n : Int) - 1 > -1
    · rw [if_pos z, show -(-1 : Int) = 1 from rfl, Int.ediv_one]; omega
    · rw [if_neg z]; show 0 = n; omega
  show wpAny _ _ (match Builtin.Slice.sliceAdjust none none (-1) (n : Int) with | (a, b) => pure (a, (-1 : Int), Builtin.Slice.slicePlaces a b (-1))) _ _ s
  rw [e1]
  show wpAny _ _ (pure ((n : Int) - 1, (-1 : Int), Builtin.Slice.slicePlaces ((n : Int) - 1) (-1) (-1))) _ _ s
  rw [e2]
  exact wpAny_pure h
theorem pick_back (xs : Array Value) : ((List.range xs.size).filterMap fun (m : Nat) => xs[(((xs.size : Int) - 1) + (m : Int) * (-1)).toNat]?).toArray = xs.toList.reverse.toArray := by
  obtain ⟨l⟩ := xs
  congr 1
  apply List.ext_getElem?
  have hf : ∀ m, m ∈ List.range l.length → (fun (m : Nat) => (⟨l⟩ : Array Value)[((((⟨l⟩ : Array Value).size : Int) - 1) + (m : Int) * (-1)).toNat]?) m = some (l.reverse[m]?.getD .none) := by
    intro m hm
    have hm' : m < l.length := List.mem_range.mp hm
    have e : ((((⟨l⟩ : Array Value).size : Int) - 1) + (m : Int) * (-1)).toNat = l.length - 1 - m := by
      show ((l.length : Int) - 1 + (m : Int) * (-1)).toNat = _
      omega
    show (⟨l⟩ : Array Value)[((((⟨l⟩ : Array Value).size : Int) - 1) + (m : Int) * (-1)).toNat]? = _
    rw [e, List.getElem?_reverse hm']
    have : l.length - 1 - m < l.length := by omega
    simp [this]
  have e3 : ((List.range l.length).filterMap fun (m : Nat) => (⟨l⟩ : Array Value)[((((⟨l⟩ : Array Value).size : Int) - 1) + (m : Int) * (-1)).toNat]?) = (List.range l.length).map fun m => l.reverse[m]?.getD .none := by
    have key : ∀ r : List Nat, (∀ m ∈ r, m ∈ List.range l.length) → r.filterMap (fun (m : Nat) => (⟨l⟩ : Array Value)[((((⟨l⟩ : Array Value).size : Int) - 1) + (m : Int) * (-1)).toNat]?) = r.map fun m => l.reverse[m]?.getD .none := by
      intro r
      induction r with
      | nil => intro _; rfl
      | cons a r ih =>
        intro h
        refine (List.filterMap_cons_some (f := fun (m : Nat) => (⟨l⟩ : Array Value)[((((⟨l⟩ : Array Value).size : Int) - 1) + (m : Int) * (-1)).toNat]?) (hf a (h a List.mem_cons_self))).trans ?_
        rw [List.map_cons, ih fun m hm => h m (List.mem_cons_of_mem _ hm)]
    exact key _ fun m hm => hm
  intro i
  show ((List.range l.length).filterMap _)[i]? = l.reverse[i]?
  rw [e3]
  by_cases z : i < l.length
  · simp [z]
  · rw [List.getElem?_eq_none (by simp; omega), List.getElem?_eq_none (by simp; omega)]
theorem getItem_tuple_back {t sl : Addr} {items : Array Value} {va vb vc : Value} {Q : Value → Shared → Prop} (ht : IsTup s.heap t items) (hs : s.heap.IsSliceOf sl va vb vc) (pa : IsPart va none) (pb : IsPart vb none) (pc : IsPart vc (some (-1)))
    (h : Q (.ref s.heap.objs.size) { s with heap := s.heap.push { cls := .type "tuple", data := .seq items.toList.reverse.toArray } }) (hsz : items.size ≤ sizeLine) : wpAny (model prog w) A (getItem (.ref t) (.ref sl)) Q E s := by
  have hfit : sizeOk (.seq items.toList.reverse.toArray) := by
    show items.toList.reverse.toArray.size ≤ sizeLine
    rw [List.size_toArray, List.length_reverse, Array.length_toList]; exact hsz
  obtain ⟨os, hos, hcs, hds⟩ := id hs
  have hTy : s.TypeIs (.ref sl) "slice" := ⟨os, hos, hcs⟩
  unfold getItem
  try with_reducible refine wpAny_holding ?_
  first | refine wpAny_bind (wpAny_pure ?_) | skip
  refine wpAny_bind (wpAny_sequenceKey ht.typeIs (by decide) ?_)
  refine wpAny_bind (wpAny_callSpecial?_slot (name := Str.ofString "__getitem__") ht.typeIs PyProof.Rows.slot_tuple_getitem
    (wpAny_call_entry PyProof.Rows.slot_tuple_getitem ht.typeIs entry_tuple_getitem ?_ (args_tuple_getitem _ _)))
  show wpAny _ _ (Builtin.Tuple.tupleItemsOf (.ref t) >>= _) _ _ s
  refine wpAny_bind (tupleItemsOf_ ht ?_)
  refine wpAny_bind (wpAny_typeOf hTy ?_)
  rw [if_pos (by decide)]
  refine wpAny_bind (applied_back (n := items.size) hs pa pb pc ?_)
  have hno : ¬ ((((items.size : Int) - 1) == 0 && (-1 : Int) == 1 && items.size == items.size) = true) := by
    intro q
    rw [Bool.and_eq_true, Bool.and_eq_true] at q
    exact absurd q.1.2 (by decide)
  show wpAny _ _ (if (((items.size : Int) - 1) == 0 && (-1 : Int) == 1 && items.size == items.size) = true then _ else _) _ _ s
  rw [if_neg hno, pick_back]
  first
    | exact wpAny_bind (m := Builtin.Tuple.tupleExact _) (wpAny_newObj_type (wpAny_pure ⟨_, rfl, wpAny_pure h⟩) hfit)
    | exact wpAny_bind (m := Builtin.Tuple.tupleExact _) (wpAny_newObj_type (wpAny_bind (wpAny_pure (wpAny_pure ⟨_, rfl, wpAny_pure h⟩))) hfit)
    | exact wpAny_bind (wpAny_bind (m := Builtin.Tuple.tupleExact _) (wpAny_newObj_type (wpAny_pure (wpAny_pure ⟨_, rfl, wpAny_pure h⟩)) hfit))
    | exact wpAny_bind (wpAny_bind (m := Builtin.Tuple.tupleExact _) (wpAny_newObj_type (wpAny_pure ⟨_, rfl, wpAny_pure h⟩) hfit))
end
def tRev (K : PySem.W.Frag) (te : TE) : TE := fun σ H Q => te σ H fun x H1 => (∃ a xs, x = .ref a ∧ SqL K H1 a xs ∧ ∀ p, H1 p = none → Q (.ref p) (upd H1 p (.lst xs.reverse))) ∨
  (∃ a xs, x = .ref a ∧ SqT K H1 a xs ∧ ∀ p, H1 p = none → Q (.ref p) (upd H1 p (.tup xs.reverse)))
section
variable {X : Cx}
theorem pe_rev {e : Expr} {te : TE} {k : Nat} {q1 q2 q3 pos : Pos} (he : PE X e te) : PE X (.Subscript e (.Slice none none (some (.UnaryOp .USub (.Constant (.int 1) k q1) q2)) q3) pos) (tRev X.K te) := by
  refine ⟨fun pins s σ H Q I h => ?_⟩
  refine Subscript_ (thn (he.run pins s σ H _ I h) fun v s1 ⟨x, H1, I1, r1, qq⟩ => ?_)
  have hback : PO X (some (.UnaryOp .USub (.Constant (.int 1) k q1) q2)) (tPart (tUn (rU fun i => .int (-i)) (tC (.int 1)))) := po_some (pe_un un_neg pe_int)
  refine wpAny_Slice (thn (po_none.run pins s1 σ H1 (fun o H2 => o = none ∧ H2 = H1) I1 ⟨rfl, rfl⟩) fun va s2 ⟨l, H2, I2, pl, el, e2⟩ => ?_)
  subst el e2
  refine thn (po_none.run pins s2 σ H2 (fun o H3 => o = none ∧ H3 = H2) I2 ⟨rfl, rfl⟩) fun vb s3 ⟨u, H3, I3, pu, eu, e3⟩ => ?_
  subst eu e3
  refine thn (hback.run pins s3 σ H3 (fun o H4 => o = some (-1) ∧ H4 = H3) I3 ⟨1, rfl, -1, rfl, rfl, rfl⟩) fun vc s4 ⟨o, H4, I4, ps, eo, e4⟩ => ?_
  subst eo e4
  have I5 : Inv X pins σ H4 { s4 with heap := s4.heap.push { cls := .type "slice", data := .fields #[va, vb, vc] } } := I4.kept (t' := s4.toks) fun b ob q => Heap.get?_push_of_some _ q
  rcases qq with ⟨a, xs, ex, hx, q⟩ | ⟨a, xs, ex, hx, q⟩
  · subst ex
    cases r1
    obtain ⟨its, r, ht, hz⟩ := I5.list hx
    have hlen := r.length
    show wpAny (model X.prog X.w) X.A (subscriptTail e (.Slice none none (some (.UnaryOp .USub (.Constant (.int 1) k q1) q2)) q3) (.ref a) (.ref s4.heap.objs.size)) (EP X pins σ Q) X.xe { s4 with heap := s4.heap.push { cls := .type "slice", data := .fields #[va, vb, vc] } }
    refine tail_any (ops := [.ref a, .ref s4.heap.objs.size]) ht.isList.typeIs (PySem.slot_list_getitem.lookup) ?_ (by with_unfolding_all rfl)
    refine wpAny_getItem_list_slice ht.isList (Heap.IsSliceOf.new _ va vb vc) pl pu ps (by decide) ?_ (by rw [List.size_toArray]; omega)
    rw [PySem.W.krv_pick]
    refine ⟨.ref _, _, I5.laid (t' := s4.toks) (o := .lst xs.reverse) (fun b ob q => Heap.get?_push_of_some _ q) (Nat.le_refl _) ?_, rfl, q _ (I5.hok.fresh (Nat.le_refl _))⟩
    exact ⟨by rw [List.length_reverse]; exact hz, its.reverse, 0, r.reverse, Heap.get?_push_size _ rfl⟩
  · subst ex
    cases r1
    obtain ⟨its, r, ht, hz⟩ := I5.tuple hx
    have hlen := r.length
    show wpAny (model X.prog X.w) X.A (subscriptTail e (.Slice none none (some (.UnaryOp .USub (.Constant (.int 1) k q1) q2)) q3) (.ref a) (.ref s4.heap.objs.size)) (EP X pins σ Q) X.xe { s4 with heap := s4.heap.push { cls := .type "slice", data := .fields #[va, vb, vc] } }
    refine tail_any (ops := [.ref a, .ref s4.heap.objs.size]) ht.typeIs (PyProof.Rows.slot_tuple_getitem.lookup) ?_ (by with_unfolding_all rfl)
    refine getItem_tuple_back ht (Heap.IsSliceOf.new _ va vb vc) pl pu ps ?_ (by rw [List.size_toArray]; omega)
    refine ⟨.ref _, _, I5.laid (t' := s4.toks) (o := .tup xs.reverse) (fun b ob q => Heap.get?_push_of_some _ q) (Nat.le_refl _) ?_, rfl, q _ (I5.hok.fresh (Nat.le_refl _))⟩
    refine (show ObjOk X.prog X.w _ _ _ (.tup xs.reverse) from ⟨by rw [List.length_reverse]; exact hz, its.reverse, r.reverse, ?_⟩)
    exact IsTup.new _ _
def gRev : D → Option Rs
  | .list ds => some (.fl ds.reverse)
  | .tuple ds => some (.val (.tuple ds.reverse))
  | _ => none
theorem ed_rev {e : Expr} {A : FO} {k : Nat} {q1 q2 q3 pos : Pos} (he : OE X e A) : ED X (.Subscript e (.Slice none none (some (.UnaryOp .USub (.Constant (.int 1) k q1) q2)) q3) pos) (eUn gRev A) := by
  refine peImp (pe_rev he) fun σ H Q w => ?_
  obtain ⟨C, G, own, ev, r, e', R, hf, k⟩ := w
  obtain ⟨⟨t1, e1⟩, h1, h2⟩ := bind_some_of hf
  obtain ⟨x, h5, h6⟩ := bind_some_of h2
  obtain ⟨r', h9, hx⟩ := bind_some_of h6
  cases hx
  refine ⟨C, G, own, ev, t1, e1, R, h1, fun v G1 own1 H1 l1 R1 g1 => ?_⟩
  have rr := g1 _ _ _ _ _ Le.rfl' R1 h5
  have fin : ∀ z H', Grow X.K G1 H1 z r H' → Q z H' := fun z H3 gr => by
    obtain ⟨G3, l3, R3, ok⟩ := R1.grow gr
    exact k z G3 own1 H3 (l1.tr l3) R3 ok
  unfold gRev at h9
  split at h9
  · cases h9
    obtain ⟨p, vs, rfl, y1, y2⟩ := rr.list R1.sub
    exact .inl ⟨p, vs, rfl, .of y1, fun l hl => fin _ _ (.lst hl y2.reverse)⟩
  · cases h9
    obtain ⟨p, vs, rfl, y1, y2⟩ := rr.tup R1.sub
    exact .inr ⟨p, vs, rfl, y1, fun l hl => fin _ _ (.tup hl y2.reverse)⟩
  · cases h9
end

/-! ### list(range(..)), tuple(range(..)) -/
def rgOk (a b : Int) : Bool := inW a && inW b && small (b - a).toNat
theorem rgOk_of {a b : Int} (h : rgOk a b = true) : RgOk a b := by
  unfold rgOk at h
  rw [Bool.and_eq_true, Bool.and_eq_true] at h
  obtain ⟨⟨h1, h2⟩, h3⟩ := h
  obtain ⟨b1, b2⟩ := unhide h1
  obtain ⟨b3, b4⟩ := unhide h2
  have h3 : (b - a).toNat ≤ 16777216 := unhide h3
  exact ⟨b1, b2, b3, b4, h3⟩
theorem rg_rp {K : PySem.W.Frag} {G : Hp} (a b : Int) : RpA K G (rgV a b) (rgL a (b - a).toNat) := by
  unfold rgV rgL
  generalize List.range (b - a).toNat = l
  induction l with
  | nil => exact .nil
  | cons x l ih => exact .cons (.int _) ih
def eRg (L : Bool) (A : FO) : FE := fun e => (A e).bind fun p => (p.1 p.2).bind fun d => match d with
  | .int n => if rgOk 0 n = true then some (if L = true then .fl (rgL 0 n.toNat) else .val (.tuple (rgL 0 n.toNat)), p.2) else none
  | _ => none
def eRg2 (L : Bool) (A B : FO) : FE := fun e => (A e).bind fun p => (B p.2).bind fun q => (p.1 q.2).bind fun x => (q.1 q.2).bind fun y => match x, y with
  | .int m, .int n => if rgOk m n = true then some (if L = true then .fl (rgL m (n - m).toNat) else .val (.tuple (rgL m (n - m).toNat)), q.2) else none
  | _, _ => none
section
variable {X : Cx} {a b : Expr} {p p2 pos pos2 : Pos} {A B : FO}
theorem ed_listRg (hc : X.calm = true) (hg : Gl X "list") (hm : X.mg "list" = none) (hg2 : Gl X "range") (hm2 : X.mg "range" = none) (ha : OE X a A)
    (na : starEach [a] X.env = (false, eval a X.env) :: starEach [] X.env := by rfl) (nb : starEach [.Call (.Name "range" p2) [a] [] pos2] X.env = (false, eval (.Call (.Name "range" p2) [a] [] pos2) X.env) :: starEach [] X.env := by rfl) :
    ED X (.Call (.Name "list" p) [.Call (.Name "range" p2) [a] [] pos2] [] pos) (eRg true A) := by
  refine peImp (pe_listRg hc hg hm (prg_1 hg2 hm2 ha na) nb) fun σ H Q w => ?_
  obtain ⟨C, G, own, ev, r, e', R, hf, k⟩ := w
  obtain ⟨⟨t1, e1⟩, h1, h2⟩ := bind_some_of hf
  obtain ⟨x, h5, h6⟩ := bind_some_of h2
  split at h6
  · rename_i n
    split at h6
    · rename_i hz
      cases h6
      refine ⟨C, G, own, ev, t1, e1, R, h1, fun v G1 own1 H1 l1 R1 g1 => ⟨n, (g1 _ _ _ _ _ Le.rfl' R1 h5).int, rgOk_of hz, fun q hq => ?_⟩⟩
      obtain ⟨G3, l3, R3, ok⟩ := R1.grow (.lst hq (rg_rp 0 n))
      rw [show (n - 0 : Int) = n by omega] at ok
      exact k _ G3 own1 _ (l1.tr l3) R3 ok
    · cases h6
  · cases h6
theorem ed_tupRg (hc : X.calm = true) (hg : Gl X "tuple") (hm : X.mg "tuple" = none) (hg2 : Gl X "range") (hm2 : X.mg "range" = none) (ha : OE X a A)
    (na : starEach [a] X.env = (false, eval a X.env) :: starEach [] X.env := by rfl) (nb : starEach [.Call (.Name "range" p2) [a] [] pos2] X.env = (false, eval (.Call (.Name "range" p2) [a] [] pos2) X.env) :: starEach [] X.env := by rfl) :
    ED X (.Call (.Name "tuple" p) [.Call (.Name "range" p2) [a] [] pos2] [] pos) (eRg false A) := by
  refine peImp (pe_tupRg hc hg hm (prg_1 hg2 hm2 ha na) nb) fun σ H Q w => ?_
  obtain ⟨C, G, own, ev, r, e', R, hf, k⟩ := w
  obtain ⟨⟨t1, e1⟩, h1, h2⟩ := bind_some_of hf
  obtain ⟨x, h5, h6⟩ := bind_some_of h2
  split at h6
  · rename_i n
    split at h6
    · rename_i hz
      cases h6
      refine ⟨C, G, own, ev, t1, e1, R, h1, fun v G1 own1 H1 l1 R1 g1 => ⟨n, (g1 _ _ _ _ _ Le.rfl' R1 h5).int, rgOk_of hz, fun q hq => ?_⟩⟩
      obtain ⟨G3, l3, R3, ok⟩ := R1.grow (.tup hq (rg_rp 0 n))
      rw [show (n - 0 : Int) = n by omega] at ok
      exact k _ G3 own1 _ (l1.tr l3) R3 ok
    · cases h6
  · cases h6
end

/-! ### dicts of one's own -/
def eDNew (b : Bool) : FE := fun e => some (.fd b [], e)
def dctAt (i : Nat) (e : EE) : Option (Bool × List (D × D)) := match e.r[i]? with
  | some (some (.od b kvs)) => some (b, kvs)
  | _ => none
theorem dctAt_some {i : Nat} {e : EE} {b : Bool} {kvs : List (D × D)} (h : dctAt i e = some (b, kvs)) : e.r[i]? = some (some (.od b kvs)) := by
  unfold dctAt at h
  split at h
  · rename_i q; cases h; exact q
  · cases h
def keyB (b : Bool) (d : D) : Bool := okKey d && (tupKey d == b)
def eDIn (neg : Bool) (F : FE) (i : Nat) : FE := fun e => (F e).bind fun p => (dctAt i p.2).bind fun q => if keyB q.1 p.1.d = true then some (.val (.bool (xor neg (dLook q.2 p.1.d).isSome)), p.2) else none
def eDGet (i : Nat) (F : FE) : FE := fun e => (dctAt i e).bind fun _ => (F e).bind fun p => (dctAt i p.2).bind fun q => if keyB q.1 p.1.d = true then (dLook q.2 p.1.d).bind fun d => some (.val d, p.2) else none
def sDPut (i : Nat) (F V : FE) : FS := fun e => (V e).bind fun q => (dctAt i q.2).bind fun _ => (F ⟨q.2.r, q.2.S⟩).bind fun p => (dctAt i p.2).bind fun z => if (keyB z.1 p.1.d && hide (z.2.length < 16777216)) = true then some (.nx, p.2.put i (some (.od z.1 (dPut z.2 p.1.d q.1.d)))) else none
section
variable {K : PySem.W.Frag} {C : Cn} {G H : Hp} {own : Nat → Option Addr} {e : EE} {σ : L2.St}
theorem Rep.dct (R : Rep K C G own e σ H) {i : Nat} {b : Bool} {kvs : List (D × D)} (h : e.r[i]? = some (some (.od b kvs))) :
    ∃ a, σ[i]? = some (some (.ref a)) ∧ own i = some a ∧ OdOk K G H a b kvs ∧ ∀ u kvs', OdOk K G (upd H a u) a b kvs' → Rep K C G own (e.put i (some (.od b kvs'))) σ (upd H a u) := by
  obtain ⟨v, h1, a, rfl, h2, h3⟩ := R.slot i _ h
  exact ⟨a, h1, h2, h3, fun u kvs' ok => R.write h2 (ltOf h) h1 ⟨a, rfl, h2, ok⟩⟩
theorem keyB_of {b : Bool} {d : D} (h : keyB b d = true) : okKey d = true ∧ tupKey d = b := by
  unfold keyB at h
  rw [Bool.and_eq_true] at h
  exact ⟨h.1, by simpa using h.2⟩
theorem DLk.some {a : Addr} {y : V} {o : Option D} (h : DLk K G H a y o) : ∃ r, DGet H a y r ∧ r.isSome = o.isSome ∧ ∀ d, o = .some d → ∃ v, r = .some v ∧ Rp K G v d := by
  obtain ⟨r, h1, h2⟩ := h
  cases o with
  | none => cases r with
    | none => exact ⟨_, h1, rfl, fun d z => by cases z⟩
    | some v => exact h2.elim
  | some d => cases r with
    | none => exact h2.elim
    | some v => exact ⟨_, h1, rfl, fun d' z => by cases z; exact ⟨v, rfl, h2⟩⟩
/-- a put -/
theorem OdOk.put (l : Le G H) {p : Addr} {b : Bool} {kvs : List (D × D)} (h : OdOk K G H p b kvs) (hg : G p = none) {y : V} {k : D} (hk : IsKey K G y k) (hs : tupKey k = b) {v : V} {d : D} (r : Rp K G v d) (z : kvs.length < 16777216) :
    ∃ u, DPut H p y v (upd H p u) ∧ OdOk K G (upd H p u) p b (dPut kvs k d) := by
  rcases h with ⟨rfl, l', ds, h1, h2, rfl⟩ | ⟨rfl, l', ds, h1, h2, rfl⟩
  · have ln : l'.length = ds.length := by have := h2.length; simpa using this
    have z' : l'.length < sizeLine := by rw [sizeLine_eq]; simp [ln] at z; omega
    cases hk with
    | @k k =>
      obtain ⟨ds', q1, q2⟩ := put_ok eqv_kd h2 k r
      exact ⟨_, DPut.k h1 z', .inl ⟨rfl, putK l' k v, ds', upd_same, q1, q2⟩⟩
    | t h => simp [tupKey, tkd] at hs
  · have ln : l'.length = ds.length := by have := h2.length; simpa using this
    have z' : l'.length < sizeLine := by rw [sizeLine_eq]; simp [ln] at z; omega
    cases hk with
    | @k k => rcases k with k | k <;> simp [tupKey, kd] at hs
    | @t b ks h =>
      obtain ⟨ds', q1, q2⟩ := put_ok eqv_tkd h2 ks r
      exact ⟨_, DPut.t h1 (l _ _ h) z', .inr ⟨rfl, putK l' ks v, ds', upd_same, q1, q2⟩⟩
end
section
variable {X : Cx} {o k value : Expr} {pos pos' : Pos}
theorem ed_dnewK : ED X (.Dict [] [] pos) (eDNew false) := by
  refine peImp pe_dnewK fun σ H Q w => ?_
  obtain ⟨C, G, own, ev, r, e', R, hf, k⟩ := w
  cases hf
  intro p hp
  obtain ⟨G3, l3, R3, ok⟩ := R.grow (.dk (l := []) (ds := []) hp .nil)
  exact k _ G3 own _ l3 R3 ok
theorem ed_dnewT : ED X (.Dict [] [] pos) (eDNew true) := by
  refine peImp pe_dnewT fun σ H Q w => ?_
  obtain ⟨C, G, own, ev, r, e', R, hf, k⟩ := w
  cases hf
  intro p hp
  obtain ⟨G3, l3, R3, ok⟩ := R.grow (.dt (l := []) (ds := []) hp .nil)
  exact k _ G3 own _ l3 R3 ok
theorem din_imp {K : PySem.W.Frag} {neg : Bool} {F : FE} {i : Nat} {σ : L2.St} {H : Hp} {Q : VK} (w : tE K (eDIn neg F i) σ H Q) :
    tE K F σ H fun y H1 => tVar i σ H1 fun x H2 => ∃ a o, x = .ref a ∧ DGet H2 a y o ∧ Q (.bl (xor neg o.isSome)) H2 := by
  obtain ⟨C, G, own, ev, r, e', R, hf, k⟩ := w
  obtain ⟨⟨r1, e1⟩, h1, h2⟩ := bind_some_of hf
  obtain ⟨⟨b, kvs⟩, h3, h4⟩ := bind_some_of h2
  dsimp only at h4
  split at h4
  · rename_i hz
    cases h4
    obtain ⟨z1, z2⟩ := keyB_of hz
    refine ⟨C, G, own, ev, r1, _, R, h1, fun y G1 own1 H1 l1 R1 ok => ?_⟩
    obtain ⟨G2, l2, R2, p⟩ := R1.frz ok
    obtain ⟨a, q1, q2, q3, _⟩ := R2.dct (dctAt_some h3)
    obtain ⟨r, y1, y2, _⟩ := (DLk.of R2.sub q3 (p.key z1) z2).some
    exact ⟨_, q1, a, r, rfl, y1, by rw [y2]; exact k _ G2 own1 H1 (l1.tr l2) R2 (Rp.bl _)⟩
  · cases h4
theorem pc_dIn {F : FE} {i : Nat} (hu : X.A.units + 1 < cLine) (hk : ED X k F) (ho : PE X o (tVar i)) : PC X .In k o (tE X.K (eDIn false F i)) :=
  ⟨fun pins s σ H Q I w => (pc_din hu hk ho).run pins s σ H Q I (by
    have z := din_imp w
    simp only [Bool.false_xor] at z
    exact z)⟩
theorem pc_dNin {F : FE} {i : Nat} (hu : X.A.units + 1 < cLine) (hk : ED X k F) (ho : PE X o (tVar i)) : PC X .NotIn k o (tE X.K (eDIn true F i)) :=
  ⟨fun pins s σ H Q I w => (pc_dnotin hu hk ho).run pins s σ H Q I (by
    have z := din_imp w
    simp only [Bool.true_xor] at z
    exact z)⟩
theorem td_dIn {F : FE} {i : Nat} (hu : X.A.units + 1 < cLine) (hk : ED X k F) (ho : PE X o (tVar i)) (hm : behindInMarks .In o = false) : TD X (.Compare k [.In] [o] pos) (tOf (eDIn false F i)) :=
  ptImp (pt_cmp (pc_dIn hu hk ho) hm) fun _ _ _ w => tof_imp w
theorem td_dNin {F : FE} {i : Nat} (hu : X.A.units + 1 < cLine) (hk : ED X k F) (ho : PE X o (tVar i)) (hm : behindInMarks .NotIn o = false) : TD X (.Compare k [.NotIn] [o] pos) (tOf (eDIn true F i)) :=
  ptImp (pt_cmp (pc_dNin hu hk ho) hm) fun _ _ _ w => tof_imp w
theorem ed_dGet {F : FE} {i : Nat} (hu : X.A.units + 1 < cLine) (ho : PE X o (tVar i)) (hk : ED X k F) (hs : NoSl k) : ED X (.Subscript o k pos) (eDGet i F) := by
  refine peImp (pe_dget hu ho hk hs) fun σ H Q w => ?_
  obtain ⟨C, G, own, ev, r, e', R, hf, kk⟩ := w
  obtain ⟨⟨b0, kvs0⟩, h0, hf⟩ := bind_some_of hf
  obtain ⟨⟨r1, e1⟩, h1, h2⟩ := bind_some_of hf
  obtain ⟨⟨b, kvs⟩, h3, h4⟩ := bind_some_of h2
  dsimp only at h4
  split at h4
  · rename_i hz
    obtain ⟨d, h5, h6⟩ := bind_some_of h4
    cases h6
    obtain ⟨z1, z2⟩ := keyB_of hz
    obtain ⟨a0, y0, _⟩ := R.dct (dctAt_some h0)
    refine ⟨_, y0, C, G, own, ev, r1, _, R, h1, fun y G1 own1 H1 l1 R1 ok => ?_⟩
    obtain ⟨G2, l2, R2, p⟩ := R1.frz ok
    obtain ⟨a, q1, q2, q3, _⟩ := R2.dct (dctAt_some h3)
    rw [y0] at q1; cases q1
    obtain ⟨r, y1, y2, y3⟩ := (DLk.of R2.sub q3 (p.key z1) z2).some
    obtain ⟨v, rfl, rv⟩ := y3 d h5
    exact ⟨_, v, rfl, y1, kk _ G2 own1 H1 (l1.tr l2) R2 rv⟩
  · cases h4
theorem sd_dPut {F V : FE} {i : Nat} (hu : X.A.units + 1 < cLine) (ho : PE X o (tVar i)) (hk : ED X k F) (hv : ED X value V) (hs : swapsWith value (some (.Subscript o k pos')) pos.line X.env = pure false := by rfl) :
    SD X (.Assign [.Subscript o k pos'] value pos) (sDPut i F V) := by
  refine psImp (ps_dput hu ho hk hv hs) fun D σ H w => ?_
  obtain ⟨C, G, own, ev, r, e', R, hf, kk⟩ := w
  obtain ⟨⟨rv, e0⟩, g1, g2⟩ := bind_some_of hf
  obtain ⟨⟨b0, kvs0⟩, h0, hf⟩ := bind_some_of g2
  obtain ⟨⟨r1, e1⟩, h1, h2⟩ := bind_some_of hf
  obtain ⟨⟨b, kvs⟩, h3, h4⟩ := bind_some_of h2
  dsimp only at h4
  split at h4
  · rename_i hz
    cases h4
    rw [Bool.and_eq_true] at hz
    obtain ⟨z1, z2⟩ := keyB_of hz.1
    refine ⟨C, G, own, ev, rv, e0, R, g1, fun v Gv ownv Hv lv Rv okv => ?_⟩
    obtain ⟨Gw, lw, Rw, pv⟩ := Rv.frz okv
    obtain ⟨a0, y0, _⟩ := Rw.dct (dctAt_some h0)
    refine ⟨_, y0, C, Gw, ownv, e0, r1, e1, Rw, h1, fun y G1 own1 H1 l1 R1 ok => ?_⟩
    obtain ⟨G2, l2, R2, p⟩ := R1.frz ok
    obtain ⟨a, q1, q2, q3, wr⟩ := R2.dct (dctAt_some h3)
    rw [y0] at q1; cases q1
    obtain ⟨u, d1, d2⟩ := q3.put R2.sub (R2.ofr i _ q2).2 (p.key z1) z2 (pv.mono (l1.tr l2)) (unhide hz.2)
    exact ⟨_, _, rfl, d1, kk _ G2 own1 _ (lv.tr (lw.tr (l1.tr l2))) (wr _ _ d2)⟩
  · cases h4
end

/-! ### d.update(..) -/
def mergeV (l more : List (Key × V)) : List (Key × V) := more.foldl (fun acc q => putK acc q.1 q.2) l
def dMerge (l more : List (D × D)) : List (D × D) := more.foldl (fun acc q => dPut acc q.1 q.2) l
theorem kv_merged {l more : List (Key × V)} {vs ws : List (Key × Value)} (r : KV l vs) (r2 : KV more ws) : KV (mergeV l more) (merged vs ws) := by
  unfold KV at r2
  induction r2 generalizing l vs with
  | nil => exact r
  | @cons p q ps qs h _ ih =>
    have e : p.1 = q.1 := h.1
    have := ih (r.put p.1 h.2)
    rw [e] at this
    show KV (mergeV (putK l p.1 p.2) ps) (merged (stored vs q.1 q.2) qs)
    rw [e]; exact this
theorem putK_le (l : List (Key × V)) (k : Key) (v : V) : (putK l k v).length ≤ l.length + 1 := by unfold putK; split <;> simp
theorem mergeV_le : ∀ (more l : List (Key × V)), (mergeV l more).length ≤ l.length + more.length
  | [], l => Nat.le_refl _
  | q :: more, l => by
    have := mergeV_le more (putK l q.1 q.2)
    have h2 := putK_le l q.1 q.2
    show (mergeV (putK l q.1 q.2) more).length ≤ l.length + (more.length + 1)
    omega
theorem merge_ok {K : PySem.W.Frag} {G : Hp} : ∀ {more l : List (Key × V)} {ds es : List D}, RpA K G (l.map (·.2)) ds → RpA K G (more.map (·.2)) es →
    ∃ ds', RpA K G ((mergeV l more).map (·.2)) ds' ∧ dMerge ((l.map fun q => kd q.1).zip ds) ((more.map fun q => kd q.1).zip es) = ((mergeV l more).map fun q => kd q.1).zip ds'
  | [], l, ds, es, h, h2 => ⟨ds, h, by simp [dMerge, mergeV]⟩
  | q :: more, l, ds, es, h, h2 => by
    cases h2 with
    | @cons _ _ d es' r1 r2 =>
      obtain ⟨ds1, q1, q2⟩ := put_ok eqv_kd h q.1 r1
      obtain ⟨ds2, q3, q4⟩ := merge_ok (more := more) q1 r2
      refine ⟨ds2, q3, ?_⟩
      show dMerge (dPut ((l.map fun q => kd q.1).zip ds) (kd q.1) d) ((more.map fun q => kd q.1).zip es') = _
      rw [q2]; exact q4
def rUpd : V → List V → Hp → VK → Prop := fun x vs H Q => ∃ a b ks ms, x = .ref a ∧ vs = [.ref b] ∧ H a = some (.dK ks) ∧ H b = some (.dK ms) ∧ a ≠ b ∧ ks.length + ms.length ≤ sizeLine ∧ Q .non (upd H a (.dK (mergeV ks ms)))
theorem mt_update {X : Cx} : MtR X "dict.update" rUpd := by
  intro pins s σ H x vs v us Q I rx rv h
  obtain ⟨a, b, ks, ms, rfl, rfl, ha, hb, hab, hz, q⟩ := h
  cases rx
  obtain ⟨u, rfl, ru⟩ := rv.one
  cases ru
  obtain ⟨z1, hd1, ks', rel1, dd1⟩ := dk_of I.hok ha
  obtain ⟨z2, hd2, ms', rel2, dd2⟩ := dk_of I.hok hb
  refine call_meetsIn PySem.F.slot_dict_update dd1.typeIs PySem.F.entry_dict_update (PySem.F.args_dict_update_2 _ _) (meets_dict_update (mixKind X.prog X.w) a b hab hd2)
    ⟨ks', ms', dd1, dd2, by rw [← rel1.length, ← rel2.length]; exact hz, fun h' dd' _ hs => ?_⟩
  have he : ∃ q, h'.get? a = some q := let ⟨q, _, _, hq, _⟩ := dd'; ⟨q, hq⟩
  refine ⟨.non, _, d_write (t' := s.toks) I (by rw [ha]; exact True.intro) hs he (dk_new (Nat.le_trans (mergeV_le ms ks) hz) hd1 (kv_merged rel1 rel2) dd'), rfl, q⟩
def mUpdate (i : Nat) (F : FE) : FE := fun e => (dctAt i e).bind fun _ => (F e).bind fun p => (dctAt i p.2).bind fun z => match z.1, p.1 with
  | false, .fd false more => if small (z.2.length + more.length) = true then some (.val .none, p.2.put i (some (.od false (dMerge z.2 more)))) else none
  | _, _ => none
section
variable {X : Cx} {o e : Expr} {apos cpos : Pos}
theorem OdOk.k {K : PySem.W.Frag} {G H : Hp} {p : Addr} {kvs : List (D × D)} (h : OdOk K G H p false kvs) : ∃ l ds, H p = some (.dK l) ∧ RpA K G (l.map (·.2)) ds ∧ kvs = (l.map fun q => kd q.1).zip ds ∧ l.length = kvs.length := by
  rcases h with ⟨_, l, ds, h1, h2, rfl⟩ | ⟨h, _⟩
  · have ln : l.length = ds.length := by have := h2.length; simpa using this
    exact ⟨l, ds, h1, h2, rfl, by simp [ln]⟩
  · cases h
theorem ed_update {i : Nat} {F : FE} (ho : PE X o (tVar i)) (he : ED X e F)
    (hbase : attributeBase o "update" X.env (eval o X.env) = eval o X.env := by rfl)
    (hfew : ((backTo cpos (starEach (e :: []) X.env)).all (fun x => !x.1) && (backToKw cpos (keywordEach [] X.env)).all (fun x => x.1.isSome) && decide ((e :: []).length + ([] : List Keyword).length + (if ([] : List Keyword).isEmpty then 0 else 1) < 30)) = true := by rfl)
    (hline : (apos.endLine == cpos.line) = true := by rfl) (hs : starEach (e :: []) X.env = (false, eval e X.env) :: starEach [] X.env := by rfl) : ED X (.Call (.Attribute o "update" apos) [e] [] cpos) (mUpdate i F) := by
  refine peImp (pe_bm PySem.F.plainAttrs_dict PySem.F.slot_dict_update PySem.F.type_dict_update mt_update ho (pa_cons he pa_nil hs) hbase hfew hline hs rfl) fun σ H Q w => ?_
  obtain ⟨C, G, own, ev, r, e', R, hf, k⟩ := w
  obtain ⟨⟨b0, ks0⟩, q1, q2⟩ := bind_some_of hf
  obtain ⟨⟨r1, e1⟩, q3, q4⟩ := bind_some_of q2
  obtain ⟨⟨b, kvs⟩, q5, q6⟩ := bind_some_of q4
  dsimp only at q6
  split at q6
  · rename_i more
    split at q6
    · rename_i hz
      cases q6
      obtain ⟨a, y1, y2, y3, _⟩ := R.dct (dctAt_some q1)
      have ty : tyV X.K "dict" (.ref a) H := by
        rcases y3 with ⟨_, l, _, h, _⟩ | ⟨_, l, _, h, _⟩
        · exact .inr (.inr (.inl ⟨rfl, .inl ⟨l, h⟩⟩))
        · exact .inr (.inr (.inl ⟨rfl, .inr ⟨l, h⟩⟩))
      refine ⟨_, y1, ty, C, G, own, ev, _, e1, R, q3, fun y G1 own1 H1 l1 R1 ok => ?_⟩
      obtain ⟨p, rfl, o1, o2, o3, o4⟩ := ok
      obtain ⟨a', g1, g2, g3, wr⟩ := R1.dct (dctAt_some q5)
      rw [y1] at g1; cases g1
      obtain ⟨l, ds, x1, x2, rfl, x3⟩ := g3.k
      obtain ⟨m, es, w1, w2, rfl, w3⟩ := o1.k
      have sz : l.length + m.length ≤ sizeLine := by rw [x3, w3]; exact line_of hz
      refine ⟨a, p, l, m, rfl, rfl, x1, w1, fun z => o4 i (by rw [← z]; exact g2), sz, ?_⟩
      obtain ⟨ds', m1, m2⟩ := merge_ok x2 w2
      refine k _ G1 own1 _ l1 (wr _ _ (.inl ⟨rfl, mergeV l m, ds', upd_same, m1, m2⟩)) Rp.non
    · cases q6
  · cases q6
end

/-! ### dict comprehensions: keys ints, texts -/
def dcompL (vs : List Nat) (g : FG) (t : FT) (Fk Fv : FE) : List D → List (D × D) → EE → Option (List (D × D) × EE)
  | [], acc, e => some (acc, e)
  | d :: ds, acc, e => (g d e).bind fun e1 => (t e1).bind fun p => if p.1 = true then (Fk p.2).bind fun q => match q.1 with
      | .val k => (keyOf k).bind fun _ => (Fv q.2).bind fun z => if hide (acc.length < 16777216) = true then dcompL vs g t Fk Fv ds (dPut acc k z.1.d) (wipeE z.2 vs) else none
      | _ => none
    else dcompL vs g t Fk Fv ds acc (wipeE p.2 vs)
def eDComp (vs : List Nat) (I : FA) (g : FG) (t : FT) (Fk Fv : FE) : FE := fun e => (I e).bind fun p => (dcompL vs g t Fk Fv p.1 [] (wipeE p.2 vs)).bind fun z => some (.fd false z.1, restE p.2 z.2 vs)
section
variable {X : Cx}
theorem dc_imp {K : PySem.W.Frag} {vs : List Nat} {I : FA} {g : FG} {t : FT} {Fk Fv : FE} {σ : L2.St} {H : Hp} {Q : VK} (w : tE K (eDComp vs I g t Fk Fv) σ H Q) : tDc (tI K I) (tGv K g vs) (tTst K t) (tE K Fk) (tE K Fv) vs σ H Q := by
  obtain ⟨C, G, own, ev, r, e', R, hf, k⟩ := w
  obtain ⟨⟨ds, e1⟩, q1, q2⟩ := bind_some_of hf
  obtain ⟨⟨out, e2⟩, q3, q4⟩ := bind_some_of q2
  cases q4
  refine ⟨C, G, own, ev, ds, e1, R, q1, fun J G1 own1 H1 l1 R1 it A hA => ?_⟩
  obtain ⟨ownw, Rw, kw⟩ := R1.wipeAll vs
  refine ⟨fun i m H2 => m = ds.length - i ∧ i ≤ ds.length ∧ ∃ G2 own2 e3 acc, Le G1 G2 ∧ Rep K C G2 own2 e3 (wipe σ vs) H2 ∧ RsOk K C G2 own2 H2 (.ref A) (.fd false acc) ∧ dcompL vs g t Fk Fv (ds.drop i) acc e3 = some (out, e2),
    ⟨ds.length, by simp, Nat.zero_le _, G1, ownw, wipeE e1 vs, [], Le.rfl', Rw.alloc hA, ⟨A, rfl, .inl ⟨rfl, [], [], upd_same, .nil, rfl⟩, R1.gnone hA, R1.h0none hA, Rw.notOwn hA⟩, by simpa using q3⟩, ?_⟩
  rintro i m H2 ⟨rfl, hi, G2, own2, e3, acc, l2, R2, ok2, hq⟩
  by_cases hlt : i < ds.length
  · obtain ⟨d, hd⟩ : ∃ d, ds[i]? = some d := ⟨ds[i], by simp [hlt]⟩
    have hdr : ds.drop i = d :: ds.drop (i + 1) := by
      rw [List.drop_eq_getElem_cons hlt]
      have : ds[i] = d := by rw [List.getElem?_eq_getElem hlt] at hd; exact Option.some.inj hd
      rw [this]
    rw [hdr] at hq
    obtain ⟨e4, y1, y2⟩ := bind_some_of hq
    obtain ⟨⟨b, e5⟩, y3, y4⟩ := bind_some_of y2
    obtain ⟨C', _, _, _, R2', back⟩ := R2.aside ok2
    obtain ⟨go, yl⟩ := it.go G2 H2 i d l2 R2.sub hd
    refine .inr ⟨go, fun H' => ∃ G3 own3 e3' acc', Le G1 G3 ∧ Rep K C G3 own3 e3' (wipe σ vs) H' ∧ RsOk K C G3 own3 H' (.ref A) (.fd false acc') ∧ dcompL vs g t Fk Fv (ds.drop (i + 1)) acc' e3' = some (out, e2),
      fun H' ⟨G3, own3, e3', acc', z1, z2, z3, z4⟩ => ⟨ds.length - (i + 1), by omega, rfl, hlt, G3, own3, e3', acc', z1, z2, z3, z4⟩, fun x H3 hy => ?_⟩
    obtain ⟨G3, l3, R3, ok⟩ := R2'.grow (yl x H3 hy)
    refine ⟨C', G3, own2, e3, d, e4, R3, ok, y1, fun σ4 G4 own4 H4 w4 l4 R4 => ⟨by rw [w4]; exact wipe_idem σ vs, C', G4, own4, e4, b, e5, R4, y3, fun G5 own5 H5 l5 R5 => ?_⟩⟩
    have hw : wipe σ4 vs = wipe σ vs := by rw [w4]; exact wipe_idem σ vs
    cases b with
    | false =>
      dsimp only at y4
      rw [if_neg Bool.false_ne_true] at y4
      have lx : Le G2 G5 := l3.tr (l4.tr l5)
      obtain ⟨R5c, ok5⟩ := back G5 own5 e5 σ4 H5 lx R5
      obtain ⟨own6, R6, k6⟩ := R5c.wipeAll vs
      rw [hw] at R6
      refine iteF ⟨G5, own6, wipeE e5 vs, acc, l2.tr lx, R6, ok5.le Le.rfl' fun p u hp hg h0 ho hu => ⟨hu, hg, h0, fun j z => ho j (k6 j p z)⟩, y4⟩
    | true =>
      dsimp only at y4
      rw [if_pos rfl] at y4
      obtain ⟨⟨re, e6⟩, y5, y6⟩ := bind_some_of y4
      dsimp only at y6
      split at y6
      · rename_i kk
        obtain ⟨key, y7, y8⟩ := bind_some_of y6
        obtain ⟨⟨rv, e7⟩, y9, y10⟩ := bind_some_of y8
        dsimp only at y10
        split at y10
        · rename_i hln
          refine iteT ⟨C', G5, own5, e5, _, e6, R5, y5, fun y G6 own6 H6 l6 R6 ok6 => ⟨C', G6, own6, e6, rv, e7, R6, y9, fun z G7 own7 H7 l7 R7 ok7 => ?_⟩⟩
          have ok6 : Rp K G6 y kk := ok6
          have hkk := keyOf_some y7
          subst hkk
          have ek : y = kV key := by
            rcases key with key | key
            · have ok6 : Rp K G6 y (.int key) := ok6; cases ok6; rfl
            · have ok6 : Rp K G6 y (.str key) := ok6; cases ok6; rfl
          subst ek
          obtain ⟨G8, l8, R8, p8⟩ := R7.frz ok7
          have lx : Le G2 G8 := l3.tr (l4.tr (l5.tr (l6.tr (l7.tr l8))))
          obtain ⟨R8c, ok8⟩ := back G8 own7 e7 σ4 H7 lx R8
          obtain ⟨p, hp, h1, h3, h4, h5⟩ := ok8
          cases hp
          obtain ⟨l, es, x1, x2, rfl, x3⟩ := h1.k
          have hln' : l.length < sizeLine := by rw [sizeLine_eq, x3]; exact unhide hln
          refine ⟨l, key, rfl, x1, hln', ?_⟩
          obtain ⟨es', m1, m2⟩ := put_ok eqv_kd x2 key p8
          obtain ⟨own8, R9, k8⟩ := (R8c.poke (o := .dK (putK l key z)) h3 h4 h5).wipeAll vs
          rw [hw] at R9
          exact ⟨G8, own8, wipeE e7 vs, _, l2.tr lx, R9, ⟨A, rfl, .inl ⟨rfl, putK l key z, es', upd_same, m1, m2⟩, h3, h4, fun j q => h5 j (k8 j A q)⟩, y10⟩
        · cases y10
      · cases y6
  · have e : i = ds.length := by omega
    subst e
    rw [List.drop_length] at hq
    cases hq
    obtain ⟨own9, R9, k9⟩ := Rep.backAll R1 l2 vs e2 own2 R2
    exact .inl ⟨it.stop G2 H2 l2 R2.sub, k _ G2 own9 H2 (l1.tr l2) R9 (ok2.le Le.rfl' fun p u hp hg h0 ho hu => ⟨hu, hg, h0, fun j z => ho j (k9 j p z)⟩)⟩
theorem ed_dc {kx vx tg iter : Expr} {ifs : List Expr} {scope : Scope} {own : List (Str × Nat)} {pos : Pos} {I : FA} {g : FG} {t : FT} {Fk Fv : FE} (hc : X.calm = true) (hN : X.N.Nodup) (hi : ID X tg iter I) (ok : BlkOk X.N X.env.scope scope own)
    (hg : ∀ (s : Shared) (H : Hp) (C : Addr) (cl : List (Str × Addr)) (fp : List Addr), GV (X.blk s H scope (compEnvC scope cl C X.env) fp) tg g (own.map (·.2)))
    (ht : ∀ (s : Shared) (H : Hp) (C : Addr) (cl : List (Str × Addr)) (fp : List Addr), PTs (X.blk s H scope (compEnvC scope cl C X.env) fp) ifs (tTst X.K t))
    (hk : ∀ (s : Shared) (H : Hp) (C : Addr) (cl : List (Str × Addr)) (fp : List Addr), ED (X.blk s H scope (compEnvC scope cl C X.env) fp) kx Fk)
    (hv : ∀ (s : Shared) (H : Hp) (C : Addr) (cl : List (Str × Addr)) (fp : List Addr), ED (X.blk s H scope (compEnvC scope cl C X.env) fp) vx Fv)
    (hs : ∀ x, foldedSetIterable iter X.env x = pure x := by intro _; rfl) : ED X (.DictComp kx vx [⟨tg, iter, ifs, 0⟩] scope pos) (eDComp (own.map (·.2)) I g t Fk Fv) :=
  peImp (pe_dc hc hN hi ok hg ht hk hv hs) fun _ _ _ w => dc_imp w
end
end EL
/-! EL10: the law's two ends; what opens the source of draws, what draws. -/
namespace EL
open PySem PySem.Spec PyProof.Rows L2

/-! ### the end: the law's call, guards none -/
theorem lawG_call {P : Program} {w : World} {K : PySem.W.Frag} {mg mb : Str → Option Value} {k : Nat} {fa a : Addr} {fd : FuncData} {x : Str} {sp : Sp} {t : Shared} {vs : List Value} {ns : List Int}
    (kin : K.In t.heap) (gns : t.heap.Ns mainGlobals mg) (bns : t.heap.Ns builtinsNs mb) (bb : ∀ x : Str, x ≠ "__name__" → mb x = bootBuiltins x) (lim : t.heap.NoLimit) (gen0 : t.gens = #[])
    (sys : ∃ mm, t.heap.Ns sysModules mm)
    (ha : t.heap.get? a = some { cls := .type "list", data := .seq vs.toArray }) (hi : IntsAre vs ns) (hl : ns.length ≤ sizeLine) (room : Room k callerA)
    (F : ∀ base : Heap, K.In base → base.Ns mainGlobals mg → (∃ o, base.get? sysModules = some o) → FnG P w K mg base k fa fd [x] sp) (bind : ∀ (s : Shared) (u : Value), BindsTo s fd ⟨[u], []⟩ [(x, u)])
    (hsp : ∀ H : Hp, SqL K H a (ns.map V.int) → sp [.ref a] H (fun v _ => v = .bl true) fun _ _ _ => False) :
    codeAny (model P w) callerA (.call (.ref fa) ⟨[.ref a], []⟩) (fun r s' => r = .ok (.ret (.bool true)) ∧ OldK t.heap s'.heap ∧ s'.os = t.os ∧ AllBare s'.gens) t := by
  have rv := vals_ints hi
  have lenV := hi.length
  have core : ∀ H : Hp, Only H → SqL K H a (ns.map V.int) → HOk P w H t.heap → (∀ b, H b ≠ none → b = a) → (H a ≠ none → K.lookup a = none) →
      codeAny (model P w) callerA (.call (.ref fa) ⟨[.ref a], []⟩) (fun r s' => r = .ok (.ret (.bool true)) ∧ OldK t.heap s'.heap ∧ s'.os = t.os ∧ AllBare s'.gens) t := by
    intro H only sq ok onlyA outK
    have keepB : ∀ {b : Addr} {o : Obj}, t.heap.get? b = some o → H b = none → (hidT t.heap H).get? b = some o := fun e n => hidT_get e n
    have dictFree : ∀ {b : Addr} {o : Obj} {es : Array DictEntry} {ep : Nat}, t.heap.get? b = some o → o.data = .dict es ep → H b = none := fun {b o es ep} e d => by
      cases q : H b with
      | none => rfl
      | some u =>
        obtain rfl : b = a := onlyA b (by rw [q]; exact fun z => nomatch z)
        rw [ha] at e; cases e
        exact absurd (show Data.seq vs.toArray _ = Data.dict es ep from d) (fun z => nomatch z)
    have nsB : ∀ {b : Addr} {m : Str → Option Value}, t.heap.Ns b m → (hidT t.heap H).Ns b m := fun {b m} ⟨o, es, ep, e, d, r⟩ => ⟨o, es, ep, keepB e (dictFree e d), d, r⟩
    have kinB : K.In (hidT t.heap H) := fun b o e => keepB (kin b o e) (by
      cases q : H b with
      | none => rfl
      | some u =>
        obtain rfl : b = a := onlyA b (by rw [q]; exact fun z => nomatch z)
        rw [outK (by rw [q]; exact fun z => nomatch z)] at e; cases e)
    have sysB : ∃ o, (hidT t.heap H).get? sysModules = some o := by
      obtain ⟨mm, hm⟩ := sys
      obtain ⟨o, es, ep, e, _⟩ := nsB hm
      exact ⟨o, e⟩
    have modB : Mod K mg (hidT t.heap H) := ⟨kinB, nsB gns, ⟨mb, nsB bns, bb⟩, let ⟨mc, h1, h2⟩ := lim; ⟨mc, nsB h1, h2⟩⟩
    have e0 : Env0 P w K mg (hidT t.heap H) callerA [] t H := ⟨rfl, modB, fun b o e => of_hidT e, Nat.le_of_eq (hidT_size _ _), trivial, fun b hb => absurd (show b ∈ ([] : List Addr) from hb) (by simp), ok, .of_eq gen0⟩
    have run := (F _ kinB (nsB gns) sysB).run callerA [] t H ⟨[.ref a], []⟩ [.ref a] [.ref a] _ _ rfl room e0 (bind t (.ref a)) (.cons rfl .nil) (hsp H sq)
    refine codeAny_mono run fun r s' h => ?_
    cases r with
    | error e => exact False.elim h
    | ok fl =>
      cases fl with
      | next => exact False.elim h
      | brk => exact False.elim h
      | cont => exact False.elim h
      | ret u =>
        obtain ⟨v, H', os, bare, un, ok', r', q⟩ := h
        obtain rfl : v = V.bl true := q
        obtain rfl : u = Value.bool true := r'
        refine ⟨rfl, OldK.of_keep fun b o e => ?_, os, bare⟩
        cases q : H b with
        | none => exact un.keep b o e q (by intro z; exact absurd (show b ∈ ([] : List Addr) from z) (by simp)) (by simp)
        | some u =>
          rcases only b with z | ⟨ob, xs, z⟩
          · rw [q] at z; cases z
          · obtain ⟨e1, _⟩ := ok b _ z
            obtain ⟨e2, _⟩ := ok' b _ (un.frzs b ob _ z)
            rw [e] at e1; cases e1
            exact e2
  cases hk : K.lookup a with
  | some o =>
    have e := kin a o hk
    rw [ha] at e
    cases e
    exact core (fun _ => none) (fun _ => .inl rfl) (.inr ⟨_, vs.toArray, _, hk, rfl, rfl, rfl, by rw [List.size_toArray, lenV]; exact hl, by simpa using rv⟩) (fun b u z => nomatch (show (none : Option HO) = some u from z)) (fun b z => absurd rfl z) fun z => absurd rfl z
  | none =>
    have at_ : ∀ b, (if b = a then some (HO.frz { cls := .type "list", data := .seq vs.toArray } (.lst (ns.map V.int))) else none) ≠ none → b = a := fun b z => by
      by_cases y : b = a
      · exact y
      · exact absurd (if_neg y) z
    refine core (fun b => if b = a then some (.frz { cls := .type "list", data := .seq vs.toArray } (.lst (ns.map V.int))) else none) (fun b => ?_) (.inl (.inr ⟨{ cls := .type "list", data := .seq vs.toArray }, if_pos rfl⟩)) (fun b u z => ?_) at_ fun _ => hk
    · by_cases y : b = a
      · exact .inr ⟨_, _, if_pos y⟩
      · exact .inl (if_neg y)
    · obtain rfl : b = a := at_ b (fun y => nomatch z.symm.trans y)
      cases (if_pos rfl).symm.trans z
      exact ⟨ha, by rw [List.length_map]; exact hl, vs, _, rv, ha⟩
/-- the law's promise -/
def spLaw (K : PySem.W.Frag) : Sp := fun vs H Q _ => ∃ (a : Addr) (ns : List Int), vs = [.ref a] ∧ SqL K H a (ns.map V.int) ∧ ns.length ≤ 63 ∧ ∀ H', Q (.bl true) H'
theorem walkG {l : PySem.W.OpenLaw} {k : Nat} {q : Program} {loose : List Str} {XP : (Str → Option Value) → Heap → Prop} {YP : World → Heap → Prop} {d : DefRec} {K : Params → PySem.W.Frag} (hn : l.most = some 63) (hdf : d.params.defaults = []) (room : Room k callerA) (imp : importsNone q = true)
    (hY : ∀ (w : World) (h : Heap), YP w h → (K w.params).In h)
    (F : ∀ (w : World) (mg : Str → Option Value) (fa : Addr) (h : Heap), (K w.params).In h → h.Ns mainGlobals mg → mg d.name = some (.ref fa) →
      ∃ fd : FuncData, (∀ (s : Shared) (u : Value), BindsTo s fd ⟨[u], []⟩ [("script", u)]) ∧
        ∀ base : Heap, (K w.params).In base → base.Ns mainGlobals mg → (∃ o, base.get? sysModules = some o) → FnG l.prog w (K w.params) mg base k fa fd ["script"] (spLaw (K w.params))) :
    PySem.W.WalkO q loose XP YP l.row.toRowW d [] (fun f vs => PySem.call f vs) := by
  refine Att.attach_call hn hdf fun w s0 t mg mb fa o pm cd doc a vs ns G Y ho hd hcd hmg hobj hints hlen hg => ?_
  have kin := hY w _ Y
  obtain ⟨fd, hb, hF⟩ := F w mg fa _ kin G.T.g hmg
  obtain ⟨mm, hm, _⟩ := (G.T.seer imp).mods
  exact lawG_call kin G.T.g G.T.b G.T.builtins G.T.nolimit hg ⟨mm, hm⟩ hobj hints (Nat.le_trans hlen (by decide)) room hF hb fun H hS => ⟨a, ns, rfl, hS, hlen, fun _ => rfl⟩

variable [KC]
/-! ### the law's body: the source is opened, the rest runs on it -/
def spOpen (K : PySem.W.Frag) : Sp := fun vs H Q _ => ∃ (a : Addr) (ns : List Int), vs = [.ref a] ∧ SqL K H a (ns.map V.int) ∧ ns.length ≤ 63 ∧
  ∀ q S H', SrcOk H' q S → Q (.ref q.1) H'
def lawEnv (n : Nat) (S : Src) : EE := ⟨none :: some .src :: List.replicate n none, S⟩
theorem law_G {P : Program} {w : World} {K : PySem.W.Frag} {mg : Str → Option Value} {base : Heap} {x y : Str} {st : Stmt} {f fo : Addr} {fd fdo : FuncData} {N : List Str} {k n : Nat} {B : FS} {rest : List Stmt} {p1 p2 p3 p4 p5 : Pos}
    (F : Fun K x x st f fd) (S : FnScope ("script" :: "source" :: N) ["script"] (defScope st)) (hn : N.length = n)
    (hst : defBody st = .Assign [.Name "source" p1] (.Call (.Name y p2) [.Name "script" p3] [] p4) p5 :: rest)
    (O : FnG P w K mg base k fo fdo ["script"] (spOpen K)) (ho : mg y = some (.ref fo)) (hk : PySem.W.keepIn K (.ref fo) = true) (hb : Binds K fdo ["script"] [])
    (l1 : (defScope st).names.lookup ("script" : Str) = some .local) (l2 : Loc (defScope st) ("source" : Str)) (l3 : (defScope st).names.lookup y = some .globalImplicit) (hdb : (y == ("__debug__" : Str)) = false)
    (hr : ∀ (cdv : Value) (A : Around) (outer : List Env) (s : Shared) (H : Hp) (E : XK), A.guards = some [] → Room k (A.deeper (envOfC x (defScope st) s.heap.objs.size f cdv)) → BD (cxOf CX0 P w K mg base ("script" :: "source" :: N) x (defScope st) f cdv A outer s H E).nox rest B)
    (law : ∀ S, ∃ e', B (lawEnv n S) = some (.rt (.val (.bool true)), e')) : FnG P w K mg base (k + 1) f fd ["script"] (spLaw K) := by
  refine fnG_of F S (fun vs H Q E ⟨a, ns, e, _⟩ => by rw [e]; rfl) fun cdv A outer s H vs Q E gd room h => ?_
  obtain ⟨a, ns, rfl, sq, len, fin⟩ := h
  have gl : Gl (cxOf CX0 P w K mg base ("script" :: "source" :: N) x (defScope st) f cdv A outer s H E).nox y := l3
  refine ⟨_, by
    rw [hst]
    exact pss_cons (ps_set (i := 1) S.nd rfl l2 (pe_callG O gd room gl ho hk hb (pa_cons (pe_var (i := 0) rfl (Or.inl l1) (by decide) (by decide)) pa_nil) hdb) rfl (Or.inl rfl)) (hr cdv A outer s H E gd room), ?_⟩
  have sz : (L2.start ("script" :: "source" :: N) [V.ref a]) = some (.ref a) :: none :: List.replicate n none := by
    unfold L2.start; simp [← hn, List.replicate_succ]
  rw [sz]
  refine ⟨_, rfl, a, ns, rfl, sq, len, fun q S0 H' so => ?_⟩
  obtain ⟨e', hB⟩ := law S0
  refine ⟨⟨H', fun _ => none, some q⟩, fun _ => none, fun _ => none, lawEnv n S0, _, e', ?_, hB, fun v σ' G' own' H2 l R ok => ?_⟩
  · refine ⟨(fun _ _ z => by cases z), Le.rfl', fun _ z => absurd rfl z, fun _ _ z _ => z, by simp [lawEnv], fun i z hz => ?_, (fun _ _ z => by cases z), (fun _ _ _ z => by cases z), (fun _ _ z => by cases z), fun q' hq' => ?_⟩
    · cases i with
      | zero => cases hz
      | succ i => cases i with
        | zero => cases hz; exact ⟨.ref q.1, rfl, q, rfl, rfl⟩
        | succ i =>
          have hz : (List.replicate n (none : Option Ent))[i]? = some (some z) := hz
          rw [List.getElem?_replicate] at hz
          split at hz <;> cases hz
    · cases hq'
      exact ⟨so, rfl, rfl, (by show H' q.1 ≠ none; rw [so.d]; exact fun z => nomatch z), (by show H' q.2 ≠ none; rw [so.c]; exact fun z => nomatch z)⟩
  · have ok : Rp K G' v (.bool true) := ok
    cases ok
    exact fin H2
end EL
namespace EL
open PySem PySem.Spec PyProof.Rows L2
/-! ### a block's names, seen by computing -/
def blkB (N : List Str) (sc scope : Scope) (own : List (Str × Nat)) : Bool :=
  (scope.kind == .function) && (scope.names.all fun y => scope.names.lookup y.1 == some y.2) && (own.all fun p => N[p.2]? == some p.1) &&
  (scope.names.all fun y => if y.2 == .free then (sc.names.lookup y.1 == some .cell || sc.names.lookup y.1 == some .free) else true) &&
  (scope.names.all fun y => if (y.2 == .local || y.2 == .cell) then ((own.map (·.1)).contains y.1 || !N.contains y.1) else true)
theorem blk_of {N : List Str} {sc scope : Scope} {own : List (Str × Nat)} (h : blkB N sc scope own = true) : BlkOk N sc scope own := by
  unfold blkB at h
  simp only [Bool.and_eq_true, List.all_eq_true] at h
  obtain ⟨⟨⟨⟨h1, h2⟩, h3⟩, h4⟩, h5⟩ := h
  refine ⟨by simpa using h1, fun y hy => by simpa using h2 y hy, fun p hp => by simpa using h3 p hp, fun y hy hf => ?_, fun y hy hl => ?_⟩
  · have := h4 y hy
    rw [hf] at this
    simpa using this
  · have := h5 y hy
    rcases hl with e | e <;> rw [e] at this <;> simpa using this
end EL
/-! EL11: lists of unlike lengths compared; defs by their names. -/
namespace EL
open PySem PySem.Spec PyProof.Rows L2
variable [KC]
def lNe : D → D → Option Rs
  | .list a, .list b => if (a.length != b.length) = true then some (.val (.bool true)) else qNe (.list a) (.list b)
  | x, y => qNe x y
theorem l_ne {X : Cx} (hu : X.A.units + 64 < cLine) : OpD X (compareOp .NotEq) lNe := by
  intro pins s σ H x y v u Q I rx ry h
  obtain ⟨G, dx, dy, r, sub, hx, hy, hg, k⟩ := h
  unfold lNe at hg
  split at hg
  · split at hg
    · rename_i a b hz
      cases hg
      obtain ⟨p, vs, rfl, h1, h2⟩ := hx.list sub
      obtain ⟨q, ws, rfl, h3, h4⟩ := hy.list sub
      cases rx
      cases ry
      obtain ⟨i1, r1, pl1, z1⟩ := I.list (.of h1)
      obtain ⟨i2, r2, pl2, z2⟩ := I.list (.of h3)
      have e : (i1.toArray.size != i2.toArray.size) = true := by
        rw [List.size_toArray, List.size_toArray, ← r1.length, ← r2.length, h2.length, h4.length]; exact hz
      exact (SeqAt.RcNeAt.lists_lengths pl1.isList pl2.isList e (by omega)) X.prog X.w X.xe _ ⟨.bl true, H, I, rfl, k _ _ (.same (.bl _))⟩
    · exact q_ne hu pins s σ H x y v u Q I rx ry ⟨G, _, _, r, sub, hx, hy, hg, k⟩
  · exact q_ne hu pins s σ H x y v u Q I rx ry ⟨G, _, _, r, sub, hx, hy, hg, k⟩

theorem u65 {k : Nat} {A : Around} (h : Room k A) : A.units + 65 < cLine := by have := h.un; omega
theorem u64 {k : Nat} {A : Around} (h : Room k A) : A.units + 64 < cLine := by have := h.un; omega
theorem u1 {k : Nat} {A : Around} (h : Room k A) : A.units + 1 < cLine := by have := h.un; omega

/-- a def of the top: its object, its name -/
def Def (K : PySem.W.Frag) (mg : Str → Option Value) (x : Str) (st : Stmt) (ps : List Str) : Prop := ∃ f fd, Fun K x x st f fd ∧ mg x = some (.ref f) ∧ Binds K fd ps []
/-- a def that keeps its promise -/
def Cal (P : Program) (w : World) (K : PySem.W.Frag) (mg : Str → Option Value) (base : Heap) (k : Nat) (x : Str) (ps : List Str) (sp : Sp) : Prop :=
  ∃ f fd, FnG P w K mg base k f fd ps sp ∧ mg x = some (.ref f) ∧ PySem.W.keepIn K (.ref f) = true ∧ Binds K fd ps []
section
variable {P : Program} {w : World} {K : PySem.W.Frag} {mg : Str → Option Value} {base : Heap} {k : Nat} {x : Str} {ps : List Str} {sp : Sp} {st : Stmt}
theorem Cal.mono {j : Nat} (c : Cal P w K mg base j x ps sp) (h : j ≤ k) : Cal P w K mg base k x ps sp := by
  obtain ⟨f, fd, g, m, kp, b⟩ := c
  exact ⟨f, fd, g.mono h, m, kp, b⟩
theorem cal_of (d : Def K mg x st ps) (h : ∀ {f : Addr} {fd : FuncData}, Fun K x x st f fd → FnG P w K mg base k f fd ps sp) : Cal P w K mg base k x ps sp := by
  obtain ⟨f, fd, F, m, b⟩ := d
  exact ⟨f, fd, h F, m, F.kp, b⟩
theorem cal_D {N : List Str} {B : FS} (d : Def K mg x st ps) (S : FnScope N ps (defScope st))
    (hb : ∀ (f : Addr) (cdv : Value) (A : Around) (outer : List Env) (s : Shared) (H : Hp) (E : XK), A.guards = some [] → Room k (A.deeper (envOfC x (defScope st) s.heap.objs.size f cdv)) → BD (cxOf CX0 P w K mg base N x (defScope st) f cdv A outer s H E).nox (defBody st) B) :
    Cal P w K mg base (k + 1) x ps (spD K (runD ps.length N.length B)) := cal_of d fun F => fn_D F S fun cdv A outer s H E gd hr => hb _ cdv A outer s H E gd hr
theorem cal_S {N : List Str} {B : FS} (d : Def K mg x st ps) (S : FnScope N ps (defScope st))
    (hb : ∀ (f : Addr) (cdv : Value) (A : Around) (outer : List Env) (s : Shared) (H : Hp) (E : XK), A.guards = some [] → Room k (A.deeper (envOfC x (defScope st) s.heap.objs.size f cdv)) → BD (cxOf CX0 P w K mg base N x (defScope st) f cdv A outer s H E).nox (defBody st) B) :
    Cal P w K mg base (k + 1) x ps (spS K (runS ps.length N.length B)) := cal_of d fun F => fn_S F S fun cdv A outer s H E gd hr => hb _ cdv A outer s H E gd hr
/-- a def that is never called -/
theorem cal_none (d : Def K mg x st ps) : Cal P w K mg base k x ps (spS K fun _ _ => none) := cal_of d fun F =>
  ⟨fun vs H Q E h => (by obtain ⟨q, us, S, G, ds, r, S', _, _, _, _, _, _, hf, _⟩ := h; cases hf), fun A o s H a us vs Q E gd hr e0 hb hv h => by obtain ⟨q, us, S, G, ds, r, S', _, _, _, _, _, _, hf, _⟩ := h; cases hf⟩
theorem cal_noneD (d : Def K mg x st ps) : Cal P w K mg base k x ps (spD K fun _ => none) := cal_of d fun F =>
  ⟨fun vs H Q E h => (by obtain ⟨G, ds, r, _, _, hf, _⟩ := h; cases hf), fun A o s H a us vs Q E gd hr e0 hb hv h => by obtain ⟨G, ds, r, _, _, hf, _⟩ := h; cases hf⟩
end
section
variable {X : Cx} {k : Nat} {ps : List Str} {x : Str} {p pos : Pos} {e : Expr} {es : List Expr}
theorem ec {φ : List D → Option Rs} {A : FA} (c : Cal X.prog X.w X.K X.mg X.base k x ps (spD X.K φ)) (gd : X.A.guards = some []) (hr : Room k X.A) (hg : Gl X x) (ha : PA X (e :: es) (tA X.K A)) (hdb : (x == ("__debug__" : Str)) = false := by decide)
    (he : starEach (e :: es) X.env = (false, eval e X.env) :: starEach es X.env := by rfl) (hpl : (backTo pos (starEach es X.env)).any (·.1) = false := by rfl) : ED X (.Call (.Name x p) (e :: es) [] pos) (eCall φ A) := by
  obtain ⟨f, fd, g, m, kp, b⟩ := c
  exact ed_call g gd hr hg m kp b ha hdb he hpl
theorem ec0 {φ : List D → Option Rs} (c : Cal X.prog X.w X.K X.mg X.base k x ps (spD X.K φ)) (gd : X.A.guards = some []) (hr : Room k X.A) (hg : Gl X x) (hdb : (x == ("__debug__" : Str)) = false := by decide) : ED X (.Call (.Name x p) [] [] pos) (eCall φ aNil) := by
  obtain ⟨f, fd, g, m, kp, b⟩ := c
  exact ed_call0 g gd hr hg m kp b hdb
theorem ecS {i : Nat} {φ : List D → Src → Option (Rs × Src)} {A : FA} (c : Cal X.prog X.w X.K X.mg X.base k x ps (spS X.K φ)) (gd : X.A.guards = some []) (hr : Room k X.A) (hg : Gl X x) (h0 : PE X e (tVar i)) (ha : PA X es (tA X.K A)) (hdb : (x == ("__debug__" : Str)) = false := by decide)
    (he : starEach (e :: es) X.env = (false, eval e X.env) :: starEach es X.env := by rfl) (hpl : (backTo pos (starEach es X.env)).any (·.1) = false := by rfl) : ED X (.Call (.Name x p) (e :: es) [] pos) (eCallS i φ A) := by
  obtain ⟨f, fd, g, m, kp, b⟩ := c
  exact ed_callS g gd hr hg m kp b h0 ha hdb he hpl
end
/-- the law by its parts -/
theorem law_cal {P : Program} {w : World} {K : PySem.W.Frag} {mg : Str → Option Value} {base : Heap} {x y : Str} {st : Stmt} {N : List Str} {k n : Nat} {B : FS} {rest : List Stmt} {p1 p2 p3 p4 p5 : Pos} {f : Addr} {fd : FuncData}
    (F : Fun K x x st f fd) (S : FnScope ("script" :: "source" :: N) ["script"] (defScope st)) (hn : N.length = n)
    (hst : defBody st = .Assign [.Name "source" p1] (.Call (.Name y p2) [.Name "script" p3] [] p4) p5 :: rest)
    (O : Cal P w K mg base k y ["script"] (spOpen K))
    (l1 : (defScope st).names.lookup ("script" : Str) = some .local) (l2 : Loc (defScope st) ("source" : Str)) (l3 : (defScope st).names.lookup y = some .globalImplicit) (hdb : (y == ("__debug__" : Str)) = false)
    (hr : ∀ (cdv : Value) (A : Around) (outer : List Env) (s : Shared) (H : Hp) (E : XK), A.guards = some [] → Room k (A.deeper (envOfC x (defScope st) s.heap.objs.size f cdv)) → BD (cxOf CX0 P w K mg base ("script" :: "source" :: N) x (defScope st) f cdv A outer s H E).nox rest B)
    (law : ∀ S, ∃ e', B (lawEnv n S) = some (.rt (.val (.bool true)), e')) : FnG P w K mg base (k + 1) f fd ["script"] (spLaw K) := by
  obtain ⟨fo, fdo, g, m, kp, b⟩ := O
  exact law_G F S hn hst g m kp b l1 l2 l3 hdb hr law
end EL
/-! EL12: tools for the plain law: loops, comprehensions, sizes. -/
namespace EL
open PySem PySem.Spec PyProof.Rows L2
section
theorem compL_pure {vs : List Nat} {g : FG} {t : FT} {F : FE} {e : EE} (b : D → Bool) (f : D → D) : ∀ ds : List D,
    (∀ d ∈ ds, ∃ e1, g d e = some e1 ∧ ∃ e2, t e1 = some (b d, e2) ∧ (b d = true → ∃ r e3, F e2 = some (r, e3) ∧ r.d = f d ∧ wipeE e3 vs = e) ∧ (b d = false → wipeE e2 vs = e)) →
    compL vs g t F ds e = some ((ds.filter b).map f, e)
  | [], _ => rfl
  | d :: ds, h => by
    obtain ⟨e1, h1, e2, h2, h3, h4⟩ := h d List.mem_cons_self
    have ih := compL_pure b f ds fun d' hd => h d' (List.mem_cons_of_mem _ hd)
    unfold compL
    rw [h1, Option.bind_some, h2, Option.bind_some]
    cases hb : b d with
    | true =>
      obtain ⟨r, e3, h5, h6, h7⟩ := h3 hb
      dsimp only
      rw [if_pos rfl, h5, Option.bind_some]
      dsimp only
      rw [h7, ih]
      simp [List.filter, hb, h6]
    | false =>
      dsimp only
      rw [if_neg Bool.false_ne_true, h4 hb, ih]
      simp [List.filter, hb]
/-- a comprehension that changes the state, by an invariant of what is still to come and of what is done -/
theorem compL_inv {vs : List Nat} {g : FG} {t : FT} {F : FE} (P : List D → List D → EE → Prop) : ∀ (ds : List D) (acc : List D) (e : EE), P ds acc e →
    (∀ d rem acc e, P (d :: rem) acc e → ∃ e1, g d e = some e1 ∧ ∃ e2, t e1 = some (true, e2) ∧ ∃ r e3, F e2 = some (r, e3) ∧ P rem (acc ++ [r.d]) (wipeE e3 vs)) →
    ∃ out e', compL vs g t F ds e = some (out, e') ∧ out.length = ds.length ∧ P [] (acc ++ out) e'
  | [], acc, e, h, _ => ⟨[], e, rfl, rfl, by simpa using h⟩
  | d :: ds, acc, e, h, st => by
    obtain ⟨e1, h1, e2, h2, r, e3, h3, h4⟩ := st d ds acc e h
    obtain ⟨out, e', q1, q2, q3⟩ := compL_inv P ds (acc ++ [r.d]) (wipeE e3 vs) h4 st
    refine ⟨r.d :: out, e', ?_, by simp [q2], by simpa using q3⟩
    unfold compL
    rw [h1, Option.bind_some, h2, Option.bind_some]
    dsimp only
    rw [if_pos rfl, h3, Option.bind_some]
    dsimp only
    rw [q1]; rfl
theorem forL_inv {g : FG} {B : FS} (P : List D → EE → Prop) : ∀ (ds : List D) (e : EE), P ds e →
    (∀ d rem e, P (d :: rem) e → ∃ e1, g d e = some e1 ∧ ∃ e2, B e1 = some (.nx, e2) ∧ P rem e2) →
    ∃ e', forL g B ds e = some (.nx, e') ∧ P [] e'
  | [], e, h, _ => ⟨e, rfl, h⟩
  | d :: ds, e, h, st => by
    obtain ⟨e1, h1, e2, h2, h3⟩ := st d ds e h
    obtain ⟨e', q1, q2⟩ := forL_inv P ds e2 h3 st
    refine ⟨e', ?_, q2⟩
    unfold forL
    rw [h1, Option.bind_some, h2, Option.bind_some]
    exact q1
theorem bCons_nx {A B : FS} {e e1 : EE} (h : A e = some (.nx, e1)) : bCons A B e = B e1 := by unfold bCons; rw [h]; rfl
theorem bCons_rt {A B : FS} {e e1 : EE} {r : Rs} (h : A e = some (.rt r, e1)) : bCons A B e = some (.rt r, e1) := by unfold bCons; rw [h]; rfl

/-! ### how much is shown -/
structure Fn (N h : Nat) (d : D) : Prop where
  s : d.showable = true
  l : d.leavesShort 2000 = true
  w : d.weight ≤ N
  d : d.depth ≤ h
structure FnA (N h : Nat) (ds : List D) : Prop where
  s : PyData.showableAll ds = true
  l : PyData.leavesShortAll 2000 ds = true
  w : PyData.weightAll ds ≤ N
  d : PyData.depthAll ds ≤ h
section
variable {N M h : Nat} {d : D} {ds es : List D}
theorem Fn.le (x : Fn N h d) {N' h' : Nat} (a : N ≤ N') (b : h ≤ h') : Fn N' h' d := ⟨x.s, x.l, Nat.le_trans x.w a, Nat.le_trans x.d b⟩
theorem FnA.le (x : FnA N h ds) {N' h' : Nat} (a : N ≤ N') (b : h ≤ h') : FnA N' h' ds := ⟨x.s, x.l, Nat.le_trans x.w a, Nat.le_trans x.d b⟩
theorem Fn.ok (x : Fn 8000 180 d) : rpOk d = true := by
  have h1 := PyData.shown_le 2000 (by decide) d x.l
  have h2 := x.w
  unfold rpOk
  rw [x.s, Bool.true_and, Bool.and_eq_true]
  exact ⟨hid x.d, small_le (by omega)⟩
theorem FnA.tup (x : FnA N h ds) : Fn N (h + 1) (.tuple ds) := ⟨by simpa [PyData.showable] using x.s, by simpa [PyData.leavesShort] using x.l, by simpa [PyData.weight] using x.w, by have := x.d; simp [PyData.depth]; omega⟩
theorem FnA.lst (x : FnA N h ds) : Fn N (h + 1) (.list ds) := ⟨by simpa [PyData.showable] using x.s, by simpa [PyData.leavesShort] using x.l, by simpa [PyData.weight] using x.w, by have := x.d; simp [PyData.depth]; omega⟩
theorem Fn.untup (x : Fn N h (.tuple ds)) : FnA N h ds := ⟨by simpa [PyData.showable] using x.s, by simpa [PyData.leavesShort] using x.l, by simpa [PyData.weight] using x.w, by have := x.d; simp [PyData.depth] at this; omega⟩
theorem FnA.nil : FnA 0 0 ([] : List D) := ⟨rfl, rfl, Nat.le_refl _, Nat.le_refl _⟩
theorem FnA.cons (x : Fn N h d) (y : FnA M h ds) : FnA (N + 1 + M) h (d :: ds) :=
  ⟨by simp [PyData.showableAll, x.s, y.s], by simp [PyData.leavesShortAll, x.l, y.l], by have := x.w; have := y.w; simp [PyData.weightAll]; omega, by have := x.d; have := y.d; simp [PyData.depthAll]; omega⟩
theorem FnA.uncons (y : FnA M h (d :: ds)) : Fn M h d ∧ FnA M h ds := by
  obtain ⟨a, b, c, e⟩ := y
  simp only [PyData.showableAll, Bool.and_eq_true] at a
  simp only [PyData.leavesShortAll, Bool.and_eq_true] at b
  simp only [PyData.weightAll] at c
  simp only [PyData.depthAll] at e
  exact ⟨⟨a.1, b.1, by omega, by omega⟩, ⟨a.2, b.2, by omega, by omega⟩⟩
theorem FnA.app (x : FnA N h ds) (y : FnA M h es) : FnA (N + M) h (ds ++ es) := by
  induction ds generalizing N with
  | nil => exact y.le (by omega) (Nat.le_refl _)
  | cons d ds ih =>
    obtain ⟨a, b, c, e⟩ := x
    simp only [PyData.showableAll, Bool.and_eq_true] at a
    simp only [PyData.leavesShortAll, Bool.and_eq_true] at b
    simp only [PyData.weightAll] at c
    simp only [PyData.depthAll] at e
    have z := ih (N := N - (d.weight + 1)) ⟨a.2, b.2, by omega, by omega⟩
    have := FnA.cons (N := d.weight) (h := h) (d := d) ⟨a.1, b.1, Nat.le_refl _, by omega⟩ z
    exact this.le (by omega) (Nat.le_refl _)
theorem FnA.mem (x : FnA N h ds) (m : d ∈ ds) : Fn N h d := by
  induction ds with
  | nil => cases m
  | cons e ds ih =>
    obtain ⟨a, b⟩ := x.uncons
    rcases List.mem_cons.mp m with rfl | m
    · exact a
    · exact ih b m
theorem FnA.sub (x : FnA N h es) (m : ds.Sublist es) : FnA N h ds := by
  induction m generalizing N with
  | slnil => exact x
  | cons a _ ih => exact ih x.uncons.2
  | @cons_cons l1 l2 a _ ih =>
    obtain ⟨p, q, r, t⟩ := x
    simp only [PyData.showableAll, Bool.and_eq_true] at p
    simp only [PyData.leavesShortAll, Bool.and_eq_true] at q
    simp only [PyData.weightAll] at r
    simp only [PyData.depthAll] at t
    have z := ih (N := N - (a.weight + 1)) ⟨p.2, q.2, by omega, by omega⟩
    have := FnA.cons (N := a.weight) (h := h) (d := a) ⟨p.1, q.1, Nat.le_refl _, by omega⟩ z
    exact this.le (by omega) (Nat.le_refl _)
theorem FnA.take (x : FnA N h ds) (k : Nat) : FnA N h (ds.take k) := x.sub (List.take_sublist k ds)
theorem FnA.drop (x : FnA N h ds) (k : Nat) : FnA N h (ds.drop k) := x.sub (List.drop_sublist k ds)
theorem FnA.cut (x : FnA N h ds) (lo hi : Option Int) : FnA N h (cutD ds lo hi) := (x.drop _).take _
theorem FnA.rev (x : FnA N h ds) : FnA N h ds.reverse := by
  induction ds generalizing N with
  | nil => exact x
  | cons d ds ih =>
    obtain ⟨p, q, r, t⟩ := x
    simp only [PyData.showableAll, Bool.and_eq_true] at p
    simp only [PyData.leavesShortAll, Bool.and_eq_true] at q
    simp only [PyData.weightAll] at r
    simp only [PyData.depthAll] at t
    have z := ih (N := N - (d.weight + 1)) ⟨p.2, q.2, by omega, by omega⟩
    have := z.app (FnA.cons (N := d.weight) (h := h) (d := d) ⟨p.1, q.1, Nat.le_refl _, by omega⟩ (FnA.nil.le (Nat.le_refl _) (Nat.zero_le _)))
    rw [List.reverse_cons]
    exact this.le (by omega) (Nat.le_refl _)
/-- all alike: a bound for each -/
theorem FnA.all (k : ∀ d ∈ ds, Fn N h d) : FnA (ds.length * (N + 1)) h ds := by
  induction ds with
  | nil => exact FnA.nil.le (Nat.zero_le _) (Nat.zero_le _)
  | cons d ds ih =>
    have := FnA.cons (k d List.mem_cons_self) (ih fun e m => k e (List.mem_cons_of_mem _ m))
    refine this.le ?_ (Nat.le_refl _)
    rw [List.length_cons, Nat.add_mul, Nat.one_mul]; omega
end
/-- a closed tree, seen by computing -/
def fnB (N h : Nat) (d : D) : Bool := d.showable && d.leavesShort 2000 && decide (d.weight ≤ N) && decide (d.depth ≤ h)
theorem fn_of {N h : Nat} {d : D} (k : fnB N h d = true) : Fn N h d := by
  unfold fnB at k
  simp only [Bool.and_eq_true] at k
  exact ⟨k.1.1.1, k.1.1.2, of_decide_eq_true k.1.2, of_decide_eq_true k.2⟩
end
end EL
namespace EL
open PySem PySem.Spec PyProof.Rows L2
namespace Law
def top (i : Nat) : Stmt := PySem.Challenge.pw_roundvalues_k12_rounds_judged.main.body.getD i (.Pass ⟨0, 0, 0, 0⟩)
abbrev sOpen : Stmt := top 7
abbrev sPick : Stmt := top 8


/-! ### the source's fields -/
theorem nk : ¬ ((.inr "cells" : Key) = .inr "left") ∧ ¬ ((.inr "cells" : Key) = .inr "mixed") ∧ ¬ ((.inr "cells" : Key) = .inr "turn") ∧ ¬ ((.inr "left" : Key) = .inr "mixed") ∧ ¬ ((.inr "left" : Key) = .inr "turn") ∧ ¬ ((.inr "mixed" : Key) = .inr "turn") := by decide +kernel
theorem nk' : ¬ ((.inr "left" : Key) = .inr "cells") ∧ ¬ ((.inr "mixed" : Key) = .inr "cells") ∧ ¬ ((.inr "turn" : Key) = .inr "cells") ∧ ¬ ((.inr "mixed" : Key) = .inr "left") ∧ ¬ ((.inr "turn" : Key) = .inr "left") ∧ ¬ ((.inr "turn" : Key) = .inr "mixed") := by decide +kernel
theorem srcCells {c : Addr} {S : Src} : valV (srcDict c S) (.inr "cells" : Key) = some (.ref c) := by simp [srcDict, valV]
theorem srcLeft {c : Addr} {S : Src} : valV (srcDict c S) (.inr "left" : Key) = some (.int S.left) := by simp [srcDict, valV, List.find?_cons, nk.1]
theorem srcMixed {c : Addr} {S : Src} : valV (srcDict c S) (.inr "mixed" : Key) = some (.int S.mixed) := by simp [srcDict, valV, List.find?_cons, nk.2.1, nk.2.2.2.1]
theorem srcTurn {c : Addr} {S : Src} : valV (srcDict c S) (.inr "turn" : Key) = some (.int S.turn) := by simp [srcDict, valV, List.find?_cons, nk.2.2.1, nk.2.2.2.2.1, nk.2.2.2.2.2]
theorem putLeft {c : Addr} {cs : List Int} {l m t z : Int} : putK (srcDict c ⟨cs, l, m, t⟩) (.inr "left" : Key) (.int z) = srcDict c ⟨cs, z, m, t⟩ := by simp [srcDict, putK, nk.1, nk'.2.2.2.1, nk'.2.2.2.2.1]
theorem putTurn {c : Addr} {cs : List Int} {l m t z : Int} : putK (srcDict c ⟨cs, l, m, t⟩) (.inr "turn" : Key) (.int z) = srcDict c ⟨cs, l, m, z⟩ := by simp [srcDict, putK, nk.2.2.1, nk.2.2.2.2.1, nk.2.2.2.2.2]
theorem dgetS {H : Hp} {p : Addr} {kvs : List (Key × V)} {f : Str} {v : V} (h : H p = some (.dK kvs)) (e : valV kvs (.inr f : Key) = some v) : DGet H p (.str f) (some v) := by rw [← e]; exact DGet.k (k := .inr f) h
theorem dputS {H : Hp} {p c : Addr} {S : Src} {f : Str} {v : V} (h : H p = some (.dK (srcDict c S))) : DPut H p (.str f) v (upd H p (.dK (putK (srcDict c S) (.inr f) v))) := DPut.k (k := .inr f) h (by show 4 < sizeLine; rw [sizeLine_eq]; decide)
theorem mod_small (x : Int) : -(2 ^ 64) < x.fmod 998244353 ∧ x.fmod 998244353 < 2 ^ 64 := by
  rw [Int.fmod_eq_emod_of_nonneg _ (by decide)]
  have h1 := Int.emod_nonneg x (b := 998244353) (by decide)
  have h2 := Int.emod_lt_of_pos x (b := 998244353) (by decide)
  omega
/-- cells are taken from the end while less than 2 is left -/
def drainR : List Int → Int → List Int × Int
  | [], l => ([], l)
  | c :: cs, l => if l < 2 then drainR cs c else (c :: cs, l)
theorem drainR_stop {l : Int} (h : ¬ l < 2) : ∀ {cs : List Int}, drainR cs l = (cs, l)
  | [] => rfl
  | c :: cs => by unfold drainR; rw [if_neg h]
theorem drainR_go {l c : Int} {cs : List Int} (h : l < 2) : drainR (c :: cs) l = drainR cs c := by rw [drainR, if_pos h]
/-- one draw below most -/
def pk (m : Int) (S : Src) : Int × Src := if m < 2 then (0, S) else
  if 1 < (drainR S.cells.reverse S.left).2 then ((drainR S.cells.reverse S.left).2.fmod m, ⟨(drainR S.cells.reverse S.left).1.reverse, (drainR S.cells.reverse S.left).2.fdiv m, S.mixed, S.turn⟩)
  else ((((((S.mixed + (S.turn + 1) * 104729).fmod 998244353 * (S.mixed + (S.turn + 1) * 104729).fmod 998244353 + (S.turn + 1) * 17).fmod 2147483647).fdiv 16).fmod m), ⟨(drainR S.cells.reverse S.left).1.reverse, (drainR S.cells.reverse S.left).2, S.mixed, S.turn + 1⟩)
theorem pk_lt {m : Int} (h : 1 ≤ m) (S : Src) : 0 ≤ (pk m S).1 ∧ (pk m S).1 < m := by
  unfold pk
  have key : ∀ x : Int, 0 ≤ x.fmod m ∧ x.fmod m < m := fun x => by
    rw [Int.fmod_eq_emod_of_nonneg _ (by omega)]
    exact ⟨Int.emod_nonneg _ (by omega), Int.emod_lt_of_pos _ (by omega)⟩
  split
  · exact ⟨by show (0 : Int) ≤ 0; decide, by show (0 : Int) < m; omega⟩
  · split
    · exact key _
    · exact key _
def pickOk (m : Int) : Bool := hide (1 ≤ m ∧ m < 1073741824)
def gPick : List D → Src → Option (Rs × Src)
  | [.int m], S => if pickOk m = true then some (.val (.int (pk m S).1), (pk m S).2) else none
  | _, _ => none
theorem gPick_some {ds : List D} {S S' : Src} {r : Rs} (h : gPick ds S = some (r, S')) : ∃ m, ds = [.int m] ∧ 1 ≤ m ∧ m < 1073741824 ∧ r = .val (.int (pk m S).1) ∧ S' = (pk m S).2 := by
  unfold gPick at h
  split at h
  · split at h
    · rename_i m hz; cases h
      obtain ⟨h1, h2⟩ := unhide hz
      exact ⟨m, rfl, h1, h2, rfl, rfl⟩
    · cases h
  · cases h
theorem gPick_len {ds : List D} {S S' : Src} {r : Rs} (h : gPick ds S = some (r, S')) : ds.length = 1 := by
  obtain ⟨m, rfl, _⟩ := gPick_some h; rfl
/-! ### what opens the source -/
theorem scOpen : FnScope ["script", "stirred", "cell", "cells"] ["script"] (defScope sOpen) := ⟨rfl, rfl, rfl, by decide +kernel, rfl, by decide +kernel, by decide +kernel⟩
theorem fill4 (p' : V) (a b c : V) : mergeK [] [((.inr "cells" : Key), p'), (.inr "left", a), (.inr "mixed", b), (.inr "turn", c)] = [(.inr "cells", p'), (.inr "left", a), (.inr "mixed", b), (.inr "turn", c)] := by
  have h1 : ¬ ((.inr "cells" : Key) = .inr "left") := by decide +kernel
  have h2 : ¬ ((.inr "cells" : Key) = .inr "mixed") := by decide +kernel
  have h3 : ¬ ((.inr "cells" : Key) = .inr "turn") := by decide +kernel
  have h4 : ¬ ((.inr "left" : Key) = .inr "mixed") := by decide +kernel
  have h5 : ¬ ((.inr "left" : Key) = .inr "turn") := by decide +kernel
  have h6 : ¬ ((.inr "mixed" : Key) = .inr "turn") := by decide +kernel
  simp [mergeK, putK, h1, h2, h3, h4, h5, h6]
section
variable [KC] {P : Program} {w : World} {K : PySem.W.Frag} {mg : Str → Option Value} {base : Heap}
theorem ok_open {f : Addr} {fd : FuncData} (F : Fun K "_law_open_cells" "_law_open_cells" sOpen f fd) (zInt : mg "int" = none) (zAbs : mg "abs" = none) : FnG P w K mg base 1 f fd ["script"] (spOpen K) := by
  refine fnG_of F scOpen (fun vs H Q E ⟨a, ns, e, _⟩ => by rw [e]; rfl) fun cdv A outer s H vs Q E gd room h => ?_
  obtain ⟨a, ns, rfl, sq, len, fin⟩ := h
  refine ⟨_, pss_cons (ps_set (i := 1) scOpen.nd rfl (Or.inl rfl) pe_int)
    (pss_cons (ps_for PassesOwn.never rfl (pi_list (pv 0)) (pg_name (i := 2) scOpen.nd rfl (Or.inl rfl))
      (pss_one (ps_set (i := 1) scOpen.nd rfl (Or.inl rfl) (pe_op op_modN (pe_callTy call_int1 (by rfl) zInt boot_int (pa_cons (pe_op op_add (pe_op op_add (pe_op op_mul (pv 1) pe_int) (pe_op op_mul (pv 2) pe_int)) pe_int) pa_nil)) pe_int))))
    (pss_cons (ps_setLc (i := 3) (own := [("cell", 2)]) rfl scOpen.nd rfl rfl rfl (pi_list (pv 0)) (blk_of (by rfl))
      (fun _ _ _ _ _ => pg_name (i := 2) scOpen.nd rfl (Or.inl rfl)) (fun _ _ _ _ _ => pts_nil) (fun _ _ _ _ _ => pe_callB call_abs (by rfl) zAbs boot_abs (pa_cons (pv 2) pa_nil)))
    (pss_one (ps_ret (pe_disp (pps_cons pe_str (pe_revL (pv 3)) (pps_cons pe_str pe_int (pps_cons pe_str (pv 1) (pps_cons pe_str pe_int pps_nil)))) rfl rfl (by decide +kernel) (by decide +kernel)))))), ?_⟩
  have isInt : ∀ {i : Nat} {x : V}, (ns.map V.int)[i]? = some x → ∃ z, x = V.int z := fun {i x} hi => by
    rw [List.getElem?_map] at hi
    cases e : ns[i]? with
    | none => rw [e] at hi; cases hi
    | some z => rw [e] at hi; exact ⟨z, (Option.some.inj hi).symm⟩
  -- stirred = 11; for cell in script
  refine ⟨_, rfl, a, rfl, ⟨_, sq⟩, for_list (K := K) (a := a) (xs := ns.map V.int) (fun i σ H2 => H2 = H ∧ ∃ (m : Int) (c : Option V), σ = [some (.ref a), some (.int m), c, none]) ⟨rfl, 11, none, rfl⟩ (fun i σ H2 _ ⟨e, _⟩ => by rw [e]; exact sq) ?_ ?_⟩
  · rintro i x σ H2 hi ⟨rfl, m, c, rfl⟩
    obtain ⟨z, rfl⟩ := isInt hi
    refine ⟨_, rfl, _, _, rfl, rfl, Or.inr ⟨by decide, by decide⟩, _, rfl, _, _, rfl, rfl, Or.inr ⟨by decide, by decide⟩, _, _, rfl, rfl, _, _, rfl, rfl, Or.inl ⟨_, rfl, _, _, rfl, rfl, (by show (2147483629 : Int) ≠ 0; decide), ?_⟩⟩
    exact ⟨rfl, _, _, rfl⟩
  · rintro σ H2 ⟨rfl, m, c, rfl⟩
    -- cells = [abs(cell) for cell in script]
    refine ⟨_, rfl, a, rfl, ⟨_, sq⟩, fun D hD => lc_list (K := K) (a := a) (xs := ns.map V.int) (fun i H3 => Same H2 H3 ∧ ∃ ms : List Int, H3 D = some (.lst (ms.map V.int)) ∧ ms.length = i)
      ⟨fun b o e => by rw [upd_ne (ne_of_none e hD)]; exact e, [], upd_same, rfl⟩ (fun i H3 _ ⟨e, _⟩ => e.seq sq) ?_ ?_⟩
    · rintro i x H3 hi ⟨sm, ms, hms, hml⟩
      obtain ⟨z, rfl⟩ := isInt hi
      refine ⟨rfl, ?_⟩
      unfold tYes
      dsimp only
      rw [if_pos rfl]
      refine ⟨_, rfl, _, rfl, _, hms, ?_, ?_, ms ++ [if z < 0 then -z else z], ?_, ?_⟩
      · rw [List.length_map, hml, sizeLine_eq]
        have := (List.getElem?_eq_some_iff.mp hi).1
        rw [List.length_map] at this
        omega
      · exact fun b o e => by rw [upd_ne (ne_of_none e hD)]; exact sm b o e
      · rw [List.map_append, upd_same]; rfl
      · rw [List.length_append, hml]; rfl
    · rintro H3 ⟨sm, ms, hms, hml⟩
      -- the dict
      refine fun p hp => ⟨_, rfl, _, _, rfl, .inl (.inl (by rw [upd_ne (ne_of_none hms hp)]; exact hms)), fun p' hp' => ⟨_, rfl, ?_⟩⟩
      have np : p' ≠ p := fun z => by rw [z, upd_same] at hp'; cases hp'
      refine ⟨by rw [upd_ne (Ne.symm np)]; exact upd_same, [((.inr "cells" : Key), V.ref p'), (.inr "left", .int 1), (.inr "mixed", .int m), (.inr "turn", .int 0)], rfl, (by show 4 ≤ 15; decide), ?_⟩
      refine fin (p, p') ⟨ms.reverse, 1, m, 0⟩ _ ⟨?_, ?_⟩
      · rw [fill4]; exact upd_same
      · show upd _ p _ p' = _
        rw [upd_ne np, upd_same, List.map_reverse]

/-! ### what draws -/
theorem scPick : FnScope ["source", "most", "cells", "others", "lap", "stirred"] ["source", "most"] (defScope sPick) := ⟨rfl, rfl, rfl, by decide +kernel, rfl, by decide +kernel, by decide +kernel⟩
theorem ok_pick {f : Addr} {fd : FuncData} (F : Fun K "_law_pick" "_law_pick" sPick f fd) (zInt : mg "int" = none) (zLen : mg "len" = none) : FnG P w K mg base 1 f fd ["source", "most"] (spS K gPick) := by
  refine fnG_of F scPick (fun vs H Q E h => by obtain ⟨q, us, S, G, ds, r, S', rfl, _, _, _, _, ra, hg, _⟩ := h; rw [List.length_cons, ra.length, gPick_len hg]; rfl) fun cdv A outer s H vs Q E gd room h => ?_
  obtain ⟨q, us, S, G, ds, r, S', rfl, so, g1, g2, sub, ra, hg, k⟩ := h
  obtain ⟨m, rfl, hm1, hm2, rfl, rfl⟩ := gPick_some hg
  obtain ⟨v1, rfl, rv⟩ : ∃ v, us = [v] ∧ Rp K G v (.int m) := by cases ra with | cons h1 h2 => cases h2; exact ⟨_, rfl, h1⟩
  cases rv
  have hu := hu_of room
  have nq : q.2 ≠ q.1 := fun z => by have := so.c; rw [z, so.d] at this; cases this
  refine ⟨_, pss_cons (ps_if (pt_cmpR op_lt (pv 1) pe_int (nomark _)) (pss_one (ps_ret pe_int)) pss_nil)
    (pss_cons (ps_set (i := 2) scPick.nd rfl (Or.inl rfl) (pe_dget hu (pv 0) pe_str (fun _ _ => rfl)))
    (pss_cons (ps_while PassesOwn.never (PW.pt (pw_and (pt_cmpR op_lt (pe_dget hu (pv 0) pe_str (fun _ _ => rfl)) pe_int (nomark _)) (pw_and1 (pt_cmpR op_gt (pe_callB call_len_seq (by rfl) zLen PySem.boot_len (pa_cons (pv 2) pa_nil)) pe_int (nomark _)))))
      (pss_one (ps_dput hu (pv 0) pe_str (pe_bm0 PySem.F.plainAttrs_list PySem.F.slot_list_pop PySem.F.type_list_pop mt_pop (pv 2)) rfl)))
    (pss_cons (ps_set (i := 3) scPick.nd rfl (Or.inl rfl) (pe_dget hu (pv 0) pe_str (fun _ _ => rfl)))
    (pss_cons (ps_if (pt_cmpR op_gt (pv 3) pe_int (nomark _)) (pss_cons (ps_dput hu (pv 0) pe_str (pe_op op_fdivN (pv 3) (pv 1)) rfl) (pss_one (ps_ret (pe_op op_modN (pe_callTy call_int1 (by rfl) zInt boot_int (pa_cons (pv 3) pa_nil)) (pv 1))))) pss_nil)
    (pss_cons (ps_dput hu (pv 0) pe_str (pe_op op_add (pe_dget hu (pv 0) pe_str (fun _ _ => rfl)) pe_int) rfl)
    (pss_cons (ps_set (i := 4) scPick.nd rfl (Or.inl rfl) (pe_dget hu (pv 0) pe_str (fun _ _ => rfl)))
    (pss_cons (ps_set (i := 5) scPick.nd rfl (Or.inl rfl) (pe_op op_modN (pe_callTy call_int1 (by rfl) zInt boot_int (pa_cons (pe_op op_add (pe_dget hu (pv 0) pe_str (fun _ _ => rfl)) (pe_op op_mul (pv 4) pe_int)) pa_nil)) pe_int))
    (pss_cons (ps_set (i := 5) scPick.nd rfl (Or.inl rfl) (pe_op op_modN (pe_callTy call_int1 (by rfl) zInt boot_int (pa_cons (pe_op op_add (pe_op op_mul (pv 5) (pv 5)) (pe_op op_mul (pv 4) pe_int)) pa_nil)) pe_int))
    (pss_one (ps_ret (pe_op op_modN (pe_callTy call_int1 (by rfl) zInt boot_int (pa_cons (pe_op op_fdivN (pv 5) pe_int) pa_nil)) (pv 1)))))))))))), ?_⟩
  -- the end, whatever the source is by then
  have fin : ∀ S1 (r : Int) H1, pk m S = (r, S1) → SrcOk H1 q S1 → (∀ a o, H a = some o → a ≠ q.1 → a ≠ q.2 → H1 a = some o) → Q (.int r) H1 := fun S1 r H1 e so1 fr => by
    have e1 : (pk m S).1 = r := by rw [e]
    have e2 : (pk m S).2 = S1 := by rw [e]
    rw [e1, e2] at k
    refine k (.int r) G H1 Le.rfl' (fun a o h => fr a o (sub a o h) (fun z => by rw [z, g1] at h; cases h) (fun z => by rw [z, g2] at h; cases h)) (fun a ha => .inl ha) fr so1 (Rp.int r)
  -- if most < 2
  refine ⟨_, rfl, _, _, rfl, rfl, _, rfl, ?_⟩
  by_cases h2 : m < 2
  · rw [decide_eq_true h2]
    refine iteT ?_
    exact fin S 0 H (by unfold pk; rw [if_pos h2]) so fun a o h _ _ => h
  rw [decide_eq_false h2]
  refine iteF ?_
  -- cells = source['cells']
  refine ⟨_, rfl, q.1, .ref q.2, rfl, dgetS so.d srcCells, ?_⟩
  -- the while
  refine ⟨fun n σ H1 => ∃ cs l, σ = [some (.ref q.1), some (.int m), some (.ref q.2), none, none, none] ∧ SrcOk H1 q ⟨cs, l, S.mixed, S.turn⟩ ∧ (∀ a o, H a = some o → a ≠ q.1 → a ≠ q.2 → H1 a = some o) ∧ n = cs.length ∧ drainR cs.reverse l = drainR S.cells.reverse S.left,
    ⟨_, S.cells, S.left, rfl, so, fun a o h _ _ => h, rfl, rfl⟩, ?_⟩
  rintro n σ H1 ⟨cs, l, rfl, so1, fr, rfl, hd⟩
  refine ⟨_, rfl, q.1, .int l, rfl, dgetS so1.d srcLeft, _, _, rfl, rfl, _, rfl, ?_⟩
  by_cases hl : l < 2
  · rw [decide_eq_true hl]
    refine iteT ?_
    refine ⟨_, rfl, q.2, cs.map V.int, rfl, .inl (.inl (.inl so1.c)), _, _, rfl, rfl, _, rfl, ?_⟩
    by_cases hz : cs = []
    · have hz0 := hz
      rw [decide_eq_false (by rw [hz]; show ¬ (0 : Int) < 0; decide)]
      refine iteF ?_
      have hd' : drainR S.cells.reverse S.left = (cs.reverse, l) := by rw [← hd, hz]; rfl
      -- others = source['left']; if others > 1
      refine ⟨_, rfl, q.1, .int l, rfl, dgetS so1.d srcLeft, _, rfl, _, _, rfl, rfl, _, rfl, ?_⟩
      by_cases h1 : (1 : Int) < l
      · rw [decide_eq_true h1]
        refine iteT ?_
        refine ⟨_, rfl, _, rfl, _, _, rfl, rfl, ⟨(by omega : m ≠ 0), (by omega : m.natAbs < 1073741824)⟩, _, rfl, q.1, _, rfl, dputS (f := "left") (v := .int (l.fdiv m)) so1.d, ?_⟩
        refine ⟨_, rfl, .inl ⟨_, rfl, _, rfl, _, _, rfl, rfl, (by omega : m ≠ 0), ?_⟩⟩
        refine fin _ _ _ (by unfold pk; rw [if_neg h2, hd']; dsimp only; rw [if_pos h1]) ⟨?_, ?_⟩ fun a o h z1 z2 => by rw [upd_ne z1]; exact fr a o h z1 z2
        · rw [upd_same, putLeft]; rfl
        · rw [upd_ne nq]; simpa using so1.c
      · rw [decide_eq_false h1]
        refine iteF ?_
        -- source['turn'] = source['turn'] + 1
        refine ⟨_, rfl, q.1, .int S.turn, rfl, dgetS so1.d srcTurn, _, _, rfl, rfl, _, rfl, q.1, _, rfl, dputS (f := "turn") (v := .int (S.turn + 1)) so1.d, ?_⟩
        have so2 : SrcOk (upd H1 q.1 (.dK (srcDict q.2 ⟨cs, l, S.mixed, S.turn + 1⟩))) q ⟨cs, l, S.mixed, S.turn + 1⟩ := ⟨upd_same, by rw [upd_ne nq]; exact so1.c⟩
        rw [putTurn]
        refine ⟨_, rfl, q.1, .int (S.turn + 1), rfl, dgetS so2.d srcTurn, ?_⟩
        refine ⟨_, rfl, q.1, .int S.mixed, rfl, dgetS so2.d srcMixed, _, rfl, _, _, rfl, rfl, Or.inr ⟨by decide, by decide⟩, _, _, rfl, rfl, .inl ⟨_, rfl, _, _, rfl, rfl, (by show (998244353 : Int) ≠ 0; decide), ?_⟩⟩
        refine ⟨_, rfl, _, rfl, _, _, rfl, rfl, .inl (mod_small _), _, rfl, _, _, rfl, rfl, Or.inr ⟨by decide, by decide⟩, _, _, rfl, rfl, .inl ⟨_, rfl, _, _, rfl, rfl, (by show (2147483647 : Int) ≠ 0; decide), ?_⟩⟩
        refine ⟨_, rfl, _, _, rfl, rfl, ⟨by decide, by decide⟩, .inl ⟨_, rfl, _, rfl, _, _, rfl, rfl, (by omega : m ≠ 0), ?_⟩⟩
        refine fin _ _ _ (by unfold pk; rw [if_neg h2, hd']; dsimp only; rw [if_neg h1]) ⟨?_, ?_⟩ fun a o h z1 z2 => by rw [upd_ne z1]; exact fr a o h z1 z2
        · rw [List.reverse_reverse]; exact so2.d
        · rw [List.reverse_reverse]; exact so2.c
    · have hz' : (0 : Int) < ((cs.map V.int).length : Int) := by
        have : 0 < cs.length := List.length_pos_iff.mpr hz
        rw [List.length_map]; omega
      rw [decide_eq_true hz']
      refine iteT ?_
      obtain ⟨c, cs', hcs⟩ : ∃ c cs', cs.reverse = c :: cs' := by
        cases e : cs.reverse with
        | nil => exact absurd (by simpa using e) hz
        | cons c cs' => exact ⟨c, cs', rfl⟩
      have hcs2 : cs = cs'.reverse ++ [c] := by rw [← List.reverse_reverse cs, hcs, List.reverse_cons]
      have hlen : cs.length = cs'.length + 1 := by rw [hcs2]; simp
      refine ⟨fun σ' H' => ∃ cs2 l2, σ' = [some (.ref q.1), some (.int m), some (.ref q.2), none, none, none] ∧ SrcOk H' q ⟨cs2, l2, S.mixed, S.turn⟩ ∧ (∀ a o, H a = some o → a ≠ q.1 → a ≠ q.2 → H' a = some o) ∧ cs.length = cs2.length + 1 ∧ drainR cs2.reverse l2 = drainR S.cells.reverse S.left,
        fun σ' H' ⟨cs2, l2, y1, y2, y3, y4, y5⟩ => ⟨cs2.length, by omega, cs2, l2, y1, y2, y3, rfl, y5⟩, ?_⟩
      refine ⟨_, rfl, .inl ⟨rfl, _, .inl (.inl so1.c)⟩, q.2, cs.map V.int, .int c, rfl, rfl, so1.c, ?_, _, rfl, q.1, _, rfl, dputS (f := "left") (v := .int c) (by show upd H1 q.2 _ q.1 = _; rw [upd_ne (Ne.symm nq)]; exact so1.d), ?_⟩
      · rw [hcs2]; simp
      · refine ⟨cs'.reverse, c, rfl, ⟨?_, ?_⟩, fun a o h z1 z2 => by rw [upd_ne z1, upd_ne z2]; exact fr a o h z1 z2, by simpa using hlen, ?_⟩
        · rw [upd_same, putLeft]; rfl
        · rw [upd_ne nq, upd_same, hcs2]; simp
        · rw [List.reverse_reverse, ← hd, hcs, drainR_go hl]
  · rw [decide_eq_false hl]
    refine iteF ?_
    have hd' : drainR S.cells.reverse S.left = (cs.reverse, l) := by rw [← hd]; exact drainR_stop hl
    refine iteF ?_
    -- others = source['left']; if others > 1
    refine ⟨_, rfl, q.1, .int l, rfl, dgetS so1.d srcLeft, _, rfl, _, _, rfl, rfl, _, rfl, ?_⟩
    by_cases h1 : (1 : Int) < l
    · rw [decide_eq_true h1]
      refine iteT ?_
      refine ⟨_, rfl, _, rfl, _, _, rfl, rfl, ⟨(by omega : m ≠ 0), (by omega : m.natAbs < 1073741824)⟩, _, rfl, q.1, _, rfl, dputS (f := "left") (v := .int (l.fdiv m)) so1.d, ?_⟩
      refine ⟨_, rfl, .inl ⟨_, rfl, _, rfl, _, _, rfl, rfl, (by omega : m ≠ 0), ?_⟩⟩
      refine fin _ _ _ (by unfold pk; rw [if_neg h2, hd']; dsimp only; rw [if_pos h1]) ⟨?_, ?_⟩ fun a o h z1 z2 => by rw [upd_ne z1]; exact fr a o h z1 z2
      · rw [upd_same, putLeft]; rfl
      · rw [upd_ne nq]; simpa using so1.c
    · rw [decide_eq_false h1]
      refine iteF ?_
      -- source['turn'] = source['turn'] + 1
      refine ⟨_, rfl, q.1, .int S.turn, rfl, dgetS so1.d srcTurn, _, _, rfl, rfl, _, rfl, q.1, _, rfl, dputS (f := "turn") (v := .int (S.turn + 1)) so1.d, ?_⟩
      have so2 : SrcOk (upd H1 q.1 (.dK (srcDict q.2 ⟨cs, l, S.mixed, S.turn + 1⟩))) q ⟨cs, l, S.mixed, S.turn + 1⟩ := ⟨upd_same, by rw [upd_ne nq]; exact so1.c⟩
      rw [putTurn]
      refine ⟨_, rfl, q.1, .int (S.turn + 1), rfl, dgetS so2.d srcTurn, ?_⟩
      refine ⟨_, rfl, q.1, .int S.mixed, rfl, dgetS so2.d srcMixed, _, rfl, _, _, rfl, rfl, Or.inr ⟨by decide, by decide⟩, _, _, rfl, rfl, .inl ⟨_, rfl, _, _, rfl, rfl, (by show (998244353 : Int) ≠ 0; decide), ?_⟩⟩
      refine ⟨_, rfl, _, rfl, _, _, rfl, rfl, .inl (mod_small _), _, rfl, _, _, rfl, rfl, Or.inr ⟨by decide, by decide⟩, _, _, rfl, rfl, .inl ⟨_, rfl, _, _, rfl, rfl, (by show (2147483647 : Int) ≠ 0; decide), ?_⟩⟩
      refine ⟨_, rfl, _, _, rfl, rfl, ⟨by decide, by decide⟩, .inl ⟨_, rfl, _, rfl, _, _, rfl, rfl, (by omega : m ≠ 0), ?_⟩⟩
      refine fin _ _ _ (by unfold pk; rw [if_neg h2, hd']; dsimp only; rw [if_neg h1]) ⟨?_, ?_⟩ fun a o h z1 z2 => by rw [upd_ne z1]; exact fr a o h z1 z2
      · rw [List.reverse_reverse]; exact so2.d
      · rw [List.reverse_reverse]; exact so2.c

end
end Law
end EL
namespace EL
open PySem PySem.Spec PyProof.Rows L2
namespace Law
/-! ### the built-ins that the text asks for -/
structure Mg (mg : Str → Option Value) : Prop where
  z_len : mg "len" = none
  z_range : mg "range" = none
  z_list : mg "list" = none
  z_tuple : mg "tuple" = none
  z_isinstance : mg "isinstance" = none
  z_int : mg "int" = none
  z_bool : mg "bool" = none
  z_all : mg "all" = none
  z_repr : mg "repr" = none
theorem bo_len : bootBuiltins "len" = some (.builtin "len") := by decide +kernel
theorem bo_list : bootBuiltins "list" = some (.type "list") := by decide +kernel
theorem bo_tuple : bootBuiltins "tuple" = some (.type "tuple") := by decide +kernel
theorem bo_isinstance : bootBuiltins "isinstance" = some (.builtin "isinstance") := by decide +kernel
theorem bo_int : bootBuiltins "int" = some (.type "int") := by decide +kernel
theorem bo_bool : bootBuiltins "bool" = some (.type "bool") := by decide +kernel
theorem bo_all : bootBuiltins "all" = some (.builtin "all") := by decide +kernel
theorem bo_repr : bootBuiltins "repr" = some (.builtin "repr") := by decide +kernel
section
variable [KC] {P : Program} {w : World} {K : PySem.W.Frag} {mg : Str → Option Value} {base : Heap}
/-! ### _law_mixed -/
abbrev st__law_mixed : Stmt := top 10
theorem sc__law_mixed : FnScope ["source", "things", "rest", "lap"] ["source", "things"] (defScope st__law_mixed) := ⟨rfl, rfl, rfl, by decide +kernel, rfl, by decide +kernel, by decide +kernel⟩
def b__law_mixed : FS :=
  bCons (sSet 2 (eB gList (oCons (oVar 1) (oNil))))
  (sRet (eComp [3] (iRg1 (oCons (oVal (eB gLen (oCons (oVar 2) (oNil)))) (oNil))) (gN 3) (tYs) (mPopAt 2 (eCallS 0 gPick (aCons (eB gLen (oCons (oVar 2) (oNil))) (aNil))))))
def p__law_mixed : List D → Src → Option (Rs × Src) := runS 2 4 b__law_mixed
theorem ok__law_mixed (d : Def K mg "_law_mixed" st__law_mixed ["source", "things"]) (T : Mg mg) (sys : ∃ o, base.get? sysModules = some o) (c__law_pick : Cal P w K mg base 1 "_law_pick" ["source", "most"] (spS K gPick)) : Cal P w K mg base 2 "_law_mixed" ["source", "things"] (spS K p__law_mixed) :=
  cal_S (k := 1) d sc__law_mixed fun f cdv A outer s H E gd hr =>
  bd_cons (sd_set (i := 2) sc__law_mixed.nd rfl (by first | exact Or.inl rfl | exact Or.inr rfl) (ed_callTy c_list (by rfl) T.z_list bo_list (os_cons (oe_var (pv 1)) (os_nil))))
  (bd_one (sd_ret (ed_lc (own := [("lap", 3)]) rfl sc__law_mixed.nd (id_rg1 (by rfl) T.z_range (os_cons (oe_val (ed_callB c_len (by rfl) T.z_len bo_len (os_cons (oe_var (pv 2)) (os_nil)))) (os_nil))) (blk_of (by rfl)) (fun _ _ _ _ _ => gv_name sc__law_mixed.nd rfl (by first | exact Or.inl rfl | exact Or.inr rfl) (by simp)) (fun _ _ _ _ _ => pts_yes) (fun _ _ _ _ _ => ed_popAt (pv 2) (ecS c__law_pick gd (hr.mono (by decide)) (by rfl) (pv 0) (as_cons (ed_callB c_len (by rfl) T.z_len bo_len (os_cons (oe_var (pv 2)) (os_nil))) (as_nil)))))))
/-! ### _law_shuffle -/
abbrev st__law_shuffle : Stmt := top 14
theorem sc__law_shuffle : FnScope ["source", "n"] ["source", "n"] (defScope st__law_shuffle) := ⟨rfl, rfl, rfl, by decide +kernel, rfl, by decide +kernel, by decide +kernel⟩
def b__law_shuffle : FS :=
  sRet (eB gTuple (oCons (oVal (eCallS 0 p__law_mixed (aCons (eRg true (oVar 1)) (aNil)))) (oNil)))
def p__law_shuffle : List D → Src → Option (Rs × Src) := runS 2 2 b__law_shuffle
theorem ok__law_shuffle (d : Def K mg "_law_shuffle" st__law_shuffle ["source", "n"]) (T : Mg mg) (sys : ∃ o, base.get? sysModules = some o) (c__law_mixed : Cal P w K mg base 2 "_law_mixed" ["source", "things"] (spS K p__law_mixed)) : Cal P w K mg base 3 "_law_shuffle" ["source", "n"] (spS K p__law_shuffle) :=
  cal_S (k := 2) d sc__law_shuffle fun f cdv A outer s H E gd hr =>
  bd_one (sd_ret (ed_callTy c_tuple (by rfl) T.z_tuple bo_tuple (os_cons (oe_val (ecS c__law_mixed gd (hr.mono (by decide)) (by rfl) (pv 0) (as_cons (ed_listRg rfl (by rfl) T.z_list (by rfl) T.z_range (oe_var (pv 1))) (as_nil)))) (os_nil))))
/-! ### _law_rounds -/
abbrev st__law_rounds : Stmt := top 15
theorem sc__law_rounds : FnScope ["shuffle", "found", "seen", "thing", "around"] ["shuffle"] (defScope st__law_rounds) := ⟨rfl, rfl, rfl, by decide +kernel, rfl, by decide +kernel, by decide +kernel⟩
def w1__law_rounds (e : EE) : Nat := 64
def b__law_rounds : FS :=
  bCons (sPar [1, 2] (rCons (eLst (aNil)) (rCons (eLst (aNil)) (rNil))))
  (bCons (sFor (iRg1 (oCons (oVal (eB gLen (oCons (oVar 0) (oNil)))) (oNil))) (gN 3) (sIf (tOf (eBin gNin (oVar 3) (oVar 2))) (bCons (sSet 4 (eLst (aCons (fVar 3) (aNil))))
      (bCons (sWh (tOf (eBin lNe (oVal (eBin gIx (oVar 0) (oVal (eBin gIx (oVar 4) (oVal (eUn gNeg (oVal (fC (.int 1))))))))) (oVar 3))) (sDrop (mAppend 4 (eBin gIx (oVar 0) (oVal (eBin gIx (oVar 4) (oVal (eUn gNeg (oVal (fC (.int 1)))))))))) w1__law_rounds)
      (bCons (sSet 2 (eBin gAdd (oVar 2) (oVar 4)))
      (sDrop (mAppend 1 (eB gTuple (oCons (oVar 4) (oNil)))))))) (sNx)))
  (sRet (eB gTuple (oCons (oVar 1) (oNil)))))
def p__law_rounds : List D → Option Rs := runD 1 5 b__law_rounds
theorem ok__law_rounds (d : Def K mg "_law_rounds" st__law_rounds ["shuffle"]) (T : Mg mg) (sys : ∃ o, base.get? sysModules = some o) : Cal P w K mg base 1 "_law_rounds" ["shuffle"] (spD K p__law_rounds) :=
  cal_D (k := 0) d sc__law_rounds fun f cdv A outer s H E gd hr =>
  bd_cons (sd_par (i := 1) (j := 2) rfl sc__law_rounds.nd rfl rfl (by decide) rfl rfl (rs_cons (ed_lst (as_nil)) (rs_cons (ed_lst (as_nil)) (rs_nil))) rfl)
  (bd_cons (sd_for PassesOwn.never rfl (id_rg1 (by rfl) T.z_range (os_cons (oe_val (ed_callB c_len (by rfl) T.z_len bo_len (os_cons (oe_var (pv 0)) (os_nil)))) (os_nil))) (gd_name sc__law_rounds.nd rfl (by first | exact Or.inl rfl | exact Or.inr rfl)) (bd_one (sd_if (td_cmp (o_nin (u65 hr)) (oe_var (pv 3)) (oe_var (pv 2)) (by rfl)) (bd_cons (sd_set (i := 4) sc__law_rounds.nd rfl (by first | exact Or.inl rfl | exact Or.inr rfl) (ed_lst (as_cons (ed_var (pv 3)) (as_nil))))
      (bd_cons (sd_wh PassesOwn.never (td_cmp (l_ne (u64 hr)) (oe_val (ed_sub (oe_var (pv 0)) (oe_val (ed_sub (oe_var (pv 4)) (oe_val (ed_un u_neg (oe_val (ed_int)))) (fun _ _ => rfl))) (fun _ _ => rfl))) (oe_var (pv 3)) (nomark _)) (bd_one (sd_expr (ed_append (pv 4) (ed_sub (oe_var (pv 0)) (oe_val (ed_sub (oe_var (pv 4)) (oe_val (ed_un u_neg (oe_val (ed_int)))) (fun _ _ => rfl))) (fun _ _ => rfl))))))
      (bd_cons (sd_set (i := 2) sc__law_rounds.nd rfl (by first | exact Or.inl rfl | exact Or.inr rfl) (ed_bin o_add (oe_var (pv 2)) (oe_var (pv 4))))
      (bd_one (sd_expr (ed_append (pv 1) (ed_callTy c_tuple (by rfl) T.z_tuple bo_tuple (os_cons (oe_var (pv 4)) (os_nil))))))))) (bd_nil))))
  (bd_one (sd_ret (ed_callTy c_tuple (by rfl) T.z_tuple bo_tuple (os_cons (oe_var (pv 1)) (os_nil))))))
/-! ### _law_of -/
abbrev st__law_of : Stmt := top 9
theorem sc__law_of : FnScope ["source", "some"] ["source", "some"] (defScope st__law_of) := ⟨rfl, rfl, rfl, by decide +kernel, rfl, by decide +kernel, by decide +kernel⟩
def b__law_of : FS :=
  sRet (eBin gIx (oVar 1) (oVal (eCallS 0 gPick (aCons (eB gLen (oCons (oVar 1) (oNil))) (aNil)))))
def p__law_of : List D → Src → Option (Rs × Src) := runS 2 2 b__law_of
theorem ok__law_of (d : Def K mg "_law_of" st__law_of ["source", "some"]) (T : Mg mg) (sys : ∃ o, base.get? sysModules = some o) (c__law_pick : Cal P w K mg base 1 "_law_pick" ["source", "most"] (spS K gPick)) : Cal P w K mg base 2 "_law_of" ["source", "some"] (spS K p__law_of) :=
  cal_S (k := 1) d sc__law_of fun f cdv A outer s H E gd hr =>
  bd_one (sd_ret (ed_sub (oe_var (pv 1)) (oe_val (ecS c__law_pick gd (hr.mono (by decide)) (by rfl) (pv 0) (as_cons (ed_callB c_len (by rfl) T.z_len bo_len (os_cons (oe_var (pv 1)) (os_nil))) (as_nil)))) (fun _ _ => rfl)))
/-! ### _law_deep -/
abbrev st__law_deep : Stmt := top 12
theorem sc__law_deep : FnScope ["source", "odd", "deep", "turn"] ["source", "odd"] (defScope st__law_deep) := ⟨rfl, rfl, rfl, by decide +kernel, rfl, by decide +kernel, by decide +kernel⟩
def b__law_deep : FS :=
  bCons (sSet 2 (eCallS 0 p__law_of (aCons (fVar 1) (aNil))))
  (bCons (sFor (iRg1 (oCons (oVal (fC (.int 34))) (oNil))) (gN 3) (sSet 2 (eIf (tOf (eBin qEq (oVal (eCallS 0 gPick (aCons (fC (.int 5)) (aNil)))) (oVal (fC (.int 0))))) (eLst (aCons (fVar 2) (aNil))) (eTup (aCons (fVar 2) (aNil))))))
  (sRetV 2))
def p__law_deep : List D → Src → Option (Rs × Src) := runS 2 4 b__law_deep
theorem ok__law_deep (d : Def K mg "_law_deep" st__law_deep ["source", "odd"]) (T : Mg mg) (sys : ∃ o, base.get? sysModules = some o) (c__law_of : Cal P w K mg base 2 "_law_of" ["source", "some"] (spS K p__law_of)) (c__law_pick : Cal P w K mg base 1 "_law_pick" ["source", "most"] (spS K gPick)) : Cal P w K mg base 3 "_law_deep" ["source", "odd"] (spS K p__law_deep) :=
  cal_S (k := 2) d sc__law_deep fun f cdv A outer s H E gd hr =>
  bd_cons (sd_set (i := 2) sc__law_deep.nd rfl (by first | exact Or.inl rfl | exact Or.inr rfl) (ecS c__law_of gd (hr.mono (by decide)) (by rfl) (pv 0) (as_cons (ed_var (pv 1)) (as_nil))))
  (bd_cons (sd_for PassesOwn.never rfl (id_rg1 (by rfl) T.z_range (os_cons (oe_val (ed_int)) (os_nil))) (gd_name sc__law_deep.nd rfl (by first | exact Or.inl rfl | exact Or.inr rfl)) (bd_one (sd_set (i := 2) sc__law_deep.nd rfl (by first | exact Or.inl rfl | exact Or.inr rfl) (ed_if (td_cmp (q_eq (u64 hr)) (oe_val (ecS c__law_pick gd (hr.mono (by decide)) (by rfl) (pv 0) (as_cons (ed_int) (as_nil)))) (oe_val (ed_int)) (nomark _)) (ed_lst (as_cons (ed_var (pv 2)) (as_nil))) (ed_tup (as_cons (ed_var (pv 2)) (as_nil)))))))
  (bd_one (sd_retV (pv 2))))
/-! ### round_from -/
abbrev st_round_from : Stmt := top 2
theorem sc_round_from : FnScope ["shuffle", "thing", "found"] ["shuffle", "thing"] (defScope st_round_from) := ⟨rfl, rfl, rfl, by decide +kernel, rfl, by decide +kernel, by decide +kernel⟩
def w1_round_from (e : EE) : Nat := 64
def b_round_from : FS :=
  bCons (sSet 2 (eLst (aCons (fVar 1) (aNil))))
  (bCons (sWh (tOf (eBin lNe (oVal (eBin gIx (oVar 0) (oVal (eBin gIx (oVar 2) (oVal (eUn gNeg (oVal (fC (.int 1))))))))) (oVar 1))) (sDrop (mAppend 2 (eBin gIx (oVar 0) (oVal (eBin gIx (oVar 2) (oVal (eUn gNeg (oVal (fC (.int 1)))))))))) w1_round_from)
  (sRet (eB gTuple (oCons (oVar 2) (oNil)))))
def p_round_from : List D → Option Rs := runD 2 3 b_round_from
theorem ok_round_from (d : Def K mg "round_from" st_round_from ["shuffle", "thing"]) (T : Mg mg) (sys : ∃ o, base.get? sysModules = some o) : Cal P w K mg base 1 "round_from" ["shuffle", "thing"] (spD K p_round_from) :=
  cal_D (k := 0) d sc_round_from fun f cdv A outer s H E gd hr =>
  bd_cons (sd_set (i := 2) sc_round_from.nd rfl (by first | exact Or.inl rfl | exact Or.inr rfl) (ed_lst (as_cons (ed_var (pv 1)) (as_nil))))
  (bd_cons (sd_wh PassesOwn.never (td_cmp (l_ne (u64 hr)) (oe_val (ed_sub (oe_var (pv 0)) (oe_val (ed_sub (oe_var (pv 2)) (oe_val (ed_un u_neg (oe_val (ed_int)))) (fun _ _ => rfl))) (fun _ _ => rfl))) (oe_var (pv 1)) (nomark _)) (bd_one (sd_expr (ed_append (pv 2) (ed_sub (oe_var (pv 0)) (oe_val (ed_sub (oe_var (pv 2)) (oe_val (ed_un u_neg (oe_val (ed_int)))) (fun _ _ => rfl))) (fun _ _ => rfl))))))
  (bd_one (sd_ret (ed_callTy c_tuple (by rfl) T.z_tuple bo_tuple (os_cons (oe_var (pv 2)) (os_nil))))))
/-! ### rounds_of -/
abbrev st_rounds_of : Stmt := top 3
theorem sc_rounds_of : FnScope ["shuffle", "found", "seen", "thing", "around", "one"] ["shuffle"] (defScope st_rounds_of) := ⟨rfl, rfl, rfl, by decide +kernel, rfl, by decide +kernel, by decide +kernel⟩
def b_rounds_of : FS :=
  bCons (sPar [1, 2] (rCons (eLst (aNil)) (rCons (eDNew false) (rNil))))
  (bCons (sFor (iRg1 (oCons (oVal (eB gLen (oCons (oVar 0) (oNil)))) (oNil))) (gN 3) (sIf (tOf (eDIn true (fVar 3) 2)) (bCons (sSet 4 (eCall p_round_from (aCons (fVar 0) (aCons (fVar 3) (aNil)))))
      (bCons (sDrop (mUpdate 2 (eDComp [5] (iSeq (fVar 4)) (gN 5) (tYs) (fVar 5) (fC (.bool true)))))
      (sDrop (mAppend 1 (fVar 4))))) (sNx)))
  (sRet (eB gTuple (oCons (oVar 1) (oNil)))))
def p_rounds_of : List D → Option Rs := runD 1 6 b_rounds_of
theorem ok_rounds_of (d : Def K mg "rounds_of" st_rounds_of ["shuffle"]) (T : Mg mg) (sys : ∃ o, base.get? sysModules = some o) (c_round_from : Cal P w K mg base 1 "round_from" ["shuffle", "thing"] (spD K p_round_from)) : Cal P w K mg base 2 "rounds_of" ["shuffle"] (spD K p_rounds_of) :=
  cal_D (k := 1) d sc_rounds_of fun f cdv A outer s H E gd hr =>
  bd_cons (sd_par (i := 1) (j := 2) rfl sc_rounds_of.nd rfl rfl (by decide) rfl rfl (rs_cons (ed_lst (as_nil)) (rs_cons (ed_dnewK) (rs_nil))) rfl)
  (bd_cons (sd_for PassesOwn.never rfl (id_rg1 (by rfl) T.z_range (os_cons (oe_val (ed_callB c_len (by rfl) T.z_len bo_len (os_cons (oe_var (pv 0)) (os_nil)))) (os_nil))) (gd_name sc_rounds_of.nd rfl (by first | exact Or.inl rfl | exact Or.inr rfl)) (bd_one (sd_if (td_dNin (u1 hr) (ed_var (pv 3)) (pv 2) (by rfl)) (bd_cons (sd_set (i := 4) sc_rounds_of.nd rfl (by first | exact Or.inl rfl | exact Or.inr rfl) (ec c_round_from gd (hr.mono (by decide)) (by rfl) (as_cons (ed_var (pv 0)) (as_cons (ed_var (pv 3)) (as_nil)))))
      (bd_cons (sd_expr (ed_update (pv 2) (ed_dc (own := [("one", 5)]) rfl sc_rounds_of.nd (id_seq (ed_var (pv 4))) (blk_of (by rfl)) (fun _ _ _ _ _ => gv_name sc_rounds_of.nd rfl (by first | exact Or.inl rfl | exact Or.inr rfl) (by simp)) (fun _ _ _ _ _ => pts_yes) (fun _ _ _ _ _ => ed_var (pv 5)) (fun _ _ _ _ _ => ed_bl))))
      (bd_one (sd_expr (ed_append (pv 1) (ed_var (pv 4))))))) (bd_nil))))
  (bd_one (sd_ret (ed_callTy c_tuple (by rfl) T.z_tuple bo_tuple (os_cons (oe_var (pv 1)) (os_nil))))))
/-! ### _law_bent -/
abbrev st__law_bent : Stmt := top 11
theorem sc__law_bent : FnScope ["source", "value", "odd", "k", "way"] ["source", "value", "odd"] (defScope st__law_bent) := ⟨rfl, rfl, rfl, by decide +kernel, rfl, by decide +kernel, by decide +kernel⟩
def b__law_bent (φ : List D → Src → Option (Rs × Src)) : FS :=
  bCons (sIf (tAnd (tOf (eInst (oVar 1) "int")) (tAnd (tNot (tOf (eInst (oVar 1) "bool"))) (tOf (eBin gGt (oVal (eCallS 0 gPick (aCons (fC (.int 3)) (aNil)))) (oVal (fC (.int 0))))))) (sRet (eBin gAdd (oVar 1) (oVal (eCallS 0 p__law_of (aCons (eLst (aCons (fC (.int 1)) (aCons (eUn gNeg (oVal (fC (.int 1)))) (aCons (fC (.int 2)) (aNil))))) (aNil)))))) (sNx))
  (bCons (sIf (tOr (tNot (tOf (eInst (oVar 1) "tuple"))) (tOr (tOf (eBin qEq (oVar 1) (oVal (eTup (aNil))))) (tOf (eBin qEq (oVal (eCallS 0 gPick (aCons (fC (.int 7)) (aNil)))) (oVal (fC (.int 0))))))) (sRet (eCallS 0 p__law_of (aCons (fVar 2) (aNil)))) (sNx))
  (bCons (sPar [3, 4] (rCons (eCallS 0 gPick (aCons (eB gLen (oCons (oVar 1) (oNil))) (aNil))) (rCons (eCallS 0 gPick (aCons (fC (.int 8)) (aNil))) (rNil))))
  (bCons (sIf (tOf (eBin gLt (oVar 4) (oVal (fC (.int 5))))) (sRet (eBin gAdd (oVal (eBin gAdd (oVal (eSl (oVar 1) (pNo) (pIn (fVar 3)))) (oVal (eTup (aCons (eCallS 0 φ (aCons (eBin gIx (oVar 1) (oVar 3)) (aCons (fVar 2) (aNil)))) (aNil)))))) (oVal (eSl (oVar 1) (pIn (eBin gAdd (oVar 3) (oVal (fC (.int 1))))) (pNo))))) (sNx))
  (sRet (eBin gIx (oVal (eLst (aCons (eBin gAdd (oVal (eSl (oVar 1) (pNo) (pIn (fVar 3)))) (oVal (eSl (oVar 1) (pIn (eBin gAdd (oVar 3) (oVal (fC (.int 1))))) (pNo)))) (aCons (eBin gAdd (oVal (eSl (oVar 1) (pNo) (pIn (eBin gAdd (oVar 3) (oVal (fC (.int 1))))))) (oVal (eSl (oVar 1) (pIn (fVar 3)) (pNo)))) (aCons (eB gList (oCons (oVar 1) (oNil))) (aNil)))))) (oVal (eBin gSub (oVar 4) (oVal (fC (.int 5))))))))))
def p__law_bent : Nat → List D → Src → Option (Rs × Src)
  | 0 => fun _ _ => none
  | n + 1 => runS 3 5 (b__law_bent (p__law_bent n))
def rec__law_bent : Nat := 8
theorem ok__law_bent (d : Def K mg "_law_bent" st__law_bent ["source", "value", "odd"]) (T : Mg mg) (sys : ∃ o, base.get? sysModules = some o) (c__law_of : Cal P w K mg base 2 "_law_of" ["source", "some"] (spS K p__law_of)) (c__law_pick : Cal P w K mg base 1 "_law_pick" ["source", "most"] (spS K gPick)) : ∀ n, Cal P w K mg base (3 + n) "_law_bent" ["source", "value", "odd"] (spS K (p__law_bent n))
  | 0 => cal_none d
  | n + 1 => by
    have c_self := ok__law_bent d T sys c__law_of c__law_pick n
    exact cal_S (k := 3 + n) d sc__law_bent (fun f cdv A outer s H E gd hr =>
  bd_cons (sd_if (PW.pt (wd_and (td_val (ed_inst (by rfl) T.z_isinstance bo_isinstance (by rfl) T.z_int bo_int (oe_var (pv 1)))) (wd_and (td_not (td_val (ed_inst (by rfl) T.z_isinstance bo_isinstance (by rfl) T.z_bool bo_bool (oe_var (pv 1))))) (wd_and1 (td_cmp o_gt (oe_val (ecS c__law_pick gd (hr.mono (by omega)) (by rfl) (pv 0) (as_cons (ed_int) (as_nil)))) (oe_val (ed_int)) (nomark _)))))) (bd_one (sd_ret (ed_bin o_add (oe_var (pv 1)) (oe_val (ecS c__law_of gd (hr.mono (by omega)) (by rfl) (pv 0) (as_cons (ed_lst (as_cons (ed_int) (as_cons (ed_un u_neg (oe_val (ed_int))) (as_cons (ed_int) (as_nil))))) (as_nil))))))) (bd_nil))
  (bd_cons (sd_if (PW.pt (wd_or (td_not (td_val (ed_inst (by rfl) T.z_isinstance bo_isinstance (by rfl) T.z_tuple bo_tuple (oe_var (pv 1))))) (wd_or (td_cmp (q_eq (u64 hr)) (oe_var (pv 1)) (oe_val (ed_tup (as_nil))) (nomark _)) (wd_or1 (td_cmp (q_eq (u64 hr)) (oe_val (ecS c__law_pick gd (hr.mono (by omega)) (by rfl) (pv 0) (as_cons (ed_int) (as_nil)))) (oe_val (ed_int)) (nomark _)))))) (bd_one (sd_ret (ecS c__law_of gd (hr.mono (by omega)) (by rfl) (pv 0) (as_cons (ed_var (pv 2)) (as_nil))))) (bd_nil))
  (bd_cons (sd_par (i := 3) (j := 4) rfl sc__law_bent.nd rfl rfl (by decide) rfl rfl (rs_cons (ecS c__law_pick gd (hr.mono (by omega)) (by rfl) (pv 0) (as_cons (ed_callB c_len (by rfl) T.z_len bo_len (os_cons (oe_var (pv 1)) (os_nil))) (as_nil))) (rs_cons (ecS c__law_pick gd (hr.mono (by omega)) (by rfl) (pv 0) (as_cons (ed_int) (as_nil))) (rs_nil))) rfl)
  (bd_cons (sd_if (td_cmp o_lt (oe_var (pv 4)) (oe_val (ed_int)) (nomark _)) (bd_one (sd_ret (ed_bin o_add (oe_val (ed_bin o_add (oe_val (ed_slice (oe_var (pv 1)) (pp_no) (pp_in (ed_var (pv 3))))) (oe_val (ed_tup (as_cons (ecS c_self gd (hr.mono (by omega)) (by rfl) (pv 0) (as_cons (ed_sub (oe_var (pv 1)) (oe_var (pv 3)) (fun _ _ => rfl)) (as_cons (ed_var (pv 2)) (as_nil)))) (as_nil)))))) (oe_val (ed_slice (oe_var (pv 1)) (pp_in (ed_bin o_add (oe_var (pv 3)) (oe_val (ed_int)))) (pp_no)))))) (bd_nil))
  (bd_one (sd_ret (ed_sub (oe_val (ed_lst (as_cons (ed_bin o_add (oe_val (ed_slice (oe_var (pv 1)) (pp_no) (pp_in (ed_var (pv 3))))) (oe_val (ed_slice (oe_var (pv 1)) (pp_in (ed_bin o_add (oe_var (pv 3)) (oe_val (ed_int)))) (pp_no)))) (as_cons (ed_bin o_add (oe_val (ed_slice (oe_var (pv 1)) (pp_no) (pp_in (ed_bin o_add (oe_var (pv 3)) (oe_val (ed_int)))))) (oe_val (ed_slice (oe_var (pv 1)) (pp_in (ed_var (pv 3))) (pp_no)))) (as_cons (ed_callTy c_list (by rfl) T.z_list bo_list (os_cons (oe_var (pv 1)) (os_nil))) (as_nil)))))) (oe_val (ed_bin o_sub (oe_var (pv 4)) (oe_val (ed_int)))) (fun _ _ => rfl))))))))
/-! ### is_integer -/
abbrev st_is_integer : Stmt := top 1
theorem sc_is_integer : FnScope ["value"] ["value"] (defScope st_is_integer) := ⟨rfl, rfl, rfl, by decide +kernel, rfl, by decide +kernel, by decide +kernel⟩
def b_is_integer : FS :=
  sRet (eAnd (eInst (oVar 0) "int") (eNot (eInst (oVar 0) "bool")))
def p_is_integer : List D → Option Rs := runD 1 1 b_is_integer
theorem ok_is_integer (d : Def K mg "is_integer" st_is_integer ["value"]) (T : Mg mg) (sys : ∃ o, base.get? sysModules = some o) : Cal P w K mg base 1 "is_integer" ["value"] (spD K p_is_integer) :=
  cal_D (k := 0) d sc_is_integer fun f cdv A outer s H E gd hr =>
  bd_one (sd_ret (ed_and (ed_inst (by rfl) T.z_isinstance bo_isinstance (by rfl) T.z_int bo_int (oe_var (pv 0))) (ed_one (ed_not (ed_inst (by rfl) T.z_isinstance bo_isinstance (by rfl) T.z_bool bo_bool (oe_var (pv 0)))))))
/-! ### judge_rounds -/
abbrev st_judge_rounds : Stmt := top 5
theorem sc_judge_rounds : FnScope ["shuffle", "value", "due", "wrong", "around", "thing", "i"] ["shuffle", "value"] (defScope st_judge_rounds) := ⟨rfl, rfl, rfl, by decide +kernel, rfl, by decide +kernel, by decide +kernel⟩
def b_judge_rounds : FS :=
  bCons (sIf (tOr (tNot (tOf (eInst (oVar 1) "tuple"))) (tNot (tOf (eB gAll (oCons (oVal (eComp [4] (iSeq (fVar 1)) (gN 4) (tYs) (eInst (oVar 4) "tuple"))) (oNil)))))) (sRet (eTup (aCons (fC (.str "form")) (aNil)))) (sNx))
  (bCons (sIf (tNot (tOf (eB gAll (oCons (oVal (eComp [4] (iSeq (fVar 1)) (gN 4) (tYs) (eB gAll (oCons (oVal (eComp [5] (iSeq (fVar 4)) (gN 5) (tYs) (eCall p_is_integer (aCons (fVar 5) (aNil))))) (oNil))))) (oNil))))) (sRet (eTup (aCons (fC (.str "form")) (aNil)))) (sNx))
  (bCons (sSet 2 (eCall p_rounds_of (aCons (fVar 0) (aNil))))
  (bCons (sIf (tOf (eBin lNe (oVal (eB gLen (oCons (oVar 1) (oNil)))) (oVal (eB gLen (oCons (oVar 2) (oNil)))))) (sRet (eTup (aCons (fC (.str "many")) (aCons (eB gLen (oCons (oVar 2) (oNil))) (aNil))))) (sNx))
  (bCons (sSet 3 (eComp [6] (iRg1 (oCons (oVal (eB gLen (oCons (oVar 2) (oNil)))) (oNil))) (gN 6) (tOf (eBin lNe (oVal (eBin gIx (oVar 1) (oVar 6))) (oVal (eBin gIx (oVar 2) (oVar 6))))) (fVar 6)))
  (sRet (eIf (tOf (eBin lNe (oVar 3) (oVal (eLst (aNil))))) (eTup (aCons (fC (.str "round")) (aCons (eBin gIx (oVar 3) (oVal (fC (.int 0)))) (aCons (eBin gIx (oVar 2) (oVal (eBin gIx (oVar 3) (oVal (fC (.int 0)))))) (aNil))))) (fC .none)))))))
def p_judge_rounds : List D → Option Rs := runD 2 7 b_judge_rounds
theorem ok_judge_rounds (d : Def K mg "judge_rounds" st_judge_rounds ["shuffle", "value"]) (T : Mg mg) (sys : ∃ o, base.get? sysModules = some o) (c_is_integer : Cal P w K mg base 1 "is_integer" ["value"] (spD K p_is_integer)) (c_rounds_of : Cal P w K mg base 2 "rounds_of" ["shuffle"] (spD K p_rounds_of)) : Cal P w K mg base 3 "judge_rounds" ["shuffle", "value"] (spD K p_judge_rounds) :=
  cal_D (k := 2) d sc_judge_rounds fun f cdv A outer s H E gd hr =>
  bd_cons (sd_if (PW.pt (wd_or (td_not (td_val (ed_inst (by rfl) T.z_isinstance bo_isinstance (by rfl) T.z_tuple bo_tuple (oe_var (pv 1))))) (wd_or1 (td_not (td_val (ed_callB (c_all rfl) (by rfl) T.z_all bo_all (os_cons (oe_val (ed_lc (own := [("around", 4)]) rfl sc_judge_rounds.nd (id_seq (ed_var (pv 1))) (blk_of (by rfl)) (fun _ _ _ _ _ => gv_name sc_judge_rounds.nd rfl (by first | exact Or.inl rfl | exact Or.inr rfl) (by simp)) (fun _ _ _ _ _ => pts_yes) (fun _ _ _ _ _ => ed_inst (by rfl) T.z_isinstance bo_isinstance (by rfl) T.z_tuple bo_tuple (oe_var (pv 4))))) (os_nil)))))))) (bd_one (sd_ret (ed_tup (as_cons (ed_str) (as_nil))))) (bd_nil))
  (bd_cons (sd_if (td_not (td_val (ed_callB (c_all rfl) (by rfl) T.z_all bo_all (os_cons (oe_val (ed_lc (own := [("around", 4)]) rfl sc_judge_rounds.nd (id_seq (ed_var (pv 1))) (blk_of (by rfl)) (fun _ _ _ _ _ => gv_name sc_judge_rounds.nd rfl (by first | exact Or.inl rfl | exact Or.inr rfl) (by simp)) (fun _ _ _ _ _ => pts_yes) (fun _ _ _ _ _ => ed_callB (c_all rfl) (by rfl) T.z_all bo_all (os_cons (oe_val (ed_lc (own := [("thing", 5)]) rfl sc_judge_rounds.nd (id_seq (ed_var (pv 4))) (blk_of (by rfl)) (fun _ _ _ _ _ => gv_name sc_judge_rounds.nd rfl (by first | exact Or.inl rfl | exact Or.inr rfl) (by simp)) (fun _ _ _ _ _ => pts_yes) (fun _ _ _ _ _ => ec c_is_integer gd (hr.mono (by decide)) (by rfl) (as_cons (ed_var (pv 5)) (as_nil))))) (os_nil))))) (os_nil))))) (bd_one (sd_ret (ed_tup (as_cons (ed_str) (as_nil))))) (bd_nil))
  (bd_cons (sd_set (i := 2) sc_judge_rounds.nd rfl (by first | exact Or.inl rfl | exact Or.inr rfl) (ec c_rounds_of gd (hr.mono (by decide)) (by rfl) (as_cons (ed_var (pv 0)) (as_nil))))
  (bd_cons (sd_if (td_cmp (l_ne (u64 hr)) (oe_val (ed_callB c_len (by rfl) T.z_len bo_len (os_cons (oe_var (pv 1)) (os_nil)))) (oe_val (ed_callB c_len (by rfl) T.z_len bo_len (os_cons (oe_var (pv 2)) (os_nil)))) (nomark _)) (bd_one (sd_ret (ed_tup (as_cons (ed_str) (as_cons (ed_callB c_len (by rfl) T.z_len bo_len (os_cons (oe_var (pv 2)) (os_nil))) (as_nil)))))) (bd_nil))
  (bd_cons (sd_setLc (i := 3) (own := [("i", 6)]) rfl sc_judge_rounds.nd rfl rfl rfl (id_rg1 (by rfl) T.z_range (os_cons (oe_val (ed_callB c_len (by rfl) T.z_len bo_len (os_cons (oe_var (pv 2)) (os_nil)))) (os_nil))) (blk_of (by rfl)) (fun _ _ _ _ _ => gv_name sc_judge_rounds.nd rfl (by first | exact Or.inl rfl | exact Or.inr rfl) (by simp)) (fun _ _ _ _ _ => pts_one (td_cmp (l_ne (u64 hr)) (oe_val (ed_sub (oe_var (pv 1)) (oe_var (pv 6)) (fun _ _ => rfl))) (oe_val (ed_sub (oe_var (pv 2)) (oe_var (pv 6)) (fun _ _ => rfl))) (nomark _))) (fun _ _ _ _ _ => ed_var (pv 6)))
  (bd_one (sd_ret (ed_if (td_cmp (l_ne (u64 hr)) (oe_var (pv 3)) (oe_val (ed_lst (as_nil))) (nomark _)) (ed_tup (as_cons (ed_str) (as_cons (ed_sub (oe_var (pv 3)) (oe_val (ed_int)) (fun _ _ => rfl)) (as_cons (ed_sub (oe_var (pv 2)) (oe_val (ed_sub (oe_var (pv 3)) (oe_val (ed_int)) (fun _ _ => rfl))) (fun _ _ => rfl)) (as_nil))))) (ed_non))))))))
/-! ### _law_is_int -/
abbrev st__law_is_int : Stmt := top 13
theorem sc__law_is_int : FnScope ["value"] ["value"] (defScope st__law_is_int) := ⟨rfl, rfl, rfl, by decide +kernel, rfl, by decide +kernel, by decide +kernel⟩
def b__law_is_int : FS :=
  sRet (eAnd (eInst (oVar 0) "int") (eNot (eInst (oVar 0) "bool")))
def p__law_is_int : List D → Option Rs := runD 1 1 b__law_is_int
theorem ok__law_is_int (d : Def K mg "_law_is_int" st__law_is_int ["value"]) (T : Mg mg) (sys : ∃ o, base.get? sysModules = some o) : Cal P w K mg base 1 "_law_is_int" ["value"] (spD K p__law_is_int) :=
  cal_D (k := 0) d sc__law_is_int fun f cdv A outer s H E gd hr =>
  bd_one (sd_ret (ed_and (ed_inst (by rfl) T.z_isinstance bo_isinstance (by rfl) T.z_int bo_int (oe_var (pv 0))) (ed_one (ed_not (ed_inst (by rfl) T.z_isinstance bo_isinstance (by rfl) T.z_bool bo_bool (oe_var (pv 0)))))))
/-! ### _law_fault -/
abbrev st__law_fault : Stmt := top 16
theorem sc__law_fault : FnScope ["due", "value", "around", "wrong", "thing", "i"] ["due", "value"] (defScope st__law_fault) := ⟨rfl, rfl, rfl, by decide +kernel, rfl, by decide +kernel, by decide +kernel⟩
def b__law_fault : FS :=
  bCons (sIf (tOr (tNot (tOf (eInst (oVar 1) "tuple"))) (tOf (eBin lNe (oVal (eComp [2] (iSeq (fVar 1)) (gN 2) (tNot (tOf (eInst (oVar 2) "tuple"))) (fVar 2))) (oVal (eLst (aNil)))))) (sRet (eTup (aCons (fC (.str "form")) (aNil)))) (sNx))
  (bCons (sFor (iSeq (fVar 1)) (gN 2) (sIf (tOf (eBin lNe (oVal (eComp [4] (iSeq (fVar 2)) (gN 4) (tNot (tOf (eCall p__law_is_int (aCons (fVar 4) (aNil))))) (fVar 4))) (oVal (eLst (aNil))))) (sRet (eTup (aCons (fC (.str "form")) (aNil)))) (sNx)))
  (bCons (sIf (tOf (eBin lNe (oVal (eB gLen (oCons (oVar 1) (oNil)))) (oVal (eB gLen (oCons (oVar 0) (oNil)))))) (sRet (eTup (aCons (fC (.str "many")) (aCons (eB gLen (oCons (oVar 0) (oNil))) (aNil))))) (sNx))
  (bCons (sSet 3 (eComp [5] (iRg1 (oCons (oVal (eB gLen (oCons (oVar 0) (oNil)))) (oNil))) (gN 5) (tOf (eBin lNe (oVal (eBin gIx (oVar 1) (oVar 5))) (oVal (eBin gIx (oVar 0) (oVar 5))))) (fVar 5)))
  (sRet (eIf (tOf (eBin lNe (oVar 3) (oVal (eLst (aNil))))) (eTup (aCons (fC (.str "round")) (aCons (eBin gIx (oVar 3) (oVal (fC (.int 0)))) (aCons (eBin gIx (oVar 0) (oVal (eBin gIx (oVar 3) (oVal (fC (.int 0)))))) (aNil))))) (fC .none))))))
def p__law_fault : List D → Option Rs := runD 2 6 b__law_fault
theorem ok__law_fault (d : Def K mg "_law_fault" st__law_fault ["due", "value"]) (T : Mg mg) (sys : ∃ o, base.get? sysModules = some o) (c__law_is_int : Cal P w K mg base 1 "_law_is_int" ["value"] (spD K p__law_is_int)) : Cal P w K mg base 2 "_law_fault" ["due", "value"] (spD K p__law_fault) :=
  cal_D (k := 1) d sc__law_fault fun f cdv A outer s H E gd hr =>
  bd_cons (sd_if (PW.pt (wd_or (td_not (td_val (ed_inst (by rfl) T.z_isinstance bo_isinstance (by rfl) T.z_tuple bo_tuple (oe_var (pv 1))))) (wd_or1 (td_cmp (l_ne (u64 hr)) (oe_val (ed_lc (own := [("around", 2)]) rfl sc__law_fault.nd (id_seq (ed_var (pv 1))) (blk_of (by rfl)) (fun _ _ _ _ _ => gv_name sc__law_fault.nd rfl (by first | exact Or.inl rfl | exact Or.inr rfl) (by simp)) (fun _ _ _ _ _ => pts_one (td_not (td_val (ed_inst (by rfl) T.z_isinstance bo_isinstance (by rfl) T.z_tuple bo_tuple (oe_var (pv 2)))))) (fun _ _ _ _ _ => ed_var (pv 2)))) (oe_val (ed_lst (as_nil))) (nomark _))))) (bd_one (sd_ret (ed_tup (as_cons (ed_str) (as_nil))))) (bd_nil))
  (bd_cons (sd_for PassesOwn.never rfl (id_seq (ed_var (pv 1))) (gd_name sc__law_fault.nd rfl (by first | exact Or.inl rfl | exact Or.inr rfl)) (bd_one (sd_if (td_cmp (l_ne (u64 hr)) (oe_val (ed_lc (own := [("thing", 4)]) rfl sc__law_fault.nd (id_seq (ed_var (pv 2))) (blk_of (by rfl)) (fun _ _ _ _ _ => gv_name sc__law_fault.nd rfl (by first | exact Or.inl rfl | exact Or.inr rfl) (by simp)) (fun _ _ _ _ _ => pts_one (td_not (td_val (ec c__law_is_int gd (hr.mono (by decide)) (by rfl) (as_cons (ed_var (pv 4)) (as_nil)))))) (fun _ _ _ _ _ => ed_var (pv 4)))) (oe_val (ed_lst (as_nil))) (nomark _)) (bd_one (sd_ret (ed_tup (as_cons (ed_str) (as_nil))))) (bd_nil))))
  (bd_cons (sd_if (td_cmp (l_ne (u64 hr)) (oe_val (ed_callB c_len (by rfl) T.z_len bo_len (os_cons (oe_var (pv 1)) (os_nil)))) (oe_val (ed_callB c_len (by rfl) T.z_len bo_len (os_cons (oe_var (pv 0)) (os_nil)))) (nomark _)) (bd_one (sd_ret (ed_tup (as_cons (ed_str) (as_cons (ed_callB c_len (by rfl) T.z_len bo_len (os_cons (oe_var (pv 0)) (os_nil))) (as_nil)))))) (bd_nil))
  (bd_cons (sd_setLc (i := 3) (own := [("i", 5)]) rfl sc__law_fault.nd rfl rfl rfl (id_rg1 (by rfl) T.z_range (os_cons (oe_val (ed_callB c_len (by rfl) T.z_len bo_len (os_cons (oe_var (pv 0)) (os_nil)))) (os_nil))) (blk_of (by rfl)) (fun _ _ _ _ _ => gv_name sc__law_fault.nd rfl (by first | exact Or.inl rfl | exact Or.inr rfl) (by simp)) (fun _ _ _ _ _ => pts_one (td_cmp (l_ne (u64 hr)) (oe_val (ed_sub (oe_var (pv 1)) (oe_var (pv 5)) (fun _ _ => rfl))) (oe_val (ed_sub (oe_var (pv 0)) (oe_var (pv 5)) (fun _ _ => rfl))) (nomark _))) (fun _ _ _ _ _ => ed_var (pv 5)))
  (bd_one (sd_ret (ed_if (td_cmp (l_ne (u64 hr)) (oe_var (pv 3)) (oe_val (ed_lst (as_nil))) (nomark _)) (ed_tup (as_cons (ed_str) (as_cons (ed_sub (oe_var (pv 3)) (oe_val (ed_int)) (fun _ _ => rfl)) (as_cons (ed_sub (oe_var (pv 0)) (oe_val (ed_sub (oe_var (pv 3)) (oe_val (ed_int)) (fun _ _ => rfl))) (fun _ _ => rfl)) (as_nil))))) (ed_non)))))))
/-! ### law -/
abbrev st_law : Stmt := top 17
theorem sc_law : FnScope ["script", "source", "odd", "lap", "shuffle", "due", "deep", "values", "value", "held", "around", "look"] ["script"] (defScope st_law) := ⟨rfl, rfl, rfl, by decide +kernel, rfl, by decide +kernel, by decide +kernel⟩
def b_law : FS :=
  bCons (sSet 2 (eLst (aCons (fC .none) (aCons (fC (.bool true)) (aCons (fC (.bool false)) (aCons (fC (.int 0)) (aCons (fC (.int 1)) (aCons (eUn gNeg (oVal (fC (.int 1)))) (aCons (fC (.str "")) (aCons (eTup (aNil)) (aCons (eTup (aCons (fC (.int 0)) (aNil))) (aCons (eTup (aCons (eTup (aCons (fC (.int 0)) (aNil))) (aNil))) (aCons (eTup (aCons (eTup (aCons (fC (.bool true)) (aNil))) (aNil))) (aCons (eLst (aNil)) (aCons (eDNew false) (aCons (eLst (aCons (fC (.int 1)) (aNil))) (aCons (eTup (aCons (eTup (aCons (fC (.int 0)) (aCons (fC (.int 1)) (aNil)))) (aNil))) (aCons (eTup (aCons (eTup (aNil)) (aCons (eTup (aNil)) (aNil)))) (aCons (eBin gPow (oVal (fC (.int 10))) (oVal (fC (.int 30)))) (aNil))))))))))))))))))))
  (bCons (sFor (iRg1 (oCons (oVal (fC (.int 3))) (oNil))) (gN 3) (bCons (sSet 4 (eCallS 1 p__law_shuffle (aCons (eCallS 1 gPick (aCons (fC (.int 9)) (aNil))) (aNil))))
    (bCons (sPar [5, 6] (rCons (eCall p__law_rounds (aCons (fVar 4) (aNil))) (rCons (eCallS 1 p__law_deep (aCons (fVar 2) (aNil))) (rNil))))
    (bCons (sIf (tOf (eBin lNe (oVal (eB gRepr (oCons (oVal (eCall p_rounds_of (aCons (fVar 4) (aNil)))) (oNil)))) (oVal (eB gRepr (oCons (oVar 5) (oNil)))))) (sRet (fC (.bool false))) (sNx))
    (bCons (sSet 7 (eLst (aCons (fVar 5) (aCons (eB gList (oCons (oVar 5) (oNil))) (aCons (eUn gRev (oVar 5)) (aCons (eBin gAdd (oVar 5) (oVal (eSl (oVar 5) (pNo) (pIn (fC (.int 1)))))) (aCons (eSl (oVar 5) (pIn (fC (.int 1))) (pNo)) (aCons (eSl (oVar 5) (pNo) (pIn (eUn gNeg (oVal (fC (.int 1)))))) (aCons (fVar 6) (aCons (eTup (aCons (fVar 6) (aNil))) (aCons (eBin gAdd (oVar 5) (oVal (eTup (aCons (fVar 6) (aNil))))) (aNil))))))))))))
    (bCons (sSet 7 (eBin gAdd (oVar 7) (oVal (eLst (aCons (eB gTuple (oCons (oVal (eComp [10] (iSeq (fVar 5)) (gN 10) (tYs) (eBin gAdd (oVal (eSl (oVar 10) (pIn (fC (.int 1))) (pNo))) (oVal (eSl (oVar 10) (pNo) (pIn (fC (.int 1)))))))) (oNil))) (aCons (eB gTuple (oCons (oVal (eComp [10] (iSeq (fVar 5)) (gN 10) (tYs) (eB gList (oCons (oVar 10) (oNil))))) (oNil))) (aNil)))))))
    (bCons (sSet 7 (eBin gAdd (oVar 7) (oVal (eLst (aCons (eB gTuple (oCons (oVal (eComp [10] (iSeq (fVar 5)) (gN 10) (tYs) (eUn gRev (oVar 10)))) (oNil))) (aCons (eCall p__law_rounds (aCons (eCallS 1 p__law_shuffle (aCons (eB gLen (oCons (oVar 4) (oNil))) (aNil))) (aNil))) (aNil)))))))
    (sFor (iSeq (eBin gAdd (oVal (eBin gAdd (oVar 7) (oVar 2))) (oVal (eComp [11] (iRg1 (oCons (oVal (fC (.int 12))) (oNil))) (gN 11) (tYs) (eCallS 1 (p__law_bent rec__law_bent) (aCons (fVar 5) (aCons (fVar 2) (aNil)))))))) (gN 8) (bCons (sSet 9 (eB gRepr (oCons (oVar 8) (oNil))))
      (sIf (tOr (tOf (eBin lNe (oVal (eB gRepr (oCons (oVal (eCall p_judge_rounds (aCons (fVar 4) (aCons (fVar 8) (aNil))))) (oNil)))) (oVal (eB gRepr (oCons (oVal (eCall p__law_fault (aCons (fVar 5) (aCons (fVar 8) (aNil))))) (oNil)))))) (tOf (eBin lNe (oVal (eB gRepr (oCons (oVar 8) (oNil)))) (oVar 9)))) (sRet (fC (.bool false))) (sNx)))))))))))
  (sRet (fC (.bool true))))
theorem ok_law {f : Addr} {fd : FuncData} (F : Fun K "law" "law" st_law f fd) (T : Mg mg) (sys : ∃ o, base.get? sysModules = some o) (c__law_bent : Cal P w K mg base 11 "_law_bent" ["source", "value", "odd"] (spS K (p__law_bent rec__law_bent))) (c__law_deep : Cal P w K mg base 3 "_law_deep" ["source", "odd"] (spS K p__law_deep)) (c__law_fault : Cal P w K mg base 2 "_law_fault" ["due", "value"] (spD K p__law_fault)) (c__law_pick : Cal P w K mg base 1 "_law_pick" ["source", "most"] (spS K gPick)) (c__law_rounds : Cal P w K mg base 1 "_law_rounds" ["shuffle"] (spD K p__law_rounds)) (c__law_shuffle : Cal P w K mg base 3 "_law_shuffle" ["source", "n"] (spS K p__law_shuffle)) (c_judge_rounds : Cal P w K mg base 3 "judge_rounds" ["shuffle", "value"] (spD K p_judge_rounds)) (c_rounds_of : Cal P w K mg base 2 "rounds_of" ["shuffle"] (spD K p_rounds_of)) (c__law_open_cells : Cal P w K mg base 1 "_law_open_cells" ["script"] (spOpen K)) (hl : ∀ S, ∃ e', b_law (lawEnv 10 S) = some (.rt (.val (.bool true)), e')) : FnG P w K mg base 12 f fd ["script"] (spLaw K) :=
  law_cal (k := 11) F sc_law rfl rfl (c__law_open_cells.mono (by decide)) rfl (by first | exact Or.inl rfl | exact Or.inr rfl) rfl (by decide) (fun cdv A outer s H E gd hr =>
  bd_cons (sd_set (i := 2) sc_law.nd rfl (by first | exact Or.inl rfl | exact Or.inr rfl) (ed_lst (as_cons (ed_non) (as_cons (ed_bl) (as_cons (ed_bl) (as_cons (ed_int) (as_cons (ed_int) (as_cons (ed_un u_neg (oe_val (ed_int))) (as_cons (ed_str) (as_cons (ed_tup (as_nil)) (as_cons (ed_tup (as_cons (ed_int) (as_nil))) (as_cons (ed_tup (as_cons (ed_tup (as_cons (ed_int) (as_nil))) (as_nil))) (as_cons (ed_tup (as_cons (ed_tup (as_cons (ed_bl) (as_nil))) (as_nil))) (as_cons (ed_lst (as_nil)) (as_cons (ed_dnewK) (as_cons (ed_lst (as_cons (ed_int) (as_nil))) (as_cons (ed_tup (as_cons (ed_tup (as_cons (ed_int) (as_cons (ed_int) (as_nil)))) (as_nil))) (as_cons (ed_tup (as_cons (ed_tup (as_nil)) (as_cons (ed_tup (as_nil)) (as_nil)))) (as_cons (ed_bin o_pow (oe_val (ed_int)) (oe_val (ed_int))) (as_nil))))))))))))))))))))
  (bd_cons (sd_for PassesOwn.never rfl (id_rg1 (by rfl) T.z_range (os_cons (oe_val (ed_int)) (os_nil))) (gd_name sc_law.nd rfl (by first | exact Or.inl rfl | exact Or.inr rfl)) (bd_cons (sd_set (i := 4) sc_law.nd rfl (by first | exact Or.inl rfl | exact Or.inr rfl) (ecS c__law_shuffle gd (hr.mono (by decide)) (by rfl) (pv 1) (as_cons (ecS c__law_pick gd (hr.mono (by decide)) (by rfl) (pv 1) (as_cons (ed_int) (as_nil))) (as_nil))))
    (bd_cons (sd_parG rfl (gs_cons (i := 5) sc_law.nd rfl (by first | exact Or.inl rfl | exact Or.inr rfl) (gs_cons (i := 6) sc_law.nd rfl (by first | exact Or.inl rfl | exact Or.inr rfl) (gs_nil))) (rs_cons (ec c__law_rounds gd (hr.mono (by decide)) (by rfl) (as_cons (ed_var (pv 4)) (as_nil))) (rs_cons (ecS c__law_deep gd (hr.mono (by decide)) (by rfl) (pv 1) (as_cons (ed_var (pv 2)) (as_nil))) (rs_nil))) (small_le (by decide)))
    (bd_cons (sd_if (td_cmp (l_ne (u64 hr)) (oe_val (ed_callB (c_repr gd (hr.mono (by decide)) sys) (by rfl) T.z_repr bo_repr (os_cons (oe_val (ec c_rounds_of gd (hr.mono (by decide)) (by rfl) (as_cons (ed_var (pv 4)) (as_nil)))) (os_nil)))) (oe_val (ed_callB (c_repr gd (hr.mono (by decide)) sys) (by rfl) T.z_repr bo_repr (os_cons (oe_var (pv 5)) (os_nil)))) (nomark _)) (bd_one (sd_ret (ed_bl))) (bd_nil))
    (bd_cons (sd_set (i := 7) sc_law.nd rfl (by first | exact Or.inl rfl | exact Or.inr rfl) (ed_lst (as_cons (ed_var (pv 5)) (as_cons (ed_callTy c_list (by rfl) T.z_list bo_list (os_cons (oe_var (pv 5)) (os_nil))) (as_cons (ed_rev (oe_var (pv 5))) (as_cons (ed_bin o_add (oe_var (pv 5)) (oe_val (ed_slice (oe_var (pv 5)) (pp_no) (pp_in (ed_int))))) (as_cons (ed_slice (oe_var (pv 5)) (pp_in (ed_int)) (pp_no)) (as_cons (ed_slice (oe_var (pv 5)) (pp_no) (pp_in (ed_un u_neg (oe_val (ed_int))))) (as_cons (ed_var (pv 6)) (as_cons (ed_tup (as_cons (ed_var (pv 6)) (as_nil))) (as_cons (ed_bin o_add (oe_var (pv 5)) (oe_val (ed_tup (as_cons (ed_var (pv 6)) (as_nil))))) (as_nil))))))))))))
    (bd_cons (sd_set (i := 7) sc_law.nd rfl (by first | exact Or.inl rfl | exact Or.inr rfl) (ed_bin o_add (oe_var (pv 7)) (oe_val (ed_lst (as_cons (ed_callTy c_tuple (by rfl) T.z_tuple bo_tuple (os_cons (oe_val (ed_lc (own := [("around", 10)]) rfl sc_law.nd (id_seq (ed_var (pv 5))) (blk_of (by rfl)) (fun _ _ _ _ _ => gv_name sc_law.nd rfl (by first | exact Or.inl rfl | exact Or.inr rfl) (by simp)) (fun _ _ _ _ _ => pts_yes) (fun _ _ _ _ _ => ed_bin o_add (oe_val (ed_slice (oe_var (pv 10)) (pp_in (ed_int)) (pp_no))) (oe_val (ed_slice (oe_var (pv 10)) (pp_no) (pp_in (ed_int))))))) (os_nil))) (as_cons (ed_callTy c_tuple (by rfl) T.z_tuple bo_tuple (os_cons (oe_val (ed_lc (own := [("around", 10)]) rfl sc_law.nd (id_seq (ed_var (pv 5))) (blk_of (by rfl)) (fun _ _ _ _ _ => gv_name sc_law.nd rfl (by first | exact Or.inl rfl | exact Or.inr rfl) (by simp)) (fun _ _ _ _ _ => pts_yes) (fun _ _ _ _ _ => ed_callTy c_list (by rfl) T.z_list bo_list (os_cons (oe_var (pv 10)) (os_nil))))) (os_nil))) (as_nil)))))))
    (bd_cons (sd_set (i := 7) sc_law.nd rfl (by first | exact Or.inl rfl | exact Or.inr rfl) (ed_bin o_add (oe_var (pv 7)) (oe_val (ed_lst (as_cons (ed_callTy c_tuple (by rfl) T.z_tuple bo_tuple (os_cons (oe_val (ed_lc (own := [("around", 10)]) rfl sc_law.nd (id_seq (ed_var (pv 5))) (blk_of (by rfl)) (fun _ _ _ _ _ => gv_name sc_law.nd rfl (by first | exact Or.inl rfl | exact Or.inr rfl) (by simp)) (fun _ _ _ _ _ => pts_yes) (fun _ _ _ _ _ => ed_rev (oe_var (pv 10))))) (os_nil))) (as_cons (ec c__law_rounds gd (hr.mono (by decide)) (by rfl) (as_cons (ecS c__law_shuffle gd (hr.mono (by decide)) (by rfl) (pv 1) (as_cons (ed_callB c_len (by rfl) T.z_len bo_len (os_cons (oe_var (pv 4)) (os_nil))) (as_nil))) (as_nil))) (as_nil)))))))
    (bd_one (sd_for PassesOwn.never rfl (id_seq (ed_bin o_add (oe_val (ed_bin o_add (oe_var (pv 7)) (oe_var (pv 2)))) (oe_val (ed_lc (own := [("look", 11)]) rfl sc_law.nd (id_rg1 (by rfl) T.z_range (os_cons (oe_val (ed_int)) (os_nil))) (blk_of (by rfl)) (fun _ _ _ _ _ => gv_name sc_law.nd rfl (by first | exact Or.inl rfl | exact Or.inr rfl) (by simp)) (fun _ _ _ _ _ => pts_yes) (fun _ _ _ _ _ => ecS c__law_bent gd (hr.mono (by decide)) (by rfl) (pv 1) (as_cons (ed_var (pv 5)) (as_cons (ed_var (pv 2)) (as_nil)))))))) (gd_name sc_law.nd rfl (by first | exact Or.inl rfl | exact Or.inr rfl)) (bd_cons (sd_set (i := 9) sc_law.nd rfl (by first | exact Or.inl rfl | exact Or.inr rfl) (ed_callB (c_repr gd (hr.mono (by decide)) sys) (by rfl) T.z_repr bo_repr (os_cons (oe_var (pv 8)) (os_nil))))
      (bd_one (sd_if (PW.pt (wd_or (td_cmp (l_ne (u64 hr)) (oe_val (ed_callB (c_repr gd (hr.mono (by decide)) sys) (by rfl) T.z_repr bo_repr (os_cons (oe_val (ec c_judge_rounds gd (hr.mono (by decide)) (by rfl) (as_cons (ed_var (pv 4)) (as_cons (ed_var (pv 8)) (as_nil))))) (os_nil)))) (oe_val (ed_callB (c_repr gd (hr.mono (by decide)) sys) (by rfl) T.z_repr bo_repr (os_cons (oe_val (ec c__law_fault gd (hr.mono (by decide)) (by rfl) (as_cons (ed_var (pv 5)) (as_cons (ed_var (pv 8)) (as_nil))))) (os_nil)))) (nomark _)) (wd_or1 (td_cmp (l_ne (u64 hr)) (oe_val (ed_callB (c_repr gd (hr.mono (by decide)) sys) (by rfl) T.z_repr bo_repr (os_cons (oe_var (pv 8)) (os_nil)))) (oe_var (pv 9)) (nomark _))))) (bd_one (sd_ret (ed_bl))) (bd_nil)))))))))))))
  (bd_one (sd_ret (ed_bl))))) hl
end
end Law
end EL
namespace EL
open PySem PySem.Spec PyProof.Rows L2
namespace Law
instance : KC := ⟨fun _ => false⟩
theorem ixN_in {n : Nat} {i : Int} (h0 : 0 ≤ i) (h1 : i < n) : ixN n i = some i.toNat := by unfold ixN; rw [if_pos h0, if_pos h1]
theorem atI_of {α : Type} {l : List α} {i : Int} (h0 : 0 ≤ i) (h1 : i < l.length) : ∃ a, L2.atI l i = some a ∧ a ∈ l := by
  unfold L2.atI
  rw [ixN_in h0 h1]
  have h2 : i.toNat < l.length := by omega
  exact ⟨l[i.toNat], by simp [h2], List.getElem_mem _⟩
theorem draw {m : Int} (h : 1 ≤ m) (h2 : m < 1073741824) (S : Src) : ∃ r S', gPick [.int m] S = some (.val (.int r), S') ∧ 0 ≤ r ∧ r < m := by
  have := pk_lt h S
  refine ⟨(pk m S).1, (pk m S).2, ?_, this.1, this.2⟩
  show (if pickOk m = true then _ else _) = _
  rw [if_pos (show pickOk m = true from hid ⟨h, h2⟩)]
theorem v_of {ds : List D} (h : ds ≠ []) (h2 : ds.length < 1073741824) (S : Src) : ∃ d S', p__law_of [.list ds] S = some (.val d, S') ∧ d ∈ ds := by
  have h1 : 1 ≤ (ds.length : Int) := by have := List.length_pos_iff.mpr h; omega
  obtain ⟨r, S', e, r0, r1⟩ := draw h1 (by omega) S
  obtain ⟨d, e2, m⟩ := atI_of r0 r1
  refine ⟨d, S', ?_, m⟩
  unfold p__law_of b__law_of
  simp [runS, args, sRet, eBin, oVar, oVal, rd, eCallS, aCons, aNil, eB, oCons, oNil, gLen, e, gIx, e2, Ent.d, Rs.d, out]

theorem inW_nat {n : Nat} (h : n ≤ 16777216) : inW (n : Int) = true := hid (by omega)
theorem inW_of {r : Int} (h0 : 0 ≤ r) (h : r ≤ 16777216) : inW r = true := hid (by omega)
theorem seqIx_in {n : Nat} {r : Int} (r0 : 0 ≤ r) (r1 : r < n) : seqIndex? r n = some r.toNat := by
  unfold seqIndex?
  simp [show ¬ r < 0 by omega, r0, r1]
theorem perm_pop {α : Type} : ∀ {l : List α} {i : Nat} (h : i < l.length), (l[i] :: l.eraseIdx i).Perm l
  | a :: l, 0, h => by simp
  | a :: l, i + 1, h => by
    have h' : i < l.length := by simpa using h
    simp only [List.getElem_cons_succ, List.eraseIdx_cons_succ]
    exact (List.Perm.swap _ _ _).trans ((perm_pop h').cons a)
/-! ### shuffles -/
theorem v_mixed {ds : List D} (h2 : ds.length < 16777216) (S : Src) : ∃ out S', p__law_mixed [.list ds] S = some (.fl out, S') ∧ out.Perm ds := by
  obtain ⟨out, e', q1, q2, q3⟩ := compL_inv (vs := [3]) (g := gN 3) (t := tYs) (F := mPopAt 2 (eCallS 0 gPick (aCons (eB gLen (oCons (oVar 2) (oNil))) (aNil))))
    (fun rem acc e => ∃ rest S, e = ⟨[some .src, some (.val (.list ds)), some (.ol rest), none], S⟩ ∧ (acc ++ rest).Perm ds ∧ rest.length = rem.length ∧ rest.length ≤ ds.length) (rgL 0 ds.length) []
    ⟨[some .src, some (.val (.list ds)), some (.ol ds), none], S⟩ ⟨ds, S, rfl, by simp, by simp [rgL], Nat.le_refl _⟩ (by
      rintro d rem acc e ⟨rest, S, rfl, hp, hl, hle⟩
      have hl' : rest.length = rem.length + 1 := by simpa using hl
      obtain ⟨r, S', e, r0, r1⟩ := draw (m := (rest.length : Int)) (by omega) (by omega) S
      have hr : r.toNat < rest.length := by omega
      have hw : inW r = true := inW_of r0 (by omega)
      have hs : seqIndex? r rest.length = some r.toNat := seqIx_in r0 r1
      have hg : rest[r.toNat]? = some rest[r.toNat] := by simp [hr]
      refine ⟨⟨[some .src, some (.val (.list ds)), some (.ol rest), some (.val d)], S⟩, by simp [gN, EE.put], _, rfl, .val rest[r.toNat], ⟨[some .src, some (.val (.list ds)), some (.ol (rest.eraseIdx r.toNat)), some (.val d)], S'⟩, ?_, rest.eraseIdx r.toNat, S', by simp [wipeE, EE.put], ?_, ?_, ?_⟩
      · simp [mPopAt, lstAt, eCallS, aCons, aNil, eB, oCons, oNil, oVar, rd, Ent.d, Rs.d, gLen, e, hw, hs, EE.put]
        simp [hr]
      · refine List.Perm.trans ?_ hp
        rw [List.append_assoc]
        exact List.Perm.append_left acc (perm_pop hr)
      · rw [List.length_eraseIdx_of_lt hr]; omega
      · rw [List.length_eraseIdx_of_lt hr]; omega)
  obtain ⟨rest, S', rfl, hp, hl, _⟩ := q3
  have hr : rest = [] := List.length_eq_zero_iff.mp (by simpa using hl)
  subst hr
  refine ⟨out, S', ?_, by simpa using hp⟩
  have hz : small out.length = true := small_le (by rw [q2]; simp [rgL]; omega)
  have hw : inW (ds.length : Int) = true := inW_nat (by omega)
  unfold p__law_mixed b__law_mixed
  simp [runS, args, bCons, sSet, eB, oCons, oNil, oVar, rd, Ent.d, gList, Rs.ent, EE.put, sRet, eComp, iRg1, oVal, gLen, Rs.d, hw, wipeE, q1, hz, restE, keepV, EL.out]
end Law
end EL
namespace EL
open PySem PySem.Spec PyProof.Rows L2
namespace Law
def dI (l : List Nat) : List D := l.map fun (k : Nat) => .int (k : Int)
def lastN (l : List Nat) (t : Nat) : Nat := l.getLastD t
theorem dI_len (l : List Nat) : (dI l).length = l.length := by simp [dI]
theorem rgL_eq (n : Nat) : rgL 0 n = dI (List.range n) := by simp [rgL, dI]
theorem perm_dI {out : List D} {n : Nat} (h : out.Perm (dI (List.range n))) : ∃ l : List Nat, out = dI l ∧ l.Perm (List.range n) := by
  refine ⟨out.map fun d => match d with | .int i => i.toNat | _ => 0, ?_, ?_⟩
  · unfold dI
    rw [List.map_map]
    refine (List.map_id _).symm.trans (List.map_congr_left fun d hd => ?_)
    obtain ⟨k, hk, rfl⟩ := List.mem_map.mp (h.mem_iff.mp hd)
    rfl
  · have := h.map fun d => match d with | .int i => i.toNat | _ => 0
    have e : (dI (List.range n)).map (fun d => match d with | .int i => i.toNat | _ => 0) = List.range n := by
      unfold dI
      rw [List.map_map]
      exact (List.map_congr_left fun k _ => rfl).trans (List.map_id _)
    rwa [e] at this
theorem rgOk_n {n : Nat} (h : n ≤ 16777216) : rgOk 0 n = true := by
  unfold rgOk
  rw [Bool.and_eq_true, Bool.and_eq_true]
  exact ⟨⟨hid (by omega), hid (by omega)⟩, small_le (by omega)⟩
theorem v_shuffle {n : Nat} (hn : n ≤ 8) (S : Src) : ∃ l S', p__law_shuffle [.int n] S = some (.val (.tuple (dI l)), S') ∧ l.Perm (List.range n) := by
  obtain ⟨out, S', e, hp⟩ := v_mixed (ds := rgL 0 n) (by simp [rgL]; omega) S
  rw [rgL_eq] at hp
  obtain ⟨l, rfl, hl⟩ := perm_dI hp
  refine ⟨l, S', ?_, hl⟩
  have hz : rgOk 0 (n : Int) = true := rgOk_n (by omega)
  unfold p__law_shuffle b__law_shuffle
  simp [runS, args, sRet, eB, oCons, oVal, oNil, eCallS, aCons, aNil, eRg, oVar, rd, Ent.d, hz, Rs.d, e, gTuple, EL.out]

/-! ### a round, walked -/
def orb (f : Nat → Nat) (t : Nat) : Nat → List Nat → Option (List Nat)
  | 0, _ => none
  | n + 1, acc => if f (lastN acc t) = t then some acc else orb f t n (acc ++ [f (lastN acc t)])
theorem nodup_le : ∀ (n : Nat) (l : List Nat), l.Nodup → (∀ x ∈ l, x < n) → l.length ≤ n
  | 0, l, _, h => by
    cases l with
    | nil => simp
    | cons a _ => exact absurd (h a List.mem_cons_self) (by omega)
  | n + 1, l, nd, h => by
    have e := nodup_le n (l.erase n) (nd.erase n) (fun x hx => by
      have h1 := h x (List.mem_of_mem_erase hx)
      have h2 : x ≠ n := fun z => List.Nodup.not_mem_erase nd (z ▸ hx)
      omega)
    have := List.length_erase (a := n) (l := l)
    split at this <;> omega
theorem lastD_eq {l : List Nat} (h : l ≠ []) (t : Nat) : lastN l t = l.getLast h := by
  unfold lastN
  cases l with
  | nil => exact absurd rfl h
  | cons a l => simp [List.getLastD]
theorem orb_ends {f : Nat → Nat} {n t : Nat} (inj : ∀ x y, x < n → y < n → f x = f y → x = y) (into : ∀ x, x < n → f x < n) : ∀ (k : Nat) (acc : List Nat), acc.Nodup → (∀ x ∈ acc, x < n) → acc ≠ [] →
    (∀ x ∈ acc, x = t ∨ ∃ y ∈ acc.dropLast, f y = x) → n < acc.length + k → ∃ r, orb f t k acc = some r ∧ (∀ x ∈ r, x < n) ∧ r.Nodup ∧ r ≠ []
  | 0, acc, nd, lt, _, _, hn => by have := nodup_le n acc nd lt; omega
  | k + 1, acc, nd, lt, ne, ch, hn => by
    unfold orb
    rw [lastD_eq ne]
    by_cases h : f (acc.getLast ne) = t
    · rw [if_pos h]; exact ⟨acc, rfl, lt, nd, ne⟩
    · rw [if_neg h]
      have lm := List.getLast_mem ne
      have sp := List.dropLast_concat_getLast ne
      have nin : f (acc.getLast ne) ∉ acc := fun hm => by
        rcases ch _ hm with z | ⟨y, hy, hf⟩
        · exact h z
        · have := inj y (acc.getLast ne) (lt y (List.dropLast_subset _ hy)) (lt _ lm) hf
          rw [← sp, List.nodup_append] at nd
          exact nd.2.2 y hy (acc.getLast ne) (by simp) this
      refine orb_ends inj into k (acc ++ [f (acc.getLast ne)]) ?_ ?_ (by simp) ?_ (by simp; omega)
      · rw [List.nodup_append]
        exact ⟨nd, by simp, fun a ha b hb => by rw [List.mem_singleton.mp hb]; exact fun z => nin (z ▸ ha)⟩
      · intro x hx
        rcases List.mem_append.mp hx with hx | hx
        · exact lt x hx
        · rw [List.mem_singleton.mp hx]; exact into _ (lt _ lm)
      · intro x hx
        rw [List.dropLast_concat]
        rcases List.mem_append.mp hx with hx | hx
        · rcases ch x hx with z | ⟨y, hy, hf⟩
          · exact .inl z
          · exact .inr ⟨y, List.dropLast_subset _ hy, hf⟩
        · exact .inr ⟨acc.getLast ne, lm, (List.mem_singleton.mp hx).symm⟩
def fA (l : List Nat) (x : Nat) : Nat := l.getD x 0
def around (f : Nat → Nat) (t : Nat) : List Nat := (orb f t 64 [t]).getD []
/-- the shuffle's own facts -/
structure Shf (n : Nat) (l : List Nat) : Prop where
  p : l.Perm (List.range n)
  le : n ≤ 8
section
variable {n t : Nat} {l : List Nat}
theorem Shf.len (h : Shf n l) : l.length = n := by have := h.p.length_eq; simpa using this
theorem Shf.into (h : Shf n l) {x : Nat} (hx : x < n) : fA l x < n := by
  have hl : x < l.length := by rw [h.len]; exact hx
  have : fA l x = l[x] := by simp [fA, hl]
  rw [this]
  have := h.p.mem_iff.mp (List.getElem_mem hl)
  simpa using this
theorem Shf.inj (h : Shf n l) {x y : Nat} (hx : x < n) (hy : y < n) (e : fA l x = fA l y) : x = y := by
  have h1 : x < l.length := by rw [h.len]; exact hx
  have h2 : y < l.length := by rw [h.len]; exact hy
  have e1 : fA l x = l[x] := by simp [fA, h1]
  have e2 : fA l y = l[y] := by simp [fA, h2]
  have nd : l.Nodup := h.p.nodup_iff.mpr List.nodup_range
  rw [e1, e2] at e
  exact (List.getElem_inj nd).mp e
theorem Shf.orb (h : Shf n l) (ht : t < n) : orb (fA l) t 64 [t] = some (around (fA l) t) ∧ (∀ x ∈ around (fA l) t, x < n) ∧ (around (fA l) t).length ≤ n := by
  obtain ⟨r, q1, q2, q3, _⟩ := orb_ends (f := fA l) (t := t) (fun x y => h.inj) (fun x => h.into) 64 [t] (by simp) (by simpa using ht) (by simp) (by simp) (by have := h.le; simp; omega)
  have e : around (fA l) t = r := by unfold around; rw [q1]; rfl
  rw [e]
  exact ⟨q1, q2, nodup_le n r q3 q2⟩
end
theorem wh_orb {T : FT} {B : FS} {f : Nat → Nat} {t n : Nat} (mk : List Nat → EE) (into : ∀ x, x < n → f x < n)
    (hT : ∀ acc, acc ≠ [] → (∀ x ∈ acc, x < n) → T (mk acc) = some (!decide (f (lastN acc t) = t), mk acc))
    (hB : ∀ acc, acc ≠ [] → (∀ x ∈ acc, x < n) → acc.length ≤ 100 → B (mk acc) = some (.nx, mk (acc ++ [f (lastN acc t)]))) : ∀ (k : Nat) (acc r : List Nat), acc ≠ [] → (∀ x ∈ acc, x < n) → acc.length + k ≤ 100 → orb f t k acc = some r → whL T B k (mk acc) = some (.nx, mk r)
  | 0, acc, r, _, _, _, h => by cases h
  | k + 1, acc, r, ne, lt, hk, h => by
    unfold orb at h
    unfold whL
    rw [hT acc ne lt, Option.bind_some]
    by_cases z : f (lastN acc t) = t
    · rw [if_pos z] at h
      cases h
      rw [decide_eq_true z]
      rfl
    · rw [if_neg z] at h
      have := wh_orb mk into hT hB k (acc ++ [f (lastN acc t)]) r (by simp) (fun x hx => by
        rcases List.mem_append.mp hx with hx | hx
        · exact lt x hx
        · rw [List.mem_singleton.mp hx, lastD_eq ne]; exact into _ (lt _ (List.getLast_mem ne))) (by simp; omega) h
      rw [decide_eq_false z]
      dsimp only
      rw [if_pos (by rfl), hB acc ne lt (by omega), Option.bind_some]
      exact this
theorem gIx_last {acc : List Nat} (h : acc ≠ []) (t : Nat) : gIx (.list (dI acc)) (.int (-1)) = some (.val (.int (lastN acc t))) := by
  have h1 : 0 < acc.length := List.length_pos_iff.mpr h
  have e : L2.atI (dI acc) (-1) = some (.int (lastN acc t)) := by
    unfold L2.atI ixN
    rw [if_neg (by decide), if_pos (by rw [dI_len]; omega), dI_len]
    have : (-1 + (acc.length : Int)).toNat = acc.length - 1 := by omega
    rw [this, lastD_eq h, List.getLast_eq_getElem]
    have h2 : acc.length - 1 < acc.length := by omega
    simp [dI, h2]
  simp [gIx, e]
theorem gIx_f {l : List Nat} {x : Nat} (h : x < l.length) : gIx (.tuple (dI l)) (.int x) = some (.val (.int (fA l x))) := by
  have e : L2.atI (dI l) (x : Int) = some (.int (fA l x)) := by
    unfold L2.atI
    rw [ixN_in (by omega) (by rw [dI_len]; omega)]
    simp [dI, fA, h]
  simp [gIx, e]
theorem lNe_nat (a b : Nat) : lNe (.int a) (.int b) = some (.val (.bool (!decide (a = b)))) := by
  show gNe (.int a) (.int b) = _
  unfold gNe
  rw [if_pos (by rfl)]
  have : PyData.eqv (.int (a : Int)) (.int (b : Int)) = decide (a = b) := by
    simp only [PyData.eqv]; rw [Bool.eq_iff_iff]; simp; omega
  rw [this]
theorem gNin_dI (t : Nat) (l : List Nat) : gNin (.int t) (.list (dI l)) = some (.val (.bool (!decide (t ∈ l)))) := by
  have h1 : (dI l).all flatD = true := by simp [dI, flatD]
  have h2 : ((dI l).any fun z => PyData.eqv z (.int t)) = decide (t ∈ l) := by
    unfold dI
    rw [List.any_map, Bool.eq_iff_iff]
    simp only [List.any_eq_true, Function.comp, PyData.eqv, decide_eq_true_eq]
    constructor
    · rintro ⟨x, hx, e⟩
      have : x = t := by have e : (x : Int) = t := by simpa using e
                         omega
      rw [← this]; exact hx
    · intro h; exact ⟨t, h, by simp⟩
  simp [gNin, h1, h2, flatD]
/-- the rounds, one thing after another -/
def stp (f : Nat → Nat) (st : List (List Nat) × List Nat) (t : Nat) : List (List Nat) × List Nat := if t ∈ st.2 then st else (st.1 ++ [around f t], st.2 ++ around f t)
def rds (f : Nat → Nat) (n : Nat) : List (List Nat) × List Nat := (List.range n).foldl (stp f) ([], [])
def dR (fs : List (List Nat)) : List D := fs.map fun a => .tuple (dI a)
theorem dR_len (l : List (List Nat)) : (dR l).length = l.length := by simp [dR]
theorem v_rounds {n : Nat} {l : List Nat} (h : Shf n l) : p__law_rounds [.tuple (dI l)] = some (.val (.tuple (dR (rds (fA l) n).1))) := by
  have h8 := h.le
  obtain ⟨e', q1, ts, st, x, y, hr, _, rfl, hf, _⟩ := forL_inv (g := gN 3) (B := sIf (tOf (eBin gNin (oVar 3) (oVar 2))) (bCons (sSet 4 (eLst (aCons (fVar 3) (aNil))))
      (bCons (sWh (tOf (eBin lNe (oVal (eBin gIx (oVar 0) (oVal (eBin gIx (oVar 4) (oVal (eUn gNeg (oVal (fC (.int 1))))))))) (oVar 3))) (sDrop (mAppend 4 (eBin gIx (oVar 0) (oVal (eBin gIx (oVar 4) (oVal (eUn gNeg (oVal (fC (.int 1)))))))))) w1__law_rounds)
      (bCons (sSet 2 (eBin gAdd (oVar 2) (oVar 4)))
      (sDrop (mAppend 1 (eB gTuple (oCons (oVar 4) (oNil)))))))) (sNx))
    (fun rem e => ∃ ts st x y, rem = dI ts ∧ (∀ t ∈ ts, t < n) ∧ e = ⟨[some (.val (.tuple (dI l))), some (.ol (dR st.1)), some (.ol (dI st.2)), x, y], S0⟩ ∧ ts.foldl (stp (fA l)) st = rds (fA l) n ∧ st.2.length + 64 * ts.length ≤ 600 ∧ st.1.length + ts.length ≤ 8)
    (rgL 0 n) ⟨[some (.val (.tuple (dI l))), some (.ol []), some (.ol []), none, none], S0⟩ ⟨List.range n, ([], []), none, none, rgL_eq n, fun t ht => by simpa using ht, by simp [dR, dI], rfl, by simp; omega, by simp; omega⟩ (by
      rintro d rem e ⟨ts, st, x, y, hr, hts, rfl, hf, hz, hz2⟩
      cases ts with
      | nil => cases hr
      | cons t ts =>
        cases hr
        obtain ⟨found, seen⟩ := st
        have ht : t < n := hts t List.mem_cons_self
        simp only [List.length_cons] at hz hz2
        refine ⟨⟨[some (.val (.tuple (dI l))), some (.ol (dR found)), some (.ol (dI seen)), some (.val (.int t)), y], S0⟩, by simp [gN, EE.put], ?_⟩
        have tst : tOf (eBin gNin (oVar 3) (oVar 2)) ⟨[some (.val (.tuple (dI l))), some (.ol (dR found)), some (.ol (dI seen)), some (.val (.int t)), y], S0⟩ = some (!decide (t ∈ seen), ⟨[some (.val (.tuple (dI l))), some (.ol (dR found)), some (.ol (dI seen)), some (.val (.int t)), y], S0⟩) := by
          simp [tOf, eBin, oVar, rd, Ent.d, gNin_dI]
        by_cases hm : t ∈ seen
        · refine ⟨_, by unfold sIf; rw [tst, Option.bind_some]; simp [hm]; rfl, ts, (found, seen), _, _, rfl, fun u hu => hts u (List.mem_cons_of_mem _ hu), rfl, ?_, by dsimp only; omega, by dsimp only; omega⟩
          rw [← hf, List.foldl_cons]; unfold stp; rw [if_pos hm]
        · obtain ⟨o1, o2, o3⟩ := h.orb ht
          have w := wh_orb (n := n) (f := fA l) (t := t) (T := tOf (eBin lNe (oVal (eBin gIx (oVar 0) (oVal (eBin gIx (oVar 4) (oVal (eUn gNeg (oVal (fC (.int 1))))))))) (oVar 3))) (B := sDrop (mAppend 4 (eBin gIx (oVar 0) (oVal (eBin gIx (oVar 4) (oVal (eUn gNeg (oVal (fC (.int 1))))))))))
            (fun acc => ⟨[some (.val (.tuple (dI l))), some (.ol (dR found)), some (.ol (dI seen)), some (.val (.int t)), some (.ol (dI acc))], S0⟩) (fun x => h.into)
            (fun acc ne lt => by
              have lb : lastN acc t < l.length := by rw [h.len, lastD_eq ne]; exact lt _ (List.getLast_mem ne)
              simp only [tOf, eBin, oVal, oVar, rd, Ent.d, eUn, fC, gNeg, Rs.d, Option.bind_some, List.getElem?_cons_zero, List.getElem?_cons_succ, gIx_last ne t, gIx_f lb, lNe_nat])
            (fun acc ne lt hl => by
              have lb : lastN acc t < l.length := by rw [h.len, lastD_eq ne]; exact lt _ (List.getLast_mem ne)
              have hz : hide ((dI acc).length < 16777216) = true := hid (by rw [dI_len]; omega)
              have hd : dI (acc ++ [fA l (lastN acc t)]) = dI acc ++ [.int (fA l (lastN acc t))] := by simp [dI]
              rw [hd]
              simp only [sDrop, mAppend, lstAt, eBin, oVal, oVar, rd, Ent.d, eUn, fC, gNeg, Rs.d, Option.bind_some, List.getElem?_cons_zero, List.getElem?_cons_succ, gIx_last ne t, gIx_f lb, hz, if_true, EE.put, List.set_cons_succ, List.set_cons_zero]) 64 [t] _ (by simp) (by simpa using ht) (by simp) o1
          have s1 : small (seen.length + (around (fA l) t).length) = true := small_le (by omega)
          have s2 : hide ((dR found).length < 16777216) = true := hid (by rw [dR_len]; omega)
          refine ⟨⟨[some (.val (.tuple (dI l))), some (.ol (dR (found ++ [around (fA l) t]))), some (.ol (dI (seen ++ around (fA l) t))), some (.val (.int t)), some (.ol (dI (around (fA l) t)))], S0⟩, ?_, ts, (found ++ [around (fA l) t], seen ++ around (fA l) t), _, _, rfl, fun u hu => hts u (List.mem_cons_of_mem _ hu), rfl, ?_, by simp only [List.length_append]; omega, by simp only [List.length_append, List.length_singleton]; omega⟩
          · unfold sIf
            rw [tst, Option.bind_some]
            dsimp only
            rw [if_pos (by simp [hm])]
            rw [bCons_nx (e1 := ⟨[some (.val (.tuple (dI l))), some (.ol (dR found)), some (.ol (dI seen)), some (.val (.int t)), some (.ol (dI [t]))], S0⟩) (by simp [sSet, eLst, aCons, aNil, fVar, Rs.d, Rs.ent, small_le, EE.put, dI])]
            rw [bCons_nx (e1 := ⟨[some (.val (.tuple (dI l))), some (.ol (dR found)), some (.ol (dI seen)), some (.val (.int t)), some (.ol (dI (around (fA l) t)))], S0⟩) (show sWh _ _ w1__law_rounds _ = _ from w)]
            rw [bCons_nx (e1 := ⟨[some (.val (.tuple (dI l))), some (.ol (dR found)), some (.ol (dI (seen ++ around (fA l) t))), some (.val (.int t)), some (.ol (dI (around (fA l) t)))], S0⟩) (by simp [sSet, eBin, oVar, rd, Ent.d, gAdd, dI_len, s1, Rs.ent, EE.put]; simp [dI])]
            simp [sDrop, mAppend, lstAt, eB, gTuple, oCons, oNil, oVar, rd, Ent.d, Rs.d, s2, EE.put]
            simp [dR]
          · rw [← hf, List.foldl_cons]; unfold stp; rw [if_neg hm])
  have hts : ts = [] := by cases ts with
    | nil => rfl
    | cons _ _ => cases hr
  subst hts
  have hst : st = rds (fA l) n := hf
  have hw : inW (n : Int) = true := inW_nat (by omega)
  unfold p__law_rounds b__law_rounds
  show runD 1 5 (bCons _ _) _ = _
  unfold runD
  rw [if_pos (by rfl)]
  rw [bCons_nx (e1 := ⟨[some (.val (.tuple (dI l))), some (.ol []), some (.ol []), none, none], S0⟩) (by simp [sPar, rCons, rNil, eLst, aNil, small_le, storeL, Rs.ent, EE.put, args, List.replicate])]
  rw [bCons_nx (e1 := ⟨[some (.val (.tuple (dI l))), some (.ol (dR st.1)), some (.ol (dI st.2)), x, y], S0⟩) (by
    unfold sFor
    have : iRg1 (oCons (oVal (eB gLen (oCons (oVar 0) oNil))) oNil) ⟨[some (.val (.tuple (dI l))), some (.ol []), some (.ol []), none, none], S0⟩ = some (rgL 0 n, ⟨[some (.val (.tuple (dI l))), some (.ol []), some (.ol []), none, none], S0⟩) := by
      simp [iRg1, oCons, oVal, eB, gLen, oVar, rd, Ent.d, oNil, Rs.d, dI_len, h.len, hw]
    rw [this, Option.bind_some]
    exact q1)]
  rw [hst]
  simp [sRet, eB, gTuple, oCons, oNil, oVar, rd, Ent.d, EL.out]

/-! ### the program's own way to them -/
theorem v_round {n t : Nat} {l : List Nat} (h : Shf n l) (ht : t < n) : p_round_from [.tuple (dI l), .int t] = some (.val (.tuple (dI (around (fA l) t)))) := by
  have h8 := h.le
  obtain ⟨o1, o2, o3⟩ := h.orb ht
  have w := wh_orb (n := n) (f := fA l) (t := t) (T := tOf (eBin lNe (oVal (eBin gIx (oVar 0) (oVal (eBin gIx (oVar 2) (oVal (eUn gNeg (oVal (fC (.int 1))))))))) (oVar 1))) (B := sDrop (mAppend 2 (eBin gIx (oVar 0) (oVal (eBin gIx (oVar 2) (oVal (eUn gNeg (oVal (fC (.int 1))))))))))
    (fun acc => ⟨[some (.val (.tuple (dI l))), some (.val (.int t)), some (.ol (dI acc))], S0⟩) (fun x => h.into)
    (fun acc ne lt => by
      have lb : lastN acc t < l.length := by rw [h.len, lastD_eq ne]; exact lt _ (List.getLast_mem ne)
      simp only [tOf, eBin, oVal, oVar, rd, Ent.d, eUn, fC, gNeg, Rs.d, Option.bind_some, List.getElem?_cons_zero, List.getElem?_cons_succ, gIx_last ne t, gIx_f lb, lNe_nat])
    (fun acc ne lt hl => by
      have lb : lastN acc t < l.length := by rw [h.len, lastD_eq ne]; exact lt _ (List.getLast_mem ne)
      have hz : hide ((dI acc).length < 16777216) = true := hid (by rw [dI_len]; omega)
      have hd : dI (acc ++ [fA l (lastN acc t)]) = dI acc ++ [.int (fA l (lastN acc t))] := by simp [dI]
      rw [hd]
      simp only [sDrop, mAppend, lstAt, eBin, oVal, oVar, rd, Ent.d, eUn, fC, gNeg, Rs.d, Option.bind_some, List.getElem?_cons_zero, List.getElem?_cons_succ, gIx_last ne t, gIx_f lb, hz, if_true, EE.put, List.set_cons_succ, List.set_cons_zero]) 64 [t] _ (by simp) (by simpa using ht) (by simp) o1
  unfold p_round_from b_round_from
  show runD 2 3 (bCons _ _) _ = _
  unfold runD
  rw [if_pos (by rfl)]
  rw [bCons_nx (e1 := ⟨[some (.val (.tuple (dI l))), some (.val (.int t)), some (.ol (dI [t]))], S0⟩) (by simp [sSet, eLst, aCons, aNil, fVar, Rs.d, Rs.ent, small_le, EE.put, dI, args, List.replicate])]
  rw [bCons_nx (e1 := ⟨[some (.val (.tuple (dI l))), some (.val (.int t)), some (.ol (dI (around (fA l) t)))], S0⟩) (show sWh _ _ w1_round_from _ = _ from w)]
  simp [sRet, eB, gTuple, oCons, oNil, oVar, rd, Ent.d, EL.out]
def hasK (kvs : List (D × D)) (k : Nat) : Bool := kvs.any fun q => PyData.eqv q.1 (.int (k : Int))
theorem eqv_nat (a b : Nat) : PyData.eqv (.int (a : Int)) (.int (b : Int)) = decide (a = b) := by
  simp only [PyData.eqv]; rw [Bool.eq_iff_iff]; simp; omega
theorem look_has (kvs : List (D × D)) (k : Nat) : (dLook kvs (.int k)).isSome = hasK kvs k := by
  unfold dLook hasK
  induction kvs with
  | nil => rfl
  | cons q kvs ih =>
    by_cases z : PyData.eqv q.1 (.int (k : Int)) = true
    · simp [z]
    · simp only [List.find?_cons, List.any_cons]
      have z' : PyData.eqv q.1 (.int (k : Int)) = false := by simpa using z
      rw [z']; simpa using ih
theorem look_hasN (kvs : List (D × D)) (k : Nat) : (dLook kvs (.int k)).isNone = !hasK kvs k := by
  rw [← look_has]; cases dLook kvs (.int k) <;> rfl
theorem has_put (kvs : List (D × D)) (a k : Nat) (v : D) : hasK (dPut kvs (.int a) v) k = (hasK kvs k || decide (a = k)) := by
  unfold dPut
  by_cases z : (kvs.any fun q => PyData.eqv q.1 (.int (a : Int))) = true
  · rw [if_pos z]
    have e : hasK (kvs.map fun q => if PyData.eqv q.1 (.int (a : Int)) = true then (q.1, v) else q) k = hasK kvs k := by
      unfold hasK
      rw [List.any_map]
      congr 1
      funext q
      simp only [Function.comp]
      split <;> rfl
    rw [e]
    by_cases y : a = k
    · subst y; rw [show hasK kvs a = true from z]; rfl
    · rw [decide_eq_false y, Bool.or_false]
  · rw [if_neg z]
    unfold hasK
    rw [List.any_append]
    simp [eqv_nat]
theorem put_le (kvs : List (D × D)) (k v : D) : (dPut kvs k v).length ≤ kvs.length + 1 := by unfold dPut; split <;> simp
/-- the keys of a comprehension over ints -/
def mkT (a : List Nat) (acc : List (D × D)) : List (D × D) := a.foldl (fun acc (t : Nat) => dPut acc (.int (t : Int)) (.bool true)) acc
theorem mkT_has : ∀ (a : List Nat) (acc : List (D × D)) (k : Nat), hasK (mkT a acc) k = (hasK acc k || decide (k ∈ a))
  | [], acc, k => by simp [mkT]
  | t :: a, acc, k => by
    have := mkT_has a (dPut acc (.int (t : Int)) (.bool true)) k
    unfold mkT at this ⊢
    rw [List.foldl_cons, this, has_put]
    by_cases z : t = k
    · subst z; simp
    · have z' : ¬ k = t := fun y => z y.symm
      simp [z, z']
theorem mkT_len : ∀ (a : List Nat) (acc : List (D × D)), (mkT a acc).length ≤ acc.length + a.length
  | [], acc => Nat.le_refl _
  | t :: a, acc => by
    have h1 := mkT_len a (dPut acc (.int (t : Int)) (.bool true))
    have h2 := put_le acc (.int (t : Int)) (.bool true)
    unfold mkT at h1 ⊢
    rw [List.foldl_cons, List.length_cons]; omega
def IntKeys (kvs : List (D × D)) : Prop := ∀ q ∈ kvs, ∃ a : Nat, q.1 = .int (a : Int)
theorem keys_put {kvs : List (D × D)} (h : IntKeys kvs) (a : Nat) (v : D) : IntKeys (dPut kvs (.int a) v) := by
  unfold dPut
  split
  · intro q hq
    obtain ⟨p, hp, rfl⟩ := List.mem_map.mp hq
    obtain ⟨b, hb⟩ := h p hp
    split
    · exact ⟨b, hb⟩
    · exact ⟨b, hb⟩
  · intro q hq
    rcases List.mem_append.mp hq with hq | hq
    · exact h q hq
    · rw [List.mem_singleton.mp hq]; exact ⟨a, rfl⟩
theorem keys_mkT : ∀ (a : List Nat) {acc : List (D × D)}, IntKeys acc → IntKeys (mkT a acc)
  | [], acc, h => h
  | t :: a, acc, h => keys_mkT a (keys_put h t (.bool true))
theorem has_merge : ∀ (more kvs : List (D × D)) (k : Nat), IntKeys more → hasK (dMerge kvs more) k = (hasK kvs k || hasK more k)
  | [], kvs, k, _ => by simp [dMerge, hasK]
  | q :: more, kvs, k, h => by
    obtain ⟨a, ha⟩ := h q List.mem_cons_self
    have := has_merge more (dPut kvs q.1 q.2) k fun p hp => h p (List.mem_cons_of_mem _ hp)
    unfold dMerge at this ⊢
    rw [List.foldl_cons, this, ha, has_put]
    have e : hasK (q :: more) k = (decide (a = k) || hasK more k) := by
      unfold hasK; rw [List.any_cons, ha, eqv_nat]
    rw [e, Bool.or_assoc]
theorem merge_len : ∀ (more kvs : List (D × D)), (dMerge kvs more).length ≤ kvs.length + more.length
  | [], kvs => Nat.le_refl _
  | q :: more, kvs => by
    have h1 := merge_len more (dPut kvs q.1 q.2)
    have h2 := put_le kvs q.1 q.2
    unfold dMerge at h1 ⊢
    rw [List.foldl_cons, List.length_cons]; omega
theorem dcomp_T (a0 a1 a2 a3 a4 : Option Ent) (S : Src) : ∀ (a : List Nat) (acc : List (D × D)), acc.length + a.length ≤ 1000 →
    dcompL [5] (gN 5) tYs (fVar 5) (fC (.bool true)) (dI a) acc ⟨[a0, a1, a2, a3, a4, none], S⟩ = some (mkT a acc, ⟨[a0, a1, a2, a3, a4, none], S⟩)
  | [], acc, _ => rfl
  | t :: a, acc, h => by
    simp only [List.length_cons] at h
    have h2 := put_le acc (.int (t : Int)) (.bool true)
    have ih := dcomp_T a0 a1 a2 a3 a4 S a (dPut acc (.int (t : Int)) (.bool true)) (by omega)
    have hz : hide (acc.length < 16777216) = true := hid (by omega)
    have hd : dI (t :: a) = .int (t : Int) :: dI a := rfl
    rw [hd]
    simp only [dcompL, gN, List.length_cons, List.length_nil, EE.put, List.set_cons_succ, List.set_cons_zero, tYs, Option.bind_some, fVar, List.getElem?_cons_succ, List.getElem?_cons_zero, keyOf, fC, hz, if_true, wipeE, Rs.d, Nat.reduceAdd, Nat.reduceLT]
    exact ih
theorem v_rounds2 {n : Nat} {l : List Nat} (h : Shf n l) : p_rounds_of [.tuple (dI l)] = some (.val (.tuple (dR (rds (fA l) n).1))) := by
  have h8 := h.le
  obtain ⟨e', q1, ts, st, kvs, x, y, hr, _, rfl, hf, _⟩ := forL_inv (g := gN 3) (B := sIf (tOf (eDIn true (fVar 3) 2)) (bCons (sSet 4 (eCall p_round_from (aCons (fVar 0) (aCons (fVar 3) (aNil)))))
      (bCons (sDrop (mUpdate 2 (eDComp [5] (iSeq (fVar 4)) (gN 5) (tYs) (fVar 5) (fC (.bool true)))))
      (sDrop (mAppend 1 (fVar 4))))) (sNx))
    (fun rem e => ∃ ts st kvs x y, rem = dI ts ∧ (∀ t ∈ ts, t < n) ∧ e = ⟨[some (.val (.tuple (dI l))), some (.ol (dR st.1)), some (.od false kvs), x, y, none], S0⟩ ∧ ts.foldl (stp (fA l)) st = rds (fA l) n ∧ (∀ k, hasK kvs k = decide (k ∈ st.2)) ∧ kvs.length + 64 * ts.length ≤ 600 ∧ st.1.length + ts.length ≤ 8)
    (rgL 0 n) ⟨[some (.val (.tuple (dI l))), some (.ol []), some (.od false []), none, none, none], S0⟩ ⟨List.range n, ([], []), [], none, none, rgL_eq n, fun t ht => by simpa using ht, by simp [dR], rfl, fun k => by simp [hasK], by simp; omega, by simp; omega⟩ (by
      rintro d rem e ⟨ts, st, kvs, x, y, hr, hts, rfl, hf, hk, hz, hz2⟩
      cases ts with
      | nil => cases hr
      | cons t ts =>
        cases hr
        obtain ⟨found, seen⟩ := st
        have ht : t < n := hts t List.mem_cons_self
        simp only [List.length_cons] at hz hz2
        refine ⟨⟨[some (.val (.tuple (dI l))), some (.ol (dR found)), some (.od false kvs), some (.val (.int t)), y, none], S0⟩, by simp [gN, EE.put], ?_⟩
        have kb : keyB false (.int (t : Int)) = true := rfl
        have tst : tOf (eDIn true (fVar 3) 2) ⟨[some (.val (.tuple (dI l))), some (.ol (dR found)), some (.od false kvs), some (.val (.int t)), y, none], S0⟩ = some (!decide (t ∈ seen), ⟨[some (.val (.tuple (dI l))), some (.ol (dR found)), some (.od false kvs), some (.val (.int t)), y, none], S0⟩) := by
          have := hk t
          dsimp only at this
          simp [tOf, eDIn, fVar, dctAt, Rs.d, kb, look_hasN, this]
        by_cases hm : t ∈ seen
        · refine ⟨_, by unfold sIf; rw [tst, Option.bind_some]; simp [hm]; rfl, ts, (found, seen), kvs, _, _, rfl, fun u hu => hts u (List.mem_cons_of_mem _ hu), rfl, ?_, hk, by omega, by dsimp only; omega⟩
          rw [← hf, List.foldl_cons]; unfold stp; rw [if_pos hm]
        · obtain ⟨o1, o2, o3⟩ := h.orb ht
          have m1 := mkT_len (around (fA l) t) []
          have m2 := merge_len (mkT (around (fA l) t) []) kvs
          simp only [List.length_nil] at m1
          have s1 : small (kvs.length + (mkT (around (fA l) t) []).length) = true := small_le (by omega)
          have s2 : hide ((dR found).length < 16777216) = true := hid (by rw [dR_len]; omega)
          have dc := dcomp_T (some (.val (.tuple (dI l)))) (some (.ol (dR found))) (some (.od false kvs)) (some (.val (.int t))) (some (.val (.tuple (dI (around (fA l) t))))) S0 (around (fA l) t) [] (by simp; omega)
          refine ⟨⟨[some (.val (.tuple (dI l))), some (.ol (dR (found ++ [around (fA l) t]))), some (.od false (dMerge kvs (mkT (around (fA l) t) []))), some (.val (.int t)), some (.val (.tuple (dI (around (fA l) t)))), none], S0⟩, ?_, ts, (found ++ [around (fA l) t], seen ++ around (fA l) t), dMerge kvs (mkT (around (fA l) t) []), _, _, rfl, fun u hu => hts u (List.mem_cons_of_mem _ hu), rfl, ?_, fun k => ?_, by omega, by simp only [List.length_append, List.length_singleton]; omega⟩
          · unfold sIf
            rw [tst, Option.bind_some]
            dsimp only
            rw [if_pos (by simp [hm])]
            rw [bCons_nx (e1 := ⟨[some (.val (.tuple (dI l))), some (.ol (dR found)), some (.od false kvs), some (.val (.int t)), some (.val (.tuple (dI (around (fA l) t)))), none], S0⟩) (by simp [sSet, eCall, aCons, aNil, fVar, Rs.d, Rs.ent, v_round h ht, EE.put])]
            rw [bCons_nx (e1 := ⟨[some (.val (.tuple (dI l))), some (.ol (dR found)), some (.od false (dMerge kvs (mkT (around (fA l) t) []))), some (.val (.int t)), some (.val (.tuple (dI (around (fA l) t)))), none], S0⟩) (by
              simp [sDrop, mUpdate, dctAt, eDComp, iSeq, fVar, Rs.d, seqD, wipeE, EE.put, dc, restE, keepV, s1])]
            simp [sDrop, mAppend, lstAt, fVar, Rs.d, s2, EE.put]
            simp [dR]
          · rw [← hf, List.foldl_cons]; unfold stp; rw [if_neg hm]
          · rw [has_merge _ _ _ (keys_mkT _ fun q hq => by cases hq), mkT_has, hk k]
            simp [hasK])
  have hts : ts = [] := by cases ts with
    | nil => rfl
    | cons _ _ => cases hr
  subst hts
  have hst : st = rds (fA l) n := hf
  have hw : inW (n : Int) = true := inW_nat (by omega)
  unfold p_rounds_of b_rounds_of
  show runD 1 6 (bCons _ _) _ = _
  unfold runD
  rw [if_pos (by rfl)]
  rw [bCons_nx (e1 := ⟨[some (.val (.tuple (dI l))), some (.ol []), some (.od false []), none, none, none], S0⟩) (by simp [sPar, rCons, rNil, eLst, aNil, eDNew, small_le, storeL, Rs.ent, EE.put, args, List.replicate])]
  rw [bCons_nx (e1 := ⟨[some (.val (.tuple (dI l))), some (.ol (dR st.1)), some (.od false kvs), x, y, none], S0⟩) (by
    unfold sFor
    have : iRg1 (oCons (oVal (eB gLen (oCons (oVar 0) oNil))) oNil) ⟨[some (.val (.tuple (dI l))), some (.ol []), some (.od false []), none, none, none], S0⟩ = some (rgL 0 n, ⟨[some (.val (.tuple (dI l))), some (.ol []), some (.od false []), none, none, none], S0⟩) := by
      simp [iRg1, oCons, oVal, eB, gLen, oVar, rd, Ent.d, oNil, Rs.d, dI_len, h.len, hw]
    rw [this, Option.bind_some]
    exact q1)]
  rw [hst]
  simp [sRet, eB, gTuple, oCons, oNil, oVar, rd, Ent.d, EL.out]
end Law
end EL
namespace EL
open PySem PySem.Spec PyProof.Rows L2
namespace Law
theorem qEq_int (a b : Int) : qEq (.int a) (.int b) = some (.val (.bool (decide (a = b)))) := by
  show gEq (.int a) (.int b) = _
  unfold gEq
  rw [if_pos (by rfl)]
  have : PyData.eqv (.int a) (.int b) = decide (a = b) := by
    simp only [PyData.eqv]; rw [Bool.eq_iff_iff]; simp
  rw [this]
theorem fn_int {j : Int} (h : j.natAbs < 1024) : Fn 10 0 (.int j) := by
  have hl : j.natAbs.log2 < 10 := by
    by_cases z : j.natAbs = 0
    · rw [z]; decide
    · exact (Nat.log2_lt z).mpr h
  refine ⟨?_, ?_, ?_, Nat.le_refl _⟩
  · unfold PyData.showable; exact decide_eq_true (by omega)
  · unfold PyData.leavesShort
    exact decide_eq_true (Nat.le_trans (int_text_len_1921 (i := j) (by omega)) (by decide))
  · unfold PyData.weight
    split <;> omega
theorem v_deep {odd : List D} (ho : odd ≠ []) (hl : odd.length ≤ 100) (hf : ∀ d ∈ odd, Fn 101 2 d) (S : Src) : ∃ r S', p__law_deep [.list odd] S = some (r, S') ∧ Fn 200 40 r.d ∧ (r = .val r.d ∨ ∃ ds, r = .fl ds) := by
  obtain ⟨d0, S1, e1, m1⟩ := v_of ho (by omega) S
  obtain ⟨e', q1, x, y, d, S2, rfl, hx, hd⟩ := forL_inv (g := gN 3) (B := sSet 2 (eIf (tOf (eBin qEq (oVal (eCallS 0 gPick (aCons (fC (.int 5)) (aNil)))) (oVal (fC (.int 0))))) (eLst (aCons (fVar 2) (aNil))) (eTup (aCons (fVar 2) (aNil)))))
    (fun rem e => ∃ x y d S, e = ⟨[some .src, some (.val (.list odd)), some x, y], S⟩ ∧ (x = .val d ∨ ∃ ds, x = .ol ds ∧ d = .list ds) ∧ Fn (135 - rem.length) (36 - rem.length) d ∧ rem.length ≤ 34)
    (rgL 0 34) ⟨[some .src, some (.val (.list odd)), some (.val d0), none], S1⟩ ⟨.val d0, none, d0, S1, rfl, .inl rfl, (hf d0 m1).le (by simp [rgL]) (by simp [rgL]), by simp [rgL]⟩ (by
      rintro t rem e ⟨x, y, d, S, rfl, hx, hd, hr⟩
      simp only [List.length_cons] at hd hr
      refine ⟨⟨[some .src, some (.val (.list odd)), some x, some (.val t)], S⟩, by simp [gN, EE.put], ?_⟩
      obtain ⟨r, S', e2, _, _⟩ := draw (m := 5) (by decide) (by decide) S
      have fv : ∀ S, ∃ z, fVar 2 ⟨[some .src, some (.val (.list odd)), some x, some (.val t)], S⟩ = some (.val d, ⟨[some .src, some (.val (.list odd)), some z, some (.val t)], S⟩) := fun S => by
        rcases hx with rfl | ⟨ds, rfl, rfl⟩
        · exact ⟨_, rfl⟩
        · exact ⟨_, rfl⟩
      obtain ⟨z, fz⟩ := fv S'
      have s1 : small 1 = true := small_le (by decide)
      have one : FnA (101 + 35 - rem.length - 1 + 0) (35 - rem.length) [d] := by
        refine FnA.le (FnA.cons hd (FnA.nil.le (Nat.le_refl _) (Nat.zero_le _))) (by omega) (by omega)
      have ts : tOf (eBin qEq (oVal (eCallS 0 gPick (aCons (fC (.int 5)) (aNil)))) (oVal (fC (.int 0)))) ⟨[some .src, some (.val (.list odd)), some x, some (.val t)], S⟩ = some (decide (r = 0), ⟨[some .src, some (.val (.list odd)), some x, some (.val t)], S'⟩) := by
        simp [tOf, eBin, oVal, eCallS, aCons, aNil, fC, Rs.d, e2, qEq_int]
      by_cases h0 : r = 0
      · refine ⟨⟨[some .src, some (.val (.list odd)), some (.ol [d]), some (.val t)], S'⟩, ?_, .ol [d], some (.val t), .list [d], S', rfl, .inr ⟨[d], rfl, rfl⟩, one.lst.le (by omega) (by omega), by omega⟩
        unfold sSet eIf
        rw [ts, Option.bind_some]
        dsimp only
        rw [decide_eq_true h0, if_pos rfl]
        simp [eLst, aCons, aNil, fz, Rs.d, s1, Rs.ent, EE.put]
      · refine ⟨⟨[some .src, some (.val (.list odd)), some (.val (.tuple [d])), some (.val t)], S'⟩, ?_, .val (.tuple [d]), some (.val t), .tuple [d], S', rfl, .inl rfl, one.tup.le (by omega) (by omega), by omega⟩
        unfold sSet eIf
        rw [ts, Option.bind_some]
        dsimp only
        rw [decide_eq_false h0, if_neg Bool.false_ne_true]
        simp [eTup, aCons, aNil, fz, Rs.d, s1, Rs.ent, EE.put])
  have hw : inW 34 = true := inW_of (by decide) (by decide)
  have fin : ∀ r : Rs, sRetV 2 ⟨[some .src, some (.val (.list odd)), some x, y], S2⟩ = some (.rt r, ⟨[some .src, some (.val (.list odd)), none, y], S2⟩) → p__law_deep [.list odd] S = some (r, S2) := fun r hr => by
    unfold p__law_deep b__law_deep
    show runS 2 4 (bCons _ _) _ _ = _
    unfold runS
    rw [if_pos (by rfl)]
    rw [bCons_nx (e1 := ⟨[some .src, some (.val (.list odd)), some (.val d0), none], S1⟩) (by simp [sSet, eCallS, aCons, aNil, fVar, Rs.d, e1, Rs.ent, EE.put, args, List.replicate])]
    rw [bCons_nx (e1 := ⟨[some .src, some (.val (.list odd)), some x, y], S2⟩) (by
      unfold sFor
      have : iRg1 (oCons (oVal (fC (.int 34))) oNil) ⟨[some .src, some (.val (.list odd)), some (.val d0), none], S1⟩ = some (rgL 0 34, ⟨[some .src, some (.val (.list odd)), some (.val d0), none], S1⟩) := by
        simp [iRg1, oCons, oVal, fC, oNil, Rs.d, hw]
      rw [this, Option.bind_some]
      exact q1)]
    rw [hr]
    rfl
  have hd' : Fn 200 40 d := hd.1.le (by simp) (by simp)
  rcases hx with rfl | ⟨ds, rfl, rfl⟩
  · exact ⟨.val d, S2, fin _ rfl, hd', .inl rfl⟩
  · exact ⟨.fl ds, S2, fin _ rfl, hd', .inr ⟨ds, rfl⟩⟩
end Law
end EL
namespace EL
open PySem PySem.Spec PyProof.Rows L2
namespace Law
/-- trees of small ints and tuples -/
def Tl : Nat → D → Prop
  | 0, d => ∃ i : Nat, i < 100 ∧ d = .int i
  | k + 1, d => (∃ i : Nat, i < 100 ∧ d = .int i) ∨ ∃ ds, d = .tuple ds ∧ ds.length ≤ 100 ∧ ∀ x ∈ ds, Tl k x
theorem Tl.split {k : Nat} {d : D} (h : Tl k d) : (∃ i : Nat, i < 100 ∧ d = .int i) ∨ ∃ ds, d = .tuple ds ∧ ds.length ≤ 100 ∧ ∃ j, k = j + 1 ∧ ∀ x ∈ ds, Tl j x := by
  cases k with
  | zero => exact .inl h
  | succ k =>
    rcases h with h | ⟨ds, h1, h2, h3⟩
    · exact .inl h
    · exact .inr ⟨ds, h1, h2, k, rfl, h3⟩
theorem canAll {ds : List D} (h : ∀ x ∈ ds, x.canLay0 = true) : PyData.canLayAll0 ds = true := by
  induction ds with
  | nil => rfl
  | cons d ds ih => simp [PyData.canLayAll0, h d List.mem_cons_self, ih fun x hx => h x (List.mem_cons_of_mem _ hx)]
theorem Tl.can : ∀ {k : Nat} {d : D}, Tl k d → d.canLay0 = true
  | 0, d, ⟨i, _, e⟩ => by rw [e]; rfl
  | k + 1, d, .inl ⟨i, _, e⟩ => by rw [e]; rfl
  | k + 1, d, .inr ⟨ds, e, _, h⟩ => by
    rw [e]
    show PyData.canLayAll0 ds = true
    exact canAll fun x hx => Tl.can (h x hx)
theorem qEq_nil {ds : List D} (h : SeqAt.shaped (.tuple ds) = true) : qEq (.tuple ds) (.tuple []) = some (.val (.bool ds.isEmpty)) := by
  show gEq (.tuple ds) (.tuple []) = _
  unfold gEq
  rw [h, if_pos (by rfl)]
  cases ds with
  | nil => rfl
  | cons d ds => rfl
theorem cut_len (ds : List D) (lo hi : Option Int) : (cutD ds lo hi).length ≤ ds.length := by
  unfold cutD
  rw [List.length_take, List.length_drop]; omega
theorem fn_le {N h : Nat} {d : D} (k : Nat) (x : Fn 200 32 d) : Fn ((k + 1) * (2 * N + 200)) (32 + k) d := x.le (by rw [Nat.succ_mul]; omega) (by omega)
section
variable {odd : List D} (ho : odd ≠ []) (hl : odd.length ≤ 100) (hf : ∀ d ∈ odd, Fn 101 2 d)
include ho hl hf
theorem b_int {φ : List D → Src → Option (Rs × Src)} {i : Nat} (hi : i < 100) (S : Src) : ∃ d S', runS 3 5 (b__law_bent φ) [.int i, .list odd] S = some (.val d, S') ∧ Fn 200 32 d := by
  obtain ⟨r, S1, e1, r0, r1⟩ := draw (m := 3) (by decide) (by decide) S
  have t1 : tAnd (tOf (eInst (oVar 1) "int")) (tAnd (tNot (tOf (eInst (oVar 1) "bool"))) (tOf (eBin gGt (oVal (eCallS 0 gPick (aCons (fC (.int 3)) (aNil)))) (oVal (fC (.int 0)))))) ⟨[some .src, some (.val (.int i)), some (.val (.list odd)), none, none], S⟩ = some (decide (0 < r), ⟨[some .src, some (.val (.int i)), some (.val (.list odd)), none, none], S1⟩) := by
    simp [tAnd, tOf, eInst, oVar, rd, Ent.d, instT, instB, tyD, tNot, eBin, oVal, eCallS, aCons, aNil, fC, Rs.d, e1, gGt]
  have go : ∀ q, b__law_bent φ ⟨[some .src, some (.val (.int i)), some (.val (.list odd)), none, none], S⟩ = some (.rt q.1, ⟨[some .src, some (.val (.int i)), some (.val (.list odd)), none, none], q.2⟩) → runS 3 5 (b__law_bent φ) [.int i, .list odd] S = some q := fun q h => by
    unfold runS
    rw [if_pos (by rfl)]
    show ((b__law_bent φ ⟨[some .src, some (.val (.int i)), some (.val (.list odd)), none, none], S⟩).bind _) = _
    rw [h]; rfl
  by_cases h0 : 0 < r
  · obtain ⟨d, S2, e2, m2⟩ := v_of (ds := [.int 1, .int (-1), .int 2]) (by simp) (by decide) S1
    obtain ⟨c, rfl, hc⟩ : ∃ c : Int, d = .int c ∧ c.natAbs ≤ 2 := by
      simp only [List.mem_cons, List.mem_nil_iff, or_false] at m2
      rcases m2 with rfl | rfl | rfl
      · exact ⟨1, rfl, by decide⟩
      · exact ⟨-1, rfl, by decide⟩
      · exact ⟨2, rfl, by decide⟩
    refine ⟨.int (i + c), S2, go (.val (.int (i + c)), S2) ?_, (fn_int (by omega)).le (by omega) (by omega)⟩
    unfold b__law_bent
    rw [bCons_rt (r := .val (.int (i + c))) (e1 := ⟨[some .src, some (.val (.int i)), some (.val (.list odd)), none, none], S2⟩)]
    unfold sIf
    rw [t1, Option.bind_some]
    dsimp only
    rw [decide_eq_true h0, if_pos rfl]
    simp [sRet, eBin, oVar, rd, Ent.d, oVal, eCallS, aCons, aNil, eLst, fC, eUn, gNeg, Rs.d, small_le, e2, gAdd]
  · obtain ⟨d, S2, e2, m2⟩ := v_of ho (by omega) S1
    refine ⟨d, S2, go (.val d, S2) ?_, (hf d m2).le (by omega) (by omega)⟩
    unfold b__law_bent
    rw [bCons_nx (e1 := ⟨[some .src, some (.val (.int i)), some (.val (.list odd)), none, none], S1⟩) (by
      unfold sIf
      rw [t1, Option.bind_some]
      dsimp only
      rw [decide_eq_false h0, if_neg Bool.false_ne_true]
      rfl)]
    rw [bCons_rt (r := .val d) (e1 := ⟨[some .src, some (.val (.int i)), some (.val (.list odd)), none, none], S2⟩)]
    simp [sIf, tOr, tNot, tOf, eInst, oVar, rd, Ent.d, instT, instB, tyD, sRet, eCallS, aCons, aNil, fVar, Rs.d, e2]
theorem b_tup {φ : List D → Src → Option (Rs × Src)} {ds : List D} {N M : Nat} (hN : N ≤ 1000) (hd : ds.length ≤ 100) (hs : SeqAt.shaped (.tuple ds) = true) (hn : FnA N 30 ds) (h : Nat) (h30 : 31 ≤ h)
    (ih : ∀ x ∈ ds, ∀ S, ∃ d S', φ [x, .list odd] S = some (.val d, S') ∧ Fn M h d) (S : Src) : ∃ d S', runS 3 5 (b__law_bent φ) [.tuple ds, .list odd] S = some (.val d, S') ∧ Fn (M + 2 * N + 200) (h + 1) d := by
  have go : ∀ q x y, b__law_bent φ ⟨[some .src, some (.val (.tuple ds)), some (.val (.list odd)), none, none], S⟩ = some (.rt q.1, ⟨[some .src, some (.val (.tuple ds)), some (.val (.list odd)), x, y], q.2⟩) → runS 3 5 (b__law_bent φ) [.tuple ds, .list odd] S = some q := fun q x y h => by
    unfold runS
    rw [if_pos (by rfl)]
    show ((b__law_bent φ ⟨[some .src, some (.val (.tuple ds)), some (.val (.list odd)), none, none], S⟩).bind _) = _
    rw [h]; rfl
  have first : ∀ B : FS, bCons (sIf (tAnd (tOf (eInst (oVar 1) "int")) (tAnd (tNot (tOf (eInst (oVar 1) "bool"))) (tOf (eBin gGt (oVal (eCallS 0 gPick (aCons (fC (.int 3)) (aNil)))) (oVal (fC (.int 0))))))) (sRet (eBin gAdd (oVar 1) (oVal (eCallS 0 p__law_of (aCons (eLst (aCons (fC (.int 1)) (aCons (eUn gNeg (oVal (fC (.int 1)))) (aCons (fC (.int 2)) (aNil))))) (aNil)))))) (sNx)) B ⟨[some .src, some (.val (.tuple ds)), some (.val (.list odd)), none, none], S⟩ = B ⟨[some .src, some (.val (.tuple ds)), some (.val (.list odd)), none, none], S⟩ := fun B => by
    rw [bCons_nx (e1 := ⟨[some .src, some (.val (.tuple ds)), some (.val (.list odd)), none, none], S⟩)]
    simp [sIf, tAnd, tOf, eInst, oVar, rd, Ent.d, instT, instB, tyD, sNx]
  have wOdd : ∀ d, Fn 101 2 d → Fn (M + 2 * N + 200) (h + 1) d := fun d x => x.le (by omega) (by omega)
  obtain ⟨r7, S1, e7, _, _⟩ := draw (m := 7) (by decide) (by decide) S
  by_cases hz : ds = []
  · subst hz
    obtain ⟨d, S2, e2, m2⟩ := v_of ho (by omega) S
    refine ⟨d, S2, go (.val d, S2) none none ?_, wOdd d (hf d m2)⟩
    unfold b__law_bent
    rw [first]
    rw [bCons_rt (r := .val d) (e1 := ⟨[some .src, some (.val (.tuple [])), some (.val (.list odd)), none, none], S2⟩)]
    simp [sIf, tOr, tNot, tOf, eInst, oVar, rd, Ent.d, instT, instB, tyD, eBin, oVal, eTup, aNil, small_le, Rs.d, qEq_nil hs, sRet, eCallS, aCons, fVar, e2]
  have hemp : ds.isEmpty = false := by cases ds with
    | nil => exact absurd rfl hz
    | cons _ _ => rfl
  have t2 : tOr (tNot (tOf (eInst (oVar 1) "tuple"))) (tOr (tOf (eBin qEq (oVar 1) (oVal (eTup (aNil))))) (tOf (eBin qEq (oVal (eCallS 0 gPick (aCons (fC (.int 7)) (aNil)))) (oVal (fC (.int 0)))))) ⟨[some .src, some (.val (.tuple ds)), some (.val (.list odd)), none, none], S⟩ = some (decide (r7 = 0), ⟨[some .src, some (.val (.tuple ds)), some (.val (.list odd)), none, none], S1⟩) := by
    simp [tOr, tNot, tOf, eInst, oVar, rd, Ent.d, instT, instB, tyD, eBin, oVal, eTup, aNil, small_le, Rs.d, qEq_nil hs, hemp, eCallS, aCons, fC, e7, qEq_int]
  by_cases h7 : r7 = 0
  · obtain ⟨d, S2, e2, m2⟩ := v_of ho (by omega) S1
    refine ⟨d, S2, go (.val d, S2) none none ?_, wOdd d (hf d m2)⟩
    unfold b__law_bent
    rw [first]
    rw [bCons_rt (r := .val d) (e1 := ⟨[some .src, some (.val (.tuple ds)), some (.val (.list odd)), none, none], S2⟩)]
    unfold sIf
    rw [t2, Option.bind_some]
    dsimp only
    rw [decide_eq_true h7, if_pos rfl]
    simp [sRet, eCallS, aCons, aNil, fVar, Rs.d, e2]
  have hpos : 0 < ds.length := List.length_pos_iff.mpr hz
  obtain ⟨r, S2, e2, r0, r1⟩ := draw (m := (ds.length : Int)) (by omega) (by omega) S1
  obtain ⟨w, S3, e3, w0, w1⟩ := draw (m := 8) (by decide) (by decide) S2
  obtain ⟨x, ex, mx⟩ := atI_of (l := ds) r0 r1
  have second : ∀ B : FS, bCons (sIf (tOr (tNot (tOf (eInst (oVar 1) "tuple"))) (tOr (tOf (eBin qEq (oVar 1) (oVal (eTup (aNil))))) (tOf (eBin qEq (oVal (eCallS 0 gPick (aCons (fC (.int 7)) (aNil)))) (oVal (fC (.int 0))))))) (sRet (eCallS 0 p__law_of (aCons (fVar 2) (aNil)))) (sNx))
      (bCons (sPar [3, 4] (rCons (eCallS 0 gPick (aCons (eB gLen (oCons (oVar 1) (oNil))) (aNil))) (rCons (eCallS 0 gPick (aCons (fC (.int 8)) (aNil))) (rNil)))) B) ⟨[some .src, some (.val (.tuple ds)), some (.val (.list odd)), none, none], S⟩ = B ⟨[some .src, some (.val (.tuple ds)), some (.val (.list odd)), some (.val (.int r)), some (.val (.int w))], S3⟩ := fun B => by
    rw [bCons_nx (e1 := ⟨[some .src, some (.val (.tuple ds)), some (.val (.list odd)), none, none], S1⟩) (by
      unfold sIf
      rw [t2, Option.bind_some]
      dsimp only
      rw [decide_eq_false h7, if_neg Bool.false_ne_true]
      rfl)]
    rw [bCons_nx (e1 := ⟨[some .src, some (.val (.tuple ds)), some (.val (.list odd)), some (.val (.int r)), some (.val (.int w))], S3⟩)]
    simp [sPar, rCons, rNil, eCallS, aCons, aNil, eB, oCons, oNil, oVar, rd, Ent.d, gLen, Rs.d, e2, fC, e3, storeL, Rs.ent, EE.put]
  have c1 := fun lo hi => cut_len ds lo hi
  have third : tOf (eBin gLt (oVar 4) (oVal (fC (.int 5)))) ⟨[some .src, some (.val (.tuple ds)), some (.val (.list odd)), some (.val (.int r)), some (.val (.int w))], S3⟩ = some (decide (w < 5), ⟨[some .src, some (.val (.tuple ds)), some (.val (.list odd)), some (.val (.int r)), some (.val (.int w))], S3⟩) := by
    simp [tOf, eBin, oVar, rd, Ent.d, oVal, fC, Rs.d, gLt]
  by_cases h5 : w < 5
  · obtain ⟨d, S4, e4, fd⟩ := ih x mx S3
    refine ⟨.tuple (cutD ds none (some r) ++ [d] ++ cutD ds (some (r + 1)) none), S4, go (.val (.tuple (cutD ds none (some r) ++ [d] ++ cutD ds (some (r + 1)) none)), S4) (some (.val (.int r))) (some (.val (.int w))) ?_, ?_⟩
    · unfold b__law_bent
      rw [first, second]
      rw [bCons_rt (r := .val (.tuple (cutD ds none (some r) ++ [d] ++ cutD ds (some (r + 1)) none))) (e1 := ⟨[some .src, some (.val (.tuple ds)), some (.val (.list odd)), some (.val (.int r)), some (.val (.int w))], S4⟩)]
      unfold sIf
      rw [third, Option.bind_some]
      dsimp only
      rw [decide_eq_true h5, if_pos rfl]
      have s1 : small ((cutD ds none (some r)).length + 1) = true := small_le (by have := c1 none (some r); omega)
      have s2 : small ((cutD ds none (some r)).length + 1 + (cutD ds (some (r + 1)) none).length) = true := small_le (by have := c1 none (some r); have := c1 (some (r + 1)) none; omega)
      simp [sRet, eBin, oVal, eSl, oVar, pNo, pIn, rd, Ent.d, fVar, gSl, Rs.d, eTup, aCons, aNil, eCallS, gIx, ex, e4, small_le, gAdd, s1, s2, fC]
    · have a1 := hn.cut none (some r)
      have a2 := hn.cut (some (r + 1)) none
      have b1 := (a1.le (Nat.le_refl _) (show 30 ≤ h by omega)).app (FnA.cons fd (FnA.nil.le (Nat.le_refl _) (Nat.zero_le _)))
      exact (b1.app (a2.le (Nat.le_refl _) (show 30 ≤ h by omega))).tup.le (by omega) (by omega)
  · have hw : w = 5 ∨ w = 6 ∨ w = 7 := by omega
    have s1 : small ((cutD ds none (some r)).length + (cutD ds (some (r + 1)) none).length) = true := small_le (by have := c1 none (some r); have := c1 (some (r + 1)) none; omega)
    have s2 : small ((cutD ds none (some (r + 1))).length + (cutD ds (some r) none).length) = true := small_le (by have := c1 none (some (r + 1)); have := c1 (some r) none; omega)
    have val : eLst (aCons (eBin gAdd (oVal (eSl (oVar 1) (pNo) (pIn (fVar 3)))) (oVal (eSl (oVar 1) (pIn (eBin gAdd (oVar 3) (oVal (fC (.int 1))))) (pNo)))) (aCons (eBin gAdd (oVal (eSl (oVar 1) (pNo) (pIn (eBin gAdd (oVar 3) (oVal (fC (.int 1))))))) (oVal (eSl (oVar 1) (pIn (fVar 3)) (pNo)))) (aCons (eB gList (oCons (oVar 1) (oNil))) (aNil)))) ⟨[some .src, some (.val (.tuple ds)), some (.val (.list odd)), some (.val (.int r)), some (.val (.int w))], S3⟩ =
        some (.fl [.tuple (cutD ds none (some r) ++ cutD ds (some (r + 1)) none), .tuple (cutD ds none (some (r + 1)) ++ cutD ds (some r) none), .list ds], ⟨[some .src, some (.val (.tuple ds)), some (.val (.list odd)), some (.val (.int r)), some (.val (.int w))], S3⟩) := by
      simp [eLst, aCons, aNil, eBin, oVal, eSl, oVar, pNo, pIn, rd, Ent.d, fVar, gSl, Rs.d, gAdd, s1, s2, fC, eB, gList, oCons, oNil, small_le]
    have fin : ∀ d, gIx (.list [.tuple (cutD ds none (some r) ++ cutD ds (some (r + 1)) none), .tuple (cutD ds none (some (r + 1)) ++ cutD ds (some r) none), .list ds]) (.int (w - 5)) = some (.val d) → Fn (M + 2 * N + 200) (h + 1) d → ∃ d S', runS 3 5 (b__law_bent φ) [.tuple ds, .list odd] S = some (.val d, S') ∧ Fn (M + 2 * N + 200) (h + 1) d := fun d hd fd => by
      refine ⟨d, S3, go (.val d, S3) (some (.val (.int r))) (some (.val (.int w))) ?_, fd⟩
      unfold b__law_bent
      rw [first, second]
      rw [bCons_nx (e1 := ⟨[some .src, some (.val (.tuple ds)), some (.val (.list odd)), some (.val (.int r)), some (.val (.int w))], S3⟩) (by
        unfold sIf
        rw [third, Option.bind_some]
        dsimp only
        rw [decide_eq_false h5, if_neg Bool.false_ne_true]
        rfl)]
      unfold sRet
      show ((eBin gIx (oVal (eLst _)) _ _).bind _) = _
      have : eBin gIx (oVal (eLst (aCons (eBin gAdd (oVal (eSl (oVar 1) (pNo) (pIn (fVar 3)))) (oVal (eSl (oVar 1) (pIn (eBin gAdd (oVar 3) (oVal (fC (.int 1))))) (pNo)))) (aCons (eBin gAdd (oVal (eSl (oVar 1) (pNo) (pIn (eBin gAdd (oVar 3) (oVal (fC (.int 1))))))) (oVal (eSl (oVar 1) (pIn (fVar 3)) (pNo)))) (aCons (eB gList (oCons (oVar 1) (oNil))) (aNil)))))) (oVal (eBin gSub (oVar 4) (oVal (fC (.int 5))))) ⟨[some .src, some (.val (.tuple ds)), some (.val (.list odd)), some (.val (.int r)), some (.val (.int w))], S3⟩ = some (.val d, ⟨[some .src, some (.val (.tuple ds)), some (.val (.list odd)), some (.val (.int r)), some (.val (.int w))], S3⟩) := by
        rw [eBin, oVal, val]
        simp [oVal, eBin, oVar, rd, Ent.d, fC, Rs.d, gSub, hd]
      rw [this]; rfl
    have a := fun lo hi => (hn.cut lo hi).le (Nat.le_refl N) (show 30 ≤ h by omega)
    rcases hw with rfl | rfl | rfl
    · exact fin _ (by rfl) (((a none (some r)).app (a (some (r + 1)) none)).tup.le (by omega) (by omega))
    · exact fin _ (by rfl) (((a none (some (r + 1))).app (a (some r) none)).tup.le (by omega) (by omega))
    · exact fin _ (by rfl) (hn.lst.le (by omega) (by omega))
theorem v_bent {N : Nat} (hN : N ≤ 1000) : ∀ (k fuel : Nat), k < fuel → ∀ (v : D), Tl k v → Fn N 30 v → ∀ S : Src,
    ∃ d S', p__law_bent fuel [v, .list odd] S = some (.val d, S') ∧ Fn ((k + 1) * (2 * N + 200)) (32 + k) d := by
  intro k
  induction k with
  | zero =>
    intro fuel hk v hv hn S
    obtain ⟨m, rfl⟩ : ∃ m, fuel = m + 1 := ⟨fuel - 1, by omega⟩
    obtain ⟨i, hi, rfl⟩ := hv
    obtain ⟨d, S', e, f⟩ := b_int ho hl hf (φ := p__law_bent m) hi S
    exact ⟨d, S', e, f.le (by omega) (by omega)⟩
  | succ k ih =>
    intro fuel hk v hv hn S
    obtain ⟨m, rfl⟩ : ∃ m, fuel = m + 1 := ⟨fuel - 1, by omega⟩
    rcases hv with ⟨i, hi, rfl⟩ | ⟨ds, rfl, h2, h3⟩
    · obtain ⟨d, S', e, f⟩ := b_int ho hl hf (φ := p__law_bent m) hi S
      exact ⟨d, S', e, f.le (by rw [Nat.succ_mul]; omega) (by omega)⟩
    · have hs : SeqAt.shaped (.tuple ds) = true := by
        unfold SeqAt.shaped
        rw [Bool.and_eq_true]
        refine ⟨canAll fun x hx => (h3 x hx).can, decide_eq_true ?_⟩
        have := hn.d; omega
      obtain ⟨d, S', e, f⟩ := b_tup ho hl hf (φ := p__law_bent m) hN h2 hs hn.untup (32 + k) (by omega) (fun x hx S => ih m (by omega) x (h3 x hx) ((hn.untup.mem hx)) S) S
      exact ⟨d, S', e, f.le (by rw [Nat.succ_mul (k + 1)]; omega) (by omega)⟩
end
end Law
end EL
namespace EL
open PySem PySem.Spec PyProof.Rows L2
namespace Law
def isT (d : D) : Bool := instB "tuple" (tyD d)
def isI (d : D) : Bool := instB "int" (tyD d) && !instB "bool" (tyD d)
def itemsD : D → List D
  | .tuple ds => ds
  | _ => []
def allI (d : D) : Bool := (itemsD d).all isI
theorem isT_tup {d : D} (h : isT d = true) : ∃ ds, d = .tuple ds := by
  cases d <;> first | exact ⟨_, rfl⟩ | (simp [isT, instB, tyD] at h)
theorem isI_int {d : D} (h : isI d = true) : ∃ i, d = .int i := by
  cases d <;> first | exact ⟨_, rfl⟩ | (simp [isI, instB, tyD] at h)
theorem v_isi (d : D) : p_is_integer [d] = some (.val (.bool (isI d))) := by
  unfold p_is_integer b_is_integer isI
  cases h1 : instB "int" (tyD d) <;> cases h2 : instB "bool" (tyD d) <;> simp [runD, args, sRet, eAnd, eNot, eInst, oVar, rd, Ent.d, instT, h1, h2, EL.out]
theorem v_lisi (d : D) : p__law_is_int [d] = some (.val (.bool (isI d))) := by
  unfold p__law_is_int b__law_is_int isI
  cases h1 : instB "int" (tyD d) <;> cases h2 : instB "bool" (tyD d) <;> simp [runD, args, sRet, eAnd, eNot, eInst, oVar, rd, Ent.d, instT, h1, h2, EL.out]
theorem blsD_map (g : D → Bool) : ∀ vs : List D, blsD (vs.map fun x => .bool (g x)) = some (vs.map g)
  | [] => rfl
  | v :: vs => by simp [blsD, blsD_map g vs]
theorem lNe_nil (xs : List D) : lNe (.list xs) (.list []) = some (.val (.bool (!xs.isEmpty))) := by
  cases xs with
  | nil => rfl
  | cons x xs => rfl
theorem FnA.len {N h : Nat} {ds : List D} (x : FnA N h ds) : ds.length ≤ N := by
  have key : ∀ ds : List D, ds.length ≤ PyData.weightAll ds := by
    intro ds
    induction ds with
    | nil => simp
    | cons d ds ih => simp [PyData.weightAll]; omega
  exact Nat.le_trans (key ds) x.w
def form : D := .tuple [.str "form"]
def bW (vs due : List D) : D → Bool
  | .int i => !PyData.eqv (vs.getD i.toNat .none) (due.getD i.toNat .none)
  | _ => false
def wr (vs due : List D) : List D := (rgL 0 due.length).filter (bW vs due)
def tailD (vs due : List D) : D := match wr vs due with
  | [] => .none
  | .int i :: _ => .tuple [.str "round", .int i, due.getD i.toNat .none]
  | _ :: _ => .none
def ans (v : D) (due : List D) : D := match v with
  | .tuple vs => if vs.all isT = true then if vs.all allI = true then if vs.length = due.length then tailD vs due else .tuple [.str "many", .int due.length] else form else form
  | _ => form
theorem wr_mem {vs due : List D} {d : D} (h : d ∈ wr vs due) : ∃ i : Nat, d = .int i ∧ i < due.length := by
  unfold wr at h
  have := (List.mem_filter.mp h).1
  unfold rgL at this
  obtain ⟨k, hk, rfl⟩ := List.mem_map.mp this
  exact ⟨k, by simp, by simpa using hk⟩
theorem gIx_nat {ds : List D} {i : Nat} (h : i < ds.length) : gIx (.tuple ds) (.int i) = some (.val (ds.getD i .none)) ∧ gIx (.list ds) (.int i) = some (.val (ds.getD i .none)) := by
  have e : L2.atI ds (i : Int) = some (ds.getD i .none) := by
    unfold L2.atI
    rw [ixN_in (by omega) (by omega)]
    simp [h]
  exact ⟨by simp [gIx, e], by simp [gIx, e]⟩
theorem depth0 : ∀ {ds : List D}, (∀ x ∈ ds, isI x = true) → PyData.depthAll ds = 0
  | [], _ => rfl
  | d :: ds, h => by
    obtain ⟨i, rfl⟩ := isI_int (h d List.mem_cons_self)
    simp [PyData.depthAll, PyData.depth, depth0 fun x hx => h x (List.mem_cons_of_mem _ hx)]
/-- tuples of ints may be compared -/
theorem shp {d : D} (h1 : isT d = true) (h2 : allI d = true) : SeqAt.shaped d = true := by
  obtain ⟨ds, rfl⟩ := isT_tup h1
  have h2 : ds.all isI = true := h2
  rw [List.all_eq_true] at h2
  unfold SeqAt.shaped
  rw [Bool.and_eq_true]
  refine ⟨canAll fun x hx => ?_, decide_eq_true ?_⟩
  · obtain ⟨i, rfl⟩ := isI_int (h2 x hx); rfl
  · have : PyData.depthAll ds = 0 := depth0 h2
    simp [PyData.depth, this]
theorem lNe_tup {x y : D} (hx : isT x = true) (sx : SeqAt.shaped x = true) (sy : SeqAt.shaped y = true) : lNe x y = some (.val (.bool (!PyData.eqv x y))) := by
  obtain ⟨ds, rfl⟩ := isT_tup hx
  show gNe (.tuple ds) y = _
  unfold gNe
  rw [sx, sy]; rfl
structure DueOk (N : Nat) (due : List D) : Prop where
  f : FnA N 1 due
  t : ∀ d ∈ due, isT d = true ∧ allI d = true
theorem getD_mem {ds : List D} {i : Nat} (h : i < ds.length) : ds.getD i .none ∈ ds := by
  have : ds.getD i .none = ds[i] := by simp [h]
  rw [this]; exact List.getElem_mem h
theorem forL_first {g : FG} {B : FS} {r : Rs} (good : D → Bool) (mk : Option Ent → EE) : ∀ (ds : List D) (x : Option Ent),
    (∀ d ∈ ds, ∀ x, ∃ e1, g d (mk x) = some e1 ∧ (good d = true → ∃ y, B e1 = some (.nx, mk y)) ∧ (good d = false → ∃ e2, B e1 = some (.rt r, e2))) →
    (ds.all good = true → ∃ y, forL g B ds (mk x) = some (.nx, mk y)) ∧ (ds.all good = false → ∃ e2, forL g B ds (mk x) = some (.rt r, e2))
  | [], x, _ => ⟨fun _ => ⟨x, rfl⟩, fun h => by cases h⟩
  | d :: ds, x, h => by
    obtain ⟨e1, h1, h2, h3⟩ := h d List.mem_cons_self x
    cases hd : good d with
    | true =>
      obtain ⟨y, hy⟩ := h2 hd
      obtain ⟨i1, i2⟩ := forL_first good mk ds y fun d' hd' => h d' (List.mem_cons_of_mem _ hd')
      have e : forL g B (d :: ds) (mk x) = forL g B ds (mk y) := by
        rw [forL, h1, Option.bind_some, hy]; rfl
      rw [e, List.all_cons, hd, Bool.true_and]
      exact ⟨i1, i2⟩
    | false =>
      obtain ⟨e2, he⟩ := h3 hd
      rw [List.all_cons, hd, Bool.false_and]
      exact ⟨(fun z => by cases z), fun _ => ⟨e2, by rw [forL, h1, Option.bind_some, he]; rfl⟩⟩
section
variable {N : Nat} {due : List D} (hN : N ≤ 8000) (hd : DueOk N due)
include hN hd
/-- the last two statements, whichever the slots -/
theorem j_tail {vs : List D} (h1 : vs.all isT = true) (h2 : vs.all allI = true) (h3 : vs.length = due.length) (sh : D) :
    ∃ e', bCons (sSet 3 (eComp [6] (iRg1 (oCons (oVal (eB gLen (oCons (oVar 2) (oNil)))) (oNil))) (gN 6) (tOf (eBin lNe (oVal (eBin gIx (oVar 1) (oVar 6))) (oVal (eBin gIx (oVar 2) (oVar 6))))) (fVar 6)))
  (sRet (eIf (tOf (eBin lNe (oVar 3) (oVal (eLst (aNil))))) (eTup (aCons (fC (.str "round")) (aCons (eBin gIx (oVar 3) (oVal (fC (.int 0)))) (aCons (eBin gIx (oVar 2) (oVal (eBin gIx (oVar 3) (oVal (fC (.int 0)))))) (aNil))))) (fC .none)))
    ⟨[some (.val sh), some (.val (.tuple vs)), some (.val (.tuple due)), none, none, none, none], S0⟩ = some (.rt (.val (tailD vs due)), e') := by
  have hl := FnA.len hd.f
  have hw : inW (due.length : Int) = true := inW_nat (by omega)
  rw [List.all_eq_true] at h1 h2
  have cp : compL [6] (gN 6) (tOf (eBin lNe (oVal (eBin gIx (oVar 1) (oVar 6))) (oVal (eBin gIx (oVar 2) (oVar 6))))) (fVar 6) (rgL 0 due.length) ⟨[some (.val sh), some (.val (.tuple vs)), some (.val (.tuple due)), none, none, none, none], S0⟩ =
      some (((rgL 0 due.length).filter (bW vs due)).map id, ⟨[some (.val sh), some (.val (.tuple vs)), some (.val (.tuple due)), none, none, none, none], S0⟩) := by
    refine compL_pure (bW vs due) id _ fun d hm => ?_
    unfold rgL at hm
    obtain ⟨k, hk, rfl⟩ := List.mem_map.mp hm
    have hk : k < due.length := by simpa using hk
    have hk2 : k < vs.length := by omega
    have mv := getD_mem hk2
    have md := getD_mem hk
    have z : (0 + (k : Int)) = k := by omega
    rw [z]
    have q := lNe_tup (h1 _ mv) (shp (h1 _ mv) (h2 _ mv)) (shp (hd.t _ md).1 (hd.t _ md).2)
    refine ⟨⟨[some (.val sh), some (.val (.tuple vs)), some (.val (.tuple due)), none, none, none, some (.val (.int k))], S0⟩, by simp [gN, EE.put], ⟨[some (.val sh), some (.val (.tuple vs)), some (.val (.tuple due)), none, none, none, some (.val (.int k))], S0⟩, ?_, fun _ => ⟨.val (.int k), _, rfl, rfl, by simp [wipeE, EE.put]⟩, fun _ => by simp [wipeE, EE.put]⟩
    simp only [tOf, eBin, oVal, oVar, rd, Ent.d, Rs.d, Option.bind_some, List.getElem?_cons_zero, List.getElem?_cons_succ, (gIx_nat hk).1, (gIx_nat hk2).1, q, bW, Int.toNat_natCast]
  rw [List.map_id] at cp
  change _ = some (wr vs due, _) at cp
  have hz : small (wr vs due).length = true := small_le (by
    have := List.length_filter_le (bW vs due) (rgL 0 due.length)
    have e : (rgL 0 due.length).length = due.length := by simp [rgL]
    unfold wr; omega)
  rw [bCons_nx (e1 := ⟨[some (.val sh), some (.val (.tuple vs)), some (.val (.tuple due)), some (.ol (wr vs due)), none, none, none], S0⟩) (by
    simp [sSet, eComp, iRg1, oCons, oVal, eB, gLen, oVar, rd, Ent.d, oNil, Rs.d, hw, wipeE, EE.put, cp, hz, restE, keepV, Rs.ent])]
  unfold tailD
  cases hwr : wr vs due with
  | nil => exact ⟨_, by simp [sRet, eIf, tOf, eBin, oVar, rd, Ent.d, oVal, eLst, aNil, small_le, Rs.d, lNe_nil, fC]; rfl⟩
  | cons d ws =>
    obtain ⟨i, rfl, hi⟩ := wr_mem (vs := vs) (due := due) (d := d) (by rw [hwr]; exact List.mem_cons_self)
    have g0 : gIx (.list (.int i :: ws)) (.int 0) = some (.val (.int i)) := (gIx_nat (ds := .int i :: ws) (i := 0) (by simp)).2
    exact ⟨_, by simp [sRet, eIf, tOf, eBin, oVar, rd, Ent.d, oVal, eLst, aNil, small_le, Rs.d, lNe_nil, fC, eTup, aCons, g0, (gIx_nat hi).1]; rfl⟩
theorem f_tail {vs : List D} (h1 : vs.all isT = true) (h2 : vs.all allI = true) (h3 : vs.length = due.length) (y : Option Ent) :
    ∃ e', bCons (sSet 3 (eComp [5] (iRg1 (oCons (oVal (eB gLen (oCons (oVar 0) (oNil)))) (oNil))) (gN 5) (tOf (eBin lNe (oVal (eBin gIx (oVar 1) (oVar 5))) (oVal (eBin gIx (oVar 0) (oVar 5))))) (fVar 5)))
  (sRet (eIf (tOf (eBin lNe (oVar 3) (oVal (eLst (aNil))))) (eTup (aCons (fC (.str "round")) (aCons (eBin gIx (oVar 3) (oVal (fC (.int 0)))) (aCons (eBin gIx (oVar 0) (oVal (eBin gIx (oVar 3) (oVal (fC (.int 0)))))) (aNil))))) (fC .none)))
    ⟨[some (.val (.tuple due)), some (.val (.tuple vs)), y, none, none, none], S0⟩ = some (.rt (.val (tailD vs due)), e') := by
  have hl := FnA.len hd.f
  have hw : inW (due.length : Int) = true := inW_nat (by omega)
  rw [List.all_eq_true] at h1 h2
  have cp : compL [5] (gN 5) (tOf (eBin lNe (oVal (eBin gIx (oVar 1) (oVar 5))) (oVal (eBin gIx (oVar 0) (oVar 5))))) (fVar 5) (rgL 0 due.length) ⟨[some (.val (.tuple due)), some (.val (.tuple vs)), y, none, none, none], S0⟩ =
      some (((rgL 0 due.length).filter (bW vs due)).map id, ⟨[some (.val (.tuple due)), some (.val (.tuple vs)), y, none, none, none], S0⟩) := by
    refine compL_pure (bW vs due) id _ fun d hm => ?_
    unfold rgL at hm
    obtain ⟨k, hk, rfl⟩ := List.mem_map.mp hm
    have hk : k < due.length := by simpa using hk
    have hk2 : k < vs.length := by omega
    have mv := getD_mem hk2
    have md := getD_mem hk
    have z : (0 + (k : Int)) = k := by omega
    rw [z]
    have q := lNe_tup (h1 _ mv) (shp (h1 _ mv) (h2 _ mv)) (shp (hd.t _ md).1 (hd.t _ md).2)
    refine ⟨⟨[some (.val (.tuple due)), some (.val (.tuple vs)), y, none, none, some (.val (.int k))], S0⟩, by simp [gN, EE.put], ⟨[some (.val (.tuple due)), some (.val (.tuple vs)), y, none, none, some (.val (.int k))], S0⟩, ?_, fun _ => ⟨.val (.int k), _, rfl, rfl, by simp [wipeE, EE.put]⟩, fun _ => by simp [wipeE, EE.put]⟩
    simp only [tOf, eBin, oVal, oVar, rd, Ent.d, Rs.d, Option.bind_some, List.getElem?_cons_zero, List.getElem?_cons_succ, (gIx_nat hk).1, (gIx_nat hk2).1, q, bW, Int.toNat_natCast]
  rw [List.map_id] at cp
  change _ = some (wr vs due, _) at cp
  have hz : small (wr vs due).length = true := small_le (by
    have := List.length_filter_le (bW vs due) (rgL 0 due.length)
    have e : (rgL 0 due.length).length = due.length := by simp [rgL]
    unfold wr; omega)
  rw [bCons_nx (e1 := ⟨[some (.val (.tuple due)), some (.val (.tuple vs)), y, some (.ol (wr vs due)), none, none], S0⟩) (by
    simp [sSet, eComp, iRg1, oCons, oVal, eB, gLen, oVar, rd, Ent.d, oNil, Rs.d, hw, wipeE, EE.put, cp, hz, restE, keepV, Rs.ent])]
  unfold tailD
  cases hwr : wr vs due with
  | nil => exact ⟨_, by simp [sRet, eIf, tOf, eBin, oVar, rd, Ent.d, oVal, eLst, aNil, small_le, Rs.d, lNe_nil, fC]; rfl⟩
  | cons d ws =>
    obtain ⟨i, rfl, hi⟩ := wr_mem (vs := vs) (due := due) (d := d) (by rw [hwr]; exact List.mem_cons_self)
    have g0 : gIx (.list (.int i :: ws)) (.int 0) = some (.val (.int i)) := (gIx_nat (ds := .int i :: ws) (i := 0) (by simp)).2
    exact ⟨_, by simp [sRet, eIf, tOf, eBin, oVar, rd, Ent.d, oVal, eLst, aNil, small_le, Rs.d, lNe_nil, fC, eTup, aCons, g0, (gIx_nat hi).1]; rfl⟩
end
end Law
end EL
namespace EL
open PySem PySem.Spec PyProof.Rows L2
namespace Law
theorem compL_map {vs : List Nat} {g : FG} {F : FE} {e : EE} (f : D → D) (ds : List D) (h : ∀ d ∈ ds, ∃ e1, g d e = some e1 ∧ ∃ r e3, F e1 = some (r, e3) ∧ r.d = f d ∧ wipeE e3 vs = e) : compL vs g tYs F ds e = some (ds.map f, e) := by
  have := compL_pure (vs := vs) (g := g) (t := tYs) (F := F) (e := e) (fun _ => true) f ds fun d hd => by
    obtain ⟨e1, h1, r, e3, h2, h3, h4⟩ := h d hd
    exact ⟨e1, h1, e1, rfl, fun _ => ⟨r, e3, h2, h3, h4⟩, fun z => by cases z⟩
  rw [this, List.filter_eq_self.mpr fun _ _ => rfl]
theorem ans_no {v : D} {due : List D} (h : isT v = false) : ans v due = form := by
  cases v <;> first | rfl | (simp [isT, instB, tyD] at h)
section
variable {N : Nat} {due : List D} (hN : N ≤ 8000) (hd : DueOk N due)
include hN hd
theorem v_judge {n : Nat} {l : List Nat} (h : Shf n l) (hdue : due = dR (rds (fA l) n).1) {v : D} (hv : Fn 8000 180 v) : p_judge_rounds [.tuple (dI l), v] = some (.val (ans v due)) := by
  have hr := v_rounds2 h
  rw [← hdue] at hr
  generalize PyData.tuple (dI l) = sh at hr
  have go : ∀ d e', b_judge_rounds ⟨[some (.val sh), some (.val v), none, none, none, none, none], S0⟩ = some (.rt (.val d), e') → p_judge_rounds [sh, v] = some (.val d) := fun d e' h => by
    unfold p_judge_rounds runD
    rw [if_pos (by rfl)]
    show ((b_judge_rounds ⟨[some (.val sh), some (.val v), none, none, none, none, none], S0⟩).bind _) = _
    rw [h]; rfl
  have hform : ∀ e : EE, sRet (eTup (aCons (fC (.str "form")) (aNil))) e = some (.rt (.val form), e) := fun e => by
    simp [sRet, eTup, aCons, aNil, fC, Rs.d, small_le, form]
  cases hT : isT v with
  | false =>
    rw [ans_no hT]
    refine go _ ⟨[some (.val sh), some (.val v), none, none, none, none, none], S0⟩ ?_
    unfold b_judge_rounds
    refine bCons_rt ?_
    unfold isT at hT
    unfold sIf
    simp [tOr, tNot, tOf, eInst, oVar, rd, Ent.d, instT, hT, hform]
  | true =>
    obtain ⟨vs, rfl⟩ := isT_tup hT
    have hl := FnA.len hv.untup
    have hz : small vs.length = true := small_le (by omega)
    have cp1 : compL [4] (gN 4) tYs (eInst (oVar 4) "tuple") vs ⟨[some (.val sh), some (.val (.tuple vs)), none, none, none, none, none], S0⟩ = some (vs.map fun x => .bool (isT x), ⟨[some (.val sh), some (.val (.tuple vs)), none, none, none, none, none], S0⟩) :=
      compL_map _ _ fun d _ => ⟨⟨[some (.val sh), some (.val (.tuple vs)), none, none, some (.val d), none, none], S0⟩, by simp [gN, EE.put], .val (.bool (isT d)), ⟨[some (.val sh), some (.val (.tuple vs)), none, none, some (.val d), none, none], S0⟩, by simp [eInst, oVar, rd, Ent.d, instT, isT], rfl, by simp [wipeE, EE.put]⟩
    have all1 : eB gAll (oCons (oVal (eComp [4] (iSeq (fVar 1)) (gN 4) (tYs) (eInst (oVar 4) "tuple"))) (oNil)) ⟨[some (.val sh), some (.val (.tuple vs)), none, none, none, none, none], S0⟩ = some (.val (.bool (vs.all isT)), ⟨[some (.val sh), some (.val (.tuple vs)), none, none, none, none, none], S0⟩) := by
      simp [eB, oCons, oVal, oNil, eComp, iSeq, fVar, Rs.d, seqD, wipeE, EE.put, cp1, hz, restE, keepV, gAll, blsD_map]
    have t1 : tOr (tNot (tOf (eInst (oVar 1) "tuple"))) (tNot (tOf (eB gAll (oCons (oVal (eComp [4] (iSeq (fVar 1)) (gN 4) (tYs) (eInst (oVar 4) "tuple"))) (oNil))))) ⟨[some (.val sh), some (.val (.tuple vs)), none, none, none, none, none], S0⟩ = some (!vs.all isT, ⟨[some (.val sh), some (.val (.tuple vs)), none, none, none, none, none], S0⟩) := by
      unfold isT at hT
      have a : tNot (tOf (eInst (oVar 1) "tuple")) ⟨[some (.val sh), some (.val (.tuple vs)), none, none, none, none, none], S0⟩ = some (false, ⟨[some (.val sh), some (.val (.tuple vs)), none, none, none, none, none], S0⟩) := by
        simp [tNot, tOf, eInst, oVar, rd, Ent.d, instT, hT]
      rw [tOr, a, Option.bind_some]
      dsimp only
      rw [if_neg Bool.false_ne_true]
      simp only [tNot, tOf, all1, Option.bind_some]
    cases h1 : vs.all isT with
    | false =>
      have : ans (.tuple vs) due = form := by simp only [ans, h1]; rfl
      rw [this]
      refine go _ ⟨[some (.val sh), some (.val (.tuple vs)), none, none, none, none, none], S0⟩ ?_
      unfold b_judge_rounds
      refine bCons_rt ?_
      unfold sIf
      rw [t1, h1]
      exact hform _
    | true =>
      have h1' := h1
      rw [List.all_eq_true] at h1'
      have cp2 : compL [4] (gN 4) tYs (eB gAll (oCons (oVal (eComp [5] (iSeq (fVar 4)) (gN 5) (tYs) (eCall p_is_integer (aCons (fVar 5) (aNil))))) (oNil))) vs ⟨[some (.val sh), some (.val (.tuple vs)), none, none, none, none, none], S0⟩ = some (vs.map fun x => .bool (allI x), ⟨[some (.val sh), some (.val (.tuple vs)), none, none, none, none, none], S0⟩) := by
        refine compL_map _ _ fun d hm => ?_
        obtain ⟨ws, rfl⟩ := isT_tup (h1' d hm)
        have hlw := FnA.len (hv.untup.mem hm).untup
        have hzw : small ws.length = true := small_le (by omega)
        have cp3 : compL [5] (gN 5) tYs (eCall p_is_integer (aCons (fVar 5) (aNil))) ws ⟨[some (.val sh), some (.val (.tuple vs)), none, none, some (.val (.tuple ws)), none, none], S0⟩ = some (ws.map fun x => .bool (isI x), ⟨[some (.val sh), some (.val (.tuple vs)), none, none, some (.val (.tuple ws)), none, none], S0⟩) :=
          compL_map _ _ fun d _ => ⟨⟨[some (.val sh), some (.val (.tuple vs)), none, none, some (.val (.tuple ws)), some (.val d), none], S0⟩, by simp [gN, EE.put], .val (.bool (isI d)), ⟨[some (.val sh), some (.val (.tuple vs)), none, none, some (.val (.tuple ws)), some (.val d), none], S0⟩, by simp [eCall, aCons, aNil, fVar, Rs.d, v_isi], rfl, by simp [wipeE, EE.put]⟩
        refine ⟨⟨[some (.val sh), some (.val (.tuple vs)), none, none, some (.val (.tuple ws)), none, none], S0⟩, by simp [gN, EE.put], .val (.bool (allI (.tuple ws))), ⟨[some (.val sh), some (.val (.tuple vs)), none, none, some (.val (.tuple ws)), none, none], S0⟩, ?_, rfl, by simp [wipeE, EE.put]⟩
        simp [eB, oCons, oVal, oNil, eComp, iSeq, fVar, Rs.d, seqD, wipeE, EE.put, cp3, hzw, restE, keepV, gAll, blsD_map, allI, itemsD]
      have all2 : eB gAll (oCons (oVal (eComp [4] (iSeq (fVar 1)) (gN 4) (tYs) (eB gAll (oCons (oVal (eComp [5] (iSeq (fVar 4)) (gN 5) (tYs) (eCall p_is_integer (aCons (fVar 5) (aNil))))) (oNil))))) (oNil)) ⟨[some (.val sh), some (.val (.tuple vs)), none, none, none, none, none], S0⟩ = some (.val (.bool (vs.all allI)), ⟨[some (.val sh), some (.val (.tuple vs)), none, none, none, none, none], S0⟩) := by
        rw [eB, oCons, oVal, eComp]
        simp [oNil, iSeq, fVar, Rs.d, seqD, wipeE, EE.put, cp2, hz, restE, keepV, gAll, blsD_map]
      have step1 : ∀ B : FS, bCons (sIf (tOr (tNot (tOf (eInst (oVar 1) "tuple"))) (tNot (tOf (eB gAll (oCons (oVal (eComp [4] (iSeq (fVar 1)) (gN 4) (tYs) (eInst (oVar 4) "tuple"))) (oNil)))))) (sRet (eTup (aCons (fC (.str "form")) (aNil)))) (sNx)) B ⟨[some (.val sh), some (.val (.tuple vs)), none, none, none, none, none], S0⟩ = B ⟨[some (.val sh), some (.val (.tuple vs)), none, none, none, none, none], S0⟩ := fun B => bCons_nx (by
        unfold sIf
        rw [t1, h1]; rfl)
      have t2 : tNot (tOf (eB gAll (oCons (oVal (eComp [4] (iSeq (fVar 1)) (gN 4) (tYs) (eB gAll (oCons (oVal (eComp [5] (iSeq (fVar 4)) (gN 5) (tYs) (eCall p_is_integer (aCons (fVar 5) (aNil))))) (oNil))))) (oNil)))) ⟨[some (.val sh), some (.val (.tuple vs)), none, none, none, none, none], S0⟩ = some (!vs.all allI, ⟨[some (.val sh), some (.val (.tuple vs)), none, none, none, none, none], S0⟩) := by
        simp only [tNot, tOf, all2, Option.bind_some]
      cases h2 : vs.all allI with
      | false =>
        have : ans (.tuple vs) due = form := by simp only [ans, h1, h2]; rfl
        rw [this]
        refine go _ ⟨[some (.val sh), some (.val (.tuple vs)), none, none, none, none, none], S0⟩ ?_
        unfold b_judge_rounds
        rw [step1]
        refine bCons_rt ?_
        unfold sIf
        rw [t2, h2]
        exact hform _
      | true =>
        have s2 : ∀ B : FS, bCons (sIf (tNot (tOf (eB gAll (oCons (oVal (eComp [4] (iSeq (fVar 1)) (gN 4) (tYs) (eB gAll (oCons (oVal (eComp [5] (iSeq (fVar 4)) (gN 5) (tYs) (eCall p_is_integer (aCons (fVar 5) (aNil))))) (oNil))))) (oNil))))) (sRet (eTup (aCons (fC (.str "form")) (aNil)))) (sNx)) B ⟨[some (.val sh), some (.val (.tuple vs)), none, none, none, none, none], S0⟩ = B ⟨[some (.val sh), some (.val (.tuple vs)), none, none, none, none, none], S0⟩ := fun B => bCons_nx (by
          unfold sIf
          rw [t2, h2]; rfl)
        have s3 : ∀ B : FS, bCons (sSet 2 (eCall p_rounds_of (aCons (fVar 0) (aNil)))) B ⟨[some (.val sh), some (.val (.tuple vs)), none, none, none, none, none], S0⟩ = B ⟨[some (.val sh), some (.val (.tuple vs)), some (.val (.tuple due)), none, none, none, none], S0⟩ := fun B => bCons_nx (by
          simp [sSet, eCall, aCons, aNil, fVar, Rs.d, hr, Rs.ent, EE.put])
        have t3 : tOf (eBin lNe (oVal (eB gLen (oCons (oVar 1) (oNil)))) (oVal (eB gLen (oCons (oVar 2) (oNil))))) ⟨[some (.val sh), some (.val (.tuple vs)), some (.val (.tuple due)), none, none, none, none], S0⟩ = some (!decide (vs.length = due.length), ⟨[some (.val sh), some (.val (.tuple vs)), some (.val (.tuple due)), none, none, none, none], S0⟩) := by
          simp [tOf, eBin, oVal, eB, gLen, oCons, oVar, rd, Ent.d, oNil, Rs.d, lNe_nat]
        by_cases h3 : vs.length = due.length
        · have : ans (.tuple vs) due = tailD vs due := by simp only [ans, h1, h2, h3, if_true]
          rw [this]
          obtain ⟨e', hj⟩ := j_tail hN hd h1 h2 h3 sh
          refine go _ e' ?_
          unfold b_judge_rounds
          rw [step1, s2, s3, bCons_nx (e1 := ⟨[some (.val sh), some (.val (.tuple vs)), some (.val (.tuple due)), none, none, none, none], S0⟩) (by
            unfold sIf
            rw [t3, decide_eq_true h3]; rfl)]
          exact hj
        · have : ans (.tuple vs) due = .tuple [.str "many", .int due.length] := by simp only [ans, h1, h2, if_true, if_neg h3]
          rw [this]
          refine go _ ⟨[some (.val sh), some (.val (.tuple vs)), some (.val (.tuple due)), none, none, none, none], S0⟩ ?_
          unfold b_judge_rounds
          rw [step1, s2, s3]
          refine bCons_rt ?_
          unfold sIf
          rw [t3, decide_eq_false h3]
          simp [sRet, eTup, aCons, aNil, fC, Rs.d, eB, gLen, oCons, oVar, rd, Ent.d, oNil, small_le]
theorem v_fault {v : D} (hv : Fn 8000 180 v) : p__law_fault [.tuple due, v] = some (.val (ans v due)) := by
  have go : ∀ d e', b__law_fault ⟨[some (.val (.tuple due)), some (.val v), none, none, none, none], S0⟩ = some (.rt (.val d), e') → p__law_fault [.tuple due, v] = some (.val d) := fun d e' h => by
    unfold p__law_fault runD
    rw [if_pos (by rfl)]
    show ((b__law_fault ⟨[some (.val (.tuple due)), some (.val v), none, none, none, none], S0⟩).bind _) = _
    rw [h]; rfl
  have hform : ∀ e : EE, sRet (eTup (aCons (fC (.str "form")) (aNil))) e = some (.rt (.val form), e) := fun e => by
    simp [sRet, eTup, aCons, aNil, fC, Rs.d, small_le, form]
  cases hT : isT v with
  | false =>
    rw [ans_no hT]
    refine go _ ⟨[some (.val (.tuple due)), some (.val v), none, none, none, none], S0⟩ ?_
    unfold b__law_fault
    refine bCons_rt ?_
    unfold isT at hT
    unfold sIf
    simp [tOr, tNot, tOf, eInst, oVar, rd, Ent.d, instT, hT, hform]
  | true =>
    obtain ⟨vs, rfl⟩ := isT_tup hT
    have hl := FnA.len hv.untup
    have cp1 : compL [2] (gN 2) (tNot (tOf (eInst (oVar 2) "tuple"))) (fVar 2) vs ⟨[some (.val (.tuple due)), some (.val (.tuple vs)), none, none, none, none], S0⟩ = some ((vs.filter fun x => !isT x).map id, ⟨[some (.val (.tuple due)), some (.val (.tuple vs)), none, none, none, none], S0⟩) :=
      compL_pure (fun x => !isT x) id _ fun d _ => ⟨⟨[some (.val (.tuple due)), some (.val (.tuple vs)), some (.val d), none, none, none], S0⟩, by simp [gN, EE.put], ⟨[some (.val (.tuple due)), some (.val (.tuple vs)), some (.val d), none, none, none], S0⟩, by simp [tNot, tOf, eInst, oVar, rd, Ent.d, instT, isT], fun _ => ⟨.val d, _, rfl, rfl, by simp [wipeE, EE.put]⟩, fun _ => by simp [wipeE, EE.put]⟩
    have hz : small (vs.filter fun x => !isT x).length = true := small_le (by have := List.length_filter_le (fun x => !isT x) vs; omega)
    have e1 : (vs.filter fun x => !isT x).isEmpty = vs.all isT := by
      rw [Bool.eq_iff_iff, List.isEmpty_iff, List.filter_eq_nil_iff, List.all_eq_true]
      simp
    have t1 : tOr (tNot (tOf (eInst (oVar 1) "tuple"))) (tOf (eBin lNe (oVal (eComp [2] (iSeq (fVar 1)) (gN 2) (tNot (tOf (eInst (oVar 2) "tuple"))) (fVar 2))) (oVal (eLst (aNil))))) ⟨[some (.val (.tuple due)), some (.val (.tuple vs)), none, none, none, none], S0⟩ = some (!vs.all isT, ⟨[some (.val (.tuple due)), some (.val (.tuple vs)), none, none, none, none], S0⟩) := by
      rw [List.map_id] at cp1
      unfold isT at hT
      have a : tNot (tOf (eInst (oVar 1) "tuple")) ⟨[some (.val (.tuple due)), some (.val (.tuple vs)), none, none, none, none], S0⟩ = some (false, ⟨[some (.val (.tuple due)), some (.val (.tuple vs)), none, none, none, none], S0⟩) := by
        simp [tNot, tOf, eInst, oVar, rd, Ent.d, instT, hT]
      have b : eComp [2] (iSeq (fVar 1)) (gN 2) (tNot (tOf (eInst (oVar 2) "tuple"))) (fVar 2) ⟨[some (.val (.tuple due)), some (.val (.tuple vs)), none, none, none, none], S0⟩ = some (.fl (vs.filter fun x => !isT x), ⟨[some (.val (.tuple due)), some (.val (.tuple vs)), none, none, none, none], S0⟩) := by
        simp [eComp, iSeq, fVar, Rs.d, seqD, wipeE, EE.put, cp1, hz, restE, keepV]
      rw [tOr, a, Option.bind_some]
      dsimp only
      rw [if_neg Bool.false_ne_true]
      simp only [tOf, eBin, oVal, b, Option.bind_some, eLst, aNil, small_le, List.length_nil, Nat.zero_le, if_true, Rs.d, lNe_nil, e1]
    cases h1 : vs.all isT with
    | false =>
      have : ans (.tuple vs) due = form := by simp only [ans, h1]; rfl
      rw [this]
      refine go _ ⟨[some (.val (.tuple due)), some (.val (.tuple vs)), none, none, none, none], S0⟩ ?_
      unfold b__law_fault
      refine bCons_rt ?_
      unfold sIf
      rw [t1, h1]
      exact hform _
    | true =>
      have h1' := h1
      rw [List.all_eq_true] at h1'
      have step1 : ∀ B : FS, bCons (sIf (tOr (tNot (tOf (eInst (oVar 1) "tuple"))) (tOf (eBin lNe (oVal (eComp [2] (iSeq (fVar 1)) (gN 2) (tNot (tOf (eInst (oVar 2) "tuple"))) (fVar 2))) (oVal (eLst (aNil)))))) (sRet (eTup (aCons (fC (.str "form")) (aNil)))) (sNx)) B ⟨[some (.val (.tuple due)), some (.val (.tuple vs)), none, none, none, none], S0⟩ = B ⟨[some (.val (.tuple due)), some (.val (.tuple vs)), none, none, none, none], S0⟩ := fun B => bCons_nx (by
        unfold sIf
        rw [t1, h1]; rfl)
      obtain ⟨good, bad⟩ := forL_first (g := gN 2) (B := sIf (tOf (eBin lNe (oVal (eComp [4] (iSeq (fVar 2)) (gN 4) (tNot (tOf (eCall p__law_is_int (aCons (fVar 4) (aNil))))) (fVar 4))) (oVal (eLst (aNil))))) (sRet (eTup (aCons (fC (.str "form")) (aNil)))) (sNx)) (r := .val form) allI
        (fun x => ⟨[some (.val (.tuple due)), some (.val (.tuple vs)), x, none, none, none], S0⟩) vs none fun d hm x => by
          obtain ⟨ws, rfl⟩ := isT_tup (h1' d hm)
          have hlw := FnA.len (hv.untup.mem hm).untup
          have cp3 : compL [4] (gN 4) (tNot (tOf (eCall p__law_is_int (aCons (fVar 4) (aNil))))) (fVar 4) ws ⟨[some (.val (.tuple due)), some (.val (.tuple vs)), some (.val (.tuple ws)), none, none, none], S0⟩ = some ((ws.filter fun x => !isI x).map id, ⟨[some (.val (.tuple due)), some (.val (.tuple vs)), some (.val (.tuple ws)), none, none, none], S0⟩) :=
            compL_pure (fun x => !isI x) id _ fun d _ => ⟨⟨[some (.val (.tuple due)), some (.val (.tuple vs)), some (.val (.tuple ws)), none, some (.val d), none], S0⟩, by simp [gN, EE.put], ⟨[some (.val (.tuple due)), some (.val (.tuple vs)), some (.val (.tuple ws)), none, some (.val d), none], S0⟩, by simp [tNot, tOf, eCall, aCons, aNil, fVar, Rs.d, v_lisi], fun _ => ⟨.val d, _, rfl, rfl, by simp [wipeE, EE.put]⟩, fun _ => by simp [wipeE, EE.put]⟩
          rw [List.map_id] at cp3
          have hz3 : small (ws.filter fun x => !isI x).length = true := small_le (by have := List.length_filter_le (fun x => !isI x) ws; omega)
          have e3 : (ws.filter fun x => !isI x).isEmpty = allI (.tuple ws) := by
            show _ = ws.all isI
            rw [Bool.eq_iff_iff, List.isEmpty_iff, List.filter_eq_nil_iff, List.all_eq_true]
            simp
          have b : eComp [4] (iSeq (fVar 2)) (gN 4) (tNot (tOf (eCall p__law_is_int (aCons (fVar 4) (aNil))))) (fVar 4) ⟨[some (.val (.tuple due)), some (.val (.tuple vs)), some (.val (.tuple ws)), none, none, none], S0⟩ = some (.fl (ws.filter fun x => !isI x), ⟨[some (.val (.tuple due)), some (.val (.tuple vs)), some (.val (.tuple ws)), none, none, none], S0⟩) := by
            simp [eComp, iSeq, fVar, Rs.d, seqD, wipeE, EE.put, cp3, hz3, restE, keepV]
          have t : tOf (eBin lNe (oVal (eComp [4] (iSeq (fVar 2)) (gN 4) (tNot (tOf (eCall p__law_is_int (aCons (fVar 4) (aNil))))) (fVar 4))) (oVal (eLst (aNil)))) ⟨[some (.val (.tuple due)), some (.val (.tuple vs)), some (.val (.tuple ws)), none, none, none], S0⟩ = some (!allI (.tuple ws), ⟨[some (.val (.tuple due)), some (.val (.tuple vs)), some (.val (.tuple ws)), none, none, none], S0⟩) := by
            simp only [tOf, eBin, oVal, b, Option.bind_some, eLst, aNil, small_le, List.length_nil, Nat.zero_le, if_true, Rs.d, lNe_nil, e3]
          refine ⟨⟨[some (.val (.tuple due)), some (.val (.tuple vs)), some (.val (.tuple ws)), none, none, none], S0⟩, by simp [gN, EE.put], fun hg => ⟨some (.val (.tuple ws)), ?_⟩, fun hg => ⟨⟨[some (.val (.tuple due)), some (.val (.tuple vs)), some (.val (.tuple ws)), none, none, none], S0⟩, ?_⟩⟩
          · unfold sIf
            rw [t, hg]; rfl
          · unfold sIf
            rw [t, hg]
            exact hform _
      have it : ∀ x : Option Ent, iSeq (fVar 1) ⟨[some (.val (.tuple due)), some (.val (.tuple vs)), x, none, none, none], S0⟩ = some (vs, ⟨[some (.val (.tuple due)), some (.val (.tuple vs)), x, none, none, none], S0⟩) := fun x => rfl
      cases h2 : vs.all allI with
      | false =>
        have : ans (.tuple vs) due = form := by simp only [ans, h1, h2]; rfl
        rw [this]
        obtain ⟨e2, hb⟩ := bad h2
        refine go _ e2 ?_
        unfold b__law_fault
        rw [step1]
        refine bCons_rt ?_
        unfold sFor
        rw [it, Option.bind_some]
        exact hb
      | true =>
        obtain ⟨y, hg⟩ := good h2
        have step2 : ∀ B : FS, bCons (sFor (iSeq (fVar 1)) (gN 2) (sIf (tOf (eBin lNe (oVal (eComp [4] (iSeq (fVar 2)) (gN 4) (tNot (tOf (eCall p__law_is_int (aCons (fVar 4) (aNil))))) (fVar 4))) (oVal (eLst (aNil))))) (sRet (eTup (aCons (fC (.str "form")) (aNil)))) (sNx))) B ⟨[some (.val (.tuple due)), some (.val (.tuple vs)), none, none, none, none], S0⟩ = B ⟨[some (.val (.tuple due)), some (.val (.tuple vs)), y, none, none, none], S0⟩ := fun B => bCons_nx (by
          unfold sFor
          rw [it, Option.bind_some]
          exact hg)
        have t3 : tOf (eBin lNe (oVal (eB gLen (oCons (oVar 1) (oNil)))) (oVal (eB gLen (oCons (oVar 0) (oNil))))) ⟨[some (.val (.tuple due)), some (.val (.tuple vs)), y, none, none, none], S0⟩ = some (!decide (vs.length = due.length), ⟨[some (.val (.tuple due)), some (.val (.tuple vs)), y, none, none, none], S0⟩) := by
          simp [tOf, eBin, oVal, eB, gLen, oCons, oVar, rd, Ent.d, oNil, Rs.d, lNe_nat]
        by_cases h3 : vs.length = due.length
        · have : ans (.tuple vs) due = tailD vs due := by simp only [ans, h1, h2, h3, if_true]
          rw [this]
          obtain ⟨e', hj⟩ := f_tail hN hd h1 h2 h3 y
          refine go _ e' ?_
          unfold b__law_fault
          rw [step1, step2, bCons_nx (e1 := ⟨[some (.val (.tuple due)), some (.val (.tuple vs)), y, none, none, none], S0⟩) (by
            unfold sIf
            rw [t3, decide_eq_true h3]; rfl)]
          exact hj
        · have : ans (.tuple vs) due = .tuple [.str "many", .int due.length] := by simp only [ans, h1, h2, if_true, if_neg h3]
          rw [this]
          refine go _ ⟨[some (.val (.tuple due)), some (.val (.tuple vs)), y, none, none, none], S0⟩ ?_
          unfold b__law_fault
          rw [step1, step2]
          refine bCons_rt ?_
          unfold sIf
          rw [t3, decide_eq_false h3]
          simp [sRet, eTup, aCons, aNil, fC, Rs.d, eB, gLen, oCons, oVar, rd, Ent.d, oNil, small_le]
end
end Law
end EL
namespace EL
open PySem PySem.Spec PyProof.Rows L2
namespace Law
def odds : List D := [.none, .bool true, .bool false, .int 0, .int 1, .int (-1), .str "", .tuple [], .tuple [.int 0], .tuple [.tuple [.int 0]], .tuple [.tuple [.bool true]], .list [], .dict [], .list [.int 1], .tuple [.tuple [.int 0, .int 1]], .tuple [.tuple [], .tuple []], .int (10 ^ 30)]
theorem fn_big : Fn 101 2 (.int (10 ^ 30)) := by
  have hl : ((10 : Int) ^ 30).natAbs.log2 = 99 := by decide +kernel
  refine ⟨?_, ?_, ?_, Nat.zero_le _⟩
  · unfold PyData.showable; exact decide_eq_true (by rw [hl]; decide)
  · unfold PyData.leavesShort
    exact decide_eq_true (Nat.le_trans (int_text_len_1921 (by rw [hl]; decide)) (by decide))
  · unfold PyData.weight
    split
    · omega
    · rw [hl]; decide
theorem fn_atom {d : D} (h : d = .none ∨ (∃ b, d = .bool b) ∨ d = .str "") : Fn 0 0 d := by
  rcases h with rfl | ⟨b, rfl⟩ | rfl
  · exact ⟨rfl, rfl, Nat.le_refl _, Nat.le_refl _⟩
  · exact ⟨rfl, rfl, Nat.le_refl _, Nat.le_refl _⟩
  · exact ⟨rfl, by decide +kernel, by decide +kernel, Nat.le_refl _⟩
theorem fn0 : Fn 10 0 (.int 0) := fn_int (by decide)
theorem fn1 : Fn 10 0 (.int 1) := fn_int (by decide)
theorem nil0 {h : Nat} : FnA 0 h [] := FnA.nil.le (Nat.le_refl _) (Nat.zero_le _)
theorem odds_ok : ∀ d ∈ odds, Fn 101 2 d := by
  have z : FnA 11 0 [.int 0] := (FnA.cons fn0 nil0).le (by decide) (by decide)
  intro d hd
  simp only [odds, List.mem_cons, List.mem_nil_iff, or_false] at hd
  rcases hd with rfl | rfl | rfl | rfl | rfl | rfl | rfl | rfl | rfl | rfl | rfl | rfl | rfl | rfl | rfl | rfl | rfl
  · exact (fn_atom (.inl rfl)).le (by decide) (by decide)
  · exact (fn_atom (.inr (.inl ⟨_, rfl⟩))).le (by decide) (by decide)
  · exact (fn_atom (.inr (.inl ⟨_, rfl⟩))).le (by decide) (by decide)
  · exact fn0.le (by decide) (by decide)
  · exact fn1.le (by decide) (by decide)
  · exact (fn_int (by decide)).le (by decide) (by decide)
  · exact (fn_atom (.inr (.inr rfl))).le (by decide) (by decide)
  · exact (nil0 (h := 0)).tup.le (by decide) (by decide)
  · exact z.tup.le (by decide) (by decide)
  · exact (FnA.cons z.tup nil0).tup.le (by decide) (by decide)
  · exact (FnA.cons (FnA.cons (fn_atom (.inr (.inl ⟨true, rfl⟩))) nil0).tup nil0).tup.le (by decide) (by decide)
  · exact (nil0 (h := 0)).lst.le (by decide) (by decide)
  · exact ⟨rfl, rfl, Nat.zero_le _, by decide⟩
  · exact (FnA.cons fn1 nil0).lst.le (by decide) (by decide)
  · exact (FnA.cons (FnA.cons fn0 (FnA.cons fn1 nil0)).tup nil0).tup.le (by decide) (by decide)
  · exact (FnA.cons (nil0 (h := 0)).tup (FnA.cons (nil0 (h := 0)).tup nil0)).tup.le (by decide) (by decide)
  · exact fn_big
theorem v_big : gPow (.int 10) (.int 30) = some (.val (.int (10 ^ 30))) := by
  have : powOk 10 30 = true := hid (by decide)
  show (if powOk 10 30 = true then _ else _) = _
  rw [if_pos this]; rfl
/-! ### the rounds' own facts -/
theorem rds_ok {n : Nat} {l : List Nat} (h : Shf n l) : ∀ (ts : List Nat) (st : List (List Nat) × List Nat), (∀ t ∈ ts, t < n) → (∀ a ∈ st.1, a.length ≤ 8 ∧ ∀ x ∈ a, x < 8) →
    (ts.foldl (stp (fA l)) st).1.length ≤ st.1.length + ts.length ∧ ∀ a ∈ (ts.foldl (stp (fA l)) st).1, a.length ≤ 8 ∧ ∀ x ∈ a, x < 8
  | [], st, _, hs => ⟨by simp, hs⟩
  | t :: ts, st, ht, hs => by
    have h8 := h.le
    obtain ⟨_, o2, o3⟩ := h.orb (ht t List.mem_cons_self)
    have key : (stp (fA l) st t).1.length ≤ st.1.length + 1 ∧ ∀ a ∈ (stp (fA l) st t).1, a.length ≤ 8 ∧ ∀ x ∈ a, x < 8 := by
      unfold stp
      split
      · exact ⟨by omega, hs⟩
      · refine ⟨by simp, fun a ha => ?_⟩
        rcases List.mem_append.mp ha with ha | ha
        · exact hs a ha
        · rw [List.mem_singleton.mp ha]
          exact ⟨by omega, fun x hx => by have := o2 x hx; omega⟩
    obtain ⟨i1, i2⟩ := rds_ok h ts (stp (fA l) st t) (fun u hu => ht u (List.mem_cons_of_mem _ hu)) key.2
    refine ⟨?_, i2⟩
    rw [List.foldl_cons, List.length_cons]
    have := key.1
    omega
def dueOf (l : List Nat) (n : Nat) : List D := dR (rds (fA l) n).1
theorem dI_ok {a : List Nat} (h1 : a.length ≤ 8) (h2 : ∀ x ∈ a, x < 8) : FnA 88 0 (dI a) := by
  refine (FnA.all (N := 10) fun d hd => ?_).le (by rw [dI_len]; omega) (Nat.le_refl _)
  unfold dI at hd
  obtain ⟨x, hx, rfl⟩ := List.mem_map.mp hd
  have := h2 x hx
  exact fn_int (by omega)
section
variable {n : Nat} {l : List Nat} (h : Shf n l)
include h
theorem due_mem {d : D} (hd : d ∈ dueOf l n) : ∃ a : List Nat, d = .tuple (dI a) ∧ a.length ≤ 8 ∧ ∀ x ∈ a, x < 8 := by
  obtain ⟨a, ha, rfl⟩ := List.mem_map.mp (show d ∈ (rds (fA l) n).1.map fun a => PyData.tuple (dI a) from hd)
  obtain ⟨_, i2⟩ := rds_ok h (List.range n) ([], []) (fun t ht => by simpa using ht) (fun a ha => by cases ha)
  exact ⟨a, rfl, i2 a ha⟩
theorem due_len : (dueOf l n).length ≤ 8 := by
  obtain ⟨i1, _⟩ := rds_ok h (List.range n) ([], []) (fun t ht => by simpa using ht) (fun a ha => by cases ha)
  have h8 := h.le
  have : (rds (fA l) n).1.length ≤ 0 + n := by simpa [rds] using i1
  unfold dueOf
  rw [dR_len]; omega
theorem due_fn : FnA 712 1 (dueOf l n) := by
  have hl := due_len h
  refine (FnA.all (N := 88) fun d hd => ?_).le (by omega) (Nat.le_refl _)
  obtain ⟨a, rfl, h1, h2⟩ := due_mem h hd
  exact (dI_ok h1 h2).tup
theorem due_ok : DueOk 712 (dueOf l n) := ⟨due_fn h, fun d hd => by
  obtain ⟨a, rfl, h1, h2⟩ := due_mem h hd
  refine ⟨rfl, ?_⟩
  show (dI a).all isI = true
  rw [List.all_eq_true]
  intro d hd
  unfold dI at hd
  obtain ⟨x, hx, rfl⟩ := List.mem_map.mp hd
  rfl⟩
theorem due_tl : Tl 2 (.tuple (dueOf l n)) := by
  have hl := due_len h
  refine .inr ⟨_, rfl, by omega, fun d hd => ?_⟩
  obtain ⟨a, rfl, h1, h2⟩ := due_mem h hd
  refine .inr ⟨_, rfl, by rw [dI_len]; omega, fun d hd => ?_⟩
  unfold dI at hd
  obtain ⟨x, hx, rfl⟩ := List.mem_map.mp hd
  have := h2 x hx
  exact ⟨x, by omega, rfl⟩
/-- answers are small -/
theorem ans_fn {v : D} : Fn 8000 180 (ans v (dueOf l n)) := by
  have hl := due_len h
  have sok : ∀ x : Str, (x = "form" ∨ x = "many" ∨ x = "round") → Fn 10 0 (.str x) := fun x hx => by
    rcases hx with rfl | rfl | rfl <;> exact ⟨rfl, by decide +kernel, by decide +kernel, Nat.le_refl _⟩
  have hf : Fn 8000 180 form := (FnA.cons (sok _ (.inl rfl)) nil0).tup.le (by decide) (by decide)
  unfold ans
  split
  · split
    · split
      · split
        · unfold tailD
          split
          · exact (fn_atom (.inl rfl)).le (by decide) (by decide)
          · rename_i i ws hw
            obtain ⟨k, hk, hk2⟩ := wr_mem (d := .int i) (by rw [hw]; exact List.mem_cons_self)
            cases hk
            have m := getD_mem hk2
            obtain ⟨a, ha, h1, h2⟩ := due_mem h m
            have fa : Fn 88 1 ((dueOf l n).getD k .none) := by rw [ha]; exact (dI_ok h1 h2).tup
            have fk : Fn 10 0 (.int (k : Int)) := fn_int (by omega)
            exact (FnA.cons ((sok "round" (.inr (.inr rfl))).le (Nat.le_refl _) (Nat.zero_le 1)) (FnA.cons (fk.le (Nat.le_refl _) (Nat.zero_le 1)) (FnA.cons fa nil0))).tup.le (by decide) (by decide)
          · exact (fn_atom (.inl rfl)).le (by decide) (by decide)
        · have fk : Fn 10 0 (.int ((dueOf l n).length : Int)) := fn_int (by omega)
          exact (FnA.cons (sok "many" (.inr (.inl rfl))) (FnA.cons fk nil0)).tup.le (by decide) (by decide)
      · exact hf
    · exact hf
  · exact hf
end
theorem lNe_str (a : Str) : lNe (.str a) (.str a) = some (.val (.bool false)) := by
  show qNe (.str a) (.str a) = _
  unfold qNe
  simp
theorem repr_of {d : D} (x : Fn 8000 180 d) : gRepr [d] = some (.val (.str d.shown)) := by
  show (if rpOk d = true then _ else _) = _
  rw [if_pos x.ok]
end Law
end EL
namespace EL
open PySem PySem.Spec PyProof.Rows L2
namespace Law
theorem odds_len : odds.length = 17 := rfl
/-- the environment where the values are gone through -/
def eV (a3 : Option Ent) (sh : D) (due : List D) (dp : D) (vals : List D) (a8 a9 : Option Ent) (S : Src) : EE := ⟨[none, some .src, some (.val (.list odds)), a3, some (.val sh), some (.val (.tuple due)), some (.val dp), some (.ol vals), a8, a9, none, none], S⟩
def bIn : FS := bCons (sSet 9 (eB gRepr (oCons (oVar 8) (oNil))))
      (sIf (tOr (tOf (eBin lNe (oVal (eB gRepr (oCons (oVal (eCall p_judge_rounds (aCons (fVar 4) (aCons (fVar 8) (aNil))))) (oNil)))) (oVal (eB gRepr (oCons (oVal (eCall p__law_fault (aCons (fVar 5) (aCons (fVar 8) (aNil))))) (oNil)))))) (tOf (eBin lNe (oVal (eB gRepr (oCons (oVar 8) (oNil)))) (oVar 9)))) (sRet (fC (.bool false))) (sNx))
def itV : FA := iSeq (eBin gAdd (oVal (eBin gAdd (oVar 7) (oVar 2))) (oVal (eComp [11] (iRg1 (oCons (oVal (fC (.int 12))) (oNil))) (gN 11) (tYs) (eCallS 1 (p__law_bent rec__law_bent) (aCons (fVar 5) (aCons (fVar 2) (aNil)))))))
section
variable {n : Nat} {l : List Nat} (h : Shf n l)
include h
theorem in_ok {a3 a8 a9 : Option Ent} {dp : D} {vals : List D} {S : Src} {v : D} (hv : Fn 8000 180 v) :
    bIn (eV a3 (.tuple (dI l)) (dueOf l n) dp vals (some (.val v)) a9 S) = some (.nx, eV a3 (.tuple (dI l)) (dueOf l n) dp vals (some (.val v)) (some (.val (.str v.shown))) S) := by
  have hj := v_judge (N := 712) (by decide) (due_ok h) h rfl hv
  have hf := v_fault (N := 712) (by decide) (due_ok h) hv
  have ha := ans_fn h (v := v)
  unfold bIn
  rw [bCons_nx (e1 := eV a3 (.tuple (dI l)) (dueOf l n) dp vals (some (.val v)) (some (.val (.str v.shown))) S) (by
    simp [eV, sSet, eB, oCons, oNil, oVar, rd, Ent.d, repr_of hv, Rs.ent, EE.put])]
  have t1 : tOf (eBin lNe (oVal (eB gRepr (oCons (oVal (eCall p_judge_rounds (aCons (fVar 4) (aCons (fVar 8) (aNil))))) (oNil)))) (oVal (eB gRepr (oCons (oVal (eCall p__law_fault (aCons (fVar 5) (aCons (fVar 8) (aNil))))) (oNil))))) (eV a3 (.tuple (dI l)) (dueOf l n) dp vals (some (.val v)) (some (.val (.str v.shown))) S) = some (false, eV a3 (.tuple (dI l)) (dueOf l n) dp vals (some (.val v)) (some (.val (.str v.shown))) S) := by
    simp [eV, tOf, eBin, oVal, eB, oCons, oNil, eCall, aCons, aNil, fVar, Rs.d, hj, hf, repr_of ha, lNe_str]
  have t2 : tOf (eBin lNe (oVal (eB gRepr (oCons (oVar 8) (oNil)))) (oVar 9)) (eV a3 (.tuple (dI l)) (dueOf l n) dp vals (some (.val v)) (some (.val (.str v.shown))) S) = some (false, eV a3 (.tuple (dI l)) (dueOf l n) dp vals (some (.val v)) (some (.val (.str v.shown))) S) := by
    simp [eV, tOf, eBin, oVal, eB, oCons, oNil, oVar, rd, Ent.d, Rs.d, repr_of hv, lNe_str]
  unfold sIf tOr
  rw [t1, Option.bind_some]
  dsimp only
  rw [if_neg Bool.false_ne_true, t2, Option.bind_some]
  rfl
theorem it_ok {a3 a8 a9 : Option Ent} {dp : D} {vals : List D} {S : Src} (hv : ∀ d ∈ vals, Fn 8000 180 d) (hl : vals.length ≤ 100) :
    ∃ ds S', itV (eV a3 (.tuple (dI l)) (dueOf l n) dp vals a8 a9 S) = some (ds, eV a3 (.tuple (dI l)) (dueOf l n) dp vals a8 a9 S') ∧ ∀ d ∈ ds, Fn 8000 180 d := by
  have hd := due_ok h
  obtain ⟨out, e', q1, q2, S', rfl, q3⟩ := compL_inv (vs := [11]) (g := gN 11) (t := tYs) (F := eCallS 1 (p__law_bent rec__law_bent) (aCons (fVar 5) (aCons (fVar 2) (aNil))))
    (fun rem acc e => ∃ S, e = eV a3 (.tuple (dI l)) (dueOf l n) dp vals a8 a9 S ∧ ∀ d ∈ acc, Fn 8000 180 d) (rgL 0 12) [] (eV a3 (.tuple (dI l)) (dueOf l n) dp vals a8 a9 S) ⟨S, rfl, fun d hd => by cases hd⟩ (by
      rintro d rem acc e ⟨S, rfl, hacc⟩
      obtain ⟨x, S2, e2, fx⟩ := v_bent (odd := odds) (by decide) (by decide) odds_ok (N := 712) (by decide) 2 8 (by decide) (.tuple (dueOf l n)) (due_tl h) (hd.f.tup.le (Nat.le_refl _) (by decide)) S
      refine ⟨⟨[none, some .src, some (.val (.list odds)), a3, some (.val (.tuple (dI l))), some (.val (.tuple (dueOf l n))), some (.val dp), some (.ol vals), a8, a9, none, some (.val d)], S⟩, by simp [gN, EE.put, eV], _, rfl, .val x, ⟨[none, some .src, some (.val (.list odds)), a3, some (.val (.tuple (dI l))), some (.val (.tuple (dueOf l n))), some (.val dp), some (.ol vals), a8, a9, none, some (.val d)], S2⟩, ?_, S2, by simp [wipeE, EE.put, eV], ?_⟩
      · have e2' : p__law_bent rec__law_bent [.tuple (dueOf l n), .list odds] S = some (.val x, S2) := e2
        simp [eCallS, aCons, aNil, fVar, Rs.d, e2']
      · intro y hy
        rcases List.mem_append.mp hy with hy | hy
        · exact hacc y hy
        · rw [List.mem_singleton.mp hy]; exact fx.le (by decide) (by decide))
  have hw : inW 12 = true := inW_of (by decide) (by decide)
  have z1 : small (vals.length + odds.length) = true := small_le (by rw [odds_len]; omega)
  have z2 : small out.length = true := small_le (by rw [q2]; simp [rgL])
  have z3 : small (vals.length + odds.length + out.length) = true := small_le (by rw [odds_len, q2]; simp [rgL]; omega)
  refine ⟨vals ++ odds ++ out, S', ?_, fun d hd => ?_⟩
  · have c : eComp [11] (iRg1 (oCons (oVal (fC (.int 12))) (oNil))) (gN 11) (tYs) (eCallS 1 (p__law_bent rec__law_bent) (aCons (fVar 5) (aCons (fVar 2) (aNil)))) (eV a3 (.tuple (dI l)) (dueOf l n) dp vals a8 a9 S) = some (.fl out, eV a3 (.tuple (dI l)) (dueOf l n) dp vals a8 a9 S') := by
      have w1 : wipeE (eV a3 (.tuple (dI l)) (dueOf l n) dp vals a8 a9 S) [11] = eV a3 (.tuple (dI l)) (dueOf l n) dp vals a8 a9 S := by simp [wipeE, EE.put, eV]
      have r1 : restE (eV a3 (.tuple (dI l)) (dueOf l n) dp vals a8 a9 S) (eV a3 (.tuple (dI l)) (dueOf l n) dp vals a8 a9 S') [11] = eV a3 (.tuple (dI l)) (dueOf l n) dp vals a8 a9 S' := by simp [restE, keepV, EE.put, eV]
      have i1 : iRg1 (oCons (oVal (fC (.int 12))) (oNil)) (eV a3 (.tuple (dI l)) (dueOf l n) dp vals a8 a9 S) = some (rgL 0 12, eV a3 (.tuple (dI l)) (dueOf l n) dp vals a8 a9 S) := by simp [iRg1, oCons, oVal, fC, oNil, Rs.d, hw]
      unfold eComp
      rw [i1, Option.bind_some]
      dsimp only
      rw [w1, q1, Option.bind_some]
      dsimp only
      rw [if_pos z2, r1]
    have a : oVal (eBin gAdd (oVar 7) (oVar 2)) (eV a3 (.tuple (dI l)) (dueOf l n) dp vals a8 a9 S) = some (fun _ => some (.list (vals ++ odds)), eV a3 (.tuple (dI l)) (dueOf l n) dp vals a8 a9 S) := by
      simp [oVal, eBin, oVar, rd, Ent.d, gAdd, z1, Rs.d, eV]
    unfold itV iSeq
    rw [eBin, a, Option.bind_some]
    dsimp only
    rw [oVal, c]
    simp only [Option.bind_some, gAdd, Rs.d, List.length_append, z3, if_true, seqD]
  · rcases List.mem_append.mp hd with hd | hd
    · rcases List.mem_append.mp hd with hd | hd
      · exact hv d hd
      · exact (odds_ok d hd).le (by decide) (by decide)
    · exact q3 d (by simpa using hd)
theorem loop_ok {a3 a8 a9 : Option Ent} {dp : D} {vals : List D} {S : Src} (hv : ∀ d ∈ vals, Fn 8000 180 d) (hl : vals.length ≤ 100) :
    ∃ b8 b9 S', sFor itV (gN 8) bIn (eV a3 (.tuple (dI l)) (dueOf l n) dp vals a8 a9 S) = some (.nx, eV a3 (.tuple (dI l)) (dueOf l n) dp vals b8 b9 S') := by
  obtain ⟨ds, S', e1, hds⟩ := it_ok h (a3 := a3) (a8 := a8) (a9 := a9) (dp := dp) (S := S) hv hl
  obtain ⟨e', q1, _, b8, b9, rfl⟩ := forL_inv (g := gN 8) (B := bIn) (fun rem e => (∀ d ∈ rem, Fn 8000 180 d) ∧ ∃ b8 b9, e = eV a3 (.tuple (dI l)) (dueOf l n) dp vals b8 b9 S') ds (eV a3 (.tuple (dI l)) (dueOf l n) dp vals a8 a9 S') ⟨hds, a8, a9, rfl⟩ (by
    rintro d rem e ⟨hr, b8, b9, rfl⟩
    exact ⟨eV a3 (.tuple (dI l)) (dueOf l n) dp vals (some (.val d)) b9 S', by simp [gN, EE.put, eV], _, in_ok h (a8 := b8) (hr d List.mem_cons_self), fun x hx => hr x (List.mem_cons_of_mem _ hx), _, _, rfl⟩)
  refine ⟨b8, b9, S', ?_⟩
  unfold sFor
  rw [e1, Option.bind_some]
  exact q1
end
end Law
end EL
namespace EL
open PySem PySem.Spec PyProof.Rows L2
namespace Law
def bLap : FS := bCons (sSet 4 (eCallS 1 p__law_shuffle (aCons (eCallS 1 gPick (aCons (fC (.int 9)) (aNil))) (aNil))))
    (bCons (sPar [5, 6] (rCons (eCall p__law_rounds (aCons (fVar 4) (aNil))) (rCons (eCallS 1 p__law_deep (aCons (fVar 2) (aNil))) (rNil))))
    (bCons (sIf (tOf (eBin lNe (oVal (eB gRepr (oCons (oVal (eCall p_rounds_of (aCons (fVar 4) (aNil)))) (oNil)))) (oVal (eB gRepr (oCons (oVar 5) (oNil)))))) (sRet (fC (.bool false))) (sNx))
    (bCons (sSet 7 (eLst (aCons (fVar 5) (aCons (eB gList (oCons (oVar 5) (oNil))) (aCons (eUn gRev (oVar 5)) (aCons (eBin gAdd (oVar 5) (oVal (eSl (oVar 5) (pNo) (pIn (fC (.int 1)))))) (aCons (eSl (oVar 5) (pIn (fC (.int 1))) (pNo)) (aCons (eSl (oVar 5) (pNo) (pIn (eUn gNeg (oVal (fC (.int 1)))))) (aCons (fVar 6) (aCons (eTup (aCons (fVar 6) (aNil))) (aCons (eBin gAdd (oVar 5) (oVal (eTup (aCons (fVar 6) (aNil))))) (aNil))))))))))))
    (bCons (sSet 7 (eBin gAdd (oVar 7) (oVal (eLst (aCons (eB gTuple (oCons (oVal (eComp [10] (iSeq (fVar 5)) (gN 10) (tYs) (eBin gAdd (oVal (eSl (oVar 10) (pIn (fC (.int 1))) (pNo))) (oVal (eSl (oVar 10) (pNo) (pIn (fC (.int 1)))))))) (oNil))) (aCons (eB gTuple (oCons (oVal (eComp [10] (iSeq (fVar 5)) (gN 10) (tYs) (eB gList (oCons (oVar 10) (oNil))))) (oNil))) (aNil)))))))
    (bCons (sSet 7 (eBin gAdd (oVar 7) (oVal (eLst (aCons (eB gTuple (oCons (oVal (eComp [10] (iSeq (fVar 5)) (gN 10) (tYs) (eUn gRev (oVar 10)))) (oNil))) (aCons (eCall p__law_rounds (aCons (eCallS 1 p__law_shuffle (aCons (eB gLen (oCons (oVar 4) (oNil))) (aNil))) (aNil))) (aNil)))))))
    (sFor itV (gN 8) bIn))))))
def rot (d : D) : D := .tuple (cutD (itemsD d) (some 1) none ++ cutD (itemsD d) none (some 1))
def lsD (d : D) : D := .list (itemsD d)
def rvD (d : D) : D := .tuple (itemsD d).reverse
def v1 (due : List D) (dp : D) : List D := [.tuple due, .list due, .tuple due.reverse, .tuple (due ++ cutD due none (some 1)), .tuple (cutD due (some 1) none), .tuple (cutD due none (some (-1))), dp, .tuple [dp], .tuple (due ++ [dp])]
def v2 (due : List D) : List D := [.tuple (due.map rot), .tuple (due.map lsD)]
def v3 (due due2 : List D) : List D := [.tuple (due.map rvD), .tuple due2]
section
variable {n : Nat} {l : List Nat} (h : Shf n l)
include h
theorem map_fn {N : Nat} (f : D → D) (hf : ∀ a : List Nat, a.length ≤ 8 → (∀ x ∈ a, x < 8) → Fn N 1 (f (.tuple (dI a)))) : FnA (8 * (N + 1)) 1 ((dueOf l n).map f) := by
  have hl := due_len h
  refine (FnA.all (N := N) fun d hd => ?_).le (by rw [List.length_map]; exact Nat.mul_le_mul_right _ hl) (Nat.le_refl _)
  obtain ⟨e, he, rfl⟩ := List.mem_map.mp hd
  obtain ⟨a, rfl, h1, h2⟩ := due_mem h he
  exact hf a h1 h2
theorem vals_fn {dp : D} (hd : Fn 200 40 dp) {n2 : Nat} {l2 : List Nat} (h2 : Shf n2 l2) : ∀ d ∈ v1 (dueOf l n) dp ++ v2 (dueOf l n) ++ v3 (dueOf l n) (dueOf l2 n2), Fn 8000 180 d := by
  have f := due_fn h
  have f' := f.le (Nat.le_refl 712) (show 1 ≤ 40 by decide)
  have one := FnA.cons hd (nil0 (h := 40))
  intro d hm
  rcases List.mem_append.mp hm with hm | hm
  · rcases List.mem_append.mp hm with hm | hm
    · simp only [v1, List.mem_cons, List.mem_nil_iff, or_false] at hm
      rcases hm with rfl | rfl | rfl | rfl | rfl | rfl | rfl | rfl | rfl
      · exact f.tup.le (by decide) (by decide)
      · exact f.lst.le (by decide) (by decide)
      · exact f.rev.tup.le (by decide) (by decide)
      · exact (f.app (f.cut _ _)).tup.le (by decide) (by decide)
      · exact (f.cut _ _).tup.le (by decide) (by decide)
      · exact (f.cut _ _).tup.le (by decide) (by decide)
      · exact hd.le (by decide) (by decide)
      · exact one.tup.le (by decide) (by decide)
      · exact (f'.app one).tup.le (by decide) (by decide)
    · simp only [v2, List.mem_cons, List.mem_nil_iff, or_false] at hm
      rcases hm with rfl | rfl
      · exact (map_fn h (N := 176) rot fun a h1 h2 => (((dI_ok h1 h2).cut _ _).app ((dI_ok h1 h2).cut _ _)).tup).tup.le (by decide) (by decide)
      · exact (map_fn h (N := 88) lsD fun a h1 h2 => (dI_ok h1 h2).lst).tup.le (by decide) (by decide)
  · simp only [v3, List.mem_cons, List.mem_nil_iff, or_false] at hm
    rcases hm with rfl | rfl
    · exact (map_fn h (N := 88) rvD fun a h1 h2 => (dI_ok h1 h2).rev.tup).tup.le (by decide) (by decide)
    · exact (due_fn h2).tup.le (by decide) (by decide)
/-- a comprehension over the rounds -/
theorem due_comp {F : FE} {f : D → D} {a3 a8 a9 : Option Ent} {sh dp : D} {vals : List D} {S : Src}
    (hF : ∀ a : List Nat, a.length ≤ 8 → ∃ r, F ⟨[none, some .src, some (.val (.list odds)), a3, some (.val sh), some (.val (.tuple (dueOf l n))), some (.val dp), some (.ol vals), a8, a9, some (.val (.tuple (dI a))), none], S⟩ = some (r, ⟨[none, some .src, some (.val (.list odds)), a3, some (.val sh), some (.val (.tuple (dueOf l n))), some (.val dp), some (.ol vals), a8, a9, some (.val (.tuple (dI a))), none], S⟩) ∧ r.d = f (.tuple (dI a))) :
    eComp [10] (iSeq (fVar 5)) (gN 10) tYs F (eV a3 sh (dueOf l n) dp vals a8 a9 S) = some (.fl ((dueOf l n).map f), eV a3 sh (dueOf l n) dp vals a8 a9 S) := by
  have cp : compL [10] (gN 10) tYs F (dueOf l n) (eV a3 sh (dueOf l n) dp vals a8 a9 S) = some ((dueOf l n).map f, eV a3 sh (dueOf l n) dp vals a8 a9 S) := compL_map _ _ fun d hd => by
    obtain ⟨a, rfl, h1, h2⟩ := due_mem h hd
    obtain ⟨r, e1, e2⟩ := hF a h1
    exact ⟨_, by simp only [gN, eV, EE.put, List.length_cons, List.length_nil, List.set_cons_succ, List.set_cons_zero, Nat.reduceAdd, Nat.reduceLT, if_true], r, _, e1, e2, by simp [wipeE, EE.put, eV]⟩
  have w1 : wipeE (eV a3 sh (dueOf l n) dp vals a8 a9 S) [10] = eV a3 sh (dueOf l n) dp vals a8 a9 S := by simp [wipeE, EE.put, eV]
  have r1 : restE (eV a3 sh (dueOf l n) dp vals a8 a9 S) (eV a3 sh (dueOf l n) dp vals a8 a9 S) [10] = eV a3 sh (dueOf l n) dp vals a8 a9 S := by simp [restE, keepV, EE.put, eV]
  have i1 : iSeq (fVar 5) (eV a3 sh (dueOf l n) dp vals a8 a9 S) = some (dueOf l n, eV a3 sh (dueOf l n) dp vals a8 a9 S) := rfl
  have hl := due_len h
  unfold eComp
  rw [i1, Option.bind_some]
  dsimp only
  rw [w1, cp, Option.bind_some]
  dsimp only
  rw [if_pos (small_le (by rw [List.length_map]; omega)), r1]
end
theorem lap_ok {x : Ent} (hx : x = .ol odds ∨ x = .val (.list odds)) (a3 a4 a5 a6 a7 a8 a9 : Option Ent) (S : Src) :
    ∃ sh due dp vals b8 b9 S', bLap ⟨[none, some .src, some x, a3, a4, a5, a6, a7, a8, a9, none, none], S⟩ = some (.nx, eV a3 sh due dp vals b8 b9 S') := by
  obtain ⟨r, S1, e1, r0, r1⟩ := draw (m := 9) (by decide) (by decide) S
  obtain ⟨n, rfl⟩ := Int.eq_ofNat_of_zero_le r0
  have hn : n ≤ 8 := by omega
  obtain ⟨l, S2, e2, hp⟩ := v_shuffle hn S1
  have h : Shf n l := ⟨hp, hn⟩
  have er : p__law_rounds [.tuple (dI l)] = some (.val (.tuple (dueOf l n))) := v_rounds h
  have er2 : p_rounds_of [.tuple (dI l)] = some (.val (.tuple (dueOf l n))) := v_rounds2 h
  obtain ⟨r', S3, e3, fd, hs⟩ := v_deep (odd := odds) (by decide) (by decide) odds_ok S2
  obtain ⟨l2, S4, e4, hp2⟩ := v_shuffle hn S3
  have h2 : Shf n l2 := ⟨hp2, hn⟩
  have er3 : p__law_rounds [.tuple (dI l2)] = some (.val (.tuple (dueOf l2 n))) := v_rounds h2
  have hl := due_len h
  have fdue : Fn 8000 180 (.tuple (dueOf l n)) := (due_fn h).tup.le (by decide) (by decide)
  have fv2 : fVar 2 ⟨[none, some .src, some x, a3, some (.val (.tuple (dI l))), a5, a6, a7, a8, a9, none, none], S2⟩ = some (.val (.list odds), ⟨[none, some .src, some (.val (.list odds)), a3, some (.val (.tuple (dI l))), a5, a6, a7, a8, a9, none, none], S2⟩) := by
    rcases hx with rfl | rfl <;> rfl
  have fv6 : fVar 6 ⟨[none, some .src, some (.val (.list odds)), a3, some (.val (.tuple (dI l))), some (.val (.tuple (dueOf l n))), some r'.ent, a7, a8, a9, none, none], S3⟩ = some (.val r'.d, ⟨[none, some .src, some (.val (.list odds)), a3, some (.val (.tuple (dI l))), some (.val (.tuple (dueOf l n))), some (.val r'.d), a7, a8, a9, none, none], S3⟩) := by
    rcases hs with hs | ⟨ds, rfl⟩
    · rw [hs]; rfl
    · rfl
  obtain ⟨dp, hdp⟩ : ∃ dp, dp = r'.d := ⟨_, rfl⟩
  rw [← hdp] at fd fv6
  have hv := vals_fn h fd h2
  have c1 := fun lo hi => cut_len (dueOf l n) lo hi
  have z1 : small ((dueOf l n).length + (cutD (dueOf l n) none (some 1)).length) = true := small_le (by have := c1 none (some 1); omega)
  have z2 : small ((dueOf l n).length + 1) = true := small_le (by omega)
  obtain ⟨b8, b9, S', hloop⟩ := loop_ok h (a3 := a3) (a8 := a8) (a9 := a9) (dp := dp) (S := S4) hv (by simp [v1, v2, v3])
  refine ⟨.tuple (dI l), dueOf l n, dp, v1 (dueOf l n) dp ++ v2 (dueOf l n) ++ v3 (dueOf l n) (dueOf l2 n), b8, b9, S', ?_⟩
  unfold bLap
  rw [bCons_nx (e1 := ⟨[none, some .src, some x, a3, some (.val (.tuple (dI l))), a5, a6, a7, a8, a9, none, none], S2⟩) (by
    simp [sSet, eCallS, aCons, aNil, fC, Rs.d, e1, e2, Rs.ent, EE.put])]
  rw [bCons_nx (e1 := ⟨[none, some .src, some (.val (.list odds)), a3, some (.val (.tuple (dI l))), some (.val (.tuple (dueOf l n))), some r'.ent, a7, a8, a9, none, none], S3⟩) (by
    have f4 : fVar 4 ⟨[none, some .src, some x, a3, some (.val (.tuple (dI l))), a5, a6, a7, a8, a9, none, none], S2⟩ = some (.val (.tuple (dI l)), ⟨[none, some .src, some x, a3, some (.val (.tuple (dI l))), a5, a6, a7, a8, a9, none, none], S2⟩) := rfl
    simp only [sPar, rCons, rNil, eCall, eCallS, aCons, aNil, f4, fv2, Option.bind_some, Rs.d, er, e3, List.getElem?_cons_succ, List.getElem?_cons_zero]
    rfl)]
  rw [bCons_nx (e1 := ⟨[none, some .src, some (.val (.list odds)), a3, some (.val (.tuple (dI l))), some (.val (.tuple (dueOf l n))), some r'.ent, a7, a8, a9, none, none], S3⟩) (by
    have t : tOf (eBin lNe (oVal (eB gRepr (oCons (oVal (eCall p_rounds_of (aCons (fVar 4) (aNil)))) (oNil)))) (oVal (eB gRepr (oCons (oVar 5) (oNil))))) ⟨[none, some .src, some (.val (.list odds)), a3, some (.val (.tuple (dI l))), some (.val (.tuple (dueOf l n))), some r'.ent, a7, a8, a9, none, none], S3⟩ = some (false, ⟨[none, some .src, some (.val (.list odds)), a3, some (.val (.tuple (dI l))), some (.val (.tuple (dueOf l n))), some r'.ent, a7, a8, a9, none, none], S3⟩) := by
      simp [tOf, eBin, oVal, eB, oCons, oNil, eCall, aCons, aNil, fVar, Rs.d, er2, repr_of fdue, oVar, rd, Ent.d, lNe_str]
    unfold sIf
    rw [t]; rfl)]
  rw [bCons_nx (e1 := eV a3 (.tuple (dI l)) (dueOf l n) dp (v1 (dueOf l n) dp) a8 a9 S3) (by
    have g6 : ∀ S, fVar 6 ⟨[none, some .src, some (.val (.list odds)), a3, some (.val (.tuple (dI l))), some (.val (.tuple (dueOf l n))), some (.val dp), a7, a8, a9, none, none], S⟩ = some (.val dp, ⟨[none, some .src, some (.val (.list odds)), a3, some (.val (.tuple (dI l))), some (.val (.tuple (dueOf l n))), some (.val dp), a7, a8, a9, none, none], S⟩) := fun S => rfl
    have g5 : ∀ y S, fVar 5 ⟨[none, some .src, some (.val (.list odds)), a3, some (.val (.tuple (dI l))), some (.val (.tuple (dueOf l n))), y, a7, a8, a9, none, none], S⟩ = some (.val (.tuple (dueOf l n)), ⟨[none, some .src, some (.val (.list odds)), a3, some (.val (.tuple (dI l))), some (.val (.tuple (dueOf l n))), y, a7, a8, a9, none, none], S⟩) := fun y S => rfl
    simp only [sSet, eLst, aCons, aNil, eB, oCons, oNil, eUn, eBin, oVal, eSl, pNo, pIn, eTup, fC, oVar, rd, Ent.d, Rs.d, g5, g6, fv6, Option.bind_some, List.getElem?_cons_succ, List.getElem?_cons_zero, gList, gRev, gNeg, gSl, gAdd, z1, z2, if_true, List.length_cons, List.length_nil, small_le, Nat.reduceLeDiff, Nat.zero_add, Nat.reduceAdd, Nat.reduceLT]
    rfl)]
  rw [bCons_nx (e1 := eV a3 (.tuple (dI l)) (dueOf l n) dp (v1 (dueOf l n) dp ++ v2 (dueOf l n)) a8 a9 S3) (by
    have k1 := due_comp h (F := eBin gAdd (oVal (eSl (oVar 10) (pIn (fC (.int 1))) (pNo))) (oVal (eSl (oVar 10) (pNo) (pIn (fC (.int 1)))))) (f := rot) (a3 := a3) (a8 := a8) (a9 := a9) (sh := .tuple (dI l)) (dp := dp) (vals := v1 (dueOf l n) dp) (S := S3) (fun a ha => by
      have y1 := cut_len (dI a) (some 1) none
      have y2 := cut_len (dI a) none (some 1)
      rw [dI_len] at y1 y2
      have zz : small ((cutD (dI a) (some 1) none).length + (cutD (dI a) none (some 1)).length) = true := small_le (by omega)
      exact ⟨.val (rot (.tuple (dI a))), by simp [eBin, oVal, eSl, oVar, rd, Ent.d, pIn, pNo, fC, gSl, Rs.d, gAdd, zz, rot, itemsD], rfl⟩)
    have k2 := due_comp h (F := eB gList (oCons (oVar 10) (oNil))) (f := lsD) (a3 := a3) (a8 := a8) (a9 := a9) (sh := .tuple (dI l)) (dp := dp) (vals := v1 (dueOf l n) dp) (S := S3) (fun a ha => ⟨.fl (dI a), by simp [eB, oCons, oNil, oVar, rd, Ent.d, gList], rfl⟩)
    have o7 : oVar 7 (eV a3 (.tuple (dI l)) (dueOf l n) dp (v1 (dueOf l n) dp) a8 a9 S3) = some (rd 7, eV a3 (.tuple (dI l)) (dueOf l n) dp (v1 (dueOf l n) dp) a8 a9 S3) := rfl
    have r7 : rd 7 (eV a3 (.tuple (dI l)) (dueOf l n) dp (v1 (dueOf l n) dp) a8 a9 S3) = some (.list (v1 (dueOf l n) dp)) := rfl
    have lv : (v1 (dueOf l n) dp).length = 9 := rfl
    simp only [sSet, eBin, o7, oVal, eLst, aCons, aNil, eB, oCons, oNil, k1, k2, Option.bind_some, Rs.d, gTuple, List.length_cons, List.length_nil, small_le, Nat.reduceLeDiff, Nat.zero_add, Nat.reduceAdd, if_true, r7, gAdd, lv]
    rfl)]
  rw [bCons_nx (e1 := eV a3 (.tuple (dI l)) (dueOf l n) dp (v1 (dueOf l n) dp ++ v2 (dueOf l n) ++ v3 (dueOf l n) (dueOf l2 n)) a8 a9 S4) (by
    have k1 := due_comp h (F := eUn gRev (oVar 10)) (f := rvD) (a3 := a3) (a8 := a8) (a9 := a9) (sh := .tuple (dI l)) (dp := dp) (vals := v1 (dueOf l n) dp ++ v2 (dueOf l n)) (S := S3) (fun a ha => ⟨.val (rvD (.tuple (dI a))), by simp [eUn, oVar, rd, Ent.d, gRev, rvD, itemsD], rfl⟩)
    have o7 : oVar 7 (eV a3 (.tuple (dI l)) (dueOf l n) dp (v1 (dueOf l n) dp ++ v2 (dueOf l n)) a8 a9 S3) = some (rd 7, eV a3 (.tuple (dI l)) (dueOf l n) dp (v1 (dueOf l n) dp ++ v2 (dueOf l n)) a8 a9 S3) := rfl
    have r7 : rd 7 (eV a3 (.tuple (dI l)) (dueOf l n) dp (v1 (dueOf l n) dp ++ v2 (dueOf l n)) a8 a9 S4) = some (.list (v1 (dueOf l n) dp ++ v2 (dueOf l n))) := rfl
    have lv : (v1 (dueOf l n) dp ++ v2 (dueOf l n)).length = 11 := by simp [v1, v2]
    have g4 : eCallS 1 p__law_shuffle (aCons (eB gLen (oCons (oVar 4) (oNil))) (aNil)) (eV a3 (.tuple (dI l)) (dueOf l n) dp (v1 (dueOf l n) dp ++ v2 (dueOf l n)) a8 a9 S3) = some (.val (.tuple (dI l2)), eV a3 (.tuple (dI l)) (dueOf l n) dp (v1 (dueOf l n) dp ++ v2 (dueOf l n)) a8 a9 S4) := by
      simp [eCallS, eV, aCons, aNil, eB, oCons, oNil, oVar, rd, Ent.d, gLen, Rs.d, dI_len, h.len, e4]
    have gR : eCall p__law_rounds (aCons (eCallS 1 p__law_shuffle (aCons (eB gLen (oCons (oVar 4) (oNil))) (aNil))) (aNil)) (eV a3 (.tuple (dI l)) (dueOf l n) dp (v1 (dueOf l n) dp ++ v2 (dueOf l n)) a8 a9 S3) = some (.val (.tuple (dueOf l2 n)), eV a3 (.tuple (dI l)) (dueOf l n) dp (v1 (dueOf l n) dp ++ v2 (dueOf l n)) a8 a9 S4) := by
      unfold eCall
      rw [aCons, g4]
      simp only [Option.bind_some, aNil, Rs.d, er3]
    generalize eCall p__law_rounds (aCons (eCallS 1 p__law_shuffle (aCons (eB gLen (oCons (oVar 4) (oNil))) (aNil))) (aNil)) = F at gR ⊢
    simp only [sSet, eBin, o7, oVal, eLst, aCons, aNil, eB, oCons, oNil, k1, Option.bind_some, Rs.d, gTuple, gR, List.length_cons, List.length_nil, small_le, Nat.reduceLeDiff, Nat.zero_add, Nat.reduceAdd, if_true, r7, gAdd, lv]
    rfl)]
  exact hloop
theorem law_true (S : Src) : ∃ e', b_law (lawEnv 10 S) = some (.rt (.val (.bool true)), e') := by
  obtain ⟨e', q1, _, x, a3, a4, a5, a6, a7, a8, a9, S', rfl, hx⟩ := forL_inv (g := gN 3) (B := bLap) (fun rem e => True ∧ ∃ x a3 a4 a5 a6 a7 a8 a9 S, e = ⟨[none, some .src, some x, a3, a4, a5, a6, a7, a8, a9, none, none], S⟩ ∧ (x = .ol odds ∨ x = .val (.list odds))) (rgL 0 3)
    ⟨[none, some .src, some (.ol odds), none, none, none, none, none, none, none, none, none], S⟩ ⟨trivial, .ol odds, none, none, none, none, none, none, none, S, rfl, .inl rfl⟩ (by
      rintro d rem e ⟨_, x, a3, a4, a5, a6, a7, a8, a9, S, rfl, hx⟩
      obtain ⟨sh, due, dp, vals, b8, b9, S', e⟩ := lap_ok hx (some (.val d)) a4 a5 a6 a7 a8 a9 S
      exact ⟨⟨[none, some .src, some x, some (.val d), a4, a5, a6, a7, a8, a9, none, none], S⟩, by simp [gN, EE.put], _, e, trivial, _, _, _, _, _, _, _, _, _, rfl, .inr rfl⟩)
  have hw : inW 3 = true := inW_of (by decide) (by decide)
  refine ⟨⟨[none, some .src, some x, a3, a4, a5, a6, a7, a8, a9, none, none], S'⟩, ?_⟩
  show bCons _ (bCons (sFor (iRg1 (oCons (oVal (fC (.int 3))) oNil)) (gN 3) bLap) (sRet (fC (.bool true)))) (lawEnv 10 S) = _
  rw [bCons_nx (e1 := ⟨[none, some .src, some (.ol odds), none, none, none, none, none, none, none, none, none], S⟩) (by
    simp only [sSet, eLst, aCons, aNil, fC, eUn, eBin, gNeg, oVal, eTup, eDNew, Option.bind_some, Rs.d, v_big, List.length_cons, List.length_nil, small_le, Nat.reduceLeDiff, Nat.zero_le, Nat.zero_add, Nat.reduceAdd, if_true]
    rfl)]
  rw [bCons_nx (e1 := ⟨[none, some .src, some x, a3, a4, a5, a6, a7, a8, a9, none, none], S'⟩) (by
    unfold sFor
    have : iRg1 (oCons (oVal (fC (.int 3))) oNil) ⟨[none, some .src, some (.ol odds), none, none, none, none, none, none, none, none, none], S⟩ = some (rgL 0 3, ⟨[none, some .src, some (.ol odds), none, none, none, none, none, none, none, none, none], S⟩) := by
      simp [iRg1, oCons, oVal, fC, oNil, Rs.d, hw]
    rw [this, Option.bind_some]
    exact q1)]
  rfl
end Law
end EL
namespace EL
open PySem PySem.Spec PyProof.Rows L2
namespace Law
section
variable {P : Program} {w : World} {K : PySem.W.Frag} {mg : Str → Option Value}
theorem def_mk {x : Str} {st : Stmt} {ps : List Str} {h : Heap} {f : Addr} {oc : Value} {od an : Option Addr} {osl : Array (Option Value)} {kV doc pm cdv ct : Value} (X : K.In h) (G : h.Ns mainGlobals mg) (a : PySem.W.nsIn K mainGlobals x = some (some (.ref f)))
    (l : K.lookup f = some ⟨oc, od, .func (PySem.W.fnOf x x (defArgs st) (defBody st) (defScope st) .none kV doc pm an cdv ct), osl⟩) (c : PySem.W.codeIn K cdv x = true) (k : PySem.W.keepIn K (.ref f) = true)
    (hb : ∀ (kV doc pm : Value) (an : Option Addr) (cdv ct : Value) (us : List Value), us.length = ps.length → bindArgs (PySem.W.fnOf x x (defArgs st) (defBody st) (defScope st) .none kV doc pm an cdv ct) ⟨us, []⟩ = pure (ps.zip us)) : Def K mg x st ps := by
  have F := fun_mk (st := st) l c k
  exact ⟨f, _, F, PySem.W.mg_of X G a, F.binds hb⟩
theorem all_mk {h : Heap} {fa : Addr} {f0 : Addr} {oc0 : Value} {od0 an0 : Option Addr} {sl0 : Array (Option Value)} {kV0 dc0 pm0 cd0 ct0 : Value}
    {f1 : Addr} {oc1 : Value} {od1 an1 : Option Addr} {sl1 : Array (Option Value)} {kV1 dc1 pm1 cd1 ct1 : Value}
    {f2 : Addr} {oc2 : Value} {od2 an2 : Option Addr} {sl2 : Array (Option Value)} {kV2 dc2 pm2 cd2 ct2 : Value}
    {f3 : Addr} {oc3 : Value} {od3 an3 : Option Addr} {sl3 : Array (Option Value)} {kV3 dc3 pm3 cd3 ct3 : Value}
    {f4 : Addr} {oc4 : Value} {od4 an4 : Option Addr} {sl4 : Array (Option Value)} {kV4 dc4 pm4 cd4 ct4 : Value}
    {f5 : Addr} {oc5 : Value} {od5 an5 : Option Addr} {sl5 : Array (Option Value)} {kV5 dc5 pm5 cd5 ct5 : Value}
    {f6 : Addr} {oc6 : Value} {od6 an6 : Option Addr} {sl6 : Array (Option Value)} {kV6 dc6 pm6 cd6 ct6 : Value}
    {f7 : Addr} {oc7 : Value} {od7 an7 : Option Addr} {sl7 : Array (Option Value)} {kV7 dc7 pm7 cd7 ct7 : Value}
    {f8 : Addr} {oc8 : Value} {od8 an8 : Option Addr} {sl8 : Array (Option Value)} {kV8 dc8 pm8 cd8 ct8 : Value}
    {f9 : Addr} {oc9 : Value} {od9 an9 : Option Addr} {sl9 : Array (Option Value)} {kV9 dc9 pm9 cd9 ct9 : Value}
    {f10 : Addr} {oc10 : Value} {od10 an10 : Option Addr} {sl10 : Array (Option Value)} {kV10 dc10 pm10 cd10 ct10 : Value}
    {f11 : Addr} {oc11 : Value} {od11 an11 : Option Addr} {sl11 : Array (Option Value)} {kV11 dc11 pm11 cd11 ct11 : Value}
    {f12 : Addr} {oc12 : Value} {od12 an12 : Option Addr} {sl12 : Array (Option Value)} {kV12 dc12 pm12 cd12 ct12 : Value}
    {f13 : Addr} {oc13 : Value} {od13 an13 : Option Addr} {sl13 : Array (Option Value)} {kV13 dc13 pm13 cd13 ct13 : Value}
    {f14 : Addr} {oc14 : Value} {od14 an14 : Option Addr} {sl14 : Array (Option Value)} {kV14 dc14 pm14 cd14 ct14 : Value} (X : K.In h) (G : h.Ns mainGlobals mg) (hfa : mg "law" = some (.ref fa))
    (a0 : PySem.W.nsIn K mainGlobals "_law_open_cells" = some (some (.ref f0)))
    (l0 : K.lookup f0 = some ⟨oc0, od0, .func (PySem.W.fnOf "_law_open_cells" "_law_open_cells" (defArgs sOpen) (defBody sOpen) (defScope sOpen) .none kV0 dc0 pm0 an0 cd0 ct0), sl0⟩)
    (c0 : PySem.W.codeIn K cd0 "_law_open_cells" = true)
    (k0 : PySem.W.keepIn K (.ref f0) = true)
    (a1 : PySem.W.nsIn K mainGlobals "_law_pick" = some (some (.ref f1)))
    (l1 : K.lookup f1 = some ⟨oc1, od1, .func (PySem.W.fnOf "_law_pick" "_law_pick" (defArgs sPick) (defBody sPick) (defScope sPick) .none kV1 dc1 pm1 an1 cd1 ct1), sl1⟩)
    (c1 : PySem.W.codeIn K cd1 "_law_pick" = true)
    (k1 : PySem.W.keepIn K (.ref f1) = true)
    (a2 : PySem.W.nsIn K mainGlobals "_law_mixed" = some (some (.ref f2)))
    (l2 : K.lookup f2 = some ⟨oc2, od2, .func (PySem.W.fnOf "_law_mixed" "_law_mixed" (defArgs st__law_mixed) (defBody st__law_mixed) (defScope st__law_mixed) .none kV2 dc2 pm2 an2 cd2 ct2), sl2⟩)
    (c2 : PySem.W.codeIn K cd2 "_law_mixed" = true)
    (k2 : PySem.W.keepIn K (.ref f2) = true)
    (a3 : PySem.W.nsIn K mainGlobals "_law_shuffle" = some (some (.ref f3)))
    (l3 : K.lookup f3 = some ⟨oc3, od3, .func (PySem.W.fnOf "_law_shuffle" "_law_shuffle" (defArgs st__law_shuffle) (defBody st__law_shuffle) (defScope st__law_shuffle) .none kV3 dc3 pm3 an3 cd3 ct3), sl3⟩)
    (c3 : PySem.W.codeIn K cd3 "_law_shuffle" = true)
    (k3 : PySem.W.keepIn K (.ref f3) = true)
    (a4 : PySem.W.nsIn K mainGlobals "_law_rounds" = some (some (.ref f4)))
    (l4 : K.lookup f4 = some ⟨oc4, od4, .func (PySem.W.fnOf "_law_rounds" "_law_rounds" (defArgs st__law_rounds) (defBody st__law_rounds) (defScope st__law_rounds) .none kV4 dc4 pm4 an4 cd4 ct4), sl4⟩)
    (c4 : PySem.W.codeIn K cd4 "_law_rounds" = true)
    (k4 : PySem.W.keepIn K (.ref f4) = true)
    (a5 : PySem.W.nsIn K mainGlobals "_law_of" = some (some (.ref f5)))
    (l5 : K.lookup f5 = some ⟨oc5, od5, .func (PySem.W.fnOf "_law_of" "_law_of" (defArgs st__law_of) (defBody st__law_of) (defScope st__law_of) .none kV5 dc5 pm5 an5 cd5 ct5), sl5⟩)
    (c5 : PySem.W.codeIn K cd5 "_law_of" = true)
    (k5 : PySem.W.keepIn K (.ref f5) = true)
    (a6 : PySem.W.nsIn K mainGlobals "_law_deep" = some (some (.ref f6)))
    (l6 : K.lookup f6 = some ⟨oc6, od6, .func (PySem.W.fnOf "_law_deep" "_law_deep" (defArgs st__law_deep) (defBody st__law_deep) (defScope st__law_deep) .none kV6 dc6 pm6 an6 cd6 ct6), sl6⟩)
    (c6 : PySem.W.codeIn K cd6 "_law_deep" = true)
    (k6 : PySem.W.keepIn K (.ref f6) = true)
    (a7 : PySem.W.nsIn K mainGlobals "round_from" = some (some (.ref f7)))
    (l7 : K.lookup f7 = some ⟨oc7, od7, .func (PySem.W.fnOf "round_from" "round_from" (defArgs st_round_from) (defBody st_round_from) (defScope st_round_from) .none kV7 dc7 pm7 an7 cd7 ct7), sl7⟩)
    (c7 : PySem.W.codeIn K cd7 "round_from" = true)
    (k7 : PySem.W.keepIn K (.ref f7) = true)
    (a8 : PySem.W.nsIn K mainGlobals "rounds_of" = some (some (.ref f8)))
    (l8 : K.lookup f8 = some ⟨oc8, od8, .func (PySem.W.fnOf "rounds_of" "rounds_of" (defArgs st_rounds_of) (defBody st_rounds_of) (defScope st_rounds_of) .none kV8 dc8 pm8 an8 cd8 ct8), sl8⟩)
    (c8 : PySem.W.codeIn K cd8 "rounds_of" = true)
    (k8 : PySem.W.keepIn K (.ref f8) = true)
    (a9 : PySem.W.nsIn K mainGlobals "_law_bent" = some (some (.ref f9)))
    (l9 : K.lookup f9 = some ⟨oc9, od9, .func (PySem.W.fnOf "_law_bent" "_law_bent" (defArgs st__law_bent) (defBody st__law_bent) (defScope st__law_bent) .none kV9 dc9 pm9 an9 cd9 ct9), sl9⟩)
    (c9 : PySem.W.codeIn K cd9 "_law_bent" = true)
    (k9 : PySem.W.keepIn K (.ref f9) = true)
    (a10 : PySem.W.nsIn K mainGlobals "is_integer" = some (some (.ref f10)))
    (l10 : K.lookup f10 = some ⟨oc10, od10, .func (PySem.W.fnOf "is_integer" "is_integer" (defArgs st_is_integer) (defBody st_is_integer) (defScope st_is_integer) .none kV10 dc10 pm10 an10 cd10 ct10), sl10⟩)
    (c10 : PySem.W.codeIn K cd10 "is_integer" = true)
    (k10 : PySem.W.keepIn K (.ref f10) = true)
    (a11 : PySem.W.nsIn K mainGlobals "judge_rounds" = some (some (.ref f11)))
    (l11 : K.lookup f11 = some ⟨oc11, od11, .func (PySem.W.fnOf "judge_rounds" "judge_rounds" (defArgs st_judge_rounds) (defBody st_judge_rounds) (defScope st_judge_rounds) .none kV11 dc11 pm11 an11 cd11 ct11), sl11⟩)
    (c11 : PySem.W.codeIn K cd11 "judge_rounds" = true)
    (k11 : PySem.W.keepIn K (.ref f11) = true)
    (a12 : PySem.W.nsIn K mainGlobals "_law_is_int" = some (some (.ref f12)))
    (l12 : K.lookup f12 = some ⟨oc12, od12, .func (PySem.W.fnOf "_law_is_int" "_law_is_int" (defArgs st__law_is_int) (defBody st__law_is_int) (defScope st__law_is_int) .none kV12 dc12 pm12 an12 cd12 ct12), sl12⟩)
    (c12 : PySem.W.codeIn K cd12 "_law_is_int" = true)
    (k12 : PySem.W.keepIn K (.ref f12) = true)
    (a13 : PySem.W.nsIn K mainGlobals "_law_fault" = some (some (.ref f13)))
    (l13 : K.lookup f13 = some ⟨oc13, od13, .func (PySem.W.fnOf "_law_fault" "_law_fault" (defArgs st__law_fault) (defBody st__law_fault) (defScope st__law_fault) .none kV13 dc13 pm13 an13 cd13 ct13), sl13⟩)
    (c13 : PySem.W.codeIn K cd13 "_law_fault" = true)
    (k13 : PySem.W.keepIn K (.ref f13) = true)
    (a14 : PySem.W.nsIn K mainGlobals "law" = some (some (.ref f14)))
    (l14 : K.lookup f14 = some ⟨oc14, od14, .func (PySem.W.fnOf "law" "law" (defArgs st_law) (defBody st_law) (defScope st_law) .none kV14 dc14 pm14 an14 cd14 ct14), sl14⟩)
    (c14 : PySem.W.codeIn K cd14 "law" = true)
    (k14 : PySem.W.keepIn K (.ref f14) = true)
    (z_len : PySem.W.nsIn K mainGlobals "len" = some none)
    (z_range : PySem.W.nsIn K mainGlobals "range" = some none)
    (z_list : PySem.W.nsIn K mainGlobals "list" = some none)
    (z_tuple : PySem.W.nsIn K mainGlobals "tuple" = some none)
    (z_isinstance : PySem.W.nsIn K mainGlobals "isinstance" = some none)
    (z_int : PySem.W.nsIn K mainGlobals "int" = some none)
    (z_bool : PySem.W.nsIn K mainGlobals "bool" = some none)
    (z_all : PySem.W.nsIn K mainGlobals "all" = some none)
    (z_repr : PySem.W.nsIn K mainGlobals "repr" = some none)
    (z_abs : PySem.W.nsIn K mainGlobals "abs" = some none)
    : ∃ fd : FuncData, (∀ (s : Shared) (v : Value), BindsTo s fd ⟨[v], []⟩ [("script", v)]) ∧ ∀ base : Heap, K.In base → base.Ns mainGlobals mg → (∃ o, base.get? sysModules = some o) → FnG P w K mg base 12 fa fd ["script"] (spLaw K) := by
  have e := hfa.symm.trans (PySem.W.mg_of X G a14)
  cases e
  have T : Mg mg := ⟨PySem.W.mg_none_of X G z_len, PySem.W.mg_none_of X G z_range, PySem.W.mg_none_of X G z_list, PySem.W.mg_none_of X G z_tuple, PySem.W.mg_none_of X G z_isinstance, PySem.W.mg_none_of X G z_int, PySem.W.mg_none_of X G z_bool, PySem.W.mg_none_of X G z_all, PySem.W.mg_none_of X G z_repr⟩
  have d0 : Def K mg "_law_open_cells" sOpen ["script"] := def_mk X G a0 l0 c0 k0 fun _ _ _ _ _ _ us hl => match us, hl with | [_], _ => rfl
  have d1 : Def K mg "_law_pick" sPick ["source", "most"] := def_mk X G a1 l1 c1 k1 fun _ _ _ _ _ _ us hl => match us, hl with | [_, _], _ => rfl
  have d2 : Def K mg "_law_mixed" st__law_mixed ["source", "things"] := def_mk X G a2 l2 c2 k2 fun _ _ _ _ _ _ us hl => match us, hl with | [_, _], _ => rfl
  have d3 : Def K mg "_law_shuffle" st__law_shuffle ["source", "n"] := def_mk X G a3 l3 c3 k3 fun _ _ _ _ _ _ us hl => match us, hl with | [_, _], _ => rfl
  have d4 : Def K mg "_law_rounds" st__law_rounds ["shuffle"] := def_mk X G a4 l4 c4 k4 fun _ _ _ _ _ _ us hl => match us, hl with | [_], _ => rfl
  have d5 : Def K mg "_law_of" st__law_of ["source", "some"] := def_mk X G a5 l5 c5 k5 fun _ _ _ _ _ _ us hl => match us, hl with | [_, _], _ => rfl
  have d6 : Def K mg "_law_deep" st__law_deep ["source", "odd"] := def_mk X G a6 l6 c6 k6 fun _ _ _ _ _ _ us hl => match us, hl with | [_, _], _ => rfl
  have d7 : Def K mg "round_from" st_round_from ["shuffle", "thing"] := def_mk X G a7 l7 c7 k7 fun _ _ _ _ _ _ us hl => match us, hl with | [_, _], _ => rfl
  have d8 : Def K mg "rounds_of" st_rounds_of ["shuffle"] := def_mk X G a8 l8 c8 k8 fun _ _ _ _ _ _ us hl => match us, hl with | [_], _ => rfl
  have d9 : Def K mg "_law_bent" st__law_bent ["source", "value", "odd"] := def_mk X G a9 l9 c9 k9 fun _ _ _ _ _ _ us hl => match us, hl with | [_, _, _], _ => rfl
  have d10 : Def K mg "is_integer" st_is_integer ["value"] := def_mk X G a10 l10 c10 k10 fun _ _ _ _ _ _ us hl => match us, hl with | [_], _ => rfl
  have d11 : Def K mg "judge_rounds" st_judge_rounds ["shuffle", "value"] := def_mk X G a11 l11 c11 k11 fun _ _ _ _ _ _ us hl => match us, hl with | [_, _], _ => rfl
  have d12 : Def K mg "_law_is_int" st__law_is_int ["value"] := def_mk X G a12 l12 c12 k12 fun _ _ _ _ _ _ us hl => match us, hl with | [_], _ => rfl
  have d13 : Def K mg "_law_fault" st__law_fault ["due", "value"] := def_mk X G a13 l13 c13 k13 fun _ _ _ _ _ _ us hl => match us, hl with | [_, _], _ => rfl
  have FL := fun_mk (st := st_law) l14 c14 k14
  refine ⟨PySem.W.fnOf "law" "law" (defArgs st_law) (defBody st_law) (defScope st_law) .none kV14 dc14 pm14 an14 cd14 ct14, fun s v => .of_eq rfl, fun base _ _ sys => ?_⟩
  have c__law_open_cells : Cal P w K mg base 1 "_law_open_cells" ["script"] (spOpen K) := cal_of d0 fun F => ok_open F (PySem.W.mg_none_of X G z_int) (PySem.W.mg_none_of X G z_abs)
  have c__law_pick : Cal P w K mg base 1 "_law_pick" ["source", "most"] (spS K gPick) := cal_of d1 fun F => ok_pick F (PySem.W.mg_none_of X G z_int) (PySem.W.mg_none_of X G z_len)
  have c__law_mixed := ok__law_mixed (P := P) (w := w) d2 T sys c__law_pick
  have c__law_shuffle := ok__law_shuffle (P := P) (w := w) d3 T sys c__law_mixed
  have c__law_rounds := ok__law_rounds (P := P) (w := w) d4 T sys 
  have c__law_of := ok__law_of (P := P) (w := w) d5 T sys c__law_pick
  have c__law_deep := ok__law_deep (P := P) (w := w) d6 T sys c__law_of c__law_pick
  have c_round_from := ok_round_from (P := P) (w := w) d7 T sys 
  have c_rounds_of := ok_rounds_of (P := P) (w := w) d8 T sys c_round_from
  have c__law_bent : Cal P w K mg base 11 "_law_bent" ["source", "value", "odd"] (spS K (p__law_bent rec__law_bent)) := ok__law_bent d9 T sys c__law_of c__law_pick rec__law_bent
  have c_is_integer := ok_is_integer (P := P) (w := w) d10 T sys 
  have c_judge_rounds := ok_judge_rounds (P := P) (w := w) d11 T sys c_is_integer c_rounds_of
  have c__law_is_int := ok__law_is_int (P := P) (w := w) d12 T sys 
  have c__law_fault := ok__law_fault (P := P) (w := w) d13 T sys c__law_is_int
  exact ok_law FL T sys c__law_bent c__law_deep c__law_fault c__law_pick c__law_rounds c__law_shuffle c_judge_rounds c_rounds_of c__law_open_cells law_true
end
end Law
end EL
open PySem PySem.W PyProof.Rows
set_option maxRecDepth 100000 in
set_option maxHeartbeats 0 in
theorem PySem.Challenge.cw_roundvalues_k12_rounds_judged_holds : PySem.Challenge.rw_roundvalues_k12_rounds_judged.Holds := by
  w_on; o_law; k_head; (case hw => w_witness2)
  k_fill
  refine EL.walkG (l := PySem.Challenge.rw_roundvalues_k12_rounds_judged) (k := 12) rfl rfl ⟨rfl, by decide, by decide⟩ (by decide +kernel) (fun w h Y => PySem.W.kIn_of Y) ?F
  case F =>
    intro w mg fa h KX G hmg
    refine' EL.Law.all_mk KX G hmg ?a0 ?l0 ?c0 ?k0 ?a1 ?l1 ?c1 ?k1 ?a2 ?l2 ?c2 ?k2 ?a3 ?l3 ?c3 ?k3 ?a4 ?l4 ?c4 ?k4 ?a5 ?l5 ?c5 ?k5 ?a6 ?l6 ?c6 ?k6 ?a7 ?l7 ?c7 ?k7 ?a8 ?l8 ?c8 ?k8 ?a9 ?l9 ?c9 ?k9 ?a10 ?l10 ?c10 ?k10 ?a11 ?l11 ?c11 ?k11 ?a12 ?l12 ?c12 ?k12 ?a13 ?l13 ?c13 ?k13 ?a14 ?l14 ?c14 ?k14 ?z_len ?z_range ?z_list ?z_tuple ?z_isinstance ?z_int ?z_bool ?z_all ?z_repr ?z_abs
    (case a0 => k_is); (case l0 => k_is); (case c0 => k_is); (case k0 => k_is)
    (case a1 => k_is); (case l1 => k_is); (case c1 => k_is); (case k1 => k_is)
    (case a2 => k_is); (case l2 => k_is); (case c2 => k_is); (case k2 => k_is)
    (case a3 => k_is); (case l3 => k_is); (case c3 => k_is); (case k3 => k_is)
    (case a4 => k_is); (case l4 => k_is); (case c4 => k_is); (case k4 => k_is)
    (case a5 => k_is); (case l5 => k_is); (case c5 => k_is); (case k5 => k_is)
    (case a6 => k_is); (case l6 => k_is); (case c6 => k_is); (case k6 => k_is)
    (case a7 => k_is); (case l7 => k_is); (case c7 => k_is); (case k7 => k_is)
    (case a8 => k_is); (case l8 => k_is); (case c8 => k_is); (case k8 => k_is)
    (case a9 => k_is); (case l9 => k_is); (case c9 => k_is); (case k9 => k_is)
    (case a10 => k_is); (case l10 => k_is); (case c10 => k_is); (case k10 => k_is)
    (case a11 => k_is); (case l11 => k_is); (case c11 => k_is); (case k11 => k_is)
    (case a12 => k_is); (case l12 => k_is); (case c12 => k_is); (case k12 => k_is)
    (case a13 => k_is); (case l13 => k_is); (case c13 => k_is); (case k13 => k_is)
    (case a14 => k_is); (case l14 => k_is); (case c14 => k_is); (case k14 => k_is)
    (case z_len => k_is); (case z_range => k_is); (case z_list => k_is); (case z_tuple => k_is)
    (case z_isinstance => k_is); (case z_int => k_is); (case z_bool => k_is); (case z_all => k_is)
    (case z_repr => k_is); (case z_abs => k_is)
#print axioms PySem.Challenge.cw_roundvalues_k12_rounds_judged_holds
